/- The entries behind a row and their amounts: both sides come to the same. -/
import Derived.Test.YtcmaifjmnpfmbaaRCheck
import Derived.Test.YtcmaifjmnpfmbaaRSum
import Derived.Test.YtcmaifjmnpfmbaaRGreat
import Derived.Test.YtcmaifjmnpfmbaaRE19
import Derived.Test.YtcmaifjmnpfmbaaRE20
import Derived.Test.YtcmaifjmnpfmbaaRE24
import Derived.Test.YtcmaifjmnpfmbaaRE25
namespace Go.Proofs.Ytcmaifjmnpfmbaa.R.Proof
open Go.RowKit Go.Proofs.Ytcmaifjmnpfmbaa.R Go.Proofs.YtcmaifjmnpfmbaaW.PrintWords Go.Proofs.YtcmaifjmnpfmbaaW.PrintLast
/-- There is a currency of this name. -/
def curG (l:List S97) (x:ByteArray):Bool:=l.any fun c=>decide (c.f0=x)
theorem rd97_at {l:List S97} {i:Nat} (h:i < l.length):rd_T97 l (i:Int)=l[i]:=by
  show l.getD _ z97=_
  rw [List.getD_eq_getElem?_getD]
  simp [List.getElem?_eq_getElem h]
theorem rd84_at {l:List S84} {i:Nat} (h:i < l.length):rd_T84 l (i:Int)=l[i]:=by
  show l.getD _ z84=_
  rw [List.getD_eq_getElem?_getD]
  simp [List.getElem?_eq_getElem h]
theorem curG_cons (c:S97) (l:List S97) (x:ByteArray):curG (c :: l) x=(decide (c.f0=x) || curG l x):=rfl
theorem money_ev (l:List S97) (x:ByteArray) (hn:l.length≤9223372036854775807):∃ r,Ev (fun k=>money_Find.f k l x) r∧r.2.2=curG l x:=by
  have h:∀ d i:Nat,l.length - i=d→i≤l.length→∃ r,Ev (fun k=>money_Find.l0 k x l (l.length:Int) (i:Int)) r∧r.2.2=curG (l.drop i) x:=by
    intro d
    induction d with
    | zero=>
      intro i hd hi
      refine ⟨_,Ev.step (fun k=>by simp only [money_Find.l0];rw [if_neg (by omega)]) (Ev.now _),?_⟩
      rw [List.drop_of_length_le (by omega)];rfl
    | succ d ih=>
      intro i hd hi
      have hlt:i < l.length:=by omega
      rw [drop_at hlt,curG_cons]
      by_cases c:l[i].f0=x
      · refine ⟨_,Ev.step (fun k=>by simp only [money_Find.l0];rw [if_pos (by omega),if_pos (by omega),if_pos (by omega),rd97_at hlt,if_pos (tl_inj.mpr c)]) (Ev.now _),?_⟩
        rw [decide_eq_true c];rfl
      · obtain ⟨r,hr,he⟩:=ih (i + 1) (by omega) (by omega)
        refine ⟨r,Ev.step (fun k=>by simp only [money_Find.l0];rw [if_pos (by omega),if_pos (by omega),if_pos (by omega),rd97_at hlt,if_neg (fun h=>c (tl_inj.mp h)),wrap_inc hlt hn]) hr,?_⟩
        rw [decide_eq_false c,Bool.false_or,he]
  obtain ⟨r,hr,he⟩:=h l.length 0 (by omega) (Nat.zero_le _)
  exact ⟨r,Ev.congr (fun k=>by unfold money_Find.f;rfl) hr,by rw [he,List.drop_zero]⟩
theorem rmoney_ev (l:List S97) (x:ByteArray) (hn:l.length≤9223372036854775807):∃ r,Ev (fun k=>corebankref03_Find.f k l x) r∧r.2.2=curG l x:=by
  have h:∀ d i:Nat,l.length - i=d→i≤l.length→∃ r,Ev (fun k=>corebankref03_Find.l0 k l x (i:Int)) r∧r.2.2=curG (l.drop i) x:=by
    intro d
    induction d with
    | zero=>
      intro i hd hi
      refine ⟨_,Ev.step (fun k=>by simp only [corebankref03_Find.l0];rw [if_neg (by omega)]) (Ev.now _),?_⟩
      rw [List.drop_of_length_le (by omega)];rfl
    | succ d ih=>
      intro i hd hi
      have hlt:i < l.length:=by omega
      rw [drop_at hlt,curG_cons]
      by_cases c:l[i].f0=x
      · refine ⟨_,Ev.step (fun k=>by simp only [corebankref03_Find.l0];rw [if_pos (by omega),if_pos (by omega),rd97_at hlt,if_pos (tl_inj.mpr c)]) (Ev.now _),?_⟩
        rw [decide_eq_true c];rfl
      · obtain ⟨r,hr,he⟩:=ih (i + 1) (by omega) (by omega)
        refine ⟨r,Ev.step (fun k=>by simp only [corebankref03_Find.l0];rw [if_pos (by omega),if_pos (by omega),rd97_at hlt,if_neg (fun h=>c (tl_inj.mp h)),wrap_inc hlt hn]) hr,?_⟩
        rw [decide_eq_false c,Bool.false_or,he]
  obtain ⟨r,hr,he⟩:=h l.length 0 (by omega) (Nat.zero_le _)
  exact ⟨r,Ev.congr (fun k=>by unfold corebankref03_Find.f;rfl) hr,by rw [he,List.drop_zero]⟩
/-! ### the entries behind a row -/
/-- The entries up to a day that have an amount. -/
def behindG (am:List S129→Int) (bk:Int) (l:List S84):List S84:=l.filter fun e=>decide (e.f1≤bk) && decide (am e.f8 ≠ 0)
theorem drill_l {f:Nat→List S129→Option (List (ByteArray × Int))} {G:List S129→List (ByteArray × Int)} (x:ByteArray) (bk:Int):∀ (l:List S84) (acc:List Int),(∀ e ∈ l,Ev (fun k=>f k e.f8) (G e.f8))→acc.length + l.length < 17592186044416 →
    Ev (fun k=>report_Drill.l (f k) x bk l acc) (acc ++ (behindG (fun z=>sumOf (G z) x) bk l).map (·.f0))
  | [],acc,_,_=>Ev.congr (fun k=>by unfold report_Drill.l;rfl) (Ev.some_ (by simp [behindG]))
  | e :: l,acc,h,hn=>by
    have hr:=fun z hz=>h z (List.mem_cons_of_mem _ hz)
    rw [List.length_cons] at hn
    refine Ev.congr (fun k=>by rw [report_Drill.l]) ?_
    by_cases c:e.f1≤bk
    · refine Ev.congr (fun k=>if_pos c) (Ev.bind (h e (List.mem_cons_self ..)) ?_)
      by_cases z:sumOf (G e.f8) x=0
      · have e2:behindG (fun z=>sumOf (G z) x) bk (e :: l)=behindG (fun z=>sumOf (G z) x) bk l:=by simp [behindG,z]
        rw [e2]
        exact Ev.congr (fun k=>if_pos z) (drill_l x bk l acc hr (by omega))
      · have e2:behindG (fun z=>sumOf (G z) x) bk (e :: l)=e :: behindG (fun z=>sumOf (G z) x) bk l:=by simp [behindG,z,c]
        rw [e2]
        refine Ev.congr (fun k=>by rw [if_neg z,if_pos (by omega)]) ?_
        have:=drill_l x bk l (acc ++ [e.f0]) hr (by rw [List.length_append,List.length_singleton];omega)
        rw [List.append_assoc] at this
        exact this
    · have e2:behindG (fun z=>sumOf (G z) x) bk (e :: l)=behindG (fun z=>sumOf (G z) x) bk l:=by simp [behindG,c]
      rw [e2]
      exact Ev.congr (fun k=>if_neg c) (drill_l x bk l acc hr (by omega))
theorem amount_l {f:Nat→List S129→Option (List (ByteArray × Int))} {G:List S129→List (ByteArray × Int)} (x:ByteArray) (id:Int):∀ (l:List S84),(∀ e ∈ l,Ev (fun k=>f k e.f8) (G e.f8)) →
    Ev (fun k=>report_Amount.l (f k) x id l) (match l.find? (fun e=>e.f0 == id) with | some e=>sumOf (G e.f8) x | none=>0)
  | [],_=>Ev.congr (fun k=>by unfold report_Amount.l;rfl) (Ev.now _)
  | e :: l,h=>by
    refine Ev.congr (fun k=>by rw [report_Amount.l]) ?_
    rw [List.find?_cons]
    by_cases c:e.f0=id
    · rw [beq_iff_eq.mpr c]
      exact Ev.congr (fun k=>if_pos c) (Ev.bind (h e (List.mem_cons_self ..)) (Ev.now _))
    · rw [beq_eq_false_iff_ne.mpr c]
      exact Ev.congr (fun k=>if_neg c) (amount_l x id l (fun z hz=>h z (List.mem_cons_of_mem _ hz)))
section
variable (l0:List S97) (l1:List S86) (l2:List S62) (a3:Int) (a4:Int) (a5:Int) (a6:Int) (a7:Int) (a8:Int) (a9:Int) (a10:Int) (a11:Int) (a12:Int) (a13:Int) (a14:Int) (a15:Int) (a16:Int) (l17:List S79) (l18:List S90) (l19:List S84) (l20:List S119) (l21:List S180)
def okJ (l:List S84):Prop:=l.length < 17592186044416∧∀ e ∈ l,e.f8.length≤9223372036854775807∧∀ g ∈ e.f8,g.f2.size≤140737488351232
theorem okJ_of {l:List S84} (h:okSl 112 ok84 l):okJ l:=by
  refine ⟨?_,fun e he=>?_⟩
  · have:=h.1;omega
  · obtain ⟨_,_,_,_,_,_,_,_,h8,_⟩:=h.2.2 e he
    exact ⟨h8.2.1,fun g hg=>(h8.2.2 g hg).2.2⟩
/-- The amount of an entry's legs in a row, of these books. -/
def amB (ch:List S62) (dep:Int) (acc:List S90) (s:Int) (roots:List Int) (x:ByteArray) (l:List S129):Int:=amtG (belG ch dep acc roots) s l x
def drillG (n:ByteArray) (s:Int) (roots:List Int) (x:ByteArray) (bk:Int):List Int × Int:=
  if checkG l2 [⟨n,s,roots⟩]=0 then (if curG l0 x=true then ((behindG (amB l2 a4 l18 s roots x) bk l19).map (·.f0),0) else ([],14)) else ([],checkG l2 [⟨n,s,roots⟩])
def amountG (n:ByteArray) (s:Int) (roots:List Int) (x:ByteArray) (id:Int):Int:=
  if checkG l2 [⟨n,s,roots⟩]=0 then (match l19.find? (fun e=>e.f0 == id) with | some e=>amB l2 a4 l18 s roots x e.f8 | none=>0) else 0
theorem okRow1 {n:ByteArray} {s:Int} {roots:List Int} (hnm:n.size≤9223372036854775807) (hr:roots.length≤9223372036854775807):∀ r ∈ [(⟨n,s,roots⟩:S48)],okRow r:=fun r h=>by
  rw [List.mem_singleton.mp h];exact ⟨hnm,hr⟩
theorem drill_ev (n:ByteArray) (s:Int) (roots:List Int) (x:ByteArray) (bk:Int) (h0:l0.length≤9223372036854775807) (hc:l2.length≤9223372036854775807) (hj:okJ l19) (hnm:n.size≤9223372036854775807) (hr:roots.length≤9223372036854775807) (hx:x.size≤140737488351232) :
    Ev (fun k=>report_Drill.f k l0 l1 l2 a3 a4 a5 a6 a7 a8 a9 a10 a11 a12 a13 a14 a15 a16 l17 l18 l19 l20 l21 n s roots x bk) (drillG l0 l2 a4 l18 l19 n s roots x bk):=by
  obtain ⟨m,hm,he⟩:=money_ev l0 x h0
  unfold drillG
  refine Ev.congr (fun k=>by unfold report_Drill.f;rw [if_pos hx]) (Ev.bind (check_ev l0 l1 l2 a3 a4 a5 a6 a7 a8 a9 a10 a11 a12 a13 a14 a15 a16 l17 l18 l19 l20 l21 _ hc (by simp) (okRow1 hnm hr)) ?_)
  by_cases c:checkG l2 [⟨n,s,roots⟩]=0
  · rw [if_pos c]
    refine Ev.congr (fun k=>if_pos c) (Ev.bind hm ?_)
    rw [he]
    by_cases d:curG l0 x=true
    · rw [if_pos d]
      have hl:=drill_l (f:=fun k l=>report_amounts.f k l0 l1 l2 a3 a4 a5 a6 a7 a8 a9 a10 a11 a12 a13 a14 a15 a16 l17 l18 l19 l20 l21 n s roots l) (G:=contrG (belG l2 a4 l18 roots) s) x bk l19 [] (fun e h=>am_ev l0 l1 l2 a3 a4 a5 a6 a7 a8 a9 a10 a11 a12 a13 a14 a15 a16 l17 l18 l19 l20 l21 n s roots e.f8 hc hr (hj.2 e h).2) (by simpa using hj.1)
      refine Ev.congr (fun k=>if_pos d) (Ev.bind hl (Ev.some_ ?_))
      simp only [sumOf_contr,List.nil_append]
      rfl
    · rw [if_neg d];exact Ev.congr (fun k=>if_neg d) (Ev.now _)
  · rw [if_neg c];exact Ev.congr (fun k=>if_neg c) (Ev.now _)
theorem amount_ev (n:ByteArray) (s:Int) (roots:List Int) (x:ByteArray) (id:Int) (hc:l2.length≤9223372036854775807) (hj:okJ l19) (hnm:n.size≤9223372036854775807) (hr:roots.length≤9223372036854775807) (hx:x.size≤140737488351232) :
    Ev (fun k=>report_Amount.f k l0 l1 l2 a3 a4 a5 a6 a7 a8 a9 a10 a11 a12 a13 a14 a15 a16 l17 l18 l19 l20 l21 n s roots x id) (amountG l2 a4 l18 l19 n s roots x id):=by
  unfold amountG
  refine Ev.congr (fun k=>by unfold report_Amount.f;rw [if_pos hx]) (Ev.bind (check_ev l0 l1 l2 a3 a4 a5 a6 a7 a8 a9 a10 a11 a12 a13 a14 a15 a16 l17 l18 l19 l20 l21 _ hc (by simp) (okRow1 hnm hr)) ?_)
  by_cases c:checkG l2 [⟨n,s,roots⟩]=0
  · rw [if_pos c]
    have hl:=amount_l (f:=fun k l=>report_amounts.f k l0 l1 l2 a3 a4 a5 a6 a7 a8 a9 a10 a11 a12 a13 a14 a15 a16 l17 l18 l19 l20 l21 n s roots l) (G:=contrG (belG l2 a4 l18 roots) s) x id l19 (fun e h=>am_ev l0 l1 l2 a3 a4 a5 a6 a7 a8 a9 a10 a11 a12 a13 a14 a15 a16 l17 l18 l19 l20 l21 n s roots e.f8 hc hr (hj.2 e h).2)
    simp only [sumOf_contr] at hl
    exact Ev.congr (fun k=>if_pos c) hl
  · rw [if_neg c];exact Ev.congr (fun k=>if_neg c) (Ev.now _)
/-! ### the reference -/
theorem rdrill_l0 (n:ByteArray) (s:Int) (roots:List Int) (x:ByteArray) (bk:Int) (hc:l2.length≤9223372036854775807) (h18:l18.length≤9223372036854775807) (hj:okJ l19) (hr:roots.length≤9223372036854775807) :
    ∀ d i:Nat,l19.length - i=d→i≤l19.length→∀ acc:List Int,acc.length≤i→Ev (fun k=>corebankref49_Drill.l0 k x bk acc (i:Int) l0 l1 l2 a3 a4 a5 a6 a7 a8 a9 a10 a11 a12 a13 a14 a15 a16 l17 l18 l19 l20 l21 n s roots) (acc ++ (behindG (amB l2 a4 l18 s roots x) bk (l19.drop i)).map (·.f0),0):=by
  have hn:=hj.1
  intro d
  induction d with
  | zero=>
    intro i hd hi acc ha
    refine Ev.step (f:=fun _=>some (acc,0)) (fun k=>by simp only [corebankref49_Drill.l0];rw [if_neg (by omega)]) (Ev.some_ ?_)
    rw [List.drop_of_length_le (by omega)];simp [behindG]
  | succ d ih=>
    intro i hd hi acc ha
    have hlt:i < l19.length:=by omega
    rw [drop_at hlt]
    by_cases c:l19[i].f1≤bk
    · refine Ev.step (f:=fun k=>(corebankref49_amount.f k l0 l1 l2 a3 a4 a5 a6 a7 a8 a9 a10 a11 a12 a13 a14 a15 a16 l17 l18 l19 l20 l21 n s roots x l19[i].f0 l19[i].f1 l19[i].f2 l19[i].f3 l19[i].f4 l19[i].f5 l19[i].f6 l19[i].f7 l19[i].f8 l19[i].f9).bind fun t=>if t=0 then corebankref49_Drill.l0 k x bk acc ((i + 1:Nat):Int) l0 l1 l2 a3 a4 a5 a6 a7 a8 a9 a10 a11 a12 a13 a14 a15 a16 l17 l18 l19 l20 l21 n s roots else (if acc.length < 17592186044416 then corebankref49_Drill.l0 k x bk (acc ++ [l19[i].f0]) ((i + 1:Nat):Int) l0 l1 l2 a3 a4 a5 a6 a7 a8 a9 a10 a11 a12 a13 a14 a15 a16 l17 l18 l19 l20 l21 n s roots else none)) (fun k=>by simp only [corebankref49_Drill.l0];rw [if_pos (by omega),if_pos (by omega),rd84_at hlt,if_pos c,wrap_inc hlt (by omega)]) ?_
      refine Ev.bind (ram_ev l0 l1 l2 a3 a4 a5 a6 a7 a8 a9 a10 a11 a12 a13 a14 a15 a16 l17 l18 l19 l20 l21 n s roots x _ _ _ _ _ _ _ _ _ _ hc h18 hr (hj.2 _ (List.getElem_mem hlt)).1) ?_
      by_cases z:amtG (belG l2 a4 l18 roots) s l19[i].f8 x=0
      · have e2:behindG (amB l2 a4 l18 s roots x) bk (l19[i] :: l19.drop (i + 1))=behindG (amB l2 a4 l18 s roots x) bk (l19.drop (i + 1)):=by simp only [behindG];rw [List.filter_cons,if_neg (by simp [amB,z])]
        rw [e2]
        exact Ev.congr (fun k=>if_pos z) (ih (i + 1) (by omega) (by omega) acc (by omega))
      · have e2:behindG (amB l2 a4 l18 s roots x) bk (l19[i] :: l19.drop (i + 1))=l19[i] :: behindG (amB l2 a4 l18 s roots x) bk (l19.drop (i + 1)):=by simp only [behindG];rw [List.filter_cons,if_pos (by simp [amB,z,c])]
        rw [e2]
        refine Ev.congr (fun k=>by rw [if_neg z,if_pos (by omega)]) ?_
        have:=ih (i + 1) (by omega) (by omega) (acc ++ [l19[i].f0]) (by rw [List.length_append,List.length_singleton];omega)
        rw [List.append_assoc] at this
        exact this
    · have e2:behindG (amB l2 a4 l18 s roots x) bk (l19[i] :: l19.drop (i + 1))=behindG (amB l2 a4 l18 s roots x) bk (l19.drop (i + 1)):=by simp only [behindG];rw [List.filter_cons,if_neg (by simp [c])]
      rw [e2]
      exact Ev.step (fun k=>by simp only [corebankref49_Drill.l0];rw [if_pos (by omega),if_pos (by omega),rd84_at hlt,if_neg c,wrap_inc hlt (by omega)]) (ih (i + 1) (by omega) (by omega) acc (by omega))
theorem rdrill_ev (n:ByteArray) (s:Int) (roots:List Int) (x:ByteArray) (bk:Int) (h0:l0.length≤9223372036854775807) (hc:l2.length≤9223372036854775807) (h18:l18.length≤9223372036854775807) (hj:okJ l19) (hnm:n.size≤9223372036854775807) (hr:roots.length≤9223372036854775807) :
    Ev (fun k=>corebankref49_Drill.f k l0 l1 l2 a3 a4 a5 a6 a7 a8 a9 a10 a11 a12 a13 a14 a15 a16 l17 l18 l19 l20 l21 n s roots x bk) (drillG l0 l2 a4 l18 l19 n s roots x bk):=by
  obtain ⟨m,hm,he⟩:=rmoney_ev l0 x h0
  unfold drillG
  refine Ev.congr (fun k=>by unfold corebankref49_Drill.f;rfl) (Ev.bind (rcheck_ev l0 l1 l2 a3 a4 a5 a6 a7 a8 a9 a10 a11 a12 a13 a14 a15 a16 l17 l18 l19 l20 l21 _ hc (by simp) (okRow1 hnm hr)) ?_)
  by_cases c:checkG l2 [⟨n,s,roots⟩]=0
  · rw [if_pos c]
    refine Ev.congr (fun k=>if_pos c) (Ev.bind hm ?_)
    rw [he]
    by_cases d:curG l0 x=true
    · rw [if_pos d]
      have hl:=rdrill_l0 l0 l1 l2 a3 a4 a5 a6 a7 a8 a9 a10 a11 a12 a13 a14 a15 a16 l17 l18 l19 l20 l21 n s roots x bk hc h18 hj hr l19.length 0 (by omega) (Nat.zero_le _) [] (Nat.le_refl _)
      rw [List.drop_zero,List.nil_append] at hl
      exact Ev.congr (fun k=>if_pos d) hl
    · rw [if_neg d];exact Ev.congr (fun k=>if_neg d) (Ev.now _)
  · rw [if_neg c];exact Ev.congr (fun k=>if_neg c) (Ev.now _)
theorem ramount_ev (n:ByteArray) (s:Int) (roots:List Int) (x:ByteArray) (id:Int) (hc:l2.length≤9223372036854775807) (h18:l18.length≤9223372036854775807) (hj:okJ l19) (hnm:n.size≤9223372036854775807) (hr:roots.length≤9223372036854775807) :
    Ev (fun k=>corebankref49_Amount.f k l0 l1 l2 a3 a4 a5 a6 a7 a8 a9 a10 a11 a12 a13 a14 a15 a16 l17 l18 l19 l20 l21 n s roots x id) (amountG l2 a4 l18 l19 n s roots x id):=by
  have hn:=hj.1
  have h:∀ d i:Nat,l19.length - i=d→i≤l19.length→Ev (fun k=>corebankref49_Amount.l0 k x id (i:Int) l0 l1 l2 a3 a4 a5 a6 a7 a8 a9 a10 a11 a12 a13 a14 a15 a16 l17 l18 l19 l20 l21 n s roots) (match (l19.drop i).find? (fun e=>e.f0 == id) with | some e=>amB l2 a4 l18 s roots x e.f8 | none=>0):=by
    intro d
    induction d with
    | zero=>
      intro i hd hi
      refine Ev.step (f:=fun _=>some 0) (fun k=>by simp only [corebankref49_Amount.l0];rw [if_neg (by omega)]) (Ev.some_ ?_)
      rw [List.drop_of_length_le (by omega)];rfl
    | succ d ih=>
      intro i hd hi
      have hlt:i < l19.length:=by omega
      rw [drop_at hlt,List.find?_cons]
      by_cases c:l19[i].f0=id
      · rw [beq_iff_eq.mpr c]
        refine Ev.step (f:=fun k=>(corebankref49_amount.f k l0 l1 l2 a3 a4 a5 a6 a7 a8 a9 a10 a11 a12 a13 a14 a15 a16 l17 l18 l19 l20 l21 n s roots x l19[i].f0 l19[i].f1 l19[i].f2 l19[i].f3 l19[i].f4 l19[i].f5 l19[i].f6 l19[i].f7 l19[i].f8 l19[i].f9).bind fun t=>some t) (fun k=>by simp only [corebankref49_Amount.l0];rw [if_pos (by omega),if_pos (by omega),rd84_at hlt,if_pos c]) ?_
        exact Ev.bind (ram_ev l0 l1 l2 a3 a4 a5 a6 a7 a8 a9 a10 a11 a12 a13 a14 a15 a16 l17 l18 l19 l20 l21 n s roots x _ _ _ _ _ _ _ _ _ _ hc h18 hr (hj.2 _ (List.getElem_mem hlt)).1) (Ev.now _)
      · rw [beq_eq_false_iff_ne.mpr c]
        exact Ev.step (fun k=>by simp only [corebankref49_Amount.l0];rw [if_pos (by omega),if_pos (by omega),rd84_at hlt,if_neg c,wrap_inc hlt (by omega)]) (ih (i + 1) (by omega) (by omega))
  have h1:=h l19.length 0 (by omega) (Nat.zero_le _)
  rw [List.drop_zero] at h1
  unfold amountG
  refine Ev.congr (fun k=>by unfold corebankref49_Amount.f;rfl) (Ev.bind (rcheck_ev l0 l1 l2 a3 a4 a5 a6 a7 a8 a9 a10 a11 a12 a13 a14 a15 a16 l17 l18 l19 l20 l21 _ hc (by simp) (okRow1 hnm hr)) ?_)
  by_cases c:checkG l2 [⟨n,s,roots⟩]=0
  · rw [if_pos c];exact Ev.congr (fun k=>if_pos c) h1
  · rw [if_neg c];exact Ev.congr (fun k=>if_neg c) (Ev.now _)
end
end Go.Proofs.Ytcmaifjmnpfmbaa.R.Proof
