/- The amounts of an entry in a row: what both sides come to, as whole numbers. -/
import Derived.Test.YtcmaifjmnpfmbaaROwner
import Derived.Test.YtcmaifjmnpfmbaaRE19
import Derived.Test.YtcmaifjmnpfmbaaRE24
namespace Go.Proofs.Ytcmaifjmnpfmbaa.R.Proof
open Go.RowKit Go.Proofs.Ytcmaifjmnpfmbaa.R Go.Proofs.YtcmaifjmnpfmbaaW.PrintWords Go.Proofs.YtcmaifjmnpfmbaaW.PrintLast
theorem wrap_is (n:Int):∃ k:Int,wrap64 n=n + k * 18446744073709551616:=⟨-((n + 9223372036854775808) / 18446744073709551616),by unfold wrap64;omega⟩
theorem wrap_of (n k:Int):wrap64 (n + k * 18446744073709551616)=wrap64 n:=by unfold wrap64;omega
theorem wrap_addl (a b:Int):wrap64 (wrap64 a + b)=wrap64 (a + b):=by unfold wrap64;omega
theorem wrap_addr (a b:Int):wrap64 (a + wrap64 b)=wrap64 (a + b):=by unfold wrap64;omega
theorem wrap_mulr (s n:Int):wrap64 (s * wrap64 n)=wrap64 (s * n):=by
  obtain ⟨k,h⟩:=wrap_is n
  rw [h,Int.mul_add,← Int.mul_assoc,wrap_of]
theorem wrap_zero:wrap64 0=0:=by unfold wrap64;omega
/-- The sum of the contributions of a text, exactly. -/
def sumX (cs:List (ByteArray × Int)) (x:ByteArray):Int:=(cs.map (fun p=>if x=p.1 then p.2 else 0)).sum
theorem sumOf_go (x:ByteArray):∀ (cs:List (ByteArray × Int)) (a:Int),cs.foldl (fun acc p=>if x=p.1 then wrap64 (acc + p.2) else acc) (wrap64 a)=wrap64 (a + sumX cs x)
  | [],a=>by simp [sumX]
  | p :: cs,a=>by
    rw [List.foldl_cons]
    by_cases c:x=p.1
    · rw [if_pos c,wrap_addl,sumOf_go x cs]
      simp [sumX,c,Int.add_assoc]
    · rw [if_neg c,sumOf_go x cs]
      simp [sumX,c]
theorem sumOf_eq (cs:List (ByteArray × Int)) (x:ByteArray):sumOf cs x=wrap64 (sumX cs x):=by
  have h:=sumOf_go x cs 0
  rw [wrap_zero,Int.zero_add] at h
  exact h
/-- The sum of the legs' amounts of a text, of the accounts that belong, exactly. -/
def legX (bel:Int→Bool) (l:List S129) (x:ByteArray):Int:=(l.map (fun g=>if g.f2=x∧bel g.f0=true then g.f1 else 0)).sum
def contrG (bel:Int→Bool) (sign:Int):List S129→List (ByteArray × Int)
  | []=>[]
  | g :: l=>if bel g.f0=true then (g.f2,wrap64 (sign * g.f1)) :: contrG bel sign l else contrG bel sign l
theorem contr_sum (bel:Int→Bool) (sign:Int) (x:ByteArray):∀ l,wrap64 (sumX (contrG bel sign l) x)=wrap64 (sign * legX bel l x)
  | []=>by simp [contrG,sumX,legX]
  | g :: l=>by
    have ih:=contr_sum bel sign x l
    have e:legX bel (g :: l) x=(if g.f2=x∧bel g.f0=true then g.f1 else 0) + legX bel l x:=by simp [legX]
    rw [e,Int.mul_add,contrG]
    by_cases c:bel g.f0=true
    · rw [if_pos c]
      have e2:sumX ((g.f2,wrap64 (sign * g.f1)) :: contrG bel sign l) x=(if x=g.f2 then wrap64 (sign * g.f1) else 0) + sumX (contrG bel sign l) x:=by simp [sumX]
      rw [e2]
      by_cases d:x=g.f2
      · rw [if_pos d,if_pos ⟨d.symm,c⟩,wrap_addl,← wrap_addr,ih,wrap_addr]
      · rw [if_neg d,if_neg (fun h=>d h.1.symm),Int.mul_zero,Int.zero_add,Int.zero_add,ih]
    · rw [if_neg c,if_neg (fun h=>c h.2),Int.mul_zero,Int.zero_add,ih]
/-- The amount of an entry's legs in a row. -/
def amtG (bel:Int→Bool) (sign:Int) (l:List S129) (x:ByteArray):Int:=wrap64 (sign * legX bel l x)
theorem sumOf_contr (bel:Int→Bool) (sign:Int) (l:List S129) (x:ByteArray):sumOf (contrG bel sign l) x=amtG bel sign l x:=by rw [sumOf_eq,contr_sum];rfl
theorem amounts_ev {f:Nat→Int→Option Bool} {bel:Int→Bool} (h:∀ x,Ev (fun k=>f k x) (bel x)) (sign:Int):∀ l:List S129,(∀ g ∈ l,g.f2.size≤140737488351232)→Ev (fun k=>report_amounts.l (f k) sign l) (contrG bel sign l)
  | [],_=>Ev.now _
  | g :: l,hs=>by
    refine Ev.congr (fun k=>by rw [report_amounts.l]) (Ev.bind (h g.f0) (Ev.bind (amounts_ev h sign l (fun a ha=>hs a (List.mem_cons_of_mem _ ha))) ?_))
    rw [contrG]
    by_cases c:bel g.f0=true
    · rw [if_pos c];exact Ev.congr (fun k=>by rw [if_pos c,if_pos (hs g (List.mem_cons_self ..))]) (Ev.now _)
    · rw [if_neg c];exact Ev.congr (fun k=>by rw [if_neg c]) (Ev.now _)
/-! ### belongs -/
def belG (ch:List S62) (dep:Int) (acc:List S90) (roots:List Int) (id:Int):Bool:=if ownerG ch dep acc id=0 then false else roots.any fun r=>underG ch (ownerG ch dep acc id) r
section
variable (l0:List S97) (l1:List S86) (l2:List S62) (a3:Int) (a4:Int) (a5:Int) (a6:Int) (a7:Int) (a8:Int) (a9:Int) (a10:Int) (a11:Int) (a12:Int) (a13:Int) (a14:Int) (a15:Int) (a16:Int) (l17:List S79) (l18:List S90) (l19:List S84) (l20:List S119) (l21:List S180)
theorem rootAt_ev (ch:List S62) (o:Int) (l:List Int) (hc:ch.length≤9223372036854775807) (hn:l.length≤9223372036854775807):∀ d i:Nat,l.length - i=d→i≤l.length →
    ∃ r:Int,Ev (fun k=>report_rootAt.l0 k ch o l (i:Int)) r∧decide (r ≥ 0)=(l.drop i).any (fun r=>underG ch o r):=by
  intro d
  induction d with
  | zero=>
    intro i hd hi
    refine ⟨-1,Ev.step (f:=fun _=>some (-1)) (fun k=>by simp only [report_rootAt.l0];rw [if_neg (by omega)]) (Ev.now _),?_⟩
    rw [List.drop_of_length_le (by omega)];rfl
  | succ d ih=>
    intro i hd hi
    have hlt:i < l.length:=by omega
    obtain ⟨r,hr,he⟩:=ih (i + 1) (by omega) (by omega)
    have st:∀ k,report_rootAt.l0 (k + 1) ch o l (i:Int)=(chart_Under.f k ch o l[i]).bind fun t=>if t=true then some (i:Int) else report_rootAt.l0 k ch o l ((i + 1:Nat):Int):=fun k=>by
      simp only [report_rootAt.l0];rw [if_pos (by omega),if_pos (by omega),rd_at hlt,wrap_inc hlt hn]
    rw [drop_at hlt,List.any_cons]
    cases c:underG ch o l[i] with
    | true=>exact ⟨(i:Int),Ev.step st (Ev.bind (under_ev ch o l[i] hc) (Ev.congr (fun k=>if_pos c) (Ev.now _))),by rw [Bool.true_or];exact decide_eq_true (by omega)⟩
    | false=>exact ⟨r,Ev.step st (Ev.bind (under_ev ch o l[i] hc) (Ev.congr (fun k=>if_neg (by rw [c];decide)) hr)),by rw [Bool.false_or];exact he⟩
theorem belongs_ev (n:ByteArray) (s:Int) (roots:List Int) (id:Int) (hc:l2.length≤9223372036854775807) (hn:roots.length≤9223372036854775807):Ev (fun k=>report_belongs.f k l0 l1 l2 a3 a4 a5 a6 a7 a8 a9 a10 a11 a12 a13 a14 a15 a16 l17 l18 l19 l20 l21 n s roots id) (belG l2 a4 l18 roots id):=by
  refine Ev.congr (fun k=>by unfold report_belongs.f;rfl) (Ev.bind (owner_ev l0 l1 l2 a3 a4 a5 a6 a7 a8 a9 a10 a11 a12 a13 a14 a15 a16 l17 l18 l19 l20 l21 id hc) ?_)
  unfold belG
  by_cases c:ownerG l2 a4 l18 id=0
  · rw [if_pos c];exact Ev.congr (fun k=>if_pos c) (Ev.now _)
  · rw [if_neg c]
    obtain ⟨r,hr,he⟩:=rootAt_ev l2 (ownerG l2 a4 l18 id) roots hc hn roots.length 0 (by omega) (Nat.zero_le _)
    rw [List.drop_zero] at he
    exact Ev.congr (fun k=>if_neg c) (Ev.bind hr (Ev.some_ he))
theorem rbelongs_l0 (o:Int) (n:ByteArray) (s:Int) (roots:List Int) (hc:l2.length≤9223372036854775807) (hn:roots.length≤9223372036854775807):∀ d i:Nat,roots.length - i=d→i≤roots.length →
    Ev (fun k=>corebankref49_belongs.l0 k o (i:Int) l0 l1 l2 a3 a4 a5 a6 a7 a8 a9 a10 a11 a12 a13 a14 a15 a16 l17 l18 l19 l20 l21 n s roots) (if o=0 then false else (roots.drop i).any fun r=>underG l2 o r):=by
  intro d
  induction d with
  | zero=>
    intro i hd hi
    refine Ev.step (f:=fun _=>some false) (fun k=>by simp only [corebankref49_belongs.l0];rw [if_neg (by omega)]) (Ev.some_ ?_)
    rw [List.drop_of_length_le (by omega)]
    split <;> rfl
  | succ d ih=>
    intro i hd hi
    have hlt:i < roots.length:=by omega
    have hnx:=ih (i + 1) (by omega) (by omega)
    by_cases c:o=0
    · rw [if_pos c] at hnx ⊢
      exact Ev.step (fun k=>by simp only [corebankref49_belongs.l0];rw [if_pos (by omega),if_pos c,wrap_inc hlt hn]) hnx
    · rw [if_neg c] at hnx ⊢
      rw [drop_at hlt,List.any_cons]
      refine Ev.step (f:=fun k=>(corebankref18_Under.f k l2 o roots[i]).bind fun t=>if t=true then some true else corebankref49_belongs.l0 k o ((i + 1:Nat):Int) l0 l1 l2 a3 a4 a5 a6 a7 a8 a9 a10 a11 a12 a13 a14 a15 a16 l17 l18 l19 l20 l21 n s roots) (fun k=>by simp only [corebankref49_belongs.l0];rw [if_pos (by omega),if_neg c,if_pos (by omega),rd_at hlt,wrap_inc hlt hn]) ?_
      refine Ev.bind (runder_ev l2 _ _ hc) ?_
      cases underG l2 o roots[i] with
      | true=>exact Ev.now _
      | false=>exact Ev.congr (fun k=>if_neg (by decide)) hnx
theorem rbelongs_ev (n:ByteArray) (s:Int) (roots:List Int) (id:Int) (hc:l2.length≤9223372036854775807) (h18:l18.length≤9223372036854775807) (hn:roots.length≤9223372036854775807):Ev (fun k=>corebankref49_belongs.f k l0 l1 l2 a3 a4 a5 a6 a7 a8 a9 a10 a11 a12 a13 a14 a15 a16 l17 l18 l19 l20 l21 n s roots id) (belG l2 a4 l18 roots id):=by
  refine Ev.congr (fun k=>by unfold corebankref49_belongs.f;rfl) (Ev.bind (rowner_ev l0 l1 l2 a3 a4 a5 a6 a7 a8 a9 a10 a11 a12 a13 a14 a15 a16 l17 l18 l19 l20 l21 id hc h18) ?_)
  have h:=rbelongs_l0 l0 l1 l2 a3 a4 a5 a6 a7 a8 a9 a10 a11 a12 a13 a14 a15 a16 l17 l18 l19 l20 l21 (ownerG l2 a4 l18 id) n s roots hc hn roots.length 0 (by omega) (Nat.zero_le _)
  rw [List.drop_zero] at h
  exact h
/-! ### the amount of an entry -/
theorem am_ev (n:ByteArray) (s:Int) (roots:List Int) (l:List S129) (hc:l2.length≤9223372036854775807) (hn:roots.length≤9223372036854775807) (hl:∀ g ∈ l,g.f2.size≤140737488351232):Ev (fun k=>report_amounts.f k l0 l1 l2 a3 a4 a5 a6 a7 a8 a9 a10 a11 a12 a13 a14 a15 a16 l17 l18 l19 l20 l21 n s roots l) (contrG (belG l2 a4 l18 roots) s l):=
  Ev.congr (fun k=>by unfold report_amounts.f;rfl) (amounts_ev (fun x=>belongs_ev l0 l1 l2 a3 a4 a5 a6 a7 a8 a9 a10 a11 a12 a13 a14 a15 a16 l17 l18 l19 l20 l21 n s roots x hc hn) s l hl)
theorem rd129_at {l:List S129} {i:Nat} (h:i < l.length):rd_T129 l (i:Int)=l[i]:=by
  show l.getD _ z129=_
  rw [List.getD_eq_getElem?_getD]
  simp [List.getElem?_eq_getElem h]
theorem ram_l0 (n:ByteArray) (s:Int) (roots:List Int) (x:ByteArray) (e0 e1 e2 e3 e4 e5:Int) (e6 e7:ByteArray) (l:List S129) (e9:Int) (hc:l2.length≤9223372036854775807) (h18:l18.length≤9223372036854775807) (hn:roots.length≤9223372036854775807) (hl:l.length≤9223372036854775807) :
    ∀ d i:Nat,l.length - i=d→i≤l.length→∀ m:Int,Ev (fun k=>corebankref49_amount.l0 k x (wrap64 m) (i:Int) l0 l1 l2 a3 a4 a5 a6 a7 a8 a9 a10 a11 a12 a13 a14 a15 a16 l17 l18 l19 l20 l21 n s roots e0 e1 e2 e3 e4 e5 e6 e7 l e9) (wrap64 (s * (m + legX (belG l2 a4 l18 roots) (l.drop i) x))):=by
  intro d
  induction d with
  | zero=>
    intro i hd hi m
    refine Ev.step (f:=fun _=>some (wrap64 (s * wrap64 m))) (fun k=>by simp only [corebankref49_amount.l0];rw [if_neg (by omega)]) (Ev.some_ ?_)
    rw [List.drop_of_length_le (by omega),wrap_mulr]
    simp [legX]
  | succ d ih=>
    intro i hd hi m
    have hlt:i < l.length:=by omega
    have e:legX (belG l2 a4 l18 roots) (l.drop i) x=(if l[i].f2=x∧belG l2 a4 l18 roots l[i].f0=true then l[i].f1 else 0) + legX (belG l2 a4 l18 roots) (l.drop (i + 1)) x:=by rw [drop_at hlt];unfold legX;rw [List.map_cons,List.sum_cons]
    rw [e]
    by_cases c:l[i].f2=x
    · refine Ev.step (f:=fun k=>(corebankref49_belongs.f k l0 l1 l2 a3 a4 a5 a6 a7 a8 a9 a10 a11 a12 a13 a14 a15 a16 l17 l18 l19 l20 l21 n s roots l[i].f0).bind fun t=>if t=true then corebankref49_amount.l0 k x (wrap64 (wrap64 m + l[i].f1)) ((i + 1:Nat):Int) l0 l1 l2 a3 a4 a5 a6 a7 a8 a9 a10 a11 a12 a13 a14 a15 a16 l17 l18 l19 l20 l21 n s roots e0 e1 e2 e3 e4 e5 e6 e7 l e9 else corebankref49_amount.l0 k x (wrap64 m) ((i + 1:Nat):Int) l0 l1 l2 a3 a4 a5 a6 a7 a8 a9 a10 a11 a12 a13 a14 a15 a16 l17 l18 l19 l20 l21 n s roots e0 e1 e2 e3 e4 e5 e6 e7 l e9) (fun k=>by simp only [corebankref49_amount.l0];rw [if_pos (by omega),if_pos (by omega),rd129_at hlt,if_pos (tl_inj.mpr c),wrap_inc hlt hl]) ?_
      refine Ev.bind (rbelongs_ev l0 l1 l2 a3 a4 a5 a6 a7 a8 a9 a10 a11 a12 a13 a14 a15 a16 l17 l18 l19 l20 l21 n s roots _ hc h18 hn) ?_
      by_cases b:belG l2 a4 l18 roots l[i].f0=true
      · rw [if_pos ⟨c,b⟩]
        refine Ev.congr (fun k=>by rw [if_pos b,wrap_addl]) ?_
        have:=ih (i + 1) (by omega) (by omega) (m + l[i].f1)
        rwa [Int.add_assoc] at this
      · rw [if_neg (fun h=>b h.2),Int.zero_add]
        exact Ev.congr (fun k=>if_neg b) (ih (i + 1) (by omega) (by omega) m)
    · rw [if_neg (fun h=>c h.1),Int.zero_add]
      exact Ev.step (fun k=>by simp only [corebankref49_amount.l0];rw [if_pos (by omega),if_pos (by omega),rd129_at hlt,if_neg (fun h=>c (tl_inj.mp h)),wrap_inc hlt hl]) (ih (i + 1) (by omega) (by omega) m)
theorem ram_ev (n:ByteArray) (s:Int) (roots:List Int) (x:ByteArray) (e0 e1 e2 e3 e4 e5:Int) (e6 e7:ByteArray) (l:List S129) (e9:Int) (hc:l2.length≤9223372036854775807) (h18:l18.length≤9223372036854775807) (hn:roots.length≤9223372036854775807) (hl:l.length≤9223372036854775807) :
    Ev (fun k=>corebankref49_amount.f k l0 l1 l2 a3 a4 a5 a6 a7 a8 a9 a10 a11 a12 a13 a14 a15 a16 l17 l18 l19 l20 l21 n s roots x e0 e1 e2 e3 e4 e5 e6 e7 l e9) (amtG (belG l2 a4 l18 roots) s l x):=by
  have h:=ram_l0 l0 l1 l2 a3 a4 a5 a6 a7 a8 a9 a10 a11 a12 a13 a14 a15 a16 l17 l18 l19 l20 l21 n s roots x e0 e1 e2 e3 e4 e5 e6 e7 l e9 hc h18 hn hl l.length 0 (by omega) (Nat.zero_le _) 0
  rw [List.drop_zero,Int.zero_add,wrap_zero] at h
  exact Ev.congr (fun k=>by unfold corebankref49_amount.f;rfl) h
end
end Go.Proofs.Ytcmaifjmnpfmbaa.R.Proof
