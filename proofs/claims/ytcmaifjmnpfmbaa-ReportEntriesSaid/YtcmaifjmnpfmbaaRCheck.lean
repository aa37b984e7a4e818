/- The program's and the reference's tests of rows come to the same number. -/
import Derived.Test.YtcmaifjmnpfmbaaRName
import Derived.Test.YtcmaifjmnpfmbaaRE23
import Derived.Test.YtcmaifjmnpfmbaaRE18
namespace Go.Proofs.Ytcmaifjmnpfmbaa.R.Proof
open Go.RowKit Go.Proofs.Ytcmaifjmnpfmbaa.R Go.Proofs.YtcmaifjmnpfmbaaW.PrintWords Go.Proofs.YtcmaifjmnpfmbaaW.PrintLast
section
variable (l0:List S97) (l1:List S86) (l2:List S62) (a3:Int) (a4:Int) (a5:Int) (a6:Int) (a7:Int) (a8:Int) (a9:Int) (a10:Int) (a11:Int) (a12:Int) (a13:Int) (a14:Int) (a15:Int) (a16:Int) (l17:List S79) (l18:List S90) (l19:List S84) (l20:List S119) (l21:List S180)
/-- One of the roots is above or below another one. -/
def clash (ch:List S62) (r:Int) (l:List Int):Bool:=l.any fun o=>underG ch r o || underG ch o r
/-- The error of the roots from i on, d of them. -/
def rootsG (ch:List S62) (l:List Int):Nat→Nat→Int
  | 0,_=>0
  | d + 1,i=>if (findG ch (rd l (i:Int))).isSome=true then (if clash ch (rd l (i:Int)) (l.take i)=true then 12 else rootsG ch l d (i + 1)) else 11
theorem clash_cons (ch:List S62) (r o:Int) (l:List Int):clash ch r (o :: l)=((underG ch r o || underG ch o r) || clash ch r l):=rfl
theorem roots_l1 (l:List Int) (hc:l2.length≤9223372036854775807) (hn:l.length≤9223372036854775807) (i:Nat) (hi:i < l.length) (r:Int) {v:Int} (hv:Ev (fun k=>report_roots.l0 k l l (l.length:Int) ((i + 1:Nat):Int) l0 l1 l2 a3 a4 a5 a6 a7 a8 a9 a10 a11 a12 a13 a14 a15 a16 l17 l18 l19 l20 l21) v) :
    ∀ d j:Nat,(l.take i).length - j=d→j≤(l.take i).length→Ev (fun k=>report_roots.l1 k l r l (l.length:Int) (i:Int) (l.take i) ((l.take i).length:Int) (j:Int) l0 l1 l2 a3 a4 a5 a6 a7 a8 a9 a10 a11 a12 a13 a14 a15 a16 l17 l18 l19 l20 l21) (if clash l2 r ((l.take i).drop j)=true then 12 else v):=by
  have hl:(l.take i).length=i:=by rw [List.length_take];omega
  intro d
  induction d with
  | zero=>
    intro j hd hj
    rw [List.drop_of_length_le (by omega)]
    refine Ev.step (fun k=>by simp only [report_roots.l1];rw [if_neg (by omega),wrap_inc hi hn]) (f:=fun k=>report_roots.l0 k l l (l.length:Int) ((i + 1:Nat):Int) l0 l1 l2 a3 a4 a5 a6 a7 a8 a9 a10 a11 a12 a13 a14 a15 a16 l17 l18 l19 l20 l21) ?_
    exact hv
  | succ d ih=>
    intro j hd hj
    have hlt:j < (l.take i).length:=by omega
    have hnx:=ih (j + 1) (by omega) (by omega)
    rw [drop_at hlt,clash_cons]
    refine Ev.step (f:=fun k=>(chart_Under.f k l2 r (rd (l.take i) (j:Int))).bind fun t=>if t=true then some 12 else ((chart_Under.f k l2 (rd (l.take i) (j:Int)) r).bind fun t=>if t=true then some 12 else report_roots.l1 k l r l (l.length:Int) (i:Int) (l.take i) ((l.take i).length:Int) ((j + 1:Nat):Int) l0 l1 l2 a3 a4 a5 a6 a7 a8 a9 a10 a11 a12 a13 a14 a15 a16 l17 l18 l19 l20 l21)) (fun k=>by simp only [report_roots.l1];rw [if_pos (by omega),if_pos (by omega),if_pos (by omega),wrap_inc hlt (by omega)]) ?_
    rw [rd_at hlt]
    refine Ev.bind (under_ev l2 _ _ hc) ?_
    cases underG l2 r (l.take i)[j] with
    | true=>exact Ev.now _
    | false=>
      refine Ev.congr (fun k=>if_neg (by decide)) (Ev.bind (under_ev l2 _ _ hc) ?_)
      cases underG l2 (l.take i)[j] r with
      | true=>exact Ev.now _
      | false=>exact Ev.congr (fun k=>if_neg (by decide)) hnx
theorem roots_l0 (l:List Int) (hc:l2.length≤9223372036854775807) (hn:l.length≤9223372036854775807) :
    ∀ d i:Nat,l.length - i=d→i≤l.length→Ev (fun k=>report_roots.l0 k l l (l.length:Int) (i:Int) l0 l1 l2 a3 a4 a5 a6 a7 a8 a9 a10 a11 a12 a13 a14 a15 a16 l17 l18 l19 l20 l21) (rootsG l2 l d i):=by
  intro d
  induction d with
  | zero=>intro i hd hi;exact Ev.step (f:=fun _=>some 0) (fun k=>by simp only [report_roots.l0];rw [if_neg (by omega)]) (Ev.now _)
  | succ d ih=>
    intro i hd hi
    have hlt:i < l.length:=by omega
    have hnx:=ih (i + 1) (by omega) (by omega)
    have h1:=roots_l1 l0 l1 l2 a3 a4 a5 a6 a7 a8 a9 a10 a11 a12 a13 a14 a15 a16 l17 l18 l19 l20 l21 l hc hn i hlt (rd l (i:Int)) hnx (l.take i).length 0 (by omega) (Nat.zero_le _)
    rw [List.drop_zero] at h1
    rw [rootsG]
    refine Ev.step (f:=fun k=>(chart_Find.f k l2 (rd l (i:Int))).bind fun bt159=>if bt159.2.2.2.2=true then report_roots.l1 k l (rd l (i:Int)) l (l.length:Int) (i:Int) (l.take i) ((l.take i).length:Int) ((0:Nat):Int) l0 l1 l2 a3 a4 a5 a6 a7 a8 a9 a10 a11 a12 a13 a14 a15 a16 l17 l18 l19 l20 l21 else some 11) (fun k=>by simp only [report_roots.l0];rw [if_pos (by omega),if_pos (by omega),if_pos (by omega)];simp only [Int.toNat_natCast,if_pos (show (i:Int)≤(l.length:Int) by omega)];rfl) ?_
    refine Ev.bind (find_ev l2 _ hc) ?_
    rw [tup_is]
    cases (findG l2 (rd l (i:Int))).isSome with
    | true=>exact Ev.congr (fun k=>if_pos rfl) h1
    | false=>exact Ev.now _
theorem rroots_l1 (l:List Int) (hc:l2.length≤9223372036854775807) (hn:l.length≤9223372036854775807) (i:Nat) (hi:i < l.length) {v:Int} (hv:Ev (fun k=>corebankref49_roots.l0 k l ((i + 1:Nat):Int) l0 l1 l2 a3 a4 a5 a6 a7 a8 a9 a10 a11 a12 a13 a14 a15 a16 l17 l18 l19 l20 l21) v) :
    ∀ d j:Nat,(l.take i).length - j=d→j≤(l.take i).length→Ev (fun k=>corebankref49_roots.l1 k l (i:Int) (j:Int) l0 l1 l2 a3 a4 a5 a6 a7 a8 a9 a10 a11 a12 a13 a14 a15 a16 l17 l18 l19 l20 l21) (if clash l2 (rd l (i:Int)) ((l.take i).drop j)=true then 12 else v):=by
  have hl:(l.take i).length=i:=by rw [List.length_take];omega
  intro d
  induction d with
  | zero=>
    intro j hd hj
    rw [List.drop_of_length_le (by omega)]
    refine Ev.step (fun k=>by simp only [corebankref49_roots.l1];rw [if_neg (by omega),wrap_inc hi hn]) (f:=fun k=>corebankref49_roots.l0 k l ((i + 1:Nat):Int) l0 l1 l2 a3 a4 a5 a6 a7 a8 a9 a10 a11 a12 a13 a14 a15 a16 l17 l18 l19 l20 l21) ?_
    exact hv
  | succ d ih=>
    intro j hd hj
    have hlt:j < (l.take i).length:=by omega
    have hnx:=ih (j + 1) (by omega) (by omega)
    have hr:rd l (j:Int)=(l.take i)[j]:=by rw [rd_at (by omega),List.getElem_take]
    rw [drop_at hlt,clash_cons,← hr]
    refine Ev.step (f:=fun k=>(corebankref18_Under.f k l2 (rd l (i:Int)) (rd l (j:Int))).bind fun t=>if t=true then some 12 else ((corebankref18_Under.f k l2 (rd l (j:Int)) (rd l (i:Int))).bind fun t=>if t=true then some 12 else corebankref49_roots.l1 k l (i:Int) ((j + 1:Nat):Int) l0 l1 l2 a3 a4 a5 a6 a7 a8 a9 a10 a11 a12 a13 a14 a15 a16 l17 l18 l19 l20 l21)) (fun k=>by simp only [corebankref49_roots.l1];rw [if_pos (by omega),if_pos (by omega),if_pos (by omega),if_pos (by omega),if_pos (by omega),wrap_inc hlt (by omega)]) ?_
    refine Ev.bind (runder_ev l2 _ _ hc) ?_
    cases underG l2 (rd l (i:Int)) (rd l (j:Int)) with
    | true=>exact Ev.now _
    | false=>
      refine Ev.congr (fun k=>if_neg (by decide)) (Ev.bind (runder_ev l2 _ _ hc) ?_)
      cases underG l2 (rd l (j:Int)) (rd l (i:Int)) with
      | true=>exact Ev.now _
      | false=>exact Ev.congr (fun k=>if_neg (by decide)) hnx
theorem rroots_l0 (l:List Int) (hc:l2.length≤9223372036854775807) (hn:l.length≤9223372036854775807) :
    ∀ d i:Nat,l.length - i=d→i≤l.length→Ev (fun k=>corebankref49_roots.l0 k l (i:Int) l0 l1 l2 a3 a4 a5 a6 a7 a8 a9 a10 a11 a12 a13 a14 a15 a16 l17 l18 l19 l20 l21) (rootsG l2 l d i):=by
  intro d
  induction d with
  | zero=>intro i hd hi;exact Ev.step (f:=fun _=>some 0) (fun k=>by simp only [corebankref49_roots.l0];rw [if_neg (by omega)]) (Ev.now _)
  | succ d ih=>
    intro i hd hi
    have hlt:i < l.length:=by omega
    have hnx:=ih (i + 1) (by omega) (by omega)
    have h1:=rroots_l1 l0 l1 l2 a3 a4 a5 a6 a7 a8 a9 a10 a11 a12 a13 a14 a15 a16 l17 l18 l19 l20 l21 l hc hn i hlt hnx (l.take i).length 0 (by omega) (Nat.zero_le _)
    rw [List.drop_zero] at h1
    rw [rootsG]
    refine Ev.step (f:=fun k=>(corebankref18_Find.f k l2 (rd l (i:Int))).bind fun bt159=>if bt159.2.2.2.2=true then corebankref49_roots.l1 k l (i:Int) ((0:Nat):Int) l0 l1 l2 a3 a4 a5 a6 a7 a8 a9 a10 a11 a12 a13 a14 a15 a16 l17 l18 l19 l20 l21 else some 11) (fun k=>by simp only [corebankref49_roots.l0];rw [if_pos (by omega),if_pos (by omega)];rfl) ?_
    refine Ev.bind (rfind_ev l2 _ hc) ?_
    rw [tup_is]
    cases (findG l2 (rd l (i:Int))).isSome with
    | true=>exact Ev.congr (fun k=>if_pos rfl) h1
    | false=>exact Ev.now _
theorem roots_ev (l:List Int) (hc:l2.length≤9223372036854775807) (hn:l.length≤9223372036854775807):Ev (fun k=>report_roots.f k l0 l1 l2 a3 a4 a5 a6 a7 a8 a9 a10 a11 a12 a13 a14 a15 a16 l17 l18 l19 l20 l21 l) (rootsG l2 l l.length 0):=
  Ev.congr (fun k=>by unfold report_roots.f;rfl) (roots_l0 l0 l1 l2 a3 a4 a5 a6 a7 a8 a9 a10 a11 a12 a13 a14 a15 a16 l17 l18 l19 l20 l21 l hc hn l.length 0 (by omega) (Nat.zero_le _))
theorem rroots_ev (l:List Int) (hc:l2.length≤9223372036854775807) (hn:l.length≤9223372036854775807):Ev (fun k=>corebankref49_roots.f k l0 l1 l2 a3 a4 a5 a6 a7 a8 a9 a10 a11 a12 a13 a14 a15 a16 l17 l18 l19 l20 l21 l) (rootsG l2 l l.length 0):=
  Ev.congr (fun k=>by unfold corebankref49_roots.f;rfl) (rroots_l0 l0 l1 l2 a3 a4 a5 a6 a7 a8 a9 a10 a11 a12 a13 a14 a15 a16 l17 l18 l19 l20 l21 l hc hn l.length 0 (by omega) (Nat.zero_le _))
/-! ### Check -/
/-- The error of a row. -/
def rowG (ch:List S62) (r:S48):Int:=if nameG r.f0=true then (if r.f1=1 ∨ r.f1=-1 then rootsG ch r.f2 r.f2.length 0 else 1) else 4
def rowsG (ch:List S62):List S48→Int
  | []=>0
  | r :: rs=>if rowG ch r=0 then rowsG ch rs else rowG ch r
def checkG (ch:List S62) (l:List S48):Int:=if 1≤l.length∧l.length≤64 then rowsG ch l else 5
def okRow (r:S48):Prop:=r.f0.size≤9223372036854775807∧r.f2.length≤9223372036854775807
theorem rd48_at {l:List S48} {i:Nat} (h:i < l.length):rd_T48 l (i:Int)=l[i]:=by
  simp [rd_T48,List.getD_eq_getElem?_getD,List.getElem?_eq_getElem h]
theorem sign_is (n:Int) (c:n ≠ 1):(n != (-1))=decide (¬ (n=1 ∨ n=-1)):=by
  by_cases h:n=-1
  · subst h;decide
  · rw [decide_eq_true (show ¬ (n=1 ∨ n=-1) by omega)];simpa using h
theorem check_l0 (l:List S48) (hc:l2.length≤9223372036854775807) (hn:l.length≤9223372036854775807) (hok:∀ r ∈ l,okRow r) :
    ∀ d i:Nat,l.length - i=d→i≤l.length→Ev (fun k=>report_Check.l0 k l (l.length:Int) (i:Int) l0 l1 l2 a3 a4 a5 a6 a7 a8 a9 a10 a11 a12 a13 a14 a15 a16 l17 l18 l19 l20 l21) (rowsG l2 (l.drop i)):=by
  intro d
  induction d with
  | zero=>
    intro i hd hi
    rw [List.drop_of_length_le (by omega)]
    exact Ev.step (f:=fun _=>some 0) (fun k=>by simp only [report_Check.l0];rw [if_neg (by omega)]) (Ev.now _)
  | succ d ih=>
    intro i hd hi
    have hlt:i < l.length:=by omega
    have hnx:=ih (i + 1) (by omega) (by omega)
    have hm:=hok l[i] (List.getElem_mem hlt)
    rw [drop_at hlt,rowsG,rowG]
    have hj:∀ b:Bool,b=decide (¬ (l[i].f1=1 ∨ l[i].f1=-1))→nameG l[i].f0=true→Ev (fun k=>report_Check.j2 k l (l.length:Int) (i:Int) b l0 l1 l2 a3 a4 a5 a6 a7 a8 a9 a10 a11 a12 a13 a14 a15 a16 l17 l18 l19 l20 l21 l[i].f0 l[i].f1 l[i].f2) (if rowG l2 l[i]=0 then rowsG l2 (l.drop (i + 1)) else rowG l2 l[i]):=by
      intro b hb hg
      rw [rowG,if_pos hg]
      by_cases c:l[i].f1=1 ∨ l[i].f1=-1
      · rw [if_pos c]
        obtain rfl:b=false:=by rw [hb];exact decide_eq_false (fun h=>h c)
        refine Ev.step (f:=fun k=>(report_roots.f k l0 l1 l2 a3 a4 a5 a6 a7 a8 a9 a10 a11 a12 a13 a14 a15 a16 l17 l18 l19 l20 l21 l[i].f2).bind fun t=>if t=0 then report_Check.l0 k l (l.length:Int) ((i + 1:Nat):Int) l0 l1 l2 a3 a4 a5 a6 a7 a8 a9 a10 a11 a12 a13 a14 a15 a16 l17 l18 l19 l20 l21 else some t) (fun k=>by simp only [report_Check.j2];rw [if_neg (by decide),wrap_inc hlt hn]) ?_
        refine Ev.bind (roots_ev l0 l1 l2 a3 a4 a5 a6 a7 a8 a9 a10 a11 a12 a13 a14 a15 a16 l17 l18 l19 l20 l21 _ hc hm.2) ?_
        by_cases z:rootsG l2 l[i].f2 l[i].f2.length 0=0
        · rw [if_pos z];exact Ev.congr (fun k=>if_pos z) hnx
        · rw [if_neg z];exact Ev.congr (fun k=>if_neg z) (Ev.now _)
      · rw [if_neg c]
        obtain rfl:b=true:=by rw [hb];exact decide_eq_true c
        exact Ev.step (f:=fun _=>some 1) (fun k=>by simp only [report_Check.j2];rfl) (Ev.some_ (by rw [if_neg (by decide)]))
    refine Ev.step (f:=fun k=>(report_name.f k l[i].f0).bind fun t=>if t=true then (if l[i].f1=1 then report_Check.j2 k l (l.length:Int) (i:Int) false l0 l1 l2 a3 a4 a5 a6 a7 a8 a9 a10 a11 a12 a13 a14 a15 a16 l17 l18 l19 l20 l21 l[i].f0 l[i].f1 l[i].f2 else report_Check.j2 k l (l.length:Int) (i:Int) (l[i].f1 != (-1)) l0 l1 l2 a3 a4 a5 a6 a7 a8 a9 a10 a11 a12 a13 a14 a15 a16 l17 l18 l19 l20 l21 l[i].f0 l[i].f1 l[i].f2) else some 4) (fun k=>by simp only [report_Check.l0];rw [if_pos (by omega),if_pos (by omega),if_pos (by omega),rd48_at hlt]) ?_
    refine Ev.bind (name_ev _ hm.1) ?_
    by_cases g:nameG l[i].f0=true
    · refine Ev.congr (fun k=>if_pos g) ?_
      rw [← rowG]
      by_cases c:l[i].f1=1
      · exact Ev.congr (fun k=>if_pos c) (hj false (by rw [decide_eq_false (fun h=>h (.inl c))]) g)
      · exact Ev.congr (fun k=>if_neg c) (hj _ (sign_is _ c) g)
    · refine Ev.congr (fun k=>if_neg g) (Ev.some_ ?_)
      rw [if_neg g,if_neg (by decide)]
theorem rcheck_l0 (l:List S48) (hc:l2.length≤9223372036854775807) (hn:l.length≤9223372036854775807) (hok:∀ r ∈ l,okRow r) :
    ∀ d i:Nat,l.length - i=d→i≤l.length→Ev (fun k=>corebankref49_Check.l0 k l (i:Int) l0 l1 l2 a3 a4 a5 a6 a7 a8 a9 a10 a11 a12 a13 a14 a15 a16 l17 l18 l19 l20 l21) (rowsG l2 (l.drop i)):=by
  intro d
  induction d with
  | zero=>
    intro i hd hi
    rw [List.drop_of_length_le (by omega)]
    exact Ev.step (f:=fun _=>some 0) (fun k=>by simp only [corebankref49_Check.l0];rw [if_neg (by omega)]) (Ev.now _)
  | succ d ih=>
    intro i hd hi
    have hlt:i < l.length:=by omega
    have hnx:=ih (i + 1) (by omega) (by omega)
    have hm:=hok l[i] (List.getElem_mem hlt)
    rw [drop_at hlt,rowsG,rowG]
    have hj:∀ b:Bool,b=decide (¬ (l[i].f1=1 ∨ l[i].f1=-1))→nameG l[i].f0=true→Ev (fun k=>corebankref49_Check.j2 k l (i:Int) b l0 l1 l2 a3 a4 a5 a6 a7 a8 a9 a10 a11 a12 a13 a14 a15 a16 l17 l18 l19 l20 l21) (if rowG l2 l[i]=0 then rowsG l2 (l.drop (i + 1)) else rowG l2 l[i]):=by
      intro b hb hg
      rw [rowG,if_pos hg]
      by_cases c:l[i].f1=1 ∨ l[i].f1=-1
      · rw [if_pos c]
        obtain rfl:b=false:=by rw [hb];exact decide_eq_false (fun h=>h c)
        refine Ev.step (f:=fun k=>(corebankref49_roots.f k l0 l1 l2 a3 a4 a5 a6 a7 a8 a9 a10 a11 a12 a13 a14 a15 a16 l17 l18 l19 l20 l21 l[i].f2).bind fun t=>if t=0 then corebankref49_Check.l0 k l ((i + 1:Nat):Int) l0 l1 l2 a3 a4 a5 a6 a7 a8 a9 a10 a11 a12 a13 a14 a15 a16 l17 l18 l19 l20 l21 else some t) (fun k=>by simp only [corebankref49_Check.j2];rw [if_neg (by decide),if_pos (by omega),if_pos (by omega),wrap_inc hlt hn,rd48_at hlt]) ?_
        refine Ev.bind (rroots_ev l0 l1 l2 a3 a4 a5 a6 a7 a8 a9 a10 a11 a12 a13 a14 a15 a16 l17 l18 l19 l20 l21 _ hc hm.2) ?_
        by_cases z:rootsG l2 l[i].f2 l[i].f2.length 0=0
        · rw [if_pos z];exact Ev.congr (fun k=>if_pos z) hnx
        · rw [if_neg z];exact Ev.congr (fun k=>if_neg z) (Ev.now _)
      · rw [if_neg c]
        obtain rfl:b=true:=by rw [hb];exact decide_eq_true c
        exact Ev.step (f:=fun _=>some 1) (fun k=>by simp only [corebankref49_Check.j2];rfl) (Ev.some_ (by rw [if_neg (by decide)]))
    refine Ev.step (f:=fun k=>(corebankref07_Name.f k l[i].f0).bind fun t=>if t=true then (if l[i].f1=1 then corebankref49_Check.j2 k l (i:Int) false l0 l1 l2 a3 a4 a5 a6 a7 a8 a9 a10 a11 a12 a13 a14 a15 a16 l17 l18 l19 l20 l21 else corebankref49_Check.j2 k l (i:Int) (l[i].f1 != (-1)) l0 l1 l2 a3 a4 a5 a6 a7 a8 a9 a10 a11 a12 a13 a14 a15 a16 l17 l18 l19 l20 l21) else some 4) (fun k=>by simp only [corebankref49_Check.l0];rw [if_pos (by omega),if_pos (by omega),rd48_at hlt]) ?_
    refine Ev.bind (rname_ev _ hm.1) ?_
    by_cases g:nameG l[i].f0=true
    · refine Ev.congr (fun k=>if_pos g) ?_
      rw [← rowG]
      by_cases c:l[i].f1=1
      · exact Ev.congr (fun k=>if_pos c) (hj false (by rw [decide_eq_false (fun h=>h (.inl c))]) g)
      · exact Ev.congr (fun k=>if_neg c) (hj _ (sign_is _ c) g)
    · refine Ev.congr (fun k=>if_neg g) (Ev.some_ ?_)
      rw [if_neg g,if_neg (by decide)]
theorem check_ev (l:List S48) (hc:l2.length≤9223372036854775807) (hn:l.length≤9223372036854775807) (hok:∀ r ∈ l,okRow r):Ev (fun k=>report_Check.f k l0 l1 l2 a3 a4 a5 a6 a7 a8 a9 a10 a11 a12 a13 a14 a15 a16 l17 l18 l19 l20 l21 l) (checkG l2 l):=by
  have hj:∀ b:Bool,b=decide (¬ (1≤l.length∧l.length≤64))→Ev (fun k=>report_Check.j0 k l b l0 l1 l2 a3 a4 a5 a6 a7 a8 a9 a10 a11 a12 a13 a14 a15 a16 l17 l18 l19 l20 l21) (checkG l2 l):=by
    intro b hb
    unfold checkG
    by_cases c:1≤l.length∧l.length≤64
    · obtain rfl:b=false:=by rw [hb];exact decide_eq_false (fun h=>h c)
      rw [if_pos c]
      exact Ev.step (fun k=>by simp only [report_Check.j0];rw [if_neg (by decide)];rfl) (check_l0 l0 l1 l2 a3 a4 a5 a6 a7 a8 a9 a10 a11 a12 a13 a14 a15 a16 l17 l18 l19 l20 l21 l hc hn hok l.length 0 (by omega) (Nat.zero_le _))
    · obtain rfl:b=true:=by rw [hb];exact decide_eq_true c
      rw [if_neg c]
      exact Ev.step (f:=fun _=>some 5) (fun k=>by simp only [report_Check.j0];rfl) (Ev.now _)
  unfold report_Check.f
  by_cases c:(l.length:Int) < 1
  · exact Ev.congr (fun k=>if_pos c) (hj true (by rw [decide_eq_true];omega))
  · exact Ev.congr (fun k=>if_neg c) (hj _ (by apply decide_eq_decide.mpr;omega))
theorem rcheck_ev (l:List S48) (hc:l2.length≤9223372036854775807) (hn:l.length≤9223372036854775807) (hok:∀ r ∈ l,okRow r):Ev (fun k=>corebankref49_Check.f k l0 l1 l2 a3 a4 a5 a6 a7 a8 a9 a10 a11 a12 a13 a14 a15 a16 l17 l18 l19 l20 l21 l) (checkG l2 l):=by
  have hj:∀ b:Bool,b=decide (¬ (1≤l.length∧l.length≤64))→Ev (fun k=>corebankref49_Check.j0 k l b l0 l1 l2 a3 a4 a5 a6 a7 a8 a9 a10 a11 a12 a13 a14 a15 a16 l17 l18 l19 l20 l21) (checkG l2 l):=by
    intro b hb
    unfold checkG
    by_cases c:1≤l.length∧l.length≤64
    · obtain rfl:b=false:=by rw [hb];exact decide_eq_false (fun h=>h c)
      rw [if_pos c]
      exact Ev.step (fun k=>by simp only [corebankref49_Check.j0];rw [if_neg (by decide)];rfl) (rcheck_l0 l0 l1 l2 a3 a4 a5 a6 a7 a8 a9 a10 a11 a12 a13 a14 a15 a16 l17 l18 l19 l20 l21 l hc hn hok l.length 0 (by omega) (Nat.zero_le _))
    · obtain rfl:b=true:=by rw [hb];exact decide_eq_true c
      rw [if_neg c]
      exact Ev.step (f:=fun _=>some 5) (fun k=>by simp only [corebankref49_Check.j0];rfl) (Ev.now _)
  unfold corebankref49_Check.f
  by_cases c:(l.length:Int) < 1
  · exact Ev.congr (fun k=>if_pos c) (hj true (by rw [decide_eq_true];omega))
  · exact Ev.congr (fun k=>if_neg c) (hj _ (by apply decide_eq_decide.mpr;omega))
end
end Go.Proofs.Ytcmaifjmnpfmbaa.R.Proof
