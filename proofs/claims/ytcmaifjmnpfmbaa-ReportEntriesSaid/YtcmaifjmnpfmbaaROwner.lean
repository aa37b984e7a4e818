/- Owner of the program and of the reference come to the same. -/
import Derived.Test.YtcmaifjmnpfmbaaRBase
import Derived.Test.YtcmaifjmnpfmbaaRE18
import Derived.Test.YtcmaifjmnpfmbaaRE19
namespace Go.Proofs.Ytcmaifjmnpfmbaa.R.Proof
open Go.RowKit Go.Proofs.Ytcmaifjmnpfmbaa.R Go.Proofs.YtcmaifjmnpfmbaaW.PrintWords Go.Proofs.YtcmaifjmnpfmbaaW.PrintLast
section
variable (l0:List S97) (l1:List S86) (l2:List S62) (a3:Int) (a4:Int) (a5:Int) (a6:Int) (a7:Int) (a8:Int) (a9:Int) (a10:Int) (a11:Int) (a12:Int) (a13:Int) (a14:Int) (a15:Int) (a16:Int) (l17:List S79) (l18:List S90) (l19:List S84) (l20:List S119) (l21:List S180)
theorem rd90_at {l:List S90} {i:Nat} (h:i < l.length):rd_T90 l (i:Int)=l[i]:=by
  show l.getD _ z90=_
  rw [List.getD_eq_getElem?_getD]
  simp [List.getElem?_eq_getElem h]
def accG (l:List S90) (id:Int):Bool:=l.any fun g=>g.f0 == id
theorem idx_any {α:Type} (p:α→Bool) (l:List α):(idxFrom p l 0 < 0∧l.any p=false) ∨ (∃ j:Nat,j < l.length∧idxFrom p l 0=(j:Int)∧l.any p=true):=by
  have h:∀ (l:List α) (i:Nat),(idxFrom p l i=-1∧l.any p=false) ∨ ∃ j:Nat,j < l.length∧idxFrom p l i=((i + j:Nat):Int)∧l.any p=true:=by
    intro l
    induction l with
    | nil=>intro i;exact .inl ⟨rfl,rfl⟩
    | cons x xs ih=>
      intro i
      rw [idxFrom,List.any_cons]
      cases p x with
      | true=>exact .inr ⟨0,by simp,by simp,by simp⟩
      | false=>
        rcases ih (i + 1) with h | ⟨j,hj,h,h2⟩
        · exact .inl (by simpa using h)
        · exact .inr ⟨j + 1,by simp;omega,by simp [h];omega,by simpa using h2⟩
  rcases h l 0 with h | ⟨j,hj,h1,h2⟩
  · exact .inl ⟨by omega,h.2⟩
  · exact .inr ⟨j,hj,by simpa using h1,h2⟩
theorem account_at (id:Int):∃ r,account_Find.f l0 l1 l2 a3 a4 a5 a6 a7 a8 a9 a10 a11 a12 a13 a14 a15 a16 l17 l18 l19 l20 l21 id=some r∧r.2.2.2.2.2.2.2=accG l18 id:=by
  unfold account_Find.f account_index.f
  simp only [Option.bind_some]
  rcases idx_any (fun g:S90=>g.f0 == id) l18 with ⟨h,h2⟩ | ⟨j,hj,h,h2⟩
  · rw [if_pos h];exact ⟨_,rfl,h2.symm⟩
  · rw [h,if_neg (by omega),if_pos (by omega),if_pos (by omega)]
    exact ⟨_,rfl,h2.symm⟩
theorem rfind24 (id:Int) (hn:l18.length≤9223372036854775807):∃ r,Ev (fun k=>corebankref24_Find.f k l0 l1 l2 a3 a4 a5 a6 a7 a8 a9 a10 a11 a12 a13 a14 a15 a16 l17 l18 l19 l20 l21 id) r∧r.2.2.2.2.2.2.2=accG l18 id:=by
  have h:∀ d i:Nat,l18.length - i=d→i≤l18.length→∃ r,Ev (fun k=>corebankref24_Find.l0 k id (i:Int) l0 l1 l2 a3 a4 a5 a6 a7 a8 a9 a10 a11 a12 a13 a14 a15 a16 l17 l18 l19 l20 l21) r∧r.2.2.2.2.2.2.2=accG (l18.drop i) id:=by
    intro d
    induction d with
    | zero=>
      intro i hd hi
      refine ⟨_,Ev.step (fun k=>by simp only [corebankref24_Find.l0];rw [if_neg (by omega)]) (Ev.now _),?_⟩
      rw [List.drop_of_length_le (by omega)];rfl
    | succ d ih=>
      intro i hd hi
      have hlt:i < l18.length:=by omega
      rw [drop_at hlt]
      by_cases c:(rd_T90 l18 (i:Int)).f0=id
      · refine ⟨_,Ev.step (fun k=>by simp only [corebankref24_Find.l0];rw [if_pos (by omega),if_pos (by omega),if_pos c]) (Ev.now _),?_⟩
        rw [rd90_at hlt] at c
        have hb:(l18[i].f0 == id)=true:=beq_iff_eq.mpr c
        unfold accG
        rw [List.any_cons,hb];rfl
      · obtain ⟨r,hr,he⟩:=ih (i + 1) (by omega) (by omega)
        refine ⟨r,Ev.step (fun k=>by simp only [corebankref24_Find.l0];rw [if_pos (by omega),if_pos (by omega),if_neg c,wrap_inc hlt hn]) hr,?_⟩
        rw [rd90_at hlt] at c
        rw [he]
        have hb:(l18[i].f0 == id)=false:=beq_eq_false_iff_ne.mpr c
        unfold accG
        rw [List.any_cons,hb,Bool.false_or]
  exact h _ 0 rfl (Nat.zero_le _)
def ownerG (ch:List S62) (dep:Int) (acc:List S90) (id:Int):Int:=if (findG ch id).isSome then id else if accG acc id then dep else 0
theorem owner_ev (id:Int) (hc:l2.length≤9223372036854775807):Ev (fun k=>report_Owner.f k l0 l1 l2 a3 a4 a5 a6 a7 a8 a9 a10 a11 a12 a13 a14 a15 a16 l17 l18 l19 l20 l21 id) (ownerG l2 a4 l18 id):=by
  obtain ⟨r,hr,he⟩:=account_at l0 l1 l2 a3 a4 a5 a6 a7 a8 a9 a10 a11 a12 a13 a14 a15 a16 l17 l18 l19 l20 l21 id
  refine Ev.congr (fun k=>by unfold report_Owner.f;rfl) (Ev.bind (find_ev l2 id hc) ?_)
  unfold ownerG
  refine Ev.congr (fun k=>by rw [tup_is]) ?_
  cases (findG l2 id).isSome with
  | true=>exact Ev.congr (fun k=>if_pos rfl) (Ev.now _)
  | false=>
    refine Ev.congr (fun k=>if_neg (by decide)) (Ev.congr (fun k=>?_) (Ev.now _))
    rw [hr]
    show (if r.2.2.2.2.2.2.2=true then some a4 else some 0)=_
    rw [he]
    cases accG l18 id <;> rfl
theorem rowner_ev (id:Int) (hc:l2.length≤9223372036854775807) (hn:l18.length≤9223372036854775807):Ev (fun k=>corebankref49_Owner.f k l0 l1 l2 a3 a4 a5 a6 a7 a8 a9 a10 a11 a12 a13 a14 a15 a16 l17 l18 l19 l20 l21 id) (ownerG l2 a4 l18 id):=by
  obtain ⟨r,hr,he⟩:=rfind24 l0 l1 l2 a3 a4 a5 a6 a7 a8 a9 a10 a11 a12 a13 a14 a15 a16 l17 l18 l19 l20 l21 id hn
  refine Ev.congr (fun k=>by unfold corebankref49_Owner.f;rfl) (Ev.bind (rfind_ev l2 id hc) ?_)
  unfold ownerG
  refine Ev.congr (fun k=>by rw [tup_is]) ?_
  cases (findG l2 id).isSome with
  | true=>exact Ev.congr (fun k=>if_pos rfl) (Ev.now _)
  | false=>
    refine Ev.congr (fun k=>if_neg (by decide)) (Ev.bind hr ?_)
    rw [he]
    cases accG l18 id <;> exact Ev.now _
end
end Go.Proofs.Ytcmaifjmnpfmbaa.R.Proof
