/- A region that draws its order, whose operations only make new blocks: whatever the order, behind it every slot holds what is said of it, if each operation, by itself, brings that about. -/
import Derived.Orders
import Derived.RegionTactic
import Derived.OrdersHeld
import Derived.Below
import Derived.WalkKit
import Derived.Test.YtcmaifjmnpfmbaaWWords
import Derived.Test.YtcmaifjmnpfmbaaWLast
namespace Go.Proofs.Ytcmaifjmnpfmbaa.R
open Go Go.RowKit Go.Proofs.YtcmaifjmnpfmbaaW.PrintWords Go.Proofs.YtcmaifjmnpfmbaaW.PrintLast
section
variable {P:Program} {ops:Array Oper} {Q:Exit→Act→World→Prop}
/-- No operation of the region writes slot t. -/
def notDst (ops:Array Oper) (t:Nat):Bool:=ops.toList.all fun o=>o.dst != some t
/-- Slot t is written when number i comes up: none of the region writes it, or one that i waits for does. -/
def avail (ops:Array Oper) (i t:Nat):Bool:=notDst ops t || (match ops[i]? with
  | some o=>o.after.any fun e=>Region.binds .any e && ((ops[e.on]?).bind (·.dst) == some t)
  | none=>false)
/-- Every operation writes a slot below N, no two the same. -/
def dstsB (ops:Array Oper) (N:Nat):Bool:=(List.range ops.size).all fun i=>match ops[i]? with
  | some o=>(match o.dst with
    | some t=>decide (t < N) && (List.range ops.size).all fun j=>i == j || (ops[j]?).bind (·.dst) != some t
    | none=>false)
  | none=>false
theorem dstsB_at {N i:Nat} {o:Oper} (h:dstsB ops N=true) (ho:ops[i]?=some o):∃ t,o.dst=some t∧t < N∧∀ j o',ops[j]?=some o'→o'.dst=some t→i=j:=by
  have hlt:i < ops.size:=(Array.getElem?_eq_some_iff.1 ho).1
  have h1:=List.all_eq_true.1 h i (List.mem_range.2 hlt)
  simp only [ho] at h1
  cases hd:o.dst with
  | none=>rw [hd] at h1;simp at h1
  | some t=>
    rw [hd] at h1
    simp only [Bool.and_eq_true,decide_eq_true_eq] at h1
    refine ⟨t,rfl,h1.1,fun j o' hj hd'=>?_⟩
    have hj':j < ops.size:=(Array.getElem?_eq_some_iff.1 hj).1
    have h2:=List.all_eq_true.1 h1.2 j (List.mem_range.2 hj')
    simp only [hj,Option.bind_some,hd',Bool.or_eq_true,beq_iff_eq,bne_self_eq_false] at h2
    simpa using h2
theorem eval_put_self {a:Act} {t:Nat} {v:Value} (h:t < a.tmps.size):(a.put (some t) v).eval (.tmp t)=v:=by
  simp [Act.put,Act.eval,Array.getD_eq_getD_getElem?,h]
theorem eval_put_ne {a:Act} {t s:Nat} {v:Value} (h:t ≠ s):(a.put (some t) v).eval (.tmp s)=a.eval (.tmp s):=Act.eval_put (fun d hd e=>by
  injection hd with hd
  injection e with e
  exact h (hd.trans e.symm))
def LooseInv (ops:Array Oper) (N:Nat) (G:Nat→World→Value→Prop) (a0:Act) (w0:World) (listed:Array Bool) (a:Act) (w:World):Prop:=
  a.tmps.size=N∧a.defers=a0.defers∧Below w0.heap.size w0 w∧∀ t,t < N→(∀ i o,ops[i]?=some o→o.dst=some t→listed.getD i true=true)→G t w (a.eval (.tmp t))
theorem loose_go {N:Nat} {G:Nat→World→Value→Prop} {a0:Act} {w0:World}
    (hmono:∀ t w w' v,G t w v→Below w.heap.size w w'→G t w' v) (hd:dstsB ops N=true)
    (hstep:∀ i o,ops[i]?=some o→∀ a w,Below w0.heap.size w0 w→a.tmps.size=N→(∀ t,t < N→avail ops i t=true→G t w (a.eval (.tmp t))) →
      ∀ K:Act→World→Prop,(∀ v w',Below w.heap.size w w'→(∀ t,o.dst=some t→G t w' v)→K (a.put o.dst v) w')→if Region.wanted o (yielded ops a.tmps)=true then Oper.wp P o a w K Q else K (a.put o.dst undef) w)
    (hend:∀ a w,Below w0.heap.size w0 w→a.tmps.size=N→a.defers=a0.defers→(∀ t,t < N→G t w (a.eval (.tmp t)))→Q .normal a w) :
    ∀ (fuel:Nat) (listed:Array Bool) (a:Act) (w:World),listed.size=ops.size→(∀ i,i < ops.size→listed.getD i true=false→fuel ≠ 0)→LooseInv ops N G a0 w0 listed a w →
      ((∃ i,i < ops.size∧listed.getD i true=false)→∃ j,j ∈ Region.ready .any ops listed)→True→(∀ l:Array Bool,l.size=ops.size→(∃ i,i < ops.size∧l.getD i true=false)→∃ j,j ∈ Region.ready .any ops l) →
      (((List.range ops.size).filter fun i=>!listed.getD i true).length≤fuel)→wpAny P .any ops Q fuel listed a w:=by
  intro fuel
  induction fuel with
  | zero=>
    intro listed a w hs hf hI _ _ hprog hcount
    have hall:∀ i,i < ops.size→listed.getD i true=true:=fun i hi=>by
      cases h:listed.getD i true with
      | true=>rfl
      | false=>exact absurd rfl (hf i hi h)
    refine ⟨?_,hend a w hI.2.2.1 hI.1 hI.2.1 (fun t ht=>hI.2.2.2 t ht (fun i o ho _=>hall i (Array.getElem?_eq_some_iff.1 ho).1))⟩
    rw [List.eq_nil_iff_forall_not_mem]
    intro j hj
    obtain ⟨h1,o,ho,_⟩:=mem_ready.1 hj
    rw [hall j (Array.getElem?_eq_some_iff.1 ho).1] at h1
    cases h1
  | succ fuel ih=>
    intro listed a w hs hf hI _ _ hprog hcount
    refine ⟨fun hnone=>?_,fun i hi=>?_⟩
    · have hall:∀ i,i < ops.size→listed.getD i true=true:=fun i hlt=>by
        cases h:listed.getD i true with
        | true=>rfl
        | false=>
          obtain ⟨j,hj⟩:=hprog listed hs ⟨i,hlt,h⟩
          rw [hnone] at hj
          cases hj
      exact hend a w hI.2.2.1 hI.1 hI.2.1 (fun t ht=>hI.2.2.2 t ht (fun i o ho _=>hall i (Array.getElem?_eq_some_iff.1 ho).1))
    · obtain ⟨hun,o,ho,haft⟩:=mem_ready.1 hi
      have hilt:i < ops.size:=(Array.getElem?_eq_some_iff.1 ho).1
      obtain ⟨ti,hti,htN,huniq⟩:=dstsB_at hd ho
      refine wpOp_step ho (fun K' hK'=>?_)
      refine hstep i o ho a w hI.2.2.1 hI.1 ?_ K' ?_
      · intro t ht hav
        refine hI.2.2.2 t ht ?_
        intro j oj hj hdj
        unfold avail at hav
        rw [Bool.or_eq_true] at hav
        rcases hav with hav | hav
        · have h3:=List.all_eq_true.1 hav oj (Array.mem_toList_iff.2 (Array.mem_of_getElem? hj))
          rw [hdj] at h3
          simp at h3
        · rw [ho] at hav
          obtain ⟨e,he,h4⟩:=Array.any_eq_true'.1 hav
          simp only [Bool.and_eq_true,beq_iff_eq] at h4
          obtain ⟨oe,hoe,hde⟩:=Option.bind_eq_some_iff.1 h4.2
          obtain ⟨tj,htj,_,hu⟩:=dstsB_at hd hj
          rw [hdj] at htj
          injection htj with htj
          have hje:j=e.on:=hu e.on oe hoe (by rw [← htj];exact hde)
          have h5:=haft e he h4.1
          rw [hje]
          have hlt:e.on < listed.size:=by rw [hs];exact (Array.getElem?_eq_some_iff.1 hoe).1
          simpa [Array.getD_eq_getD_getElem?,hlt] using h5
      · intro v w' hb hG
        refine hK' _ _ (ih (listed.setIfInBounds i true) _ w' (by simpa using hs) ?_ ?_ (fun _=>?_) trivial hprog ?_)
        · intro j hj h6 h0
          subst h0
          have hne:((List.range ops.size).filter fun i=>!listed.getD i true).length≤1:=hcount
          have hi_in:i ∈ (List.range ops.size).filter fun i=>!listed.getD i true:=List.mem_filter.2 ⟨List.mem_range.2 hilt,by rw [hun];rfl⟩
          have hij:i ≠ j:=by
            rintro rfl
            simp [Array.getD_eq_getD_getElem?,hs,hilt] at h6
          have hj_un:listed.getD j true=false:=by rwa [getD_set_ne true hij] at h6
          have hj_in:j ∈ (List.range ops.size).filter fun i=>!listed.getD i true:=List.mem_filter.2 ⟨List.mem_range.2 hj,by rw [hj_un];rfl⟩
          match hL:(List.range ops.size).filter fun i=>!listed.getD i true with
          | []=>rw [hL] at hi_in;cases hi_in
          | [x]=>
            rw [hL] at hi_in hj_in
            simp at hi_in hj_in
            exact hij (hi_in.trans hj_in.symm)
          | x :: y :: r=>rw [hL] at hne;simp at hne
        · refine ⟨?_,?_,below_step hI.2.2.1 hb,?_⟩
          · rw [hti];simp [Act.put,hI.1]
          · rw [hti];exact hI.2.1
          · intro t ht hdone
            by_cases htt:ti=t
            · subst htt
              rw [hti,eval_put_self (by rw [hI.1];exact ht)]
              exact hG _ hti
            · rw [hti,eval_put_ne htt]
              refine hmono t w w' _ (hI.2.2.2 t ht (fun j oj hj hdj=>?_)) hb
              have h7:=hdone j oj hj hdj
              have hij:i ≠ j:=by
                rintro rfl
                rw [ho] at hj
                cases hj
                rw [hti] at hdj
                injection hdj with hdj
                exact htt hdj
              rwa [getD_set_ne true hij] at h7
        · rename_i hex
          exact hprog _ (by simpa using hs) hex
        · have hlt2:((List.range ops.size).filter fun j=>!(listed.setIfInBounds i true).getD j true).length < ((List.range ops.size).filter fun j=>!listed.getD j true).length:=by
            have hfil:((List.range ops.size).filter fun j=>!(listed.setIfInBounds i true).getD j true)=((List.range ops.size).filter fun j=>!listed.getD j true).filter fun j=>j != i:=by
              rw [List.filter_filter]
              refine List.filter_congr (fun j hj=>?_)
              by_cases hij:i=j
              · subst hij
                simp [Array.getD_eq_getD_getElem?,hs,hilt]
              · rw [getD_set_ne true hij]
                have:(j != i)=true:=bne_iff_ne.mpr (Ne.symm hij)
                rw [this,Bool.true_and]
            rw [hfil,List.length_filter_lt_length_iff_exists]
            exact ⟨i,List.mem_filter.2 ⟨List.mem_range.2 hilt,by rw [hun];rfl⟩,by simp⟩
          omega
/-- Every edge leads back. -/
def backB (ops:Array Oper):Bool:=(List.range ops.size).all fun i=>match ops[i]? with
  | some o=>o.after.all fun e=>!Region.binds .any e || decide (e.on < i)
  | none=>false
theorem back_ready (hb:backB ops=true) (l:Array Bool) (h:∃ i,i < ops.size∧l.getD i true=false):∃ j,j ∈ Region.ready .any ops l:=by
  have hmin:∀ n i,i≤n→i < ops.size→l.getD i true=false→∃ j,j ∈ Region.ready .any ops l:=by
    intro n
    induction n with
    | zero=>
      intro i hi hlt hun
      obtain rfl:i=0:=by omega
      refine ⟨0,mem_ready.2 ⟨hun,ops[0],Array.getElem?_eq_getElem hlt,fun e he hbd=>?_⟩⟩
      have h1:=List.all_eq_true.1 hb 0 (List.mem_range.2 hlt)
      simp only [Array.getElem?_eq_getElem hlt] at h1
      have h2:=Array.all_eq_true_iff_forall_mem.1 h1 e he
      rw [hbd] at h2
      simp at h2
    | succ n ih=>
      intro i hi hlt hun
      by_cases hall:∀ j,j < i→l.getD j true=true
      · refine ⟨i,mem_ready.2 ⟨hun,ops[i],Array.getElem?_eq_getElem hlt,fun e he hbd=>?_⟩⟩
        have h1:=List.all_eq_true.1 hb i (List.mem_range.2 hlt)
        simp only [Array.getElem?_eq_getElem hlt] at h1
        have h2:=Array.all_eq_true_iff_forall_mem.1 h1 e he
        rw [hbd] at h2
        simp only [Bool.not_true,Bool.false_or,decide_eq_true_eq] at h2
        have h3:=hall e.on h2
        have hun2:i < l.size:=by
          by_cases h5:i < l.size
          · exact h5
          · rw [Array.getD_eq_getD_getElem?,Array.getElem?_eq_none (by omega)] at hun
            simp at hun
        have h4:e.on < l.size:=by omega
        simpa [Array.getD_eq_getD_getElem?,h4] using h3
      · obtain ⟨j,hj⟩:=Classical.not_forall.1 hall
        obtain ⟨hji,hjf⟩:=Classical.not_imp.1 hj
        exact ih j (by omega) (by omega) (by simpa using hjf)
  obtain ⟨i,hi,hun⟩:=h
  exact hmin i i (Nat.le_refl _) hi hun
theorem region_loose {id N:Nat} {G:Nat→World→Value→Prop} {a0:Act} {w0:World} (hm:P.follows .mixedOrders=true) (hd:dstsB ops N=true) (hbk:backB ops=true) (hsz:a0.tmps.size=N)
    (hmono:∀ t w w' v,G t w v→Below w.heap.size w w'→G t w' v)
    (h0:∀ t,t < N→notDst ops t=true→G t w0.drew (a0.eval (.tmp t)))
    (hstep:∀ i o,ops[i]?=some o→∀ a w,Below w0.drew.heap.size w0.drew w→a.tmps.size=N→(∀ t,t < N→avail ops i t=true→G t w (a.eval (.tmp t))) →
      ∀ K:Act→World→Prop,(∀ v w',Below w.heap.size w w'→(∀ t,o.dst=some t→G t w' v)→K (a.put o.dst v) w')→if Region.wanted o (yielded ops a.tmps)=true then Oper.wp P o a w K Q else K (a.put o.dst undef) w)
    (hend:∀ a w,Below w0.drew.heap.size w0.drew w→a.tmps.size=N→a.defers=a0.defers→(∀ t,t < N→G t w (a.eval (.tmp t)))→Q .normal a w) :
    (Code.region id ops true).wp P Q a0 w0:=by
  refine wp_region_any hm ?_
  have hrep:∀ i,i < ops.size→(Array.replicate ops.size false).getD i true=false:=fun i hi=>by simp [Array.getD_eq_getD_getElem?,hi]
  refine loose_go (a0:=a0) (w0:=w0.drew) hmono hd hstep hend ops.size _ a0 w0.drew (by simp) (fun i hi _ h=>by omega) ⟨hsz,rfl,Below.refl _ _,fun t ht hdn=>h0 t ht ?_⟩ (fun h=>back_ready hbk _ h) trivial (fun l _ h=>back_ready hbk l h) ?_
  · unfold notDst
    rw [List.all_eq_true]
    intro o ho
    obtain ⟨i,hi,hoi⟩:=Array.mem_iff_getElem.1 (Array.mem_toList_iff.1 ho)
    cases hdt:o.dst != some t with
    | true=>rfl
    | false=>
      have h1:=hdn i o (by rw [← hoi];exact Array.getElem?_eq_getElem hi) (by simpa using hdt)
      rw [hrep i hi] at h1
      cases h1
  · refine Nat.le_trans (List.length_filter_le _ _) (by simp)
/-- One operation: it yields v and leaves w'. -/
theorem loose_run {o:Oper} {a:Act} {w w':World} {K:Act→World→Prop} {v:Value} (hw:Region.wanted o (yielded ops a.tmps)=true) (hrun:(execOp a.eval o).run P w=.ok (.value v) w') (h:K (a.put o.dst v) w') :
    if Region.wanted o (yielded ops a.tmps)=true then Oper.wp P o a w K Q else K (a.put o.dst undef) w:=by
  rw [if_pos hw]
  unfold Oper.wp
  rw [hrun]
  exact h
theorem loose_call {o : Oper} {a : Act} {w : World} {K : Act → World → Prop} {f : FuncId} {fn : Func} {as : Array Operand} {ts : Array TypeId} (hf : P.funcs[f]? = some fn) (hname : (fn.name == "runtime.NumGoroutine") = false) (hb : fn.body.isSome = true) (args : Array Value)
    (hw:Region.wanted o (yielded ops a.tmps)=true) (hop:o.op=.call { callee:=.value (.func f),args:=as,argTypes:=ts }) (hargs:as.map a.eval=args)
    (h:Calls P f args w fun e w'=>∃ v,e=.returned v∧K (a.put o.dst v) w'):if Region.wanted o (yielded ops a.tmps)=true then Oper.wp P o a w K Q else K (a.put o.dst undef) w:=
  goes_ (N:=o.dst) hf hname hb args hw rfl hop hargs h
theorem loose_want {o og:Oper} {a:Act} {g:Nat} {u:Bool} {t:Tmp} (hg:o.guard=some (g,u)) (ho:ops[g]?=some og) (hd:og.dst=some t) (hv:a.eval (.tmp t)=.bool u):Region.wanted o (yielded ops a.tmps)=true:=by
  have h1:a.tmps[t]?=some (.bool u):=by
    have h2:a.tmps[t]?.getD undef=.bool u:=by simpa [Act.eval,Array.getD_eq_getD_getElem?] using hv
    cases hq:a.tmps[t]? with
    | none=>rw [hq] at h2;simp [undef] at h2
    | some x=>rw [hq] at h2;simpa using h2
  simp [Region.wanted,hg,yielded,ho,hd,h1]
end
end Go.Proofs.Ytcmaifjmnpfmbaa.R
