/- The cells of a report: both sides come to the same. -/
import Derived.Test.YtcmaifjmnpfmbaaRDrill
import Derived.Test.YtcmaifjmnpfmbaaRM19
import Derived.Test.YtcmaifjmnpfmbaaRM20
import Derived.Test.YtcmaifjmnpfmbaaRM24
import Derived.Test.YtcmaifjmnpfmbaaRM37
namespace Go.Proofs.Ytcmaifjmnpfmbaa.R.Proof
open Go.RowKit Go.Proofs.Ytcmaifjmnpfmbaa.R Go.Proofs.YtcmaifjmnpfmbaaW.PrintWords Go.Proofs.YtcmaifjmnpfmbaaW.PrintLast
/-- The sum of the entries' amounts up to a day, exactly. -/
def sumB (am:List S129→Int) (bk:Int) (l:List S84):Int:=(l.map fun e=>if e.f1≤bk then am e.f8 else 0).sum
theorem sumB_cons (am:List S129→Int) (bk:Int) (e:S84) (l:List S84):sumB am bk (e :: l)=(if e.f1≤bk then am e.f8 else 0) + sumB am bk l:=by unfold sumB;rw [List.map_cons,List.sum_cons]
def legsN (l:List S84):Nat:=(l.map fun e=>e.f8.length).sum
theorem legsN_cons (e:S84) (l:List S84):legsN (e :: l)=e.f8.length + legsN l:=by unfold legsN;rw [List.map_cons,List.sum_cons]
theorem sums_ev {f:Nat→List S129→Option (List (ByteArray × Int))} {G:List S129→List (ByteArray × Int)} (bk:Int):∀ (l:List S84) (m:ByteArray→Int) (n:Nat),(∀ e ∈ l,Ev (fun k=>f k e.f8) (G e.f8))→n + legsN l < 4611686018427387904 →
    Ev (fun k=>report_Make.sums (f k) bk l (fun x=>wrap64 (m x)) n) (fun x=>wrap64 (m x + sumB (fun z=>sumOf (G z) x) bk l))
  | [],m,n,_,_=>Ev.congr (fun k=>by unfold report_Make.sums;rfl) (Ev.some_ (by funext x;simp [sumB]))
  | e :: l,m,n,h,hn=>by
    have hr:=fun z hz=>h z (List.mem_cons_of_mem _ hz)
    rw [legsN_cons] at hn
    refine Ev.congr (fun k=>by rw [report_Make.sums]) ?_
    by_cases c:e.f1 > bk
    · refine Ev.congr (fun k=>if_pos c) ?_
      have ih:=sums_ev bk l m n hr (by omega)
      have e2:(fun x=>wrap64 (m x + sumB (fun z=>sumOf (G z) x) bk (e :: l)))=fun x=>wrap64 (m x + sumB (fun z=>sumOf (G z) x) bk l):=by funext x;rw [sumB_cons,if_neg (by omega),Int.zero_add]
      rw [e2];exact ih
    · refine Ev.congr (fun k=>if_neg c) (Ev.bind (h e (List.mem_cons_self ..)) (Ev.congr (fun k=>if_pos (by omega)) ?_))
      have ih:=sums_ev bk l (fun x=>m x + sumOf (G e.f8) x) (n + e.f8.length) hr (by omega)
      have e2:(fun x=>wrap64 (m x + sumB (fun z=>sumOf (G z) x) bk (e :: l)))=fun x=>wrap64 (m x + sumOf (G e.f8) x + sumB (fun z=>sumOf (G z) x) bk l):=by funext x;rw [sumB_cons,if_pos (by omega),Int.add_assoc]
      have e3:(fun x=>wrap64 (wrap64 (m x) + sumOf (G e.f8) x))=fun x=>wrap64 (m x + sumOf (G e.f8) x):=by funext x;rw [wrap_addl]
      rw [e2]
      refine Ev.congr (fun k=>?_) ih
      rw [e3]
def validG (n:Int):Bool:=decide (-1000000000000≤n) && decide (n≤1000000000000)
theorem valid_eq (n:Int):money_Valid.f n=some (validG n):=by
  unfold money_Valid.f validG
  by_cases c:n ≥ (-1000000000000)
  · rw [if_pos c,decide_eq_true (show -1000000000000≤n by omega)];rfl
  · rw [if_neg c,decide_eq_false (show ¬ -1000000000000≤n by omega)];rfl
def cellsG (f:ByteArray→Int) (nm:ByteArray):List S97→List S58→Option (List S58)
  | [],acc=>some acc
  | c :: cs,acc=>if validG (f c.f0)=true then cellsG f nm cs (acc ++ [⟨nm,c.f0,f c.f0⟩]) else none
theorem cellsG_len (f:ByteArray→Int) (nm:ByteArray):∀ cs acc a,cellsG f nm cs acc=some a→a.length=acc.length + cs.length
  | [],acc,a,h=>by injection h with h;rw [← h];rfl
  | c :: cs,acc,a,h=>by
    rw [cellsG] at h
    split at h
    · have:=cellsG_len f nm cs _ a h
      rw [List.length_append,List.length_singleton] at this
      rw [List.length_cons];omega
    · cases h
theorem cur_eq (f:ByteArray→Int) (nm:ByteArray):∀ (cs:List S97) (acc:List S58),(∀ c ∈ cs,c.f0.size≤140737488351232)→acc.length + cs.length < 3518437208883→report_Make.cur f nm cs acc=some (cellsG f nm cs acc)
  | [],acc,_,_=>rfl
  | c :: cs,acc,h,hn=>by
    rw [List.length_cons] at hn
    rw [report_Make.cur,if_pos (h c (List.mem_cons_self ..)),valid_eq,Option.bind_some,cellsG]
    by_cases v:validG (f c.f0)=true
    · rw [if_pos v,if_pos v,if_pos (by omega)]
      exact cur_eq f nm cs _ (fun z hz=>h z (List.mem_cons_of_mem _ hz)) (by rw [List.length_append,List.length_singleton];omega)
    · rw [if_neg v,if_neg v]
def makeG (F:S48→ByteArray→Int) (cu:List S97):List S48→List S58→List S58 × Int
  | [],acc=>(acc,0)
  | r :: rs,acc=>(cellsG (F r) r.f0 cu acc).elim ([],6) (fun a=>makeG F cu rs a)
theorem makeG_len (F:S48→ByteArray→Int) (cu:List S97):∀ l acc,(makeG F cu l acc).1.length≤acc.length + l.length * cu.length
  | [],acc=>by simp [makeG]
  | r :: rs,acc=>by
    rw [makeG]
    cases h:cellsG (F r) r.f0 cu acc with
    | none=>simp
    | some a=>
      have h1:=makeG_len F cu rs a
      have h2:=cellsG_len _ _ _ _ _ h
      rw [List.length_cons,Nat.succ_mul]
      show (makeG F cu rs a).1.length≤_
      omega
theorem rows_ev {f:Nat→S48→List S129→Option (List (ByteArray × Int))} {G:S48→List S129→List (ByteArray × Int)} (bk:Int) (j:List S84) (cu:List S97) (hcu:∀ c ∈ cu,c.f0.size≤140737488351232) (hleg:legsN j < 4611686018427387904) :
    ∀ (l:List S48) (acc:List S58),(∀ r ∈ l,∀ e ∈ j,Ev (fun k=>f k r e.f8) (G r e.f8))→acc.length + l.length * cu.length < 3518437208883 →
    Ev (fun k=>report_Make.rows (f k) bk j cu l acc) (makeG (fun r x=>wrap64 (sumB (fun z=>sumOf (G r z) x) bk j)) cu l acc)
  | [],acc,_,_=>Ev.congr (fun k=>by unfold report_Make.rows;rfl) (Ev.now _)
  | r :: l,acc,h,hn=>by
    rw [List.length_cons,Nat.succ_mul] at hn
    have h0:=sums_ev (f:=fun k=>f k r) (G:=G r) bk j (fun _=>0) 0 (h r (List.mem_cons_self ..)) (by omega)
    have e0:(fun x:ByteArray=>wrap64 ((fun _=>(0:Int)) x))=fun _=>0:=by funext x;exact wrap_zero
    have e1:(fun x=>wrap64 ((fun _=>(0:Int)) x + sumB (fun z=>sumOf (G r z) x) bk j))=fun x=>wrap64 (sumB (fun z=>sumOf (G r z) x) bk j):=by funext x;rw [Int.zero_add]
    rw [e1] at h0
    refine Ev.congr (fun k=>by rw [report_Make.rows]) (Ev.bind (Ev.congr (fun k=>by rw [e0]) h0) ?_)
    refine Ev.congr (fun k=>by rw [cur_eq _ _ _ _ hcu (by omega),Option.bind_some]) ?_
    rw [makeG]
    cases hc:cellsG (fun x=>wrap64 (sumB (fun z=>sumOf (G r z) x) bk j)) r.f0 cu acc with
    | none=>exact Ev.now _
    | some a=>
      have h2:=cellsG_len _ _ _ _ _ hc
      exact rows_ev bk j cu hcu hleg l a (fun z hz=>h z (List.mem_cons_of_mem _ hz)) (by omega)
theorem same_cells (l:List S58) (hn:l.length≤9223372036854775807):Ev (fun k=>corebankref49_SameCells.f k l l) true:=by
  have h:∀ d i:Nat,l.length - i=d→i≤l.length→Ev (fun k=>corebankref49_SameCells.l0 k l l (i:Int)) true:=by
    intro d
    induction d with
    | zero=>
      intro i hd hi
      exact Ev.step (f:=fun _=>some true) (fun k=>by simp only [corebankref49_SameCells.l0];rw [if_neg (by omega)]) (Ev.now _)
    | succ d ih=>
      intro i hd hi
      have hlt:i < l.length:=by omega
      exact Ev.step (fun k=>by simp only [corebankref49_SameCells.l0];rw [if_pos (by omega),if_pos (by omega),if_pos (by omega),if_neg (by simp),wrap_inc hlt hn]) (ih (i + 1) (by omega) (by omega))
  exact Ev.congr (fun k=>by unfold corebankref49_SameCells.f;rw [if_pos rfl];rfl) (h l.length 0 (by omega) (Nat.zero_le _))
section
variable (l0:List S97) (l1:List S86) (l2:List S62) (a3:Int) (a4:Int) (a5:Int) (a6:Int) (a7:Int) (a8:Int) (a9:Int) (a10:Int) (a11:Int) (a12:Int) (a13:Int) (a14:Int) (a15:Int) (a16:Int) (l17:List S79) (l18:List S90) (l19:List S84) (l20:List S119) (l21:List S180)
/-- The amount of a cell. -/
def cellG (ch:List S62) (dep:Int) (acc:List S90) (j:List S84) (bk:Int) (r:S48) (x:ByteArray):Int:=wrap64 (sumB (amB ch dep acc r.f1 r.f2 x) bk j)
def madeG (l:List S48) (bk:Int):List S58 × Int:=if checkG l2 l=0 then makeG (cellG l2 a4 l18 l19 bk) l0 l [] else ([],checkG l2 l)
theorem made_ev (l:List S48) (bk:Int) (h0:∀ c ∈ l0,c.f0.size≤140737488351232) (hc:l2.length≤9223372036854775807) (hj:okJ l19) (hleg:legsN l19 < 4611686018427387904) (hn:l.length≤9223372036854775807) (hok:∀ r ∈ l,okRow r) (hsz:l.length * l0.length < 3518437208883) :
    Ev (fun k=>report_Make.f k l0 l1 l2 a3 a4 a5 a6 a7 a8 a9 a10 a11 a12 a13 a14 a15 a16 l17 l18 l19 l20 l21 l bk) (madeG l0 l2 a4 l18 l19 l bk):=by
  unfold madeG
  refine Ev.congr (fun k=>by unfold report_Make.f;rfl) (Ev.bind (check_ev l0 l1 l2 a3 a4 a5 a6 a7 a8 a9 a10 a11 a12 a13 a14 a15 a16 l17 l18 l19 l20 l21 l hc hn hok) ?_)
  by_cases c:checkG l2 l=0
  · rw [if_pos c]
    refine Ev.congr (fun k=>if_pos c) ?_
    have h:=rows_ev (f:=fun k r z=>report_amounts.f k l0 l1 l2 a3 a4 a5 a6 a7 a8 a9 a10 a11 a12 a13 a14 a15 a16 l17 l18 l19 l20 l21 r.f0 r.f1 r.f2 z) (G:=fun r=>contrG (belG l2 a4 l18 r.f2) r.f1) bk l19 l0 h0 hleg l [] (fun r hr e he=>am_ev l0 l1 l2 a3 a4 a5 a6 a7 a8 a9 a10 a11 a12 a13 a14 a15 a16 l17 l18 l19 l20 l21 r.f0 r.f1 r.f2 e.f8 hc (hok r hr).2 (hj.2 e he).2) (by simpa using hsz)
    simp only [sumOf_contr] at h
    exact h
  · rw [if_neg c];exact Ev.congr (fun k=>if_neg c) (Ev.now _)
/-! ### the reference -/
def outG (n:Int):Int × Int:=if validG n=true then (n,0) else (0,6)
theorem rcell_ev (n:ByteArray) (s:Int) (roots:List Int) (x:ByteArray) (bk:Int) (hc:l2.length≤9223372036854775807) (h18:l18.length≤9223372036854775807) (hj:okJ l19) (hr:roots.length≤9223372036854775807) :
    Ev (fun k=>corebankref49_cell.f k l0 l1 l2 a3 a4 a5 a6 a7 a8 a9 a10 a11 a12 a13 a14 a15 a16 l17 l18 l19 l20 l21 n s roots x bk) (outG (wrap64 (sumB (amB l2 a4 l18 s roots x) bk l19))):=by
  have hn:=hj.1
  have h:∀ d i:Nat,l19.length - i=d→i≤l19.length→∀ m:Int,Ev (fun k=>corebankref49_cell.l0 k x bk (wrap64 m) (i:Int) l0 l1 l2 a3 a4 a5 a6 a7 a8 a9 a10 a11 a12 a13 a14 a15 a16 l17 l18 l19 l20 l21 n s roots) (outG (wrap64 (m + sumB (amB l2 a4 l18 s roots x) bk (l19.drop i)))):=by
    intro d
    induction d with
    | zero=>
      intro i hd hi m
      refine Ev.step (f:=fun _=>some (outG (wrap64 m))) (fun k=>?_) (Ev.some_ ?_)
      · simp only [corebankref49_cell.l0];rw [if_neg (by omega)]
        unfold outG validG
        by_cases c1:wrap64 m < (-1000000000000)
        · rw [if_pos c1,decide_eq_false (show ¬ -1000000000000≤wrap64 m by omega)];rfl
        · rw [if_neg c1,decide_eq_true (show -1000000000000≤wrap64 m by omega)]
          by_cases c2:wrap64 m > 1000000000000
          · rw [if_pos c2,decide_eq_false (show ¬ wrap64 m≤1000000000000 by omega)];rfl
          · rw [if_neg c2,decide_eq_true (show wrap64 m≤1000000000000 by omega)];rfl
      · rw [List.drop_of_length_le (by omega)];simp [sumB]
    | succ d ih=>
      intro i hd hi m
      have hlt:i < l19.length:=by omega
      rw [drop_at hlt,sumB_cons]
      by_cases c:l19[i].f1 > bk
      · rw [if_neg (by omega),Int.zero_add]
        exact Ev.step (fun k=>by simp only [corebankref49_cell.l0];rw [if_pos (by omega),if_pos (by omega),rd84_at hlt,if_pos c,wrap_inc hlt (by omega)]) (ih (i + 1) (by omega) (by omega) m)
      · rw [if_pos (by omega)]
        refine Ev.step (f:=fun k=>(corebankref49_amount.f k l0 l1 l2 a3 a4 a5 a6 a7 a8 a9 a10 a11 a12 a13 a14 a15 a16 l17 l18 l19 l20 l21 n s roots x l19[i].f0 l19[i].f1 l19[i].f2 l19[i].f3 l19[i].f4 l19[i].f5 l19[i].f6 l19[i].f7 l19[i].f8 l19[i].f9).bind fun t=>corebankref49_cell.l0 k x bk (wrap64 (wrap64 m + t)) ((i + 1:Nat):Int) l0 l1 l2 a3 a4 a5 a6 a7 a8 a9 a10 a11 a12 a13 a14 a15 a16 l17 l18 l19 l20 l21 n s roots) (fun k=>by simp only [corebankref49_cell.l0];rw [if_pos (by omega),if_pos (by omega),rd84_at hlt,if_neg c,wrap_inc hlt (by omega)]) ?_
        refine Ev.bind (ram_ev l0 l1 l2 a3 a4 a5 a6 a7 a8 a9 a10 a11 a12 a13 a14 a15 a16 l17 l18 l19 l20 l21 n s roots x _ _ _ _ _ _ _ _ _ _ hc h18 hr (hj.2 _ (List.getElem_mem hlt)).1) ?_
        refine Ev.congr (fun k=>by rw [wrap_addl]) ?_
        have:=ih (i + 1) (by omega) (by omega) (m + amB l2 a4 l18 s roots x l19[i].f8)
        rwa [Int.add_assoc] at this
  have h1:=h l19.length 0 (by omega) (Nat.zero_le _) 0
  rw [List.drop_zero,Int.zero_add,wrap_zero] at h1
  exact Ev.congr (fun k=>by unfold corebankref49_cell.f;rfl) h1
theorem rmade_ev (l:List S48) (bk:Int) (h0:l0.length≤9223372036854775807) (hc:l2.length≤9223372036854775807) (h18:l18.length≤9223372036854775807) (hj:okJ l19) (hn:l.length≤9223372036854775807) (hok:∀ r ∈ l,okRow r) (hsz:l.length * l0.length < 3518437208883) :
    Ev (fun k=>corebankref49_Make.f k l0 l1 l2 a3 a4 a5 a6 a7 a8 a9 a10 a11 a12 a13 a14 a15 a16 l17 l18 l19 l20 l21 l bk) (madeG l0 l2 a4 l18 l19 l bk):=by
  have h:∀ d i:Nat,l.length - i=d→i≤l.length→∀ acc:List S58,acc.length + (l.length - i) * l0.length < 3518437208883→Ev (fun k=>corebankref49_Make.l0 k l bk acc (i:Int) l0 l1 l2 a3 a4 a5 a6 a7 a8 a9 a10 a11 a12 a13 a14 a15 a16 l17 l18 l19 l20 l21) (makeG (cellG l2 a4 l18 l19 bk) l0 (l.drop i) acc):=by
    intro d
    induction d with
    | zero=>
      intro i hd hi acc ha
      refine Ev.step (f:=fun _=>some (acc,0)) (fun k=>by simp only [corebankref49_Make.l0];rw [if_neg (by omega)]) (Ev.some_ ?_)
      rw [List.drop_of_length_le (by omega)];rfl
    | succ d ih=>
      intro i hd hi acc ha
      have hlt:i < l.length:=by omega
      rw [drop_at hlt,makeG]
      have e9:l.length - i=(l.length - (i + 1)) + 1:=by omega
      rw [e9,Nat.succ_mul] at ha
      have hin:∀ d2 j:Nat,l0.length - j=d2→j≤l0.length→∀ acc:List S58,acc.length + (l0.length - j) + (l.length - (i + 1)) * l0.length < 3518437208883→Ev (fun k=>corebankref49_Make.l1 k l bk acc (i:Int) (j:Int) l0 l1 l2 a3 a4 a5 a6 a7 a8 a9 a10 a11 a12 a13 a14 a15 a16 l17 l18 l19 l20 l21) ((cellsG (cellG l2 a4 l18 l19 bk l[i]) l[i].f0 (l0.drop j) acc).elim ([],6) (fun a=>makeG (cellG l2 a4 l18 l19 bk) l0 (l.drop (i + 1)) a)):=by
        intro d2
        induction d2 with
        | zero=>
          intro j hd2 hj2 acc ha2
          rw [List.drop_of_length_le (show l0.length≤j by omega),cellsG]
          refine Ev.step (f:=fun k=>corebankref49_Make.l0 k l bk acc ((i + 1:Nat):Int) l0 l1 l2 a3 a4 a5 a6 a7 a8 a9 a10 a11 a12 a13 a14 a15 a16 l17 l18 l19 l20 l21) (fun k=>by simp only [corebankref49_Make.l1];rw [if_neg (by omega),wrap_inc hlt hn]) ?_
          exact ih (i + 1) (by omega) (by omega) acc (by omega)
        | succ d2 ih2=>
          intro j hd2 hj2 acc ha2
          have hlt2:j < l0.length:=by omega
          rw [drop_at hlt2,cellsG]
          refine Ev.step (f:=fun k=>(corebankref49_cell.f k l0 l1 l2 a3 a4 a5 a6 a7 a8 a9 a10 a11 a12 a13 a14 a15 a16 l17 l18 l19 l20 l21 l[i].f0 l[i].f1 l[i].f2 l0[j].f0 bk).bind fun bt312=>if bt312.2=0 then (if acc.length < 3518437208883 then corebankref49_Make.l1 k l bk (acc ++ [(⟨l[i].f0,l0[j].f0,bt312.1⟩:S58)]) (i:Int) ((j + 1:Nat):Int) l0 l1 l2 a3 a4 a5 a6 a7 a8 a9 a10 a11 a12 a13 a14 a15 a16 l17 l18 l19 l20 l21 else none) else some (([]:List S58),bt312.2)) (fun k=>by simp only [corebankref49_Make.l1];rw [if_pos (by omega),if_pos (by omega),if_pos (by omega),if_pos (by omega),rd48_at hlt,rd97_at hlt2,wrap_inc hlt2 h0]) ?_
          refine Ev.bind (rcell_ev l0 l1 l2 a3 a4 a5 a6 a7 a8 a9 a10 a11 a12 a13 a14 a15 a16 l17 l18 l19 l20 l21 _ _ _ _ _ hc h18 hj (hok _ (List.getElem_mem hlt)).2) ?_
          by_cases v:validG (cellG l2 a4 l18 l19 bk l[i] l0[j].f0)=true
          · have ho:outG (wrap64 (sumB (amB l2 a4 l18 l[i].f1 l[i].f2 l0[j].f0) bk l19))=(cellG l2 a4 l18 l19 bk l[i] l0[j].f0,0):=if_pos v
            rw [ho,if_pos v]
            exact Ev.congr (fun k=>by rw [if_pos rfl,if_pos (by omega)]) (ih2 (j + 1) (by omega) (by omega) _ (by rw [List.length_append,List.length_singleton];omega))
          · have ho:outG (wrap64 (sumB (amB l2 a4 l18 l[i].f1 l[i].f2 l0[j].f0) bk l19))=(0,6):=if_neg v
            rw [ho,if_neg v]
            exact Ev.congr (fun k=>if_neg (by decide)) (Ev.now _)
      refine Ev.step (f:=fun k=>corebankref49_Make.l1 k l bk acc (i:Int) ((0:Nat):Int) l0 l1 l2 a3 a4 a5 a6 a7 a8 a9 a10 a11 a12 a13 a14 a15 a16 l17 l18 l19 l20 l21) (fun k=>by simp only [corebankref49_Make.l0];rw [if_pos (by omega)];rfl) ?_
      have:=hin l0.length 0 (by omega) (Nat.zero_le _) acc (by omega)
      rw [List.drop_zero] at this
      exact this
  unfold madeG
  refine Ev.congr (fun k=>by unfold corebankref49_Make.f;rfl) (Ev.bind (rcheck_ev l0 l1 l2 a3 a4 a5 a6 a7 a8 a9 a10 a11 a12 a13 a14 a15 a16 l17 l18 l19 l20 l21 l hc hn hok) ?_)
  by_cases c:checkG l2 l=0
  · rw [if_pos c]
    have:=h l.length 0 (by omega) (Nat.zero_le _) [] (by simpa using hsz)
    rw [List.drop_zero] at this
    exact Ev.congr (fun k=>if_pos c) this
  · rw [if_neg c];exact Ev.congr (fun k=>if_neg c) (Ev.now _)
/-! ### the bounds -/
theorem great_small (h:Ev (fun k=>corebankref25_Great.f k l0 l1 l2 a3 a4 a5 a6 a7 a8 a9 a10 a11 a12 a13 a14 a15 a16 l17 l18 l19 l20 l21) false):l0.length≤20∧l19.length≤150:=by
  have hj:Ev (fun k=>corebankref25_Great.j0 k true l0 l1 l2 a3 a4 a5 a6 a7 a8 a9 a10 a11 a12 a13 a14 a15 a16 l17 l18 l19 l20 l21) true:=Ev.step (f:=fun _=>some true) (fun k=>by simp only [corebankref25_Great.j0];rfl) (Ev.now _)
  refine ⟨Nat.le_of_not_lt fun c=>?_,Nat.le_of_not_lt fun c=>?_⟩
  · have h1:Ev (fun k=>corebankref25_Great.f k l0 l1 l2 a3 a4 a5 a6 a7 a8 a9 a10 a11 a12 a13 a14 a15 a16 l17 l18 l19 l20 l21) true:=Ev.congr (fun k=>by unfold corebankref25_Great.f;rw [if_pos (by omega)]) hj
    cases Ev.det h h1
  · have h1:Ev (fun k=>corebankref25_Great.f k l0 l1 l2 a3 a4 a5 a6 a7 a8 a9 a10 a11 a12 a13 a14 a15 a16 l17 l18 l19 l20 l21) true:=by
      by_cases c0:(l0.length:Int) > 20
      · exact Ev.congr (fun k=>by unfold corebankref25_Great.f;rw [if_pos c0]) hj
      by_cases c1:(l1.length:Int) > 10
      · exact Ev.congr (fun k=>by unfold corebankref25_Great.f;rw [if_neg c0,if_pos c1]) hj
      by_cases c2:(l2.length:Int) > 60
      · exact Ev.congr (fun k=>by unfold corebankref25_Great.f;rw [if_neg c0,if_neg c1,if_pos c2]) hj
      by_cases c3:(l17.length:Int) > 20
      · exact Ev.congr (fun k=>by unfold corebankref25_Great.f;rw [if_neg c0,if_neg c1,if_neg c2,if_pos c3]) hj
      by_cases c4:(l18.length:Int) > 40
      · exact Ev.congr (fun k=>by unfold corebankref25_Great.f;rw [if_neg c0,if_neg c1,if_neg c2,if_neg c3,if_pos c4]) hj
      exact Ev.congr (fun k=>by unfold corebankref25_Great.f;rw [if_neg c0,if_neg c1,if_neg c2,if_neg c3,if_neg c4,if_pos (by omega)]) hj
    cases Ev.det h h1
theorem great_rows (l:List S48) (h:Ev (fun k=>corebankref49_Great.f k l) false):l.length≤100:=by
  refine Nat.le_of_not_lt fun c=>?_
  have h1:Ev (fun k=>corebankref49_Great.f k l) true:=Ev.congr (fun k=>by unfold corebankref49_Great.f;rw [if_pos (by omega)]) (Ev.now _)
  cases Ev.det h h1
theorem legs_bound {l:List S84} (h:okSl 112 ok84 l) (hn:l.length≤150):legsN l < 4611686018427387904:=by
  have h1:∀ m:List S84,(∀ e ∈ m,e.f8.length≤140737488351232)→legsN m≤m.length * 140737488351232:=by
    intro m
    induction m with
    | nil=>intro _;simp [legsN]
    | cons e m ih=>
      intro hm
      have:=ih (fun z hz=>hm z (List.mem_cons_of_mem _ hz))
      have:=hm e (List.mem_cons_self ..)
      rw [legsN_cons,List.length_cons,Nat.succ_mul];omega
  have h2:=h1 l (fun e he=>by
    obtain ⟨_,_,_,_,_,_,_,_,h8,_⟩:=h.2.2 e he
    have:=h8.1;omega)
  omega
end
end Go.Proofs.Ytcmaifjmnpfmbaa.R.Proof
