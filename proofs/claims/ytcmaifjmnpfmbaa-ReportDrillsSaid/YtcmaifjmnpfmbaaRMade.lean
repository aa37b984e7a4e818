/- The cells of a report: both sides come to the same. -/
import Derived.Test.YtcmaifjmnpfmbaaRDrill
import Derived.Test.YtcmaifjmnpfmbaaRx19
import Derived.Test.YtcmaifjmnpfmbaaRx20
import Derived.Test.YtcmaifjmnpfmbaaRx21
import Derived.Test.YtcmaifjmnpfmbaaRx0
import Derived.Test.YtcmaifjmnpfmbaaRx15
namespace Go.Proofs.Ytcmaifjmnpfmbaa.R.Proof
open Go.RowKit Go.Proofs.Ytcmaifjmnpfmbaa.R Go.Proofs.YtcmaifjmnpfmbaaW.PrintWords Go.Proofs.YtcmaifjmnpfmbaaW.PrintLast
/-- The sum of the entries' amounts up to a day, exactly. -/
def sumB (am : List S129 → Int) (bk : Int) (l : List S84) : Int := (l.map fun e => if e.f1 ≤ bk then am e.f8 else 0).sum
theorem sumB_cons (am : List S129 → Int) (bk : Int) (e : S84) (l : List S84) : sumB am bk (e :: l) = (if e.f1 ≤ bk then am e.f8 else 0) + sumB am bk l := by unfold sumB; rw [List.map_cons, List.sum_cons]
def legsN (l : List S84) : Nat := (l.map fun e => e.f8.length).sum
theorem legsN_cons (e : S84) (l : List S84) : legsN (e :: l) = e.f8.length + legsN l := by unfold legsN; rw [List.map_cons, List.sum_cons]
theorem sums_ev {f : Nat → List S129 → Option (List (ByteArray × Int))} {G : List S129 → List (ByteArray × Int)} (bk : Int) : ∀ (l : List S84) (m : ByteArray → Int) (n : Nat), (∀ e ∈ l, Ev (fun k => f k e.f8) (G e.f8)) → n + legsN l < 4611686018427387904 →
    Ev (fun k => report_Make.sums (f k) bk l (fun x => wrap64 (m x)) n) (fun x => wrap64 (m x + sumB (fun z => sumOf (G z) x) bk l))
  | [], m, n, _, _ => Ev.congr (fun k => by unfold report_Make.sums; rfl) (Ev.some_ (by funext x; simp [sumB]))
  | e :: l, m, n, h, hn => by
    have hr := fun z hz => h z (List.mem_cons_of_mem _ hz)
    rw [legsN_cons] at hn
    refine Ev.congr (fun k => by rw [report_Make.sums]) ?_
    by_cases c : e.f1 > bk
    · refine Ev.congr (fun k => if_pos c) ?_
      have ih := sums_ev bk l m n hr (by omega)
      have e2 : (fun x => wrap64 (m x + sumB (fun z => sumOf (G z) x) bk (e :: l))) = fun x => wrap64 (m x + sumB (fun z => sumOf (G z) x) bk l) := by funext x; rw [sumB_cons, if_neg (by omega), Int.zero_add]
      rw [e2]; exact ih
    · refine Ev.congr (fun k => if_neg c) (Ev.bind (h e (List.mem_cons_self ..)) (Ev.congr (fun k => if_pos (by omega)) ?_))
      have ih := sums_ev bk l (fun x => m x + sumOf (G e.f8) x) (n + e.f8.length) hr (by omega)
      have e2 : (fun x => wrap64 (m x + sumB (fun z => sumOf (G z) x) bk (e :: l))) = fun x => wrap64 (m x + sumOf (G e.f8) x + sumB (fun z => sumOf (G z) x) bk l) := by funext x; rw [sumB_cons, if_pos (by omega), Int.add_assoc]
      have e3 : (fun x => wrap64 (wrap64 (m x) + sumOf (G e.f8) x)) = fun x => wrap64 (m x + sumOf (G e.f8) x) := by funext x; rw [wrap_addl]
      rw [e2]
      refine Ev.congr (fun k => ?_) ih
      rw [e3]
def validG (n : Int) : Bool := decide (-1000000000000 ≤ n) && decide (n ≤ 1000000000000)
theorem valid_eq (n : Int) : money_Valid.f n = some (validG n) := by
  unfold money_Valid.f validG
  by_cases c : n ≥ (-1000000000000)
  · rw [if_pos c, decide_eq_true (show -1000000000000 ≤ n by omega)]; rfl
  · rw [if_neg c, decide_eq_false (show ¬ -1000000000000 ≤ n by omega)]; rfl
def cellsG (f : ByteArray → Int) (nm : ByteArray) : List S97 → List S58 → Option (List S58)
  | [], acc => some acc
  | c :: cs, acc => if validG (f c.f0) = true then cellsG f nm cs (acc ++ [⟨nm, c.f0, f c.f0⟩]) else none
theorem cellsG_len (f : ByteArray → Int) (nm : ByteArray) : ∀ cs acc a, cellsG f nm cs acc = some a → a.length = acc.length + cs.length
  | [], acc, a, h => by injection h with h; rw [← h]; rfl
  | c :: cs, acc, a, h => by
    rw [cellsG] at h
    split at h
    · have := cellsG_len f nm cs _ a h
      rw [List.length_append, List.length_singleton] at this
      rw [List.length_cons]; omega
    · cases h
theorem cur_eq (f : ByteArray → Int) (nm : ByteArray) : ∀ (cs : List S97) (acc : List S58), (∀ c ∈ cs, c.f0.size ≤ 140737488351232) → acc.length + cs.length < 3518437208883 → report_Make.cur f nm cs acc = some (cellsG f nm cs acc)
  | [], acc, _, _ => rfl
  | c :: cs, acc, h, hn => by
    rw [List.length_cons] at hn
    rw [report_Make.cur, if_pos (h c (List.mem_cons_self ..)), valid_eq, Option.bind_some, cellsG]
    by_cases v : validG (f c.f0) = true
    · rw [if_pos v, if_pos v, if_pos (by omega)]
      exact cur_eq f nm cs _ (fun z hz => h z (List.mem_cons_of_mem _ hz)) (by rw [List.length_append, List.length_singleton]; omega)
    · rw [if_neg v, if_neg v]
def makeG (F : S48 → ByteArray → Int) (cu : List S97) : List S48 → List S58 → List S58 × Int
  | [], acc => (acc, 0)
  | r :: rs, acc => (cellsG (F r) r.f0 cu acc).elim ([], 6) (fun a => makeG F cu rs a)
theorem rows_ev {f : Nat → S48 → List S129 → Option (List (ByteArray × Int))} {G : S48 → List S129 → List (ByteArray × Int)} (bk : Int) (j : List S84) (cu : List S97) (hcu : ∀ c ∈ cu, c.f0.size ≤ 140737488351232) (hleg : legsN j < 4611686018427387904) :
    ∀ (l : List S48) (acc : List S58), (∀ r ∈ l, ∀ e ∈ j, Ev (fun k => f k r e.f8) (G r e.f8)) → acc.length + l.length * cu.length < 3518437208883 →
    Ev (fun k => report_Make.rows (f k) bk j cu l acc) (makeG (fun r x => wrap64 (sumB (fun z => sumOf (G r z) x) bk j)) cu l acc)
  | [], acc, _, _ => Ev.congr (fun k => by unfold report_Make.rows; rfl) (Ev.now _)
  | r :: l, acc, h, hn => by
    rw [List.length_cons, Nat.succ_mul] at hn
    have h0 := sums_ev (f := fun k => f k r) (G := G r) bk j (fun _ => 0) 0 (h r (List.mem_cons_self ..)) (by omega)
    have e0 : (fun x : ByteArray => wrap64 ((fun _ => (0 : Int)) x)) = fun _ => 0 := by funext x; exact wrap_zero
    have e1 : (fun x => wrap64 ((fun _ => (0 : Int)) x + sumB (fun z => sumOf (G r z) x) bk j)) = fun x => wrap64 (sumB (fun z => sumOf (G r z) x) bk j) := by funext x; rw [Int.zero_add]
    rw [e1] at h0
    refine Ev.congr (fun k => by rw [report_Make.rows]) (Ev.bind (Ev.congr (fun k => by rw [e0]) h0) ?_)
    refine Ev.congr (fun k => by rw [cur_eq _ _ _ _ hcu (by omega), Option.bind_some]) ?_
    rw [makeG]
    cases hc : cellsG (fun x => wrap64 (sumB (fun z => sumOf (G r z) x) bk j)) r.f0 cu acc with
    | none => exact Ev.now _
    | some a =>
      have h2 := cellsG_len _ _ _ _ _ hc
      exact rows_ev bk j cu hcu hleg l a (fun z hz => h z (List.mem_cons_of_mem _ hz)) (by omega)
section
variable (l0 : List S97) (l1 : List S86) (l2 : List S62) (a3 : Int) (a4 : Int) (a5 : Int) (a6 : Int) (a7 : Int) (a8 : Int) (a9 : Int) (a10 : Int) (a11 : Int) (a12 : Int) (a13 : Int) (a14 : Int) (a15 : Int) (a16 : Int) (l17 : List S79) (l18 : List S90) (l19 : List S84) (l20 : List S119) (l21 : List S180)
/-- The amount of a cell. -/
def cellG (ch : List S62) (dep : Int) (acc : List S90) (j : List S84) (bk : Int) (r : S48) (x : ByteArray) : Int := wrap64 (sumB (amB ch dep acc r.f1 r.f2 x) bk j)
def madeG (l : List S48) (bk : Int) : List S58 × Int := if checkG l2 l = 0 then makeG (cellG l2 a4 l18 l19 bk) l0 l [] else ([], checkG l2 l)
theorem made_ev (l : List S48) (bk : Int) (h0 : ∀ c ∈ l0, c.f0.size ≤ 140737488351232) (hc : l2.length ≤ 9223372036854775807) (hj : okJ l19) (hleg : legsN l19 < 4611686018427387904) (hn : l.length ≤ 9223372036854775807) (hok : ∀ r ∈ l, okRow r) (hsz : l.length * l0.length < 3518437208883) :
    Ev (fun k => report_Make.f k l0 l1 l2 a3 a4 a5 a6 a7 a8 a9 a10 a11 a12 a13 a14 a15 a16 l17 l18 l19 l20 l21 l bk) (madeG l0 l2 a4 l18 l19 l bk) := by
  unfold madeG
  refine Ev.congr (fun k => by unfold report_Make.f; rfl) (Ev.bind (check_ev l0 l1 l2 a3 a4 a5 a6 a7 a8 a9 a10 a11 a12 a13 a14 a15 a16 l17 l18 l19 l20 l21 l hc hn hok) ?_)
  by_cases c : checkG l2 l = 0
  · rw [if_pos c]
    refine Ev.congr (fun k => if_pos c) ?_
    have h := rows_ev (f := fun k r z => report_amounts.f k l0 l1 l2 a3 a4 a5 a6 a7 a8 a9 a10 a11 a12 a13 a14 a15 a16 l17 l18 l19 l20 l21 r.f0 r.f1 r.f2 z) (G := fun r => contrG (belG l2 a4 l18 r.f2) r.f1) bk l19 l0 h0 hleg l [] (fun r hr e he => am_ev l0 l1 l2 a3 a4 a5 a6 a7 a8 a9 a10 a11 a12 a13 a14 a15 a16 l17 l18 l19 l20 l21 r.f0 r.f1 r.f2 e.f8 hc (hok r hr).2 (hj.2 e he).2) (by simpa using hsz)
    simp only [sumOf_contr] at h
    exact h
  · rw [if_neg c]; exact Ev.congr (fun k => if_neg c) (Ev.now _)
/-! ### the reference -/
/-! ### the bounds -/
theorem great_small (h : Ev (fun k => corebankref25_Great.f k l0 l1 l2 a3 a4 a5 a6 a7 a8 a9 a10 a11 a12 a13 a14 a15 a16 l17 l18 l19 l20 l21) false) : l0.length ≤ 20 ∧ l19.length ≤ 150 := by
  have hj : Ev (fun k => corebankref25_Great.j0 k true l0 l1 l2 a3 a4 a5 a6 a7 a8 a9 a10 a11 a12 a13 a14 a15 a16 l17 l18 l19 l20 l21) true := Ev.step (f := fun _ => some true) (fun k => by simp only [corebankref25_Great.j0]; rfl) (Ev.now _)
  refine ⟨Nat.le_of_not_lt fun c => ?_, Nat.le_of_not_lt fun c => ?_⟩
  · have h1 : Ev (fun k => corebankref25_Great.f k l0 l1 l2 a3 a4 a5 a6 a7 a8 a9 a10 a11 a12 a13 a14 a15 a16 l17 l18 l19 l20 l21) true := Ev.congr (fun k => by unfold corebankref25_Great.f; rw [if_pos (by omega)]) hj
    cases Ev.det h h1
  · have h1 : Ev (fun k => corebankref25_Great.f k l0 l1 l2 a3 a4 a5 a6 a7 a8 a9 a10 a11 a12 a13 a14 a15 a16 l17 l18 l19 l20 l21) true := by
      by_cases c0 : (l0.length : Int) > 20
      · exact Ev.congr (fun k => by unfold corebankref25_Great.f; rw [if_pos c0]) hj
      by_cases c1 : (l1.length : Int) > 10
      · exact Ev.congr (fun k => by unfold corebankref25_Great.f; rw [if_neg c0, if_pos c1]) hj
      by_cases c2 : (l2.length : Int) > 60
      · exact Ev.congr (fun k => by unfold corebankref25_Great.f; rw [if_neg c0, if_neg c1, if_pos c2]) hj
      by_cases c3 : (l17.length : Int) > 20
      · exact Ev.congr (fun k => by unfold corebankref25_Great.f; rw [if_neg c0, if_neg c1, if_neg c2, if_pos c3]) hj
      by_cases c4 : (l18.length : Int) > 40
      · exact Ev.congr (fun k => by unfold corebankref25_Great.f; rw [if_neg c0, if_neg c1, if_neg c2, if_neg c3, if_pos c4]) hj
      exact Ev.congr (fun k => by unfold corebankref25_Great.f; rw [if_neg c0, if_neg c1, if_neg c2, if_neg c3, if_neg c4, if_pos (by omega)]) hj
    cases Ev.det h h1
theorem legs_bound {l : List S84} (h : okSl 112 ok84 l) (hn : l.length ≤ 150) : legsN l < 4611686018427387904 := by
  have h1 : ∀ m : List S84, (∀ e ∈ m, e.f8.length ≤ 140737488351232) → legsN m ≤ m.length * 140737488351232 := by
    intro m
    induction m with
    | nil => intro _; simp [legsN]
    | cons e m ih =>
      intro hm
      have := ih (fun z hz => hm z (List.mem_cons_of_mem _ hz))
      have := hm e (List.mem_cons_self ..)
      rw [legsN_cons, List.length_cons, Nat.succ_mul]; omega
  have h2 := h1 l (fun e he => by
    obtain ⟨_, _, _, _, _, _, _, _, h8, _⟩ := h.2.2 e he
    have := h8.1; omega)
  omega
end
end Go.Proofs.Ytcmaifjmnpfmbaa.R.Proof
