/- Days: Open, Next, Prev of the program and of the reference, as plain functions on numbers and lists. -/
import Derived.Test.YtajephmamebcgaaKx15
import Derived.Test.YtajephmamebcgaaKx16
import Derived.Test.YtajephmamebcgaaKx3
import Derived.Test.YtajephmamebcgaaKx4
import Derived.Test.YtajephmamebcgaaKx5
namespace Go.Proofs.Ytajephmamebcgaa.K.Proof
open Go.RowKit Go.Proofs.Ytajephmamebcgaa.K Go.Proofs.YtajephmamebcgaaW.PrintWords Go.Proofs.YtajephmamebcgaaW.PrintLast Go.Proofs.YtajephmamebcgaaW.PrintMore

theorem wrap_inc {i n : Nat} (h : i < n) (hn : n ≤ 9223372036854775807) : wrap64 ((i : Int) + 1) = ((i + 1 : Nat) : Int) := by
  unfold wrap64
  omega
theorem wrap_id {i : Int} (h : -9223372036854775808 ≤ i) (h' : i ≤ 9223372036854775807) : wrap64 i = i := by
  unfold wrap64
  omega
theorem ev_of {α : Type} {g : Nat → Option α} {r : α} (hg : ∀ k, LeO (g k) (g (k + 1))) {k : Nat} (h : g k = some r) : Ev g r :=
  ⟨k, fun n hn => by
    obtain ⟨d, rfl⟩ : ∃ d, n = k + d := ⟨n - k, by omega⟩
    clear hn
    induction d with
    | zero => exact h
    | succ d ih => exact hg _ _ ih⟩
theorem ev_rounds {α : Type} {g : Nat → Option α} {r : α} (h : Ev g r) : ∃ k, g k = some r := by
  obtain ⟨K, h⟩ := h
  exact ⟨K, h K (Nat.le_refl _)⟩
theorem Ev.some_ {α : Type} {a b : α} (h : a = b) : Ev (fun _ => some a) b := h ▸ Ev.now a
theorem drop_at {α : Type} {l : List α} {i : Nat} (h : i < l.length) : l.drop i = l[i] :: l.drop (i + 1) := List.drop_eq_getElem_cons h
theorem rd_at {l : List Int} {i : Nat} (h : i < l.length) : rd l (i : Int) = l[i] := by
  simp [rd, List.getD_eq_getElem?_getD, List.getElem?_eq_getElem h]

/-! ### Contains -/
theorem index_l0 (l : List Int) (x : Int) (hn : l.length ≤ 9223372036854775807) (d : Nat) : ∀ i : Nat, l.length - i = d → i ≤ l.length →
    Ev (fun k => slices_Index_int_int.l0 k l x (l.length : Int) i) (idxFrom (fun y => x == y) (l.drop i) i) := by
  induction d with
  | zero =>
    intro i hd hi
    refine Ev.step (f := fun _ => some (-1)) (fun k => ?_) (Ev.some_ ?_)
    · simp only [slices_Index_int_int.l0]; rw [if_neg (by omega)]
    · rw [idxFrom_end _ _ _ (by omega)]
  | succ d ih =>
    intro i hd hi
    have hlt : i < l.length := by omega
    rw [drop_at hlt, idxFrom]
    by_cases c : x = l[i]
    · refine Ev.step (f := fun _ => some (i : Int)) (fun k => ?_) (Ev.some_ ?_)
      · simp only [slices_Index_int_int.l0]; rw [if_pos (by omega), if_pos (by omega), if_pos (by omega), rd_at hlt, if_pos c]
      · simp [c]
    · refine Ev.step (f := fun k => slices_Index_int_int.l0 k l x (l.length : Int) ((i + 1 : Nat) : Int)) (fun k => ?_) ?_
      · simp only [slices_Index_int_int.l0]; rw [if_pos (by omega), if_pos (by omega), if_pos (by omega), rd_at hlt, if_neg c, wrap_inc hlt hn]
      · have e : (x == l[i]) = false := by simpa using c
        rw [e]
        exact ih (i + 1) (by omega) (by omega)
theorem contains_ev (l : List Int) (x : Int) (hn : l.length ≤ 9223372036854775807) : Ev (fun k => slices_Contains_int_int.f k l x) (l.contains x) := by
  refine Ev.bind (g := fun k => slices_Index_int_int.f k l x) (f := fun _ t => some (decide (t ≥ 0))) (Ev.congr (fun _ => rfl) (index_l0 l x hn l.length 0 rfl (Nat.zero_le _))) (Ev.some_ ?_)
  have := idxFrom_any (fun y => x == y) (l.drop 0) 0
  rw [List.drop_zero] at this ⊢
  show decide (0 ≤ _) = _
  rw [this, List.contains_eq_any_beq]
theorem has_l0 (p : List Int) (x : Int) (hn : p.length ≤ 9223372036854775807) (d : Nat) : ∀ i : Nat, p.length - i = d → i ≤ p.length →
    Ev (fun k => corebankref05_Has.l0 k p x i) ((p.drop i).contains x) := by
  induction d with
  | zero =>
    intro i hd hi
    refine Ev.step (f := fun _ => some false) (fun k => ?_) (Ev.some_ ?_)
    · simp only [corebankref05_Has.l0]; rw [if_neg (by omega)]
    · rw [List.drop_of_length_le (by omega)]; rfl
  | succ d ih =>
    intro i hd hi
    have hlt : i < p.length := by omega
    rw [drop_at hlt, List.contains_cons]
    by_cases c : p[i] = x
    · refine Ev.step (f := fun _ => some true) (fun k => ?_) (Ev.some_ ?_)
      · simp only [corebankref05_Has.l0]; rw [if_pos (by omega), if_pos (by omega), rd_at hlt, if_pos c]
      · simp [c]
    · refine Ev.step (f := fun k => corebankref05_Has.l0 k p x ((i + 1 : Nat) : Int)) (fun k => ?_) ?_
      · simp only [corebankref05_Has.l0]; rw [if_pos (by omega), if_pos (by omega), rd_at hlt, if_neg c, wrap_inc hlt hn]
      · have e : (x == p[i]) = false := by simpa using Ne.symm c
        rw [e, Bool.false_or]
        exact ih (i + 1) (by omega) (by omega)
theorem has_ev (p : List Int) (x : Int) (hn : p.length ≤ 9223372036854775807) : Ev (fun k => corebankref05_Has.f k p x) (p.contains x) :=
  Ev.congr (fun _ => rfl) (has_l0 p x hn _ 0 rfl (Nat.zero_le _))

/-! ### Open -/
def validG (d : Int) : Bool := decide (0 ≤ d ∧ d ≤ 73048)
theorem valid_eq (d : Int) : date_Valid.f d = some (validG d) := by
  unfold date_Valid.f validG
  by_cases c : d ≥ 0
  · rw [if_pos c]; congr 1; exact decide_eq_decide.2 (by omega)
  · rw [if_neg c]; congr 1; symm; exact decide_eq_false (by omega)
theorem rvalid_eq (d : Int) : corebankref04_Valid.f d = some (validG d) := valid_eq d
/-- The day's open, by the weekdays and the holidays that are closed. -/
def openG (x y : List Int) (d : Int) : Bool := validG d && (!x.contains (Int.tmod (wrap64 (d + 5)) 7) && !y.contains d)
section
variable (n : ByteArray) (x y : List Int) (hx : x.length ≤ 9223372036854775807) (hy : y.length ≤ 9223372036854775807)
include hx hy
theorem open_ev (d : Int) : Ev (fun k => calendar_Open.f k n x y d) (openG x y d) := by
  unfold openG
  cases c : validG d with
  | false => exact Ev.congr (f := fun _ => some false) (fun k => by unfold calendar_Open.f; rw [valid_eq, c]; rfl) (Ev.some_ (by simp))
  | true =>
    refine Ev.congr (f := fun k => (slices_Contains_int_int.f k x (Int.tmod (wrap64 (d + 5)) 7)).bind fun t => (if t = true then (some false) else ((slices_Contains_int_int.f k y d).bind fun t => (some (!t))))) (fun k => ?_) ?_
    · unfold calendar_Open.f date_Weekday.f; rw [valid_eq, c]; rfl
    · refine Ev.bind (contains_ev x _ hx) ?_
      cases x.contains (Int.tmod (wrap64 (d + 5)) 7) with
      | true => exact Ev.some_ (by simp)
      | false => exact Ev.congr (fun k => if_neg (by decide)) (Ev.bind (contains_ev y d hy) (Ev.some_ (by simp)))
theorem ropen_ev (d : Int) : Ev (fun k => corebankref05_Open.f k n x y d) (openG x y d) := by
  unfold openG
  cases c : validG d with
  | false => exact Ev.congr (f := fun _ => some false) (fun k => by unfold corebankref05_Open.f; rw [rvalid_eq, c]; rfl) (Ev.some_ (by simp))
  | true =>
    refine Ev.congr (f := fun k => (corebankref05_Has.f k x (Int.tmod (wrap64 (d + 5)) 7)).bind fun t => (if t = true then (some false) else ((corebankref05_Has.f k y d).bind fun t => (some (!t))))) (fun k => ?_) ?_
    · unfold corebankref05_Open.f corebankref04_Weekday.f; rw [rvalid_eq, c]; rfl
    · refine Ev.bind (has_ev x _ hx) ?_
      cases x.contains (Int.tmod (wrap64 (d + 5)) 7) with
      | true => exact Ev.some_ (by simp)
      | false => exact Ev.congr (fun k => if_neg (by decide)) (Ev.bind (has_ev y d hy) (Ev.some_ (by simp)))

/-! ### Next and Prev -/
omit hx hy in
theorem valid_true {d : Int} (h : 0 ≤ d) (h' : d ≤ 73048) : validG d = true := decide_eq_true ⟨h, h'⟩
omit hx hy in
theorem valid_false {d : Int} (h : d < 0 ∨ 73048 < d) : validG d = false := decide_eq_false (by omega)
end
/-- The first of n days from d on for which p holds. -/
def scanUp (p : Int → Bool) : Nat → Int → Int × Int
  | 0, _ => (0, 11)
  | n + 1, d => if p d = true then (d, 0) else scanUp p n (d + 1)
/-- The first of n days from d down for which p holds. -/
def scanDown (p : Int → Bool) : Nat → Int → Int × Int
  | 0, _ => (0, 11)
  | n + 1, d => if p d = true then (d, 0) else scanDown p n (d - 1)
def nextG (x y : List Int) (d : Int) : Int × Int := if validG d = true then scanUp (openG x y) (73049 - d).toNat d else (0, 1)
def prevG (x y : List Int) (d : Int) : Int × Int := if validG d = true then scanDown (openG x y) (d + 1).toNat d else (0, 1)
section
variable (n : ByteArray) (x y : List Int) (hx : x.length ≤ 9223372036854775807) (hy : y.length ≤ 9223372036854775807)
include hx hy
theorem up_l0 : ∀ (m : Nat) (d : Int), 0 ≤ d → d + m = 73049 → Ev (fun k => calendar_search.l0 k 1 n x y d) (scanUp (openG x y) m d)
  | 0, d, h0, h => Ev.step (f := fun _ => some (0, 11)) (fun k => by simp only [calendar_search.l0]; rw [valid_eq, valid_false (by omega)]; rfl) (Ev.now _)
  | m + 1, d, h0, h => by
    refine Ev.step (f := fun k => (calendar_Open.f k n x y d).bind fun t => if t = true then some (d, 0) else calendar_search.l0 k 1 n x y (d + 1)) (fun k => ?_) ?_
    · simp only [calendar_search.l0]; rw [valid_eq, valid_true (by omega) (by omega), wrap_id (by omega) (by omega)]; rfl
    · refine Ev.bind (open_ev n x y hx hy d) ?_
      simp only [scanUp]
      by_cases c : openG x y d = true
      · rw [if_pos c]; exact Ev.congr (fun k => if_pos c) (Ev.now _)
      · rw [if_neg c]; exact Ev.congr (fun k => if_neg c) (up_l0 m (d + 1) (by omega) (by omega))
theorem rup_l0 : ∀ (m : Nat) (d : Int), 0 ≤ d → d + m = 73049 → Ev (fun k => corebankref05_Next.l0 k d n x y) (scanUp (openG x y) m d)
  | 0, d, h0, h => Ev.step (f := fun _ => some (0, 11)) (fun k => by simp only [corebankref05_Next.l0]; rw [if_neg (by omega)]) (Ev.now _)
  | m + 1, d, h0, h => by
    refine Ev.step (f := fun k => (corebankref05_Open.f k n x y d).bind fun t => if t = true then some (d, 0) else corebankref05_Next.l0 k (d + 1) n x y) (fun k => ?_) ?_
    · simp only [corebankref05_Next.l0]; rw [if_pos (by omega), wrap_id (by omega) (by omega)]
    · refine Ev.bind (ropen_ev n x y hx hy d) ?_
      simp only [scanUp]
      by_cases c : openG x y d = true
      · rw [if_pos c]; exact Ev.congr (fun k => if_pos c) (Ev.now _)
      · rw [if_neg c]; exact Ev.congr (fun k => if_neg c) (rup_l0 m (d + 1) (by omega) (by omega))
theorem down_l0 : ∀ (m : Nat) (d : Int), d ≤ 73048 → d + 1 = m → Ev (fun k => calendar_search.l0 k (-1) n x y d) (scanDown (openG x y) m d)
  | 0, d, h0, h => Ev.step (f := fun _ => some (0, 11)) (fun k => by simp only [calendar_search.l0]; rw [valid_eq, valid_false (by omega)]; rfl) (Ev.now _)
  | m + 1, d, h0, h => by
    refine Ev.step (f := fun k => (calendar_Open.f k n x y d).bind fun t => if t = true then some (d, 0) else calendar_search.l0 k (-1) n x y (d - 1)) (fun k => ?_) ?_
    · simp only [calendar_search.l0]; rw [valid_eq, valid_true (by omega) (by omega), wrap_id (by omega) (by omega)]; rfl
    · refine Ev.bind (open_ev n x y hx hy d) ?_
      simp only [scanDown]
      by_cases c : openG x y d = true
      · rw [if_pos c]; exact Ev.congr (fun k => if_pos c) (Ev.now _)
      · rw [if_neg c]; exact Ev.congr (fun k => if_neg c) (down_l0 m (d - 1) (by omega) (by omega))
theorem rdown_l0 : ∀ (m : Nat) (d : Int), d ≤ 73048 → d + 1 = m → Ev (fun k => corebankref05_Prev.l0 k d n x y) (scanDown (openG x y) m d)
  | 0, d, h0, h => Ev.step (f := fun _ => some (0, 11)) (fun k => by simp only [corebankref05_Prev.l0]; rw [if_neg (by omega)]) (Ev.now _)
  | m + 1, d, h0, h => by
    refine Ev.step (f := fun k => (corebankref05_Open.f k n x y d).bind fun t => if t = true then some (d, 0) else corebankref05_Prev.l0 k (d - 1) n x y) (fun k => ?_) ?_
    · simp only [corebankref05_Prev.l0]; rw [if_pos (by omega), wrap_id (by omega) (by omega)]
    · refine Ev.bind (ropen_ev n x y hx hy d) ?_
      simp only [scanDown]
      by_cases c : openG x y d = true
      · rw [if_pos c]; exact Ev.congr (fun k => if_pos c) (Ev.now _)
      · rw [if_neg c]; exact Ev.congr (fun k => if_neg c) (rdown_l0 m (d - 1) (by omega) (by omega))
theorem next_ev (d : Int) : Ev (fun k => calendar_Next.f k n x y d) (nextG x y d) := by
  unfold nextG
  by_cases c : validG d = true
  · have c' := of_decide_eq_true c
    rw [if_pos c]
    exact Ev.congr (fun k => by unfold calendar_Next.f; rw [valid_eq, c]; rfl) (up_l0 n x y hx hy _ d c'.1 (by omega))
  · rw [if_neg c]
    rw [Bool.not_eq_true] at c
    exact Ev.congr (f := fun _ => some (0, 1)) (fun k => by unfold calendar_Next.f; rw [valid_eq, c]; rfl) (Ev.now _)
theorem rnext_ev (d : Int) : Ev (fun k => corebankref05_Next.f k n x y d) (nextG x y d) := by
  unfold nextG
  by_cases c : validG d = true
  · have c' := of_decide_eq_true c
    rw [if_pos c]
    exact Ev.congr (fun k => by unfold corebankref05_Next.f; rw [rvalid_eq, c]; rfl) (rup_l0 n x y hx hy _ d c'.1 (by omega))
  · rw [if_neg c]
    rw [Bool.not_eq_true] at c
    exact Ev.congr (f := fun _ => some (0, 1)) (fun k => by unfold corebankref05_Next.f; rw [rvalid_eq, c]; rfl) (Ev.now _)
theorem prev_ev (d : Int) : Ev (fun k => calendar_Prev.f k n x y d) (prevG x y d) := by
  unfold prevG
  by_cases c : validG d = true
  · have c' := of_decide_eq_true c
    rw [if_pos c]
    exact Ev.congr (fun k => by unfold calendar_Prev.f; rw [valid_eq, c]; rfl) (down_l0 n x y hx hy _ d c'.2 (by omega))
  · rw [if_neg c]
    rw [Bool.not_eq_true] at c
    exact Ev.congr (f := fun _ => some (0, 1)) (fun k => by unfold calendar_Prev.f; rw [valid_eq, c]; rfl) (Ev.now _)
theorem rprev_ev (d : Int) : Ev (fun k => corebankref05_Prev.f k n x y d) (prevG x y d) := by
  unfold prevG
  by_cases c : validG d = true
  · have c' := of_decide_eq_true c
    rw [if_pos c]
    exact Ev.congr (fun k => by unfold corebankref05_Prev.f; rw [rvalid_eq, c]; rfl) (rdown_l0 n x y hx hy _ d c'.2 (by omega))
  · rw [if_neg c]
    rw [Bool.not_eq_true] at c
    exact Ev.congr (f := fun _ => some (0, 1)) (fun k => by unfold corebankref05_Prev.f; rw [rvalid_eq, c]; rfl) (Ev.now _)
end
/-- Few closed weekdays and holidays. -/
def fewG (x y : List Int) : Bool := decide (x.length ≤ 20 ∧ y.length ≤ 40)
theorem few_eq (n : ByteArray) (x y : List Int) : corebanklaw05_few.f n x y = some (fewG x y) := by
  unfold corebanklaw05_few.f fewG
  by_cases c : (x.length : Int) ≤ 20
  · rw [if_pos c]; congr 1; exact decide_eq_decide.2 (by omega)
  · rw [if_neg c]; congr 1; symm; exact decide_eq_false (by omega)
theorem few_ev (n : ByteArray) (x y : List Int) : Ev (fun _ => corebanklaw05_few.f n x y) (fewG x y) := Ev.congr (fun _ => few_eq n x y) (Ev.now _)
theorem valid_ev (d : Int) : Ev (fun _ => date_Valid.f d) (validG d) := Ev.congr (fun _ => valid_eq d) (Ev.now _)
theorem rvalid_ev (d : Int) : Ev (fun _ => corebankref04_Valid.f d) (validG d) := Ev.congr (fun _ => rvalid_eq d) (Ev.now _)
end Go.Proofs.Ytajephmamebcgaa.K.Proof
