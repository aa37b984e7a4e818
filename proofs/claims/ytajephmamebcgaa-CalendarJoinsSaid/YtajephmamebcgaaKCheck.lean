/- Check of the program and of the reference: both come to the same number. -/
import Derived.Test.YtajephmamebcgaaKx14
import Derived.Test.YtajephmamebcgaaKx3
import Derived.Test.YtajephmamebcgaaKBase
namespace Go.Proofs.Ytajephmamebcgaa.K.Proof
open Go.RowKit Go.Proofs.Ytajephmamebcgaa.K Go.Proofs.YtajephmamebcgaaW.PrintWords Go.Proofs.YtajephmamebcgaaW.PrintLast

/-! ### Names -/
def okc (s : ByteArray) (i : Nat) : Bool := decide ((97 ≤ bt s i ∧ bt s i ≤ 122) ∨ (i ≠ 0 ∧ (bt s i = 95 ∨ (48 ≤ bt s i ∧ bt s i ≤ 57))))
/-- The last d bytes are good. -/
def okTail (s : ByteArray) : Nat → Bool
  | 0 => true
  | d + 1 => okc s (s.size - (d + 1)) && okTail s d
def nameG (s : ByteArray) : Bool := okTail s s.size && (decide (1 ≤ s.size) && decide (s.size ≤ 16))

theorem name_l0 (s : ByteArray) (hn : s.size ≤ 140737488351232) (d : Nat) : ∀ i : Nat, i ≤ s.size → s.size - i = d →
    Ev (fun k => calendar_name.l0 k s (s.size : Int) i) (okTail s d && (decide (1 ≤ s.size) && decide (s.size ≤ 16))) := by
  induction d with
  | zero =>
    intro i hi hd
    refine Ev.step (f := fun _ => some (decide (1 ≤ s.size) && decide (s.size ≤ 16))) (fun k => ?_) (Ev.some_ (by simp [okTail]))
    simp only [calendar_name.l0]; rw [if_neg (by omega)]
    by_cases c : 1 ≤ s.size
    · rw [if_pos (by omega)]; simp [c]; omega
    · rw [if_neg (by omega)]; simp [c]
  | succ d ih =>
    intro i hi hd
    have hlt : i < s.size := by omega
    have e : s.size - (d + 1) = i := by omega
    simp only [okTail, e]
    cases c : okc s i with
    | true =>
      have c' := of_decide_eq_true c
      refine Ev.step (f := fun k => calendar_name.l0 k s (s.size : Int) ((i + 1 : Nat) : Int)) (fun k => ?_) ?_
      · simp only [calendar_name.l0]; rw [if_pos (by omega), if_pos (by omega), if_pos (by omega), wrap_inc hlt (by omega)]
        repeat' split
        all_goals first | rfl | (exfalso; omega)
      · rw [Bool.true_and]; exact ih (i + 1) (by omega) (by omega)
    | false =>
      have c' := of_decide_eq_false c
      refine Ev.step (f := fun _ => some false) (fun k => ?_) (Ev.some_ (by simp))
      simp only [calendar_name.l0]; rw [if_pos (by omega), if_pos (by omega), if_pos (by omega)]
      repeat' split
      all_goals first | rfl | (exfalso; omega)
theorem name_ev (s : ByteArray) (hn : s.size ≤ 140737488351232) : Ev (fun k => calendar_name.f k s) (nameG s) :=
  Ev.congr (fun _ => rfl) (name_l0 s hn s.size 0 (Nat.zero_le _) rfl)


/-- A byte of a name, wherever it stands. -/
def okr (s : ByteArray) (i : Nat) : Bool := decide ((97 ≤ bt s i ∧ bt s i ≤ 122) ∨ bt s i = 95 ∨ (48 ≤ bt s i ∧ bt s i ≤ 57))
def okrTail (s : ByteArray) : Nat → Bool
  | 0 => true
  | d + 1 => okr s (s.size - (d + 1)) && okrTail s d
theorem okr_tail (s : ByteArray) : ∀ d, d < s.size → okrTail s d = okTail s d
  | 0, _ => rfl
  | d + 1, h => by
    simp only [okrTail, okTail, okr_tail s d (by omega)]
    congr 1
    unfold okr okc
    exact decide_eq_decide.2 (by omega)
theorem rname_l0 (s : ByteArray) (hn : s.size ≤ 140737488351232) (d : Nat) : ∀ i : Nat, i ≤ s.size → s.size - i = d →
    Ev (fun k => corebankref05_Name.l0 k s i) (okrTail s d) := by
  induction d with
  | zero =>
    intro i hi hd
    refine Ev.step (f := fun _ => some true) (fun k => ?_) (Ev.some_ (by simp [okrTail]))
    simp only [corebankref05_Name.l0]; rw [if_neg (by omega)]
  | succ d ih =>
    intro i hi hd
    have hlt : i < s.size := by omega
    have e : s.size - (d + 1) = i := by omega
    simp only [okrTail, e]
    cases c : okr s i with
    | true =>
      have c' := of_decide_eq_true c
      refine Ev.step (f := fun k => corebankref05_Name.l0 k s ((i + 1 : Nat) : Int)) (fun k => ?_) ?_
      · simp only [corebankref05_Name.l0]; rw [if_pos (by omega), if_pos (by omega), wrap_inc hlt (by omega)]
        repeat' split
        all_goals first | rfl | (exfalso; omega)
      · rw [Bool.true_and]; exact ih (i + 1) (by omega) (by omega)
    | false =>
      have c' := of_decide_eq_false c
      refine Ev.step (f := fun _ => some false) (fun k => ?_) (Ev.some_ (by simp))
      simp only [corebankref05_Name.l0]; rw [if_pos (by omega), if_pos (by omega)]
      repeat' split
      all_goals first | rfl | (exfalso; omega)
theorem rname_ev (s : ByteArray) (hn : s.size ≤ 140737488351232) : Ev (fun k => corebankref05_Name.f k s) (nameG s) := by
  have hj : Ev (fun k => corebankref05_Name.j0 k s true) false := Ev.step (f := fun _ => some false) (fun k => by simp only [corebankref05_Name.j0]; rfl) (Ev.now _)
  by_cases c : (s.size : Int) < 1
  · have e : nameG s = false := by unfold nameG; simp; intros; omega
    exact Ev.congr (fun k => by unfold corebankref05_Name.f; rw [if_pos c]) (by rw [e]; exact hj)
  · by_cases c2 : (s.size : Int) > 16
    · have e : nameG s = false := by unfold nameG; simp; intros; omega
      exact Ev.congr (fun k => by unfold corebankref05_Name.f; rw [if_neg c, if_pos c2]) (by rw [e]; exact hj)
    · obtain ⟨m, hm⟩ : ∃ m, s.size = m + 1 := ⟨s.size - 1, by omega⟩
      have e : nameG s = (okc s 0 && okTail s m) := by
        unfold nameG
        have h1 : 1 ≤ s.size := by omega
        have h2 : s.size ≤ 16 := by omega
        have : okTail s s.size = (okc s 0 && okTail s m) := by rw [hm]; simp [okTail, hm]
        rw [this]; simp [h1, h2]
      have e2 : okrTail s s.size = (okr s 0 && okTail s m) := by
        rw [hm]; simp only [okrTail, hm]; rw [okr_tail s m (by omega)]; simp
      rw [e]
      cases c3 : okc s 0 with
      | true =>
        have c' := of_decide_eq_true c3
        simp only [Int.cast_ofNat_Int] at c'
        have c4 : okr s 0 = true := by unfold okr; simp only [Int.cast_ofNat_Int]; exact decide_eq_true (by omega)
        refine Ev.congr (f := fun k => corebankref05_Name.j0 k s false) (fun k => ?_) ?_
        · unfold corebankref05_Name.f; rw [if_neg c, if_neg c2, if_pos (by omega), if_neg (by omega)]
          congr 1; simp; omega
        · refine Ev.step (f := fun k => corebankref05_Name.l0 k s ((0 : Nat) : Int)) (fun k => ?_) ?_
          · simp only [corebankref05_Name.j0]; rfl
          · have := rname_l0 s hn s.size 0 (Nat.zero_le _) rfl
            rw [e2, c4] at this; exact this
      | false =>
        have c' := of_decide_eq_false c3
        simp only [Int.cast_ofNat_Int] at c'
        refine Ev.congr (f := fun k => corebankref05_Name.j0 k s true) (fun k => ?_) ?_
        · unfold corebankref05_Name.f; rw [if_neg c, if_neg c2, if_pos (by omega)]
          split
          · rfl
          · congr 1; simp; omega
        · rw [Bool.false_and]; exact hj

/-! ### Ascending -/
/-- The last d numbers are each above the one ahead. -/
def riseTail (l : List Int) : Nat → Bool
  | 0 => true
  | d + 1 => if rd l ((l.length - (d + 1) : Nat) : Int) ≤ rd l ((l.length - (d + 1) - 1 : Nat) : Int) then false else riseTail l d
def riseG (l : List Int) : Bool := riseTail l (l.length - 1)
theorem wrap_dec {i n : Nat} (h0 : 0 < i) (h : i < n) (hn : n ≤ 9223372036854775807) : wrap64 ((i : Int) - 1) = ((i - 1 : Nat) : Int) := by
  unfold wrap64
  omega
theorem asc_l0 (l : List Int) (hn : l.length ≤ 9223372036854775807) (d : Nat) : ∀ i : Nat, 0 < i → l.length - i = d → Ev (fun k => calendar_ascending.l0 k l i) (riseTail l d) := by
  induction d with
  | zero =>
    intro i h0 hd
    refine Ev.step (f := fun _ => some true) (fun k => ?_) (Ev.now _)
    simp only [calendar_ascending.l0]; rw [if_neg (by omega)]
  | succ d ih =>
    intro i h0 hd
    have hlt : i < l.length := by omega
    have e : l.length - (d + 1) = i := by omega
    simp only [riseTail, e]
    refine Ev.step (f := fun k => if rd l (i : Int) ≤ rd l ((i - 1 : Nat) : Int) then some false else calendar_ascending.l0 k l ((i + 1 : Nat) : Int)) (fun k => ?_) ?_
    · simp only [calendar_ascending.l0]; rw [if_pos (by omega), if_pos (by omega), wrap_dec h0 hlt hn, if_pos (by omega), if_pos (by omega), wrap_inc hlt hn]
    · by_cases c : rd l (i : Int) ≤ rd l ((i - 1 : Nat) : Int)
      · rw [if_pos c]; exact Ev.congr (fun k => if_pos c) (Ev.now _)
      · rw [if_neg c]; exact Ev.congr (fun k => if_neg c) (ih (i + 1) (by omega) (by omega))
theorem asc_ev (l : List Int) (hn : l.length ≤ 9223372036854775807) : Ev (fun k => calendar_ascending.f k l) (riseG l) := Ev.congr (fun _ => rfl) (asc_l0 l hn _ 1 (by omega) rfl)
theorem rises_l0 (l : List Int) (hn : l.length ≤ 9223372036854775807) (d : Nat) : ∀ i : Nat, 0 < i → l.length - i = d → Ev (fun k => corebankref05_Rises.l0 k l i) (riseTail l d) := by
  induction d with
  | zero =>
    intro i h0 hd
    refine Ev.step (f := fun _ => some true) (fun k => ?_) (Ev.now _)
    simp only [corebankref05_Rises.l0]; rw [if_neg (by omega)]
  | succ d ih =>
    intro i h0 hd
    have hlt : i < l.length := by omega
    have e : l.length - (d + 1) = i := by omega
    simp only [riseTail, e]
    refine Ev.step (f := fun k => if rd l (i : Int) ≤ rd l ((i - 1 : Nat) : Int) then some false else corebankref05_Rises.l0 k l ((i + 1 : Nat) : Int)) (fun k => ?_) ?_
    · simp only [corebankref05_Rises.l0]; rw [if_pos (by omega), if_pos (by omega), wrap_dec h0 hlt hn, if_pos (by omega), if_pos (by omega), wrap_inc hlt hn]
    · by_cases c : rd l (i : Int) ≤ rd l ((i - 1 : Nat) : Int)
      · rw [if_pos c]; exact Ev.congr (fun k => if_pos c) (Ev.now _)
      · rw [if_neg c]; exact Ev.congr (fun k => if_neg c) (ih (i + 1) (by omega) (by omega))
theorem rises_ev (l : List Int) (hn : l.length ≤ 9223372036854775807) : Ev (fun k => corebankref05_Rises.f k l) (riseG l) := Ev.congr (fun _ => rfl) (rises_l0 l hn _ 1 (by omega) rfl)

/-! ### Check -/
def inG (lo hi : Int) (l : List Int) : Bool := !(l.any (outQ lo hi))
def checkG (n : ByteArray) (x y : List Int) : Int :=
  if nameG n = false then 4
  else if (decide (7 ≤ x.length) || (!inG 0 6 x || !riseG x)) = true then 1
  else if y.length > 400 then 5
  else if inG 0 73048 y = false then 1
  else if riseG y = true then 0 else 10
section
variable (n : ByteArray) (x y : List Int) (hs : n.size ≤ 140737488351232) (hx : x.length ≤ 9223372036854775807) (hy : y.length ≤ 9223372036854775807)
include hy in
theorem check_j0 (b : Bool) : Ev (fun k => calendar_Check.j0 k b n x y) (if b = true then 1 else if y.length > 400 then 5 else if inG 0 73048 y = false then 1 else if riseG y = true then 0 else 10) := by
  cases b with
  | true => exact Ev.step (f := fun _ => some 1) (fun k => by simp only [calendar_Check.j0]; rfl) (Ev.now _)
  | false =>
    rw [if_neg (by decide)]
    by_cases c : y.length > 400
    · rw [if_pos c]
      exact Ev.step (f := fun _ => some 5) (fun k => by simp only [calendar_Check.j0]; rw [if_neg (by decide), if_pos (by omega)]) (Ev.now _)
    · rw [if_neg c]
      refine Ev.step (f := fun k => if inG 0 73048 y = true then ((calendar_ascending.f k y).bind fun t => (if t = true then (some 0) else (some 10))) else some 1) (fun k => ?_) ?_
      · simp only [calendar_Check.j0]; rw [if_neg (by decide), if_neg (by omega)]; rfl
      · cases inG 0 73048 y with
        | false => exact Ev.congr (fun k => if_neg (by decide)) (Ev.some_ (by simp))
        | true =>
          refine Ev.congr (fun k => if_pos rfl) (Ev.bind (asc_ev y hy) ?_)
          cases riseG y with
          | true => exact Ev.congr (fun k => if_pos rfl) (Ev.some_ (by simp))
          | false => exact Ev.congr (fun k => if_neg (by decide)) (Ev.some_ (by simp))
include hs hx hy in
theorem check_ev : Ev (fun k => calendar_Check.f k n x y) (checkG n x y) := by
  unfold checkG
  refine Ev.bind (name_ev n hs) ?_
  cases nameG n with
  | false => exact Ev.congr (fun k => if_neg (by decide)) (Ev.some_ (by simp))
  | true =>
    rw [if_neg (by decide)]
    refine Ev.congr (fun k => if_pos rfl) ?_
    by_cases c : (x.length : Int) ≥ 7
    · have e : decide (7 ≤ x.length) = true := decide_eq_true (by omega)
      rw [e, Bool.true_or]
      exact Ev.congr (fun k => if_pos c) (check_j0 n x y hy true)
    · have e : decide (7 ≤ x.length) = false := decide_eq_false (by omega)
      rw [e, Bool.false_or]
      refine Ev.congr (f := fun k => if inG 0 6 x = true then ((calendar_ascending.f k x).bind fun t => (calendar_Check.j0 k (!t) n x y)) else calendar_Check.j0 k true n x y) (fun k => ?_) ?_
      · rw [if_neg c]; rfl
      · cases inG 0 6 x with
        | false => exact Ev.congr (fun k => if_neg (by decide)) (check_j0 n x y hy true)
        | true => exact Ev.congr (fun k => if_pos rfl) (Ev.bind (asc_ev x hx) (check_j0 n x y hy _))
include hy in
theorem rcheck_l1 (d : Nat) : ∀ i : Nat, y.length - i = d → i ≤ y.length →
    Ev (fun k => corebankref05_Check.l1 k i n x y) (if ((y.drop i).any (outQ 0 73048)) = true then 1 else if riseG y = true then 0 else 10) := by
  induction d with
  | zero =>
    intro i hd hi
    rw [List.drop_of_length_le (by omega)]
    refine Ev.step (f := fun k => (corebankref05_Rises.f k y).bind fun t => (if t = true then (some 0) else (some 10))) (fun k => ?_) ?_
    · simp only [corebankref05_Check.l1]; rw [if_neg (by omega)]
    · refine Ev.bind (rises_ev y hy) ?_
      cases riseG y with
      | true => exact Ev.congr (fun k => if_pos rfl) (Ev.some_ (by simp))
      | false => exact Ev.congr (fun k => if_neg (by decide)) (Ev.some_ (by simp))
  | succ d ih =>
    intro i hd hi
    have hlt : i < y.length := by omega
    rw [drop_at hlt, List.any_cons]
    have e : outQ 0 73048 y[i] = !validG y[i] := by
      unfold outQ validG
      by_cases c : 0 ≤ y[i] ∧ y[i] ≤ 73048
      · rw [decide_eq_true c, decide_eq_false (by omega), decide_eq_false (by omega)]; rfl
      · rw [decide_eq_false c]
        by_cases c1 : y[i] < 0
        · rw [decide_eq_true c1]; rfl
        · rw [decide_eq_true (show y[i] > 73048 by omega)]; simp
    rw [e]
    refine Ev.step (f := fun k => if validG y[i] = true then corebankref05_Check.l1 k ((i + 1 : Nat) : Int) n x y else some 1) (fun k => ?_) ?_
    · simp only [corebankref05_Check.l1]; rw [if_pos (by omega), if_pos (by omega), rd_at hlt, rvalid_eq, wrap_inc hlt hy]; rfl
    · cases validG y[i] with
      | true => exact Ev.congr (fun k => if_pos rfl) (by simpa using ih (i + 1) (by omega) (by omega))
      | false => exact Ev.congr (fun k => if_neg (by decide)) (Ev.some_ (by simp))
include hy in
theorem rcheck_j1 (b : Bool) : Ev (fun k => corebankref05_Check.j1 k b n x y) (if b = true then 1 else if y.length > 400 then 5 else if inG 0 73048 y = false then 1 else if riseG y = true then 0 else 10) := by
  cases b with
  | true => exact Ev.step (f := fun _ => some 1) (fun k => by simp only [corebankref05_Check.j1]; rfl) (Ev.now _)
  | false =>
    rw [if_neg (by decide)]
    by_cases c : y.length > 400
    · rw [if_pos c]
      exact Ev.step (f := fun _ => some 5) (fun k => by simp only [corebankref05_Check.j1]; rw [if_neg (by decide), if_pos (by omega)]) (Ev.now _)
    · rw [if_neg c]
      refine Ev.step (f := fun k => corebankref05_Check.l1 k ((0 : Nat) : Int) n x y) (fun k => ?_) ?_
      · simp only [corebankref05_Check.j1]; rw [if_neg (by decide), if_neg (by omega)]; rfl
      · have h := rcheck_l1 n x y hy _ 0 rfl (Nat.zero_le _)
        have e : (inG 0 73048 y = false) = (((y.drop 0).any (outQ 0 73048)) = true) := by rw [List.drop_zero]; unfold inG; cases y.any (outQ 0 73048) <;> simp
        simp only [e]; exact h
include hx hy in
theorem rcheck_l0 (d : Nat) : ∀ i : Nat, x.length - i = d → i ≤ x.length →
    Ev (fun k => corebankref05_Check.l0 k i n x y) (if (decide (7 ≤ x.length) || (((x.drop i).any (outQ 0 6)) || !riseG x)) = true then 1 else if y.length > 400 then 5 else if inG 0 73048 y = false then 1 else if riseG y = true then 0 else 10) := by
  induction d with
  | zero =>
    intro i hd hi
    rw [List.drop_of_length_le (by omega), List.any_nil, Bool.false_or]
    by_cases c : (x.length : Int) > 6
    · have e : decide (7 ≤ x.length) = true := decide_eq_true (by omega)
      rw [e, Bool.true_or]
      exact Ev.step (f := fun k => corebankref05_Check.j1 k true n x y) (fun k => by simp only [corebankref05_Check.l0]; rw [if_neg (by omega), if_pos c]) (rcheck_j1 n x y hy true)
    · have e : decide (7 ≤ x.length) = false := decide_eq_false (by omega)
      rw [e, Bool.false_or]
      exact Ev.step (f := fun k => (corebankref05_Rises.f k x).bind fun t => corebankref05_Check.j1 k (!t) n x y) (fun k => by simp only [corebankref05_Check.l0]; rw [if_neg (by omega), if_neg c]) (Ev.bind (rises_ev x hx) (rcheck_j1 n x y hy _))
  | succ d ih =>
    intro i hd hi
    have hlt : i < x.length := by omega
    rw [drop_at hlt, List.any_cons]
    by_cases c : x[i] < 0
    · have e : outQ 0 6 x[i] = true := by unfold outQ; rw [decide_eq_true c]; rfl
      rw [e, Bool.true_or, Bool.true_or, Bool.or_true]
      exact Ev.step (f := fun _ => some 1) (fun k => by simp only [corebankref05_Check.l0]; rw [if_pos (by omega), if_pos (by omega), rd_at hlt, if_pos c]) (Ev.now _)
    · by_cases c1 : x[i] > 6
      · have e : outQ 0 6 x[i] = true := by unfold outQ; rw [decide_eq_true c1]; simp
        rw [e, Bool.true_or, Bool.true_or, Bool.or_true]
        exact Ev.step (f := fun _ => some 1) (fun k => by simp only [corebankref05_Check.l0]; rw [if_pos (by omega), if_pos (by omega), rd_at hlt, if_neg c, if_pos c1]) (Ev.now _)
      · have e : outQ 0 6 x[i] = false := by unfold outQ; rw [decide_eq_false c, decide_eq_false c1]; rfl
        rw [e, Bool.false_or]
        exact Ev.step (f := fun k => corebankref05_Check.l0 k ((i + 1 : Nat) : Int) n x y) (fun k => by simp only [corebankref05_Check.l0]; rw [if_pos (by omega), if_pos (by omega), rd_at hlt, if_neg c, if_neg c1, wrap_inc hlt hx]) (ih (i + 1) (by omega) (by omega))
include hs hx hy in
theorem rcheck_ev : Ev (fun k => corebankref05_Check.f k n x y) (checkG n x y) := by
  unfold checkG
  refine Ev.bind (rname_ev n hs) ?_
  cases nameG n with
  | false => exact Ev.congr (fun k => if_neg (by decide)) (Ev.some_ (by simp))
  | true =>
    rw [if_neg (by decide)]
    refine Ev.congr (f := fun k => corebankref05_Check.l0 k ((0 : Nat) : Int) n x y) (fun k => if_pos rfl) ?_
    have h := rcheck_l0 n x y hx hy _ 0 rfl (Nat.zero_le _)
    have e : (!inG 0 6 x) = (x.drop 0).any (outQ 0 6) := by rw [List.drop_zero]; unfold inG; cases x.any (outQ 0 6) <;> rfl
    rw [e]; exact h
end
end Go.Proofs.Ytajephmamebcgaa.K.Proof
