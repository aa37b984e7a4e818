/- MonthEnd and Adjust of the program and of the reference. -/
import Derived.Test.YtajephmamebcgaaKx18
import Derived.Test.YtajephmamebcgaaKx19
import Derived.Test.YtajephmamebcgaaKx7
import Derived.Test.YtajephmamebcgaaKx8
import Derived.Test.YtajephmamebcgaaKBase
namespace Go.Proofs.Ytajephmamebcgaa.K.Proof
open Go.RowKit Go.Proofs.Ytajephmamebcgaa.K Go.Proofs.YtajephmamebcgaaW.PrintWords Go.Proofs.YtajephmamebcgaaW.PrintLast Go.Proofs.YtajephmamebcgaaW.PrintMore

/-! ### Years -/
def leapG (y : Int) : Bool := if Int.tmod y 4 = 0 then (if Int.tmod y 100 = 0 then Int.tmod y 400 == 0 else true) else false
theorem leap_eq (y : Int) : date_Leap.f y = some (leapG y) := by
  unfold date_Leap.f leapG
  split
  · split <;> rfl
  · rfl
theorem rleap_eq (y : Int) : corebankref04_Leap.f y = some (leapG y) := leap_eq y
def beginG (y : Int) : Int := 365 * (y - 2000) + Int.tdiv (y - 2000 + 3) 4 - (if y > 2100 then 1 else 0)
def yearG (y : Int) : Int := if leapG y = true then 366 else 365
theorem begin_eq {y : Int} (h : 2000 ≤ y) (h' : y ≤ 2200) : date_begin.f y = some (beginG y) := by
  have e : Int.tdiv (y - 2000 + 3) 4 = (y - 2000 + 3) / 4 := Int.tdiv_eq_ediv_of_nonneg (by omega)
  have w1 : wrap64 (y - 2000) = y - 2000 := wrap_id (by omega) (by omega)
  have w2 : wrap64 (y - 2000 + 3) = y - 2000 + 3 := wrap_id (by omega) (by omega)
  have w3 : wrap64 (365 * (y - 2000)) = 365 * (y - 2000) := wrap_id (by omega) (by omega)
  have w4 : wrap64 ((y - 2000 + 3) / 4) = (y - 2000 + 3) / 4 := wrap_id (by omega) (by omega)
  have w5 : wrap64 ((y - 2000 + 3) / 4 - 1) = (y - 2000 + 3) / 4 - 1 := wrap_id (by omega) (by omega)
  unfold date_begin.f beginG
  simp only [w1, w2, w3, e, w4, w5]
  by_cases c : y > 2100
  · rw [if_pos c, if_pos c, wrap_id (by omega) (by omega)]; congr 1; omega
  · rw [if_neg c, if_neg c, wrap_id (by omega) (by omega)]; congr 1; omega
theorem begin_step : ∀ i : Fin 200, beginG (2000 + (i.val : Int) + 1) = beginG (2000 + (i.val : Int)) + yearG (2000 + (i.val : Int)) := by decide +kernel
theorem begin_next {y : Int} (h : 2000 ≤ y) (h' : y < 2200) : beginG (y + 1) = beginG y + yearG y := by
  have := begin_step ⟨(y - 2000).toNat, by omega⟩
  rw [show (2000 : Int) + (((y - 2000).toNat : Nat) : Int) = y by omega] at this
  exact this
theorem year_range (y : Int) : 365 ≤ yearG y ∧ yearG y ≤ 366 := by unfold yearG; split <;> omega
theorem begin_mono (n : Nat) : ∀ y : Int, 2000 ≤ y → y + n ≤ 2200 → beginG y ≤ beginG (y + n) := by
  induction n with
  | zero => intro y _ _; simp
  | succ n ih =>
    intro y h h'
    have h1 := ih y h (by omega)
    have h2 := begin_next (y := y + n) (by omega) (by omega)
    have h3 := year_range (y + n)
    rw [show y + ((n + 1 : Nat) : Int) = y + n + 1 by omega]; omega
theorem begin_le {a b : Int} (h : 2000 ≤ a) (h' : a ≤ b) (h'' : b ≤ 2200) : beginG a ≤ beginG b := by
  have := begin_mono (b - a).toNat a h (by omega)
  rwa [show a + ((b - a).toNat : Int) = b by omega] at this
theorem begin_366 (n : Nat) : n ≤ 200 → beginG (2000 + n) ≤ 366 * n := by
  induction n with
  | zero => intro _; decide
  | succ n ih =>
    intro h
    have h1 := ih (by omega)
    have h2 := begin_next (y := 2000 + n) (by omega) (by omega)
    have h3 := year_range (2000 + n)
    rw [show (2000 : Int) + ((n + 1 : Nat) : Int) = 2000 + n + 1 by omega]; omega
theorem year_of (d : Int) (h0 : 0 ≤ d) : ∀ n : Nat, n ≤ 200 → d < beginG (2000 + n) → ∃ y : Int, 2000 ≤ y ∧ y < 2000 + n ∧ beginG y ≤ d ∧ d < beginG (y + 1)
  | 0, _, h => by
    have : beginG (2000 + ((0 : Nat) : Int)) = 0 := by decide
    omega
  | n + 1, hn, h => by
    by_cases c : d < beginG (2000 + n)
    · obtain ⟨y, h1, h2, h3, h4⟩ := year_of d h0 n (by omega) c
      exact ⟨y, h1, by omega, h3, h4⟩
    · exact ⟨2000 + n, by omega, by omega, by omega, by rw [show (2000 : Int) + ((n + 1 : Nat) : Int) = 2000 + n + 1 by omega] at h; exact h⟩

/-! ### Months -/
def lenG (y m : Int) : Int := if m = 2 then (if leapG y = true then 29 else 28) else daysL.getD m.toNat 0
theorem len_range {m : Int} (y : Int) (h : 1 ≤ m) (h' : m ≤ 12) : 28 ≤ lenG y m ∧ lenG y m ≤ 31 := by
  have hc : m = 1 ∨ m = 2 ∨ m = 3 ∨ m = 4 ∨ m = 5 ∨ m = 6 ∨ m = 7 ∨ m = 8 ∨ m = 9 ∨ m = 10 ∨ m = 11 ∨ m = 12 := by omega
  rcases hc with rfl | rfl | rfl | rfl | rfl | rfl | rfl | rfl | rfl | rfl | rfl | rfl
  case inr.inl => unfold lenG; rw [if_pos rfl]; split <;> omega
  all_goals (unfold lenG; rw [if_neg (by decide)]; decide)
theorem length_eq {m : Int} (y : Int) (h : 1 ≤ m) (h' : m ≤ 12) : date_length.f y m = some (lenG y m) := by
  unfold date_length.f lenG
  rw [if_pos (by omega), if_pos (by omega)]
  by_cases c : m = 2
  · rw [if_pos c, if_pos c, leap_eq]
    cases leapG y <;> rfl
  · rw [if_neg c, if_neg c]
theorem length_ev {m : Int} (y : Int) (h : 1 ≤ m) (h' : m ≤ 12) : Ev (fun _ => date_length.f y m) (lenG y m) := Ev.congr (fun _ => length_eq y h h') (Ev.now _)
theorem rlength_ev {m : Int} (y : Int) (h : 1 ≤ m) (h' : m ≤ 12) : Ev (fun k => corebankref04_Length.f k y m) (lenG y m) := by
  refine ev_of (corebankref04_Length.mono y m) (k := 3) ?_
  have hc : m = 1 ∨ m = 2 ∨ m = 3 ∨ m = 4 ∨ m = 5 ∨ m = 6 ∨ m = 7 ∨ m = 8 ∨ m = 9 ∨ m = 10 ∨ m = 11 ∨ m = 12 := by omega
  rcases hc with rfl | rfl | rfl | rfl | rfl | rfl | rfl | rfl | rfl | rfl | rfl | rfl
  case inr.inl =>
    have e : corebankref04_Length.f 3 y 2 = (corebankref04_Leap.f y).bind fun t => (if t = true then (some 29) else (some 28)) := rfl
    rw [e, rleap_eq]
    unfold lenG
    rw [if_pos rfl]
    cases leapG y <;> rfl
  all_goals rfl
/-- The days from month m to the end of the year, f months behind it. -/
def totG (y : Int) : Nat → Int → Int
  | 0, m => lenG y m
  | f + 1, m => lenG y m + totG y f (m + 1)
theorem tot_year (y : Int) : totG y 11 1 = yearG y := by
  unfold yearG
  cases h : leapG y <;> simp [totG, lenG, h, daysL]
/-- The month and the day of it, from 0. -/
def monthG (y : Int) : Nat → Int → Int → Int × Int
  | 0, d, m => (m, d)
  | f + 1, d, m => if d ≥ lenG y m then monthG y f (d - lenG y m) (m + 1) else (m, d)
theorem month_range (y : Int) : ∀ (f : Nat) (d m : Int), 1 ≤ m → m + f = 12 → 0 ≤ d → d < totG y f m → 1 ≤ (monthG y f d m).1 ∧ (monthG y f d m).1 ≤ 12 ∧ 0 ≤ (monthG y f d m).2 ∧ (monthG y f d m).2 ≤ 31
  | 0, d, m, h1, h2, h3, h4 => by
    have := len_range y h1 (show m ≤ 12 by omega)
    simp only [totG] at h4
    simp only [monthG]; omega
  | f + 1, d, m, h1, h2, h3, h4 => by
    have hl := len_range y h1 (show m ≤ 12 by omega)
    simp only [totG] at h4
    simp only [monthG]
    by_cases c : d ≥ lenG y m
    · rw [if_pos c]; exact month_range y f (d - lenG y m) (m + 1) (by omega) (by omega) (by omega) (by omega)
    · rw [if_neg c]; exact ⟨h1, by omega, h3, by show d ≤ 31; omega⟩
theorem month_l1 (y : Int) : ∀ (f : Nat) (d m : Int), 1 ≤ m → m + f = 12 → 0 ≤ d → d ≤ 1000 → d < totG y f m → Ev (fun k => date_Civil.l1 k d y m) (y, (monthG y f d m).1, (monthG y f d m).2 + 1)
  | 0, d, m, h1, h2, h3, hd, h4 => by
    simp only [totG] at h4
    refine Ev.step (f := fun _ => some (y, m, d + 1)) (fun k => ?_) (Ev.now _)
    simp only [date_Civil.l1]; rw [length_eq y h1 (by omega), Option.bind_some, if_neg (by omega), wrap_id (by omega) (by omega)]
  | f + 1, d, m, h1, h2, h3, hd, h4 => by
    have hl := len_range y h1 (show m ≤ 12 by omega)
    simp only [totG] at h4
    simp only [monthG]
    by_cases c : d ≥ lenG y m
    · rw [if_pos c]
      refine Ev.step (f := fun k => date_Civil.l1 k (d - lenG y m) y (m + 1)) (fun k => ?_) (month_l1 y f (d - lenG y m) (m + 1) (by omega) (by omega) (by omega) (by omega) (by omega))
      simp only [date_Civil.l1]; rw [length_eq y h1 (by omega), Option.bind_some, if_pos c, Option.bind_some, wrap_id (i := d - lenG y m) (by omega) (by omega), wrap_id (i := m + 1) (by omega) (by omega)]
    · rw [if_neg c]
      refine Ev.step (f := fun _ => some (y, m, d + 1)) (fun k => ?_) (Ev.now _)
      simp only [date_Civil.l1]; rw [length_eq y h1 (by omega), Option.bind_some, if_neg c, wrap_id (by omega) (by omega)]
theorem rmonth_l1 (y : Int) : ∀ (f : Nat) (d m : Int), 1 ≤ m → m + f = 12 → 0 ≤ d → d ≤ 1000 → d < totG y f m → Ev (fun k => corebankref04_Civil.l1 k d y m) (y, (monthG y f d m).1, (monthG y f d m).2 + 1)
  | 0, d, m, h1, h2, h3, hd, h4 => by
    simp only [totG] at h4
    refine Ev.step (f := fun k => (corebankref04_Length.f k y m).bind fun t => if d ≥ t then (corebankref04_Length.f k y m).bind fun u => corebankref04_Civil.l1 k (wrap64 (d - u)) y (wrap64 (m + 1)) else some (y, m, wrap64 (d + 1))) (fun k => by simp only [corebankref04_Civil.l1]) ?_
    refine Ev.bind (rlength_ev y h1 (by omega)) ?_
    exact Ev.congr (fun k => if_neg (by omega)) (Ev.some_ (by rw [wrap_id (by omega) (by omega)]; rfl))
  | f + 1, d, m, h1, h2, h3, hd, h4 => by
    have hl := len_range y h1 (show m ≤ 12 by omega)
    simp only [totG] at h4
    simp only [monthG]
    refine Ev.step (f := fun k => (corebankref04_Length.f k y m).bind fun t => if d ≥ t then (corebankref04_Length.f k y m).bind fun u => corebankref04_Civil.l1 k (wrap64 (d - u)) y (wrap64 (m + 1)) else some (y, m, wrap64 (d + 1))) (fun k => by simp only [corebankref04_Civil.l1]) ?_
    refine Ev.bind (rlength_ev y h1 (by omega)) ?_
    by_cases c : d ≥ lenG y m
    · rw [if_pos c]
      refine Ev.congr (fun k => if_pos c) (Ev.bind (rlength_ev y h1 (by omega)) ?_)
      rw [wrap_id (i := d - lenG y m) (by omega) (by omega), wrap_id (i := m + 1) (by omega) (by omega)]
      exact rmonth_l1 y f (d - lenG y m) (m + 1) (by omega) (by omega) (by omega) (by omega) (by omega)
    · rw [if_neg c]
      exact Ev.congr (fun k => if_neg c) (Ev.some_ (by rw [wrap_id (by omega) (by omega)]))

/-! ### Civil -/
theorem civil_l0 (d y : Int) (h1 : 2000 ≤ y) (h2 : y ≤ 2199) (h3 : beginG y ≤ d) (h4 : d < beginG (y + 1)) (hd : 0 ≤ d) (hd' : d ≤ 73048) : ∀ (f : Nat) (z : Int), 2000 ≤ z → z + f = y →
    Ev (fun k => date_Civil.l0 k d z) (y, (monthG y 11 (d - beginG y) 1).1, (monthG y 11 (d - beginG y) 1).2 + 1)
  | 0, z, hz, hf => by
    obtain rfl : z = y := by omega
    have hb := begin_next h1 (show z < 2200 by omega)
    have hr := year_range z
    have hb0 : 0 ≤ beginG z := by have := begin_le (a := 2000) (b := z) (by omega) h1 (by omega); have h0 : beginG 2000 = 0 := by decide
                                  omega
    refine Ev.step (f := fun k => date_Civil.l1 k (d - beginG z) z 1) (fun k => ?_) (month_l1 z 11 (d - beginG z) 1 (by omega) (by omega) (by omega) (by omega) (by rw [tot_year]; omega))
    simp only [date_Civil.l0]
    rw [wrap_id (i := z + 1) (by omega) (by omega), begin_eq (by omega) (by omega), Option.bind_some, if_neg (by omega), begin_eq (by omega) (by omega), Option.bind_some, wrap_id (by omega) (by omega)]
  | f + 1, z, hz, hf => by
    have hb := begin_le (a := z + 1) (b := y) (by omega) (by omega) (by omega)
    refine Ev.step (f := fun k => date_Civil.l0 k d (z + 1)) (fun k => ?_) (civil_l0 d y h1 h2 h3 h4 hd hd' f (z + 1) (by omega) (by omega))
    simp only [date_Civil.l0]
    rw [wrap_id (i := z + 1) (by omega) (by omega), begin_eq (by omega) (by omega), Option.bind_some, if_pos (by omega)]
theorem ryear_eq (y : Int) : corebankref04_yearLength.f y = some (yearG y) := by
  unfold corebankref04_yearLength.f yearG
  rw [rleap_eq]
  cases leapG y <;> rfl
theorem rcivil_l0 (d y : Int) (h1 : 2000 ≤ y) (h2 : y ≤ 2199) (h3 : beginG y ≤ d) (h4 : d < beginG (y + 1)) (hd : 0 ≤ d) (hd' : d ≤ 73048) : ∀ (f : Nat) (z : Int), 2000 ≤ z → z + f = y →
    Ev (fun k => corebankref04_Civil.l0 k (d - beginG z) z 1) (y, (monthG y 11 (d - beginG y) 1).1, (monthG y 11 (d - beginG y) 1).2 + 1)
  | 0, z, hz, hf => by
    obtain rfl : z = y := by omega
    have hb := begin_next h1 (show z < 2200 by omega)
    have hr := year_range z
    refine Ev.step (f := fun k => corebankref04_Civil.l1 k (d - beginG z) z 1) (fun k => ?_) (rmonth_l1 z 11 (d - beginG z) 1 (by omega) (by omega) (by omega) (by omega) (by rw [tot_year]; omega))
    simp only [corebankref04_Civil.l0]
    rw [ryear_eq, Option.bind_some, if_neg (by omega)]
  | f + 1, z, hz, hf => by
    have hb := begin_le (a := z + 1) (b := y) (by omega) (by omega) (by omega)
    have hn := begin_next hz (show z < 2200 by omega)
    have hr := year_range z
    have hb0 : 0 ≤ beginG z := by have := begin_le (a := 2000) (b := z) (by omega) hz (by omega); have h0 : beginG 2000 = 0 := by decide
                                  omega
    refine Ev.step (f := fun k => corebankref04_Civil.l0 k (d - beginG (z + 1)) (z + 1) 1) (fun k => ?_) (rcivil_l0 d y h1 h2 h3 h4 hd hd' f (z + 1) (by omega) (by omega))
    simp only [corebankref04_Civil.l0]
    rw [ryear_eq, Option.bind_some, if_pos (by omega), Option.bind_some, wrap_id (i := d - beginG z - yearG z) (by omega) (by omega), wrap_id (i := z + 1) (by omega) (by omega), hn]
    congr 1; omega
/-- The last day of the month of a day of the year y. -/
def endG (y d : Int) : Int := d - ((monthG y 11 (d - beginG y) 1).2 + 1) + lenG y (monthG y 11 (d - beginG y) 1).1
theorem monthEnd_both {d : Int} (hv : validG d = true) : ∃ e : Int, Ev (fun k => date_MonthEnd.f k d) e ∧ Ev (fun k => corebankref04_MonthEnd.f k d) e := by
  have hd := of_decide_eq_true hv
  have hb : beginG (2000 + ((200 : Nat) : Int)) = 73049 := by decide
  obtain ⟨y, h1, h2, h3, h4⟩ := year_of d hd.1 200 (by omega) (by omega)
  have h2' : y ≤ 2199 := by omega
  have hn := begin_next h1 (show y < 2200 by omega)
  have hr := year_range y
  have hm := month_range y 11 (d - beginG y) 1 (by omega) (by omega) (by omega) (by rw [tot_year]; omega)
  have hl := len_range y hm.1 hm.2.1
  refine ⟨endG y d, ?_, ?_⟩
  · refine Ev.bind (valid_ev d) (Ev.congr (fun k => if_pos hv) ?_)
    have hq : Int.tdiv d 366 = d / 366 := Int.tdiv_eq_ediv_of_nonneg hd.1
    have hw : wrap64 (2000 + wrap64 (Int.tdiv d 366)) = 2000 + d / 366 := by rw [hq, wrap_id (i := d / 366) (by omega) (by omega), wrap_id (by omega) (by omega)]
    have h366 := begin_366 (d / 366).toNat (by omega)
    have hle : 2000 + d / 366 ≤ y := by
      by_cases c : 2000 + d / 366 ≤ y
      · exact c
      · have := begin_le (a := y + 1) (b := 2000 + d / 366) (by omega) (by omega) (by omega)
        rw [show (2000 : Int) + ((d / 366).toNat : Int) = 2000 + d / 366 by omega] at h366
        omega
    have hc : Ev (fun k => date_Civil.f k d) (y, (monthG y 11 (d - beginG y) 1).1, (monthG y 11 (d - beginG y) 1).2 + 1) := by
      refine Ev.bind (valid_ev d) (Ev.congr (fun k => if_pos hv) ?_)
      rw [hw]
      exact civil_l0 d y h1 h2' h3 h4 hd.1 hd.2 (y - (2000 + d / 366)).toNat _ (by omega) (by omega)
    refine Ev.bind hc (Ev.bind (length_ev y hm.1 hm.2.1) (Ev.some_ ?_))
    unfold endG
    show wrap64 (wrap64 (d - ((monthG y 11 (d - beginG y) 1).2 + 1)) + lenG y (monthG y 11 (d - beginG y) 1).1) = _
    rw [wrap_id (i := d - ((monthG y 11 (d - beginG y) 1).2 + 1)) (by omega) (by omega), wrap_id (by omega) (by omega)]
  · refine Ev.bind (rvalid_ev d) (Ev.congr (fun k => if_pos hv) ?_)
    have hc : Ev (fun k => corebankref04_Civil.f k d) (y, (monthG y 11 (d - beginG y) 1).1, (monthG y 11 (d - beginG y) 1).2 + 1) := by
      refine Ev.bind (rvalid_ev d) (Ev.congr (fun k => if_pos hv) ?_)
      have := rcivil_l0 d y h1 h2' h3 h4 hd.1 hd.2 (y - 2000).toNat 2000 (by omega) (by omega)
      rwa [show d - beginG 2000 = d by have h0 : beginG 2000 = 0 := by decide
                                       omega] at this
    refine Ev.bind hc (Ev.bind (rlength_ev y hm.1 hm.2.1) (Ev.some_ ?_))
    unfold endG
    show wrap64 (wrap64 (d + lenG y (monthG y 11 (d - beginG y) 1).1) - ((monthG y 11 (d - beginG y) 1).2 + 1)) = _
    rw [wrap_id (i := d + lenG y (monthG y 11 (d - beginG y) 1).1) (by omega) (by omega), wrap_id (by omega) (by omega)]; omega
end Go.Proofs.Ytajephmamebcgaa.K.Proof
