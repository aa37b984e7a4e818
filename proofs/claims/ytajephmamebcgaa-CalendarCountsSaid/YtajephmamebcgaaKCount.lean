/- Counting open days: Count of the program and of the reference. -/
import Derived.Test.YtajephmamebcgaaKx19
import Derived.Test.YtajephmamebcgaaKx8
import Derived.Test.YtajephmamebcgaaKBase
namespace Go.Proofs.Ytajephmamebcgaa.K.Proof
open Go.RowKit Go.Proofs.Ytajephmamebcgaa.K Go.Proofs.YtajephmamebcgaaW.PrintWords Go.Proofs.YtajephmamebcgaaW.PrintLast Go.Proofs.YtajephmamebcgaaW.PrintMore

/-- How many of f days from d on have p. -/
def cntG (p : Int → Bool) : Nat → Int → Nat
  | 0, _ => 0
  | f + 1, d => (if p d = true then 1 else 0) + cntG p f (d + 1)
theorem cnt_add (p : Int → Bool) : ∀ (f g : Nat) (d : Int), cntG p (f + g) d = cntG p f d + cntG p g (d + f)
  | 0, g, d => by simp [cntG]
  | f + 1, g, d => by
    have e : f + 1 + g = (f + g) + 1 := by omega
    have e2 : d + 1 + (f : Int) = d + ((f + 1 : Nat) : Int) := by omega
    rw [e]; simp only [cntG]; rw [cnt_add p f g (d + 1), e2]; omega
theorem cnt_le (p : Int → Bool) : ∀ (f : Nat) (d : Int), cntG p f d ≤ f
  | 0, _ => Nat.le_refl _
  | f + 1, d => by have := cnt_le p f (d + 1); simp only [cntG]; split <;> omega
theorem cnt_zero (p : Int → Bool) : ∀ (f : Nat) (d : Int), (∀ e, d ≤ e → e < d + f → p e = false) → cntG p f d = 0
  | 0, _, _ => rfl
  | f + 1, d, h => by
    simp only [cntG]
    rw [h d (by omega) (by omega), cnt_zero p f (d + 1) (fun e h1 h2 => h e (by omega) (by omega))]
    rfl
theorem cnt_congr (p q : Int → Bool) : ∀ (f : Nat) (d : Int), (∀ e, d ≤ e → e < d + f → q e = p e) → cntG q f d = cntG p f d
  | 0, _, _ => rfl
  | f + 1, d, h => by
    simp only [cntG]
    rw [h d (by omega) (by omega), cnt_congr p q f (d + 1) (fun e h1 h2 => h e (by omega) (by omega))]
def loG (a : Int) : Int := if a < 0 then 0 else a
def hiG (b : Int) : Int := if b > 73049 then 73049 else b
theorem mx_lo (a : Int) : mx a 0 = loG a := by unfold mx loG; rfl
theorem mn_hi (b : Int) : mn b 73049 = hiG b := by unfold mn hiG; rfl
/-- The open days from a to below b. -/
def countG (p : Int → Bool) (a b : Int) : Nat := cntG p (hiG b - loG a).toNat (loG a)
theorem count_bound (p : Int → Bool) (a b : Int) : countG p a b ≤ 73049 := by
  have := cnt_le p (hiG b - loG a).toNat (loG a)
  unfold countG
  have h1 : hiG b ≤ 73049 := by unfold hiG; split <;> omega
  have h2 : 0 ≤ loG a := by unfold loG; split <;> omega
  omega
theorem count_add (p : Int → Bool) {a b c : Int} (h : a ≤ b) (h' : b ≤ c) : countG p a b + countG p b c = countG p a c := by
  unfold countG
  by_cases c1 : b ≤ 0
  · have e1 : (hiG b - loG a).toNat = 0 := by unfold hiG loG; split <;> split <;> omega
    have e2 : loG b = loG a := by unfold loG; split <;> split <;> omega
    rw [e1, e2]; simp [cntG]
  · by_cases c2 : 73049 ≤ b
    · have e1 : (hiG c - loG b).toNat = 0 := by unfold hiG loG; split <;> split <;> omega
      have e2 : hiG b = hiG c := by unfold hiG; split <;> split <;> omega
      rw [e1, e2]; simp [cntG]
    · have e1 : loG b = b := by unfold loG; split <;> omega
      have e2 : hiG b = b := by unfold hiG; split <;> omega
      have h1 : loG a ≤ b := by unfold loG; split <;> omega
      have h2 : b ≤ hiG c := by unfold hiG; split <;> omega
      have e3 : (hiG c - loG a).toNat = (b - loG a).toNat + (hiG c - b).toNat := by omega
      have e4 : loG a + ((b - loG a).toNat : Int) = b := by omega
      rw [e1, e2, e3, cnt_add, e4]
section
variable (n : ByteArray) (x y : List Int) (hx : x.length ≤ 9223372036854775807) (hy : y.length ≤ 9223372036854775807)
include hx hy
theorem count_l0 (b : Int) : ∀ (m : Nat) (d : Int) (c : Nat), 0 ≤ d → m = (hiG b - d).toNat → c + m ≤ 1000000 →
    Ev (fun k => calendar_Count.l0 k b (c : Int) d n x y) ((c + cntG (openG x y) m d : Nat) : Int)
  | 0, d, c, h0, h, hc => by
    refine Ev.step (f := fun _ => some (c : Int)) (fun k => ?_) (Ev.some_ (by simp [cntG]))
    simp only [calendar_Count.l0]; rw [mn_hi, if_neg (by omega)]
  | m + 1, d, c, h0, h, hc => by
    have hh : hiG b ≤ 73049 := by unfold hiG; split <;> omega
    refine Ev.step (f := fun k => (calendar_Open.f k n x y d).bind fun t => (if t = true then calendar_Count.l0 k b ((c + 1 : Nat) : Int) (d + 1) n x y else calendar_Count.l0 k b (c : Int) (d + 1) n x y)) (fun k => ?_) ?_
    · simp only [calendar_Count.l0]; rw [mn_hi, if_pos (by omega), wrap_id (i := d + 1) (by omega) (by omega), wrap_inc (n := c + 1) (by omega) (by omega)]
    · refine Ev.bind (open_ev n x y hx hy d) ?_
      simp only [cntG]
      by_cases co : openG x y d = true
      · rw [if_pos co]
        have := count_l0 b m (d + 1) (c + 1) (by omega) (by omega) (by omega)
        rw [show c + (1 + cntG (openG x y) m (d + 1)) = c + 1 + cntG (openG x y) m (d + 1) by omega]
        exact Ev.congr (fun k => if_pos co) this
      · rw [if_neg co, Nat.zero_add]
        exact Ev.congr (fun k => if_neg co) (count_l0 b m (d + 1) c (by omega) (by omega) (by omega))
theorem count_ev (a b : Int) : Ev (fun k => calendar_Count.f k n x y a b) (countG (openG x y) a b : Int) := by
  have h2 : 0 ≤ loG a := by unfold loG; split <;> omega
  have hh : hiG b ≤ 73049 := by unfold hiG; split <;> omega
  have h := count_l0 n x y hx hy b (hiG b - loG a).toNat (loG a) 0 h2 rfl (by omega)
  rw [Nat.zero_add] at h
  exact Ev.congr (fun k => by unfold calendar_Count.f; rw [mx_lo]; rfl) h
/-- The open days of a window. -/
def winG (x y : List Int) (a b e : Int) : Bool := decide (a ≤ e ∧ e < b) && openG x y e
theorem rcount_l0 (a b : Int) : ∀ (m : Nat) (d : Int) (c : Nat), 0 ≤ d → d + m = 73049 → c + m ≤ 1000000 →
    Ev (fun k => corebankref05_Count.l0 k a b (c : Int) d n x y) ((c + cntG (winG x y a b) m d : Nat) : Int)
  | 0, d, c, h0, h, hc => by
    refine Ev.step (f := fun _ => some (c : Int)) (fun k => ?_) (Ev.some_ (by simp [cntG]))
    simp only [corebankref05_Count.l0]; rw [if_neg (by omega)]
  | m + 1, d, c, h0, h, hc => by
    have hs := rcount_l0 a b m (d + 1) c (by omega) (by omega) (by omega)
    have hw := wrap_id (i := d + 1) (by omega) (by omega)
    by_cases c1 : a ≤ d ∧ d < b
    · refine Ev.step (f := fun k => (corebankref05_Open.f k n x y d).bind fun t => (if t = true then corebankref05_Count.l0 k a b ((c + 1 : Nat) : Int) (d + 1) n x y else corebankref05_Count.l0 k a b (c : Int) (d + 1) n x y)) (fun k => ?_) ?_
      · simp only [corebankref05_Count.l0]; rw [if_pos (by omega), if_pos (by omega), if_pos (by omega), hw, wrap_inc (n := c + 1) (by omega) (by omega)]
      · refine Ev.bind (ropen_ev n x y hx hy d) ?_
        have e : winG x y a b d = openG x y d := by unfold winG; rw [decide_eq_true c1]; rfl
        simp only [cntG, e]
        by_cases co : openG x y d = true
        · rw [if_pos co]
          have := rcount_l0 a b m (d + 1) (c + 1) (by omega) (by omega) (by omega)
          rw [show c + (1 + cntG (winG x y a b) m (d + 1)) = c + 1 + cntG (winG x y a b) m (d + 1) by omega]
          exact Ev.congr (fun k => if_pos co) this
        · rw [if_neg co, Nat.zero_add]
          exact Ev.congr (fun k => if_neg co) hs
    · have e : winG x y a b d = false := by unfold winG; rw [decide_eq_false c1]; rfl
      simp only [cntG, e]
      rw [if_neg (by decide), Nat.zero_add]
      refine Ev.step (f := fun k => corebankref05_Count.l0 k a b (c : Int) (d + 1) n x y) (fun k => ?_) hs
      simp only [corebankref05_Count.l0]; rw [if_pos (by omega), hw]
      by_cases c2 : d ≥ a
      · rw [if_pos c2, if_neg (by omega)]
      · rw [if_neg c2]
omit hx hy in
theorem win_count (a b : Int) : cntG (winG x y a b) 73049 0 = countG (openG x y) a b := by
  have h2 : 0 ≤ loG a := by unfold loG; split <;> omega
  have h3 : a ≤ loG a := by unfold loG; split <;> omega
  have h3' : loG a = 0 ∨ loG a = a := by unfold loG; split <;> omega
  have hh : hiG b ≤ 73049 := by unfold hiG; split <;> omega
  have hb : hiG b ≤ b := by unfold hiG; split <;> omega
  have hb' : hiG b = 73049 ∨ hiG b = b := by unfold hiG; split <;> omega
  unfold countG
  by_cases c : hiG b ≤ loG a
  · rw [show (hiG b - loG a).toNat = 0 by omega]
    refine cnt_zero _ _ _ (fun e h1 h2 => ?_)
    unfold winG; rw [decide_eq_false (by omega)]; rfl
  · have e : 73049 = (loG a).toNat + ((hiG b - loG a).toNat + (73049 - hiG b).toNat) := by omega
    have z1 : cntG (winG x y a b) (loG a).toNat 0 = 0 := cnt_zero _ _ _ (fun e h1 h2 => by unfold winG; rw [decide_eq_false (by omega)]; rfl)
    have z2 : cntG (winG x y a b) (hiG b - loG a).toNat (loG a) = cntG (openG x y) (hiG b - loG a).toNat (loG a) := cnt_congr _ _ _ _ (fun e h1 h2 => by unfold winG; rw [decide_eq_true (by omega)]; rfl)
    have z3 : cntG (winG x y a b) (73049 - hiG b).toNat (hiG b) = 0 := cnt_zero _ _ _ (fun e h1 h2 => by unfold winG; rw [decide_eq_false (by omega)]; rfl)
    have e1 : (0 : Int) + ((loG a).toNat : Int) = loG a := by omega
    have e2 : loG a + ((hiG b - loG a).toNat : Int) = hiG b := by omega
    rw [e, cnt_add, z1, e1, cnt_add, e2, z2, z3]; omega
theorem rcount_ev (a b : Int) : Ev (fun k => corebankref05_Count.f k n x y a b) (countG (openG x y) a b : Int) := by
  have h := rcount_l0 n x y hx hy a b 73049 0 0 (by omega) (by omega) (by omega)
  rw [Nat.zero_add, win_count] at h
  exact Ev.congr (fun k => by unfold corebankref05_Count.f; rfl) h
end
end Go.Proofs.Ytajephmamebcgaa.K.Proof
