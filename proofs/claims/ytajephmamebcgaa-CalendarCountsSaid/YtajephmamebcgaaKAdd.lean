/- Add of the program and of the reference. -/
import Derived.Test.YtajephmamebcgaaKx19
import Derived.Test.YtajephmamebcgaaKx8
import Derived.Test.YtajephmamebcgaaKBase
namespace Go.Proofs.Ytajephmamebcgaa.K.Proof
open Go.RowKit Go.Proofs.Ytajephmamebcgaa.K Go.Proofs.YtajephmamebcgaaW.PrintWords Go.Proofs.YtajephmamebcgaaW.PrintLast Go.Proofs.YtajephmamebcgaaW.PrintMore

/-- The nth of f days from d on that has p. -/
def scanN (p : Int → Bool) : Nat → Int → Nat → Int × Int
  | 0, _, _ => (0, 11)
  | f + 1, d, n => if p d = true then (if n = 1 then (d, 0) else scanN p f (d + 1) (n - 1)) else scanN p f (d + 1) n
theorem up_spec (p : Int → Bool) : ∀ (f : Nat) (d : Int), ((scanUp p f d).2 = 0 ∧ d ≤ (scanUp p f d).1 ∧ (scanUp p f d).1 < d + f ∧ p (scanUp p f d).1 = true) ∨ scanUp p f d = (0, 11)
  | 0, _ => .inr rfl
  | f + 1, d => by
    simp only [scanUp]
    by_cases c : p d = true
    · rw [if_pos c]; exact .inl ⟨rfl, Int.le_refl _, by omega, c⟩
    · rw [if_neg c]
      rcases up_spec p f (d + 1) with ⟨h1, h2, h3, h4⟩ | h
      · exact .inl ⟨h1, by omega, by omega, h4⟩
      · exact .inr h
/-- The nth is the first one, and the n - 1st behind it. -/
theorem scan_next (p : Int → Bool) (m : Nat) : ∀ (f : Nat) (d : Int), scanN p f d (m + 1) = if (scanUp p f d).2 = 0 then (if m = 0 then ((scanUp p f d).1, 0) else scanN p (d + f - (scanUp p f d).1 - 1).toNat ((scanUp p f d).1 + 1) m) else (0, (scanUp p f d).2)
  | 0, d => by simp [scanN, scanUp]
  | f + 1, d => by
    simp only [scanN, scanUp]
    by_cases c : p d = true
    · simp only [if_pos c, if_true]
      have e : (d + ((f + 1 : Nat) : Int) - d - 1).toNat = f := by omega
      rw [e]
      by_cases c2 : m = 0
      · rw [if_pos (by omega), if_pos c2]
      · rw [if_neg (by omega), if_neg c2]; rfl
    · simp only [if_neg c]
      rw [scan_next p m f (d + 1)]
      have e : (d + 1 + (f : Int) - (scanUp p f (d + 1)).1 - 1).toNat = (d + ((f + 1 : Nat) : Int) - (scanUp p f (d + 1)).1 - 1).toNat := by omega
      rw [e]
def addG (x y : List Int) (d n : Int) : Int × Int := if validG d = true ∧ 1 ≤ n ∧ n ≤ 1000 then scanN (openG x y) (73048 - d).toNat (d + 1) n.toNat else (0, 1)
section
variable (n : ByteArray) (x y : List Int) (hx : x.length ≤ 9223372036854775807) (hy : y.length ≤ 9223372036854775807)
include hx hy
theorem add_l0 (q : Nat) (hq : q ≤ 1000) : ∀ (m i : Nat) (d : Int), i + m = q → 0 ≤ d → d ≤ 73048 →
    Ev (fun k => calendar_Add.l0 k d (q : Int) i n x y) (if m = 0 then (d, 0) else scanN (openG x y) (73048 - d).toNat (d + 1) m)
  | 0, i, d, h, h0, h1 => by
    rw [if_pos rfl]
    refine Ev.step (f := fun _ => some (d, 0)) (fun k => ?_) (Ev.now _)
    simp only [calendar_Add.l0]; rw [if_neg (by omega)]
  | m + 1, i, d, h, h0, h1 => by
    rw [if_neg (by omega)]
    by_cases c : d = 73048
    · refine Ev.step (f := fun _ => some (0, 11)) (fun k => ?_) (Ev.some_ ?_)
      · simp only [calendar_Add.l0]; rw [if_pos (by omega), if_pos c]
      · subst c; rfl
    · refine Ev.step (f := fun k => (calendar_Next.f k n x y (d + 1)).bind fun b => (if b.2 = 0 then calendar_Add.l0 k b.1 (q : Int) ((i + 1 : Nat) : Int) n x y else some (0, b.2))) (fun k => ?_) ?_
      · simp only [calendar_Add.l0]; rw [if_pos (by omega), if_neg c, wrap_id (i := d + 1) (by omega) (by omega), wrap_inc (n := q) (by omega) (by omega)]
      · refine Ev.bind (next_ev n x y hx hy (d + 1)) ?_
        have e : nextG x y (d + 1) = scanUp (openG x y) (73048 - d).toNat (d + 1) := by
          unfold nextG; rw [if_pos (valid_true (by omega) (by omega))]
          rw [show (73049 - (d + 1)).toNat = (73048 - d).toNat by omega]
        rw [e, scan_next]
        rcases up_spec (openG x y) (73048 - d).toNat (d + 1) with ⟨h2, h3, h4, _⟩ | h2
        · rw [if_pos h2]
          refine Ev.congr (fun k => if_pos h2) ?_
          have := add_l0 q hq m (i + 1) (scanUp (openG x y) (73048 - d).toNat (d + 1)).1 (by omega) (by omega) (by omega)
          rw [show (d + 1 + ((73048 - d).toNat : Int) - (scanUp (openG x y) (73048 - d).toNat (d + 1)).1 - 1).toNat = (73048 - (scanUp (openG x y) (73048 - d).toNat (d + 1)).1).toNat by omega]
          exact this
        · rw [h2, if_neg (by decide)]
          exact Ev.congr (fun k => if_neg (by decide)) (Ev.now _)
theorem add_ev (d q : Int) : Ev (fun k => calendar_Add.f k n x y d q) (addG x y d q) := by
  have hj : Ev (fun k => calendar_Add.j0 k d q true n x y) (0, 1) := Ev.step (f := fun _ => some (0, 1)) (fun k => by simp only [calendar_Add.j0]; rfl) (Ev.now _)
  refine Ev.bind (valid_ev d) ?_
  unfold addG
  by_cases c : validG d = true
  · refine Ev.congr (fun k => if_pos c) ?_
    have c' := of_decide_eq_true c
    by_cases c1 : q < 1
    · rw [if_neg (by omega)]; exact Ev.congr (fun k => if_pos c1) hj
    · refine Ev.congr (fun k => if_neg c1) ?_
      by_cases c2 : q > 1000
      · rw [if_neg (by omega), decide_eq_true c2]; exact hj
      · rw [if_pos ⟨c, by omega, by omega⟩, decide_eq_false c2]
        have h := add_l0 n x y hx hy q.toNat (by omega) q.toNat 0 d (by omega) c'.1 c'.2
        rw [if_neg (by omega), show ((q.toNat : Nat) : Int) = q by omega] at h
        exact Ev.step (f := fun k => calendar_Add.l0 k d q ((0 : Nat) : Int) n x y) (fun k => by simp only [calendar_Add.j0]; rfl) h
  · rw [if_neg (fun h => c h.1)]
    exact Ev.congr (fun k => if_neg c) hj
theorem radd_l0 : ∀ (f : Nat) (d : Int) (q : Nat), 1 ≤ q → q ≤ 1000 → 0 ≤ d → d + f = 73049 → Ev (fun k => corebankref05_Add.l0 k (q : Int) d n x y) (scanN (openG x y) f d q)
  | 0, d, q, h1, h2, h0, h => Ev.step (f := fun _ => some (0, 11)) (fun k => by simp only [corebankref05_Add.l0]; rw [if_neg (by omega)]) (Ev.now _)
  | f + 1, d, q, h1, h2, h0, h => by
    have hw : wrap64 ((q : Int) - 1) = ((q - 1 : Nat) : Int) := by rw [wrap_id (by omega) (by omega)]; omega
    refine Ev.step (f := fun k => (corebankref05_Open.f k n x y d).bind fun t => (if t = true then (if ((q - 1 : Nat) : Int) = 0 then some (d, 0) else corebankref05_Add.l0 k ((q - 1 : Nat) : Int) (d + 1) n x y) else corebankref05_Add.l0 k (q : Int) (d + 1) n x y)) (fun k => ?_) ?_
    · simp only [corebankref05_Add.l0]; rw [if_pos (by omega), hw, wrap_id (i := d + 1) (by omega) (by omega), if_neg (show ¬ (q : Int) = 0 by omega)]
    · refine Ev.bind (ropen_ev n x y hx hy d) ?_
      simp only [scanN]
      by_cases c : openG x y d = true
      · rw [if_pos c]
        refine Ev.congr (fun k => if_pos c) ?_
        by_cases c2 : q = 1
        · rw [if_pos c2]; exact Ev.congr (fun k => if_pos (by omega)) (Ev.now _)
        · rw [if_neg c2]; exact Ev.congr (fun k => if_neg (by omega)) (radd_l0 f (d + 1) (q - 1) (by omega) (by omega) (by omega) (by omega))
      · rw [if_neg c]; exact Ev.congr (fun k => if_neg c) (radd_l0 f (d + 1) q h1 h2 (by omega) (by omega))
theorem radd_ev (d q : Int) : Ev (fun k => corebankref05_Add.f k n x y d q) (addG x y d q) := by
  have hj : Ev (fun k => corebankref05_Add.j0 k d q true n x y) (0, 1) := Ev.step (f := fun _ => some (0, 1)) (fun k => by simp only [corebankref05_Add.j0]; rfl) (Ev.now _)
  refine Ev.bind (rvalid_ev d) ?_
  unfold addG
  by_cases c : validG d = true
  · refine Ev.congr (fun k => if_pos c) ?_
    have c' := of_decide_eq_true c
    by_cases c1 : q < 1
    · rw [if_neg (by omega)]; exact Ev.congr (fun k => if_pos c1) hj
    · refine Ev.congr (fun k => if_neg c1) ?_
      by_cases c2 : q > 1000
      · rw [if_neg (by omega), decide_eq_true c2]; exact hj
      · rw [if_pos ⟨c, by omega, by omega⟩, decide_eq_false c2]
        have h := radd_l0 n x y hx hy (73048 - d).toNat (d + 1) q.toNat (by omega) (by omega) (by omega) (by omega)
        rw [show ((q.toNat : Nat) : Int) = q by omega] at h
        exact Ev.step (f := fun k => corebankref05_Add.l0 k q (d + 1) n x y) (fun k => by simp only [corebankref05_Add.j0]; rw [if_neg (by decide), wrap_id (by omega) (by omega)]) h
  · rw [if_neg (fun h => c h.1)]
    exact Ev.congr (fun k => if_neg c) hj
end
end Go.Proofs.Ytajephmamebcgaa.K.Proof
