/- The pure statement of CalendarCounts. -/
import Derived.Test.YtajephmamebcgaaKx12
import Derived.Test.YtajephmamebcgaaKLives
import Derived.Test.YtajephmamebcgaaKAdd
import Derived.Test.YtajephmamebcgaaKCount
import Derived.Test.YtajephmamebcgaaKStateCalendarCounts
namespace Go.Proofs.Ytajephmamebcgaa.K.Proof
open Go.RowKit Go.Proofs.Ytajephmamebcgaa.K Go.Proofs.YtajephmamebcgaaW.PrintWords Go.Proofs.YtajephmamebcgaaW.PrintLast

theorem scan_spec (p : Int → Bool) : ∀ (f : Nat) (d : Int) (n : Nat), 1 ≤ n →
    ((scanN p f d n).2 = 0 ∧ d ≤ (scanN p f d n).1 ∧ (scanN p f d n).1 < d + f ∧ p (scanN p f d n).1 = true ∧ cntG p ((scanN p f d n).1 - d).toNat d = n - 1) ∨ (scanN p f d n = (0, 11) ∧ cntG p f d < n)
  | 0, d, n, h => .inr ⟨rfl, by simp only [cntG]; omega⟩
  | f + 1, d, n, h => by
    simp only [scanN]
    by_cases c : p d = true
    · rw [if_pos c]
      by_cases c2 : n = 1
      · rw [if_pos c2]
        refine .inl ⟨rfl, Int.le_refl _, by omega, c, ?_⟩
        rw [show (d - d).toNat = 0 by omega]; simp only [cntG]; omega
      · rw [if_neg c2]
        rcases scan_spec p f (d + 1) (n - 1) (by omega) with ⟨h1, h2, h3, h4, h5⟩ | ⟨h1, h2⟩
        · refine .inl ⟨h1, by omega, by omega, h4, ?_⟩
          rw [show ((scanN p f (d + 1) (n - 1)).1 - d).toNat = ((scanN p f (d + 1) (n - 1)).1 - (d + 1)).toNat + 1 by omega]
          simp only [cntG]; rw [if_pos c, h5]; omega
        · refine .inr ⟨h1, ?_⟩
          simp only [cntG]; rw [if_pos c]; omega
    · rw [if_neg c]
      rcases scan_spec p f (d + 1) n h with ⟨h1, h2, h3, h4, h5⟩ | ⟨h1, h2⟩
      · refine .inl ⟨h1, by omega, by omega, h4, ?_⟩
        rw [show ((scanN p f (d + 1) n).1 - d).toNat = ((scanN p f (d + 1) n).1 - (d + 1)).toNat + 1 by omega]
        simp only [cntG]; rw [if_neg c, h5]; omega
      · refine .inr ⟨h1, ?_⟩
        simp only [cntG]; rw [if_neg c]; omega

theorem CalendarCounts : corebanklaw05_CalendarCounts.Pure := by
  intro a d n ha _ _
  have hx := ha.2.1.2.1
  have hy := ha.2.2.2.1
  refine ev_rounds ?_
  refine Ev.bind (few_ev _ _ _) ?_
  cases fewG a.f1 a.f2 with
  | false => exact Ev.congr (fun k => if_neg (by decide)) live_then
  | true =>
    refine Ev.congr (fun k => if_pos rfl) ?_
    refine Ev.bind (add_ev _ _ _ hx hy _ _) (Ev.bind (rvalid_ev d) ?_)
    by_cases cv : validG d = true ∧ 1 ≤ n ∧ n ≤ 1000
    · have c' := of_decide_eq_true cv.1
      refine Ev.congr (f := fun k => corebanklaw05_CalendarCounts.j0 k d n (addG a.f1 a.f2 d n).1 (addG a.f1 a.f2 d n).2 false a.f0 a.f1 a.f2) (fun k => ?_) ?_
      · rw [if_pos cv.1, if_neg (by omega), decide_eq_false (by omega)]
      · have e : addG a.f1 a.f2 d n = scanN (openG a.f1 a.f2) (73048 - d).toNat (d + 1) n.toNat := by unfold addG; rw [if_pos cv]
        have hw : wrap64 (d + 1) = d + 1 := wrap_id (by omega) (by omega)
        have hw2 : wrap64 (n - 1) = n - 1 := wrap_id (by omega) (by omega)
        have hlo : loG (d + 1) = d + 1 := by unfold loG; rw [if_neg (by omega)]
        rcases scan_spec (openG a.f1 a.f2) (73048 - d).toNat (d + 1) n.toNat (by omega) with ⟨h1, h2, h3, h4, h5⟩ | ⟨h1, h2⟩
        · rw [← e] at h1 h2 h3 h4 h5
          generalize addG a.f1 a.f2 d n = r at h1 h2 h3 h4 h5 ⊢
          have hhi : hiG r.1 = r.1 := by unfold hiG; rw [if_neg (by omega)]
          refine Ev.step (f := fun k => (calendar_Open.f k a.f0 a.f1 a.f2 r.1).bind fun t => (if t = true then ((calendar_Count.f k a.f0 a.f1 a.f2 (d + 1) r.1).bind fun c => (if c = n - 1 then ((corebanklaw05_live.f k).bind fun t => (some t)) else (some false))) else (some false))) (fun k => ?_) ?_
          · simp only [corebanklaw05_CalendarCounts.j0]; rw [if_neg (by decide), if_pos h1, if_pos (by omega), hw, hw2]
          · refine Ev.bind (open_ev _ _ _ hx hy r.1) ?_
            refine Ev.congr (fun k => if_pos h4) (Ev.bind (count_ev _ _ _ hx hy _ _) ?_)
            refine Ev.congr (fun k => if_pos ?_) live_then
            unfold countG; rw [hlo, hhi, h5]; omega
        · rw [← e] at h1
          rw [h1]
          refine Ev.step (f := fun k => (calendar_Count.f k a.f0 a.f1 a.f2 (d + 1) 73049).bind fun c => (if c < n then ((corebanklaw05_live.f k).bind fun t => (some t)) else (some false))) (fun k => ?_) ?_
          · simp only [corebanklaw05_CalendarCounts.j0]; rw [if_neg (by decide), if_neg (by decide), if_pos trivial, if_pos trivial, hw]
          · refine Ev.bind (count_ev _ _ _ hx hy _ _) ?_
            refine Ev.congr (fun k => if_pos ?_) live_then
            have hhi : hiG 73049 = 73049 := rfl
            unfold countG; rw [hlo, hhi, show (73049 - (d + 1)).toNat = (73048 - d).toNat by omega]; omega
    · have e : addG a.f1 a.f2 d n = (0, 1) := by unfold addG; rw [if_neg cv]
      rw [e]
      refine Ev.congr (f := fun k => corebanklaw05_CalendarCounts.j0 k d n 0 1 true a.f0 a.f1 a.f2) (fun k => ?_) ?_
      · by_cases c : validG d = true
        · rw [if_pos c]
          by_cases c1 : n < 1
          · rw [if_pos c1]
          · rw [if_neg c1, decide_eq_true (show n > 1000 by have : ¬ (1 ≤ n ∧ n ≤ 1000) := fun h => cv ⟨c, h⟩; omega)]
        · rw [if_neg c]
      · exact Ev.step (f := fun k => (corebanklaw05_live.f k).bind fun t => (some t)) (fun k => by simp only [corebanklaw05_CalendarCounts.j0]; rfl) live_then
end Go.Proofs.Ytajephmamebcgaa.K.Proof
