/- The pure statement of CalendarAdjusts. -/
import Derived.Test.YtajephmamebcgaaKLives
import Derived.Test.YtajephmamebcgaaKMonth
import Derived.Test.YtajephmamebcgaaKStateCalendarAdjusts
namespace Go.Proofs.Ytajephmamebcgaa.K.Proof
open Go.RowKit Go.Proofs.Ytajephmamebcgaa.K Go.Proofs.YtajephmamebcgaaW.PrintWords Go.Proofs.YtajephmamebcgaaW.PrintLast

/-- What Adjust comes to, e being the end of the month. -/
def adjustG (x y : List Int) (d rule e : Int) : Int × Int :=
  if validG d = true then
    (if rule = 0 then (d, 0) else if rule = 1 then nextG x y d else if rule = 3 then prevG x y d else
      if rule = 2 then (if (nextG x y d).2 = 0 then (if (nextG x y d).1 ≤ e then ((nextG x y d).1, 0) else prevG x y d) else prevG x y d) else (0, 1))
  else (0, 1)
section
variable (n : ByteArray) (x y : List Int) (hx : x.length ≤ 9223372036854775807) (hy : y.length ≤ 9223372036854775807)
include hx hy
theorem adjust_ev (d rule e : Int) (he : validG d = true → Ev (fun k => date_MonthEnd.f k d) e) : Ev (fun k => calendar_Adjust.f k n x y d rule) (adjustG x y d rule e) := by
  have hp : Ev (fun k => (calendar_Prev.f k n x y d).bind fun b => some (b.1, b.2)) (prevG x y d) := Ev.bind (prev_ev n x y hx hy d) (Ev.now _)
  unfold adjustG
  refine Ev.bind (valid_ev d) ?_
  by_cases c : validG d = true
  · rw [if_pos c]
    refine Ev.congr (fun k => if_pos c) ?_
    by_cases c0 : rule = 0
    · rw [if_pos c0]; exact Ev.congr (fun k => if_pos c0) (Ev.now _)
    · rw [if_neg c0]
      refine Ev.congr (fun k => if_neg c0) ?_
      by_cases c1 : rule = 1
      · rw [if_pos c1]; exact Ev.congr (fun k => if_pos c1) (Ev.bind (next_ev n x y hx hy d) (Ev.now _))
      · rw [if_neg c1]
        refine Ev.congr (fun k => if_neg c1) ?_
        by_cases c3 : rule = 3
        · rw [if_pos c3]; exact Ev.congr (fun k => if_pos c3) hp
        · rw [if_neg c3]
          refine Ev.congr (fun k => if_neg c3) ?_
          by_cases c2 : rule = 2
          · rw [if_pos c2]
            refine Ev.congr (fun k => if_pos c2) (Ev.bind (next_ev n x y hx hy d) ?_)
            by_cases c4 : (nextG x y d).2 = 0
            · rw [if_pos c4]
              refine Ev.congr (fun k => if_pos c4) (Ev.bind (he c) ?_)
              by_cases c5 : (nextG x y d).1 ≤ e
              · rw [if_pos c5]; exact Ev.congr (fun k => if_pos c5) (Ev.now _)
              · rw [if_neg c5]; exact Ev.congr (fun k => if_neg c5) hp
            · rw [if_neg c4]; exact Ev.congr (fun k => if_neg c4) hp
          · rw [if_neg c2]; exact Ev.congr (fun k => if_neg c2) (Ev.now _)
  · rw [if_neg c]; exact Ev.congr (fun k => if_neg c) (Ev.now _)
theorem radjust_ev (d rule e : Int) (he : validG d = true → Ev (fun k => corebankref04_MonthEnd.f k d) e) : Ev (fun k => corebankref05_Adjust.f k n x y d rule) (adjustG x y d rule e) := by
  have hp : Ev (fun k => (corebankref05_Prev.f k n x y d).bind fun b => some (b.1, b.2)) (prevG x y d) := Ev.bind (rprev_ev n x y hx hy d) (Ev.now _)
  have hj : Ev (fun k => corebankref05_Adjust.j0 k d rule true n x y) (0, 1) := Ev.step (f := fun _ => some (0, 1)) (fun k => by simp only [corebankref05_Adjust.j0]; rfl) (Ev.now _)
  unfold adjustG
  refine Ev.bind (rvalid_ev d) ?_
  by_cases c : validG d = true
  · rw [if_pos c]
    refine Ev.congr (fun k => if_pos c) ?_
    by_cases cb : 0 ≤ rule ∧ rule ≤ 3
    · refine Ev.congr (f := fun k => corebankref05_Adjust.j0 k d rule false n x y) (fun k => by rw [if_neg (by omega), decide_eq_false (by omega)]) ?_
      refine Ev.step (f := fun k => (if rule = 0 then (some (d, 0)) else (if rule = 3 then ((corebankref05_Prev.f k n x y d).bind fun b => (some (b.1, b.2))) else ((corebankref05_Next.f k n x y d).bind fun b => (if rule = 1 then (some (b.1, b.2)) else (if b.2 = 0 then ((corebankref04_MonthEnd.f k d).bind fun t => (if b.1 ≤ t then (some (b.1, 0)) else ((corebankref05_Prev.f k n x y d).bind fun b => (some (b.1, b.2))))) else ((corebankref05_Prev.f k n x y d).bind fun b => (some (b.1, b.2))))))))) (fun k => by simp only [corebankref05_Adjust.j0]; rfl) ?_
      by_cases c0 : rule = 0
      · rw [if_pos c0]; exact Ev.congr (fun k => if_pos c0) (Ev.now _)
      · rw [if_neg c0]
        refine Ev.congr (fun k => if_neg c0) ?_
        by_cases c3 : rule = 3
        · rw [if_neg (by omega), if_pos c3]; exact Ev.congr (fun k => if_pos c3) hp
        · rw [if_neg c3]
          refine Ev.congr (fun k => if_neg c3) (Ev.bind (rnext_ev n x y hx hy d) ?_)
          by_cases c1 : rule = 1
          · rw [if_pos c1]; exact Ev.congr (fun k => if_pos c1) (Ev.now _)
          · rw [if_neg c1, if_pos (by omega)]
            refine Ev.congr (fun k => if_neg c1) ?_
            by_cases c4 : (nextG x y d).2 = 0
            · rw [if_pos c4]
              refine Ev.congr (fun k => if_pos c4) (Ev.bind (he c) ?_)
              by_cases c5 : (nextG x y d).1 ≤ e
              · rw [if_pos c5]; exact Ev.congr (fun k => if_pos c5) (Ev.now _)
              · rw [if_neg c5]; exact Ev.congr (fun k => if_neg c5) hp
            · rw [if_neg c4]; exact Ev.congr (fun k => if_neg c4) hp
    · rw [if_neg (by omega), if_neg (by omega), if_neg (by omega), if_neg (by omega)]
      by_cases c1 : rule < 0
      · exact Ev.congr (fun k => if_pos c1) hj
      · exact Ev.congr (f := fun k => corebankref05_Adjust.j0 k d rule true n x y) (fun k => by rw [if_neg c1, decide_eq_true (by omega)]) hj
  · rw [if_neg c]; exact Ev.congr (fun k => if_neg c) hj
end
theorem CalendarAdjusts : corebanklaw05_CalendarAdjusts.Pure := by
  intro a d rule ha _ _
  have hx := ha.2.1.2.1
  have hy := ha.2.2.2.1
  refine ev_rounds ?_
  refine Ev.bind (few_ev _ _ _) ?_
  cases fewG a.f1 a.f2 with
  | false => exact Ev.congr (fun k => if_neg (by decide)) live_then
  | true =>
    refine Ev.congr (fun k => if_pos rfl) ?_
    obtain ⟨e, h1, h2⟩ : ∃ e : Int, (validG d = true → Ev (fun k => date_MonthEnd.f k d) e) ∧ (validG d = true → Ev (fun k => corebankref04_MonthEnd.f k d) e) := by
      by_cases c : validG d = true
      · obtain ⟨e, h1, h2⟩ := monthEnd_both c
        exact ⟨e, fun _ => h1, fun _ => h2⟩
      · exact ⟨0, fun h => absurd h c, fun h => absurd h c⟩
    refine Ev.bind (adjust_ev _ _ _ hx hy d rule e h1) (Ev.bind (radjust_ev _ _ _ hx hy d rule e h2) ?_)
    exact Ev.congr (fun k => by rw [if_pos rfl, if_pos rfl]) live_then
end Go.Proofs.Ytajephmamebcgaa.K.Proof
