/- The pure statement of CalendarChecks. -/
import Derived.Test.YtajephmamebcgaaKLives
import Derived.Test.YtajephmamebcgaaKCheck
import Derived.Test.YtajephmamebcgaaKStateCalendarChecks
namespace Go.Proofs.Ytajephmamebcgaa.K.Proof
open Go.RowKit Go.Proofs.Ytajephmamebcgaa.K Go.Proofs.YtajephmamebcgaaW.PrintWords Go.Proofs.YtajephmamebcgaaW.PrintLast
theorem CalendarChecks : corebanklaw05_CalendarChecks.Pure := by
  intro a ha
  have hs := ha.1
  have hx := ha.2.1.2.1
  have hy := ha.2.2.2.1
  refine ev_rounds ?_
  have hj : ∀ b : Bool, Ev (fun k => corebanklaw05_CalendarChecks.j0 k b a.f0 a.f1 a.f2) true := by
    intro b
    cases b with
    | true => exact Ev.step (f := fun k => (corebanklaw05_live.f k).bind fun t => some t) (fun k => by simp only [corebanklaw05_CalendarChecks.j0]; rfl) live_then
    | false =>
      refine Ev.step (f := fun k => (calendar_Check.f k a.f0 a.f1 a.f2).bind fun t => ((corebankref05_Check.f k a.f0 a.f1 a.f2).bind fun u => (if t = u then ((corebanklaw05_live.f k).bind fun t => (some t)) else (some false)))) (fun k => by simp only [corebanklaw05_CalendarChecks.j0]; rfl) ?_
      refine Ev.bind (check_ev _ _ _ hs hx hy) (Ev.bind (rcheck_ev _ _ _ hs hx hy) ?_)
      exact Ev.congr (fun k => if_pos rfl) live_then
  unfold corebanklaw05_CalendarChecks.f
  split
  · exact hj true
  · split
    · exact hj true
    · exact hj _
end Go.Proofs.Ytajephmamebcgaa.K.Proof
