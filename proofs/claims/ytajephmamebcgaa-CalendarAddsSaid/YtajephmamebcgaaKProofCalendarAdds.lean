/- The pure statement of CalendarAdds. -/
import Derived.Test.YtajephmamebcgaaKLives
import Derived.Test.YtajephmamebcgaaKAdd
import Derived.Test.YtajephmamebcgaaKStateCalendarAdds
namespace Go.Proofs.Ytajephmamebcgaa.K.Proof
open Go.RowKit Go.Proofs.Ytajephmamebcgaa.K Go.Proofs.YtajephmamebcgaaW.PrintWords Go.Proofs.YtajephmamebcgaaW.PrintLast
theorem CalendarAdds : corebanklaw05_CalendarAdds.Pure := by
  intro a d n ha _ _
  have hx := ha.2.1.2.1
  have hy := ha.2.2.2.1
  refine ev_rounds ?_
  refine Ev.bind (few_ev _ _ _) ?_
  cases fewG a.f1 a.f2 with
  | false => exact Ev.congr (fun k => if_neg (by decide)) live_then
  | true =>
    refine Ev.congr (fun k => if_pos rfl) ?_
    refine Ev.bind (add_ev _ _ _ hx hy _ _) (Ev.bind (radd_ev _ _ _ hx hy _ _) ?_)
    exact Ev.congr (fun k => by rw [if_pos rfl, if_pos rfl]) live_then
end Go.Proofs.Ytajephmamebcgaa.K.Proof
