/- The pure statement of CalendarOpens. -/
import Derived.Test.YtajephmamebcgaaKLives
import Derived.Test.YtajephmamebcgaaKBase
import Derived.Test.YtajephmamebcgaaKStateCalendarOpens
namespace Go.Proofs.Ytajephmamebcgaa.K.Proof
open Go.RowKit Go.Proofs.Ytajephmamebcgaa.K Go.Proofs.YtajephmamebcgaaW.PrintWords Go.Proofs.YtajephmamebcgaaW.PrintLast
theorem CalendarOpens : corebanklaw05_CalendarOpens.Pure := by
  intro a d ha _
  have hx := ha.2.1.2.1
  have hy := ha.2.2.2.1
  refine ev_rounds ?_
  refine Ev.bind (few_ev _ _ _) ?_
  cases fewG a.f1 a.f2 with
  | false => exact Ev.congr (fun k => if_neg (by decide)) live_then
  | true =>
    refine Ev.congr (fun k => if_pos rfl) ?_
    refine Ev.bind (next_ev _ _ _ hx hy d) (Ev.bind (rnext_ev _ _ _ hx hy d) (Ev.bind (prev_ev _ _ _ hx hy d) (Ev.bind (rprev_ev _ _ _ hx hy d) (Ev.bind (open_ev _ _ _ hx hy d) (Ev.bind (ropen_ev _ _ _ hx hy d) ?_)))))
    refine Ev.congr (fun k => ?_) live_then
    rw [if_pos (by simp), if_pos rfl, if_pos rfl, if_pos rfl, if_pos rfl]
end Go.Proofs.Ytajephmamebcgaa.K.Proof
