/- The pure statement of CalendarTallies. -/
import Derived.Test.YtajephmamebcgaaKLives
import Derived.Test.YtajephmamebcgaaKCount
import Derived.Test.YtajephmamebcgaaKStateCalendarTallies
namespace Go.Proofs.Ytajephmamebcgaa.K.Proof
open Go.RowKit Go.Proofs.Ytajephmamebcgaa.K Go.Proofs.YtajephmamebcgaaW.PrintWords Go.Proofs.YtajephmamebcgaaW.PrintLast
theorem CalendarTallies : corebanklaw05_CalendarTallies.Pure := by
  intro a s ha _
  have hx := ha.2.1.2.1
  have hy := ha.2.2.2.1
  refine ev_rounds ?_
  refine Ev.bind (few_ev _ _ _) ?_
  cases fewG a.f1 a.f2 with
  | false => exact Ev.congr (fun k => if_neg (by decide)) live_then
  | true =>
    refine Ev.congr (fun k => if_pos rfl) ?_
    refine Ev.bind (count_ev _ _ _ hx hy _ _) (Ev.bind (rcount_ev _ _ _ hx hy _ _) ?_)
    refine Ev.congr (fun k => if_pos rfl) ?_
    by_cases c1 : s.f0 > s.f1
    · exact Ev.congr (fun k => if_pos c1) live_then
    · refine Ev.congr (fun k => if_neg c1) ?_
      by_cases c2 : s.f1 > s.f2
      · exact Ev.congr (fun k => if_pos c2) live_then
      · refine Ev.congr (fun k => if_neg c2) ?_
        refine Ev.bind (count_ev _ _ _ hx hy _ _) (Ev.bind (count_ev _ _ _ hx hy _ _) ?_)
        refine Ev.congr (fun k => if_pos ?_) live_then
        have h1 := count_bound (openG a.f1 a.f2) s.f0 s.f1
        have h2 := count_bound (openG a.f1 a.f2) s.f1 s.f2
        have h3 := count_add (openG a.f1 a.f2) (show s.f0 ≤ s.f1 by omega) (show s.f1 ≤ s.f2 by omega)
        rw [wrap_id (by omega) (by omega)]; omega
end Go.Proofs.Ytajephmamebcgaa.K.Proof
