-- This project's own: the pure statement of the law, told by wip/tools/rows.py.
import Derived.Test.YtajephmamebcgaaKx15
import Derived.Test.YtajephmamebcgaaKOpens
namespace Go.Proofs.Ytajephmamebcgaa.K
open Go.RowKit Go.Proofs.YtajephmamebcgaaW.PrintWords Go.Proofs.YtajephmamebcgaaW.PrintLast
def corebanklaw05_CalendarChecks.Pure : Prop := ∀ (a0 : S24), ok24 a0 → ∃ k, corebanklaw05_CalendarChecks.f k a0.f0 a0.f1 a0.f2 = some true
end Go.Proofs.Ytajephmamebcgaa.K
