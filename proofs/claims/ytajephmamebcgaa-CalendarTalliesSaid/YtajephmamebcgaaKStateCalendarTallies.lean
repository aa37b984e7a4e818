-- This project's own: the pure statement of the law, told by wip/tools/rows.py.
import Derived.Test.YtajephmamebcgaaKx20
import Derived.Test.YtajephmamebcgaaKOpens
namespace Go.Proofs.Ytajephmamebcgaa.K
open Go.RowKit Go.Proofs.YtajephmamebcgaaW.PrintWords Go.Proofs.YtajephmamebcgaaW.PrintLast
def corebanklaw05_CalendarTallies.Pure : Prop := ∀ (a0 : S24) (a1 : S35), ok24 a0 → ok35 a1 → ∃ k, corebanklaw05_CalendarTallies.f k a0.f0 a0.f1 a0.f2 a1.f0 a1.f1 a1.f2 = some true
end Go.Proofs.Ytajephmamebcgaa.K
