-- This project's own: the pure statement of the law, told by wip/tools/rows.py.
import Derived.Test.YtajephmamebcgaaKx23
import Derived.Test.YtajephmamebcgaaKOpens
namespace Go.Proofs.Ytajephmamebcgaa.K
open Go.RowKit Go.Proofs.YtajephmamebcgaaW.PrintWords Go.Proofs.YtajephmamebcgaaW.PrintLast
def corebanklaw05_CalendarJoins.Pure : Prop := ∀ (a0 : S24) (a1 : S24) (a2 : Int), ok24 a0 → ok24 a1 → (okI .i64) a2 → ∃ k, corebanklaw05_CalendarJoins.f k a0.f0 a0.f1 a0.f2 a1.f0 a1.f1 a1.f2 a2 = some true
end Go.Proofs.Ytajephmamebcgaa.K
