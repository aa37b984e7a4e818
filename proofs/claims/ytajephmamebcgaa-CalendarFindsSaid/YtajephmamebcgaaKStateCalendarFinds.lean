-- This project's own: the pure statement of the law, told by wip/tools/rows.py.
import Derived.Test.YtajephmamebcgaaKx25
import Derived.Test.YtajephmamebcgaaKOpens
namespace Go.Proofs.Ytajephmamebcgaa.K
open Go.RowKit Go.Proofs.YtajephmamebcgaaW.PrintWords Go.Proofs.YtajephmamebcgaaW.PrintLast
def corebanklaw05_CalendarFinds.Pure : Prop := ∀ (l0 : List (S24)) (a1 : ByteArray), (okSl 64 ok24) l0 → okStr a1 → ∃ k, corebanklaw05_CalendarFinds.f k l0 a1 = some true
end Go.Proofs.Ytajephmamebcgaa.K
