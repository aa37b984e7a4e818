-- This project's own: the pure statement of the law, told by wip/tools/rows.py.
import Derived.Test.YtcmaifjmnpfmbaaCx23
import Derived.Test.YtcmaifjmnpfmbaaCOpens
namespace Go.Proofs.Ytcmaifjmnpfmbaa.C
open Go.RowKit Go.Proofs.YtcmaifjmnpfmbaaW.PrintWords Go.Proofs.YtcmaifjmnpfmbaaW.PrintLast
def corebanklaw18_ChartLeaves.Pure : Prop := ∀ (l0 : List (S62)) (a1 : Int), (okSl 40 ok62) l0 → (okI .i64) a1 → ∃ k, corebanklaw18_ChartLeaves.f k l0 a1 = some true
end Go.Proofs.Ytcmaifjmnpfmbaa.C
