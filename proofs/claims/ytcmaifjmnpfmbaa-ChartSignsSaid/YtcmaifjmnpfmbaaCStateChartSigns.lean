-- This project's own: the pure statement of the law, told by wip/tools/rows.py.
import Derived.Test.YtcmaifjmnpfmbaaCx19
import Derived.Test.YtcmaifjmnpfmbaaCOpens
namespace Go.Proofs.Ytcmaifjmnpfmbaa.C
open Go.RowKit Go.Proofs.YtcmaifjmnpfmbaaW.PrintWords Go.Proofs.YtcmaifjmnpfmbaaW.PrintLast
def corebanklaw18_ChartSigns.Pure : Prop := ∀ (a0 : Int), (okI .i64) a0 → ∃ k, corebanklaw18_ChartSigns.f k a0 = some true
end Go.Proofs.Ytcmaifjmnpfmbaa.C
