import Derived.Test.YtcmaifjmnpfmbaaRM37
import Derived.Test.YtcmaifjmnpfmbaaROpens
-- This project's own: the pure statement of the law, told by wip/tools/rows.py.
namespace Go.Proofs.Ytcmaifjmnpfmbaa.R
open Go.RowKit Go.Proofs.YtcmaifjmnpfmbaaW.PrintWords Go.Proofs.YtcmaifjmnpfmbaaW.PrintLast
def corebanklaw49_ReportMakes.Pure : Prop := ∀ (a0 : S33) (l1 : List (S48)) (a2 : Int), ok33 a0 → (okSl 48 ok48) l1 → (okI .i64) a2 → ∃ k, corebanklaw49_ReportMakes.f k a0.f0 a0.f1 a0.f2 a0.f3.f0 a0.f3.f1 a0.f3.f2 a0.f3.f3 a0.f3.f4 a0.f3.f5 a0.f3.f6 a0.f3.f7 a0.f3.f8 a0.f3.f9 a0.f3.f10 a0.f3.f11 a0.f3.f12 a0.f3.f13 a0.f4 a0.f5 a0.f6 a0.f7 a0.f8 l1 a2 = some true
end Go.Proofs.Ytcmaifjmnpfmbaa.R
