-- This project's own: the pure statement of the law, told by wip/tools/rows.py.
import Derived.Test.YtcmaifjmnpfmbaaCx24
import Derived.Test.YtcmaifjmnpfmbaaCOpens
namespace Go.Proofs.Ytcmaifjmnpfmbaa.C
open Go.RowKit Go.Proofs.YtcmaifjmnpfmbaaW.PrintWords Go.Proofs.YtcmaifjmnpfmbaaW.PrintLast
def corebanklaw18_ChartParents.Pure : Prop := ∀ (l0 : List (S62)) (a1 : S26), (okSl 40 ok62) l0 → ok26 a1 → ∃ k, corebanklaw18_ChartParents.f k l0 a1.f0 a1.f1 a1.f2 a1.f3 a1.f4 a1.f5 a1.f6 a1.f7 a1.f8 a1.f9 a1.f10 a1.f11 a1.f12 a1.f13 = some true
end Go.Proofs.Ytcmaifjmnpfmbaa.C
