import Derived.Test.YtcmaifjmnpfmbaaRE37
import Derived.Test.YtcmaifjmnpfmbaaROpens
-- This project's own: the pure statement of the law, told by wip/tools/rows.py.
namespace Go.Proofs.Ytcmaifjmnpfmbaa.R
open Go.RowKit Go.Proofs.YtcmaifjmnpfmbaaW.PrintWords Go.Proofs.YtcmaifjmnpfmbaaW.PrintLast
def corebanklaw49_ReportEntries.Pure : Prop := ∀ (a0 : S33) (a1 : S48) (a2 : S50), ok33 a0 → ok48 a1 → ok50 a2 → ∃ k, corebanklaw49_ReportEntries.f k a0.f0 a0.f1 a0.f2 a0.f3.f0 a0.f3.f1 a0.f3.f2 a0.f3.f3 a0.f3.f4 a0.f3.f5 a0.f3.f6 a0.f3.f7 a0.f3.f8 a0.f3.f9 a0.f3.f10 a0.f3.f11 a0.f3.f12 a0.f3.f13 a0.f4 a0.f5 a0.f6 a0.f7 a0.f8 a1.f0 a1.f1 a1.f2 a2.f0 a2.f1 a2.f2 = some true
end Go.Proofs.Ytcmaifjmnpfmbaa.R
