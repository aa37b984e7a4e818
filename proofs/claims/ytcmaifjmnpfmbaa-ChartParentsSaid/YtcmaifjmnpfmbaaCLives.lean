/- The examples that each statement about charts asks for come out true. -/
import Derived.Test.YtcmaifjmnpfmbaaCx12
namespace Go.Proofs.Ytcmaifjmnpfmbaa.C.Proof
open Go.RowKit Go.Proofs.Ytcmaifjmnpfmbaa.C Go.Proofs.YtcmaifjmnpfmbaaW.PrintWords Go.Proofs.YtcmaifjmnpfmbaaW.PrintLast
theorem lives_true : corebanklaw18_lives.f 60 = some true := by decide +kernel
theorem lives_ev : Ev (fun k => corebanklaw18_lives.f k) true := Ev.of corebanklaw18_lives.mono lives_true
end Go.Proofs.Ytcmaifjmnpfmbaa.C.Proof

