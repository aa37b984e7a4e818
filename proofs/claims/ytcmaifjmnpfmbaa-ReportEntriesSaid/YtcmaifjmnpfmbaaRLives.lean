/- The chapter's examples. -/
import Derived.Test.YtcmaifjmnpfmbaaRE22
namespace Go.Proofs.Ytcmaifjmnpfmbaa.R.Proof
open Go.RowKit Go.Proofs.Ytcmaifjmnpfmbaa.R Go.Proofs.YtcmaifjmnpfmbaaW.PrintWords Go.Proofs.YtcmaifjmnpfmbaaW.PrintLast
theorem live_ok : liveOk 40 := by
  refine ⟨?_, ?_, ?_, ?_, ?_, ?_, ?_, ?_, ?_, ?_, ?_⟩ <;> kernel_rfl
theorem live_some : corebanklaw49_Live.f 40 = some true := by
  unfold corebanklaw49_Live.f
  rw [if_pos live_ok]
theorem live_ev : Ev (fun k => corebanklaw49_Live.f k) true := Ev.of corebanklaw49_Live.mono live_some
end Go.Proofs.Ytcmaifjmnpfmbaa.R.Proof
