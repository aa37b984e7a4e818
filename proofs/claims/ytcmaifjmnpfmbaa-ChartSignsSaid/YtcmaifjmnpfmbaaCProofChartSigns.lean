/- The pure statement of ChartSigns: both functions give the same number. -/
import Derived.Test.YtcmaifjmnpfmbaaCLives
import Derived.Test.YtcmaifjmnpfmbaaCStateChartSigns
namespace Go.Proofs.Ytcmaifjmnpfmbaa.C.Proof
open Go.RowKit Go.Proofs.Ytcmaifjmnpfmbaa.C Go.Proofs.YtcmaifjmnpfmbaaW.PrintWords Go.Proofs.YtcmaifjmnpfmbaaW.PrintLast
theorem ChartSigns : corebanklaw18_ChartSigns.Pure := by
  intro a _
  refine ⟨60 + 1, ?_⟩
  have h := at_rounds corebanklaw18_lives.mono (Nat.le_succ 60) lives_true
  have e : chart_Sign.f (60 + 1) a = corebankref18_Sign.f (60 + 1) a := by
    simp only [chart_Sign.f, corebankref18_Sign.f, chart_Sign.j0, corebankref18_Sign.j0]
  have t : ∃ n, corebankref18_Sign.f (60 + 1) a = some n := by
    simp only [corebankref18_Sign.f, corebankref18_Sign.j0]
    repeat' split
    all_goals exact ⟨_, rfl⟩
  obtain ⟨n, hn⟩ := t
  unfold corebanklaw18_ChartSigns.f
  rw [e, hn]
  simp only [Option.bind_some, if_true]
  rw [h]; rfl
end Go.Proofs.Ytcmaifjmnpfmbaa.C.Proof
