/- The pure statement of ChartChecks: Check of the program and of the reference come to the same. -/
import Derived.Test.YtcmaifjmnpfmbaaCLives
import Derived.Test.YtcmaifjmnpfmbaaCCheck
import Derived.Test.YtcmaifjmnpfmbaaCStateChartChecks
namespace Go.Proofs.Ytcmaifjmnpfmbaa.C.Proof
open Go.RowKit Go.Proofs.Ytcmaifjmnpfmbaa.C Go.Proofs.YtcmaifjmnpfmbaaW.PrintWords Go.Proofs.YtcmaifjmnpfmbaaW.PrintLast
theorem ChartChecks : corebanklaw18_ChartChecks.Pure := by
  intro l p hl _
  have hlv : Ev (fun k => (corebanklaw18_lives.f k).bind fun t => some t) true := Ev.bind lives_ev (Ev.now _)
  have hn : l.length ≤ 140737488351232 := by have := hl.1; omega
  have hs : ∀ a ∈ l, a.f3.size ≤ 140737488351232 := fun a ha => (hl.2.2 a ha).2.2.2
  refine Ev.rounds ?_
  by_cases h : (l.length : Int) > 100
  · exact Ev.congr (fun k => by unfold corebanklaw18_ChartChecks.f; rw [if_pos h]) hlv
  · refine Ev.congr (fun k => by unfold corebanklaw18_ChartChecks.f; rw [if_neg h]) ?_
    refine Ev.bind (check_ev _ _ _ _ _ _ _ _ _ _ _ _ _ _ l hn hs) (Ev.bind (rcheck_ev _ _ _ _ _ _ _ _ _ _ _ _ _ _ l hn hs) ?_)
    exact Ev.congr (fun k => by rw [if_pos rfl]) hlv
end Go.Proofs.Ytcmaifjmnpfmbaa.C.Proof
