/- The pure statement of ChartPaths: Find, Path and Under of the program and of the reference come to the same. -/
import Derived.Test.YtcmaifjmnpfmbaaCLives
import Derived.Test.YtcmaifjmnpfmbaaCBase
import Derived.Test.YtcmaifjmnpfmbaaCStateChartPaths
namespace Go.Proofs.Ytcmaifjmnpfmbaa.C.Proof
open Go.RowKit Go.Proofs.Ytcmaifjmnpfmbaa.C Go.Proofs.YtcmaifjmnpfmbaaW.PrintWords Go.Proofs.YtcmaifjmnpfmbaaW.PrintLast
theorem ChartPaths : corebanklaw18_ChartPaths.Pure := by
  intro l id root ⟨_, hn, _⟩ _ _
  have hlv : Ev (fun k => (corebanklaw18_lives.f k).bind fun t => some t) true := Ev.bind lives_ev (Ev.now _)
  refine Ev.rounds ?_
  by_cases h : (l.length : Int) > 100
  · exact Ev.congr (fun k => by unfold corebanklaw18_ChartPaths.f; rw [if_pos h]) hlv
  · refine Ev.congr (fun k => by unfold corebanklaw18_ChartPaths.f; rw [if_neg h]) ?_
    refine Ev.bind (find_ev l id hn) (Ev.bind (rfind_ev l id hn) ?_)
    refine Ev.congr (fun k => by rw [if_pos (by simp), if_pos (by simp)]) ?_
    refine Ev.bind (path_ev l id hn) (Ev.bind (rpath_ev l id hn) (Ev.bind (same_ev _ _ (by have := pathG_length l id; omega)) ?_))
    refine Ev.congr (fun k => by rw [if_pos (by simp)]) ?_
    refine Ev.bind (under_ev l id root hn) (Ev.bind (runder_ev l id root hn) ?_)
    exact Ev.congr (fun k => by rw [if_pos (by simp)]) hlv
end Go.Proofs.Ytcmaifjmnpfmbaa.C.Proof
