/- The pure statement of ChartLeaves: Leaves and Order of the program and of the reference come to the same. -/
import Derived.Test.YtcmaifjmnpfmbaaCLives
import Derived.Test.YtcmaifjmnpfmbaaCLeaf
import Derived.Test.YtcmaifjmnpfmbaaCOrd
import Derived.Test.YtcmaifjmnpfmbaaCStateChartLeaves
namespace Go.Proofs.Ytcmaifjmnpfmbaa.C.Proof
open Go.RowKit Go.Proofs.Ytcmaifjmnpfmbaa.C Go.Proofs.YtcmaifjmnpfmbaaW.PrintWords Go.Proofs.YtcmaifjmnpfmbaaW.PrintLast
theorem ChartLeaves : corebanklaw18_ChartLeaves.Pure := by
  intro l root _ _
  have hlv : Ev (fun k => (corebanklaw18_lives.f k).bind fun t => some t) true := Ev.bind lives_ev (Ev.now _)
  refine Ev.rounds ?_
  by_cases h : (l.length : Int) > 100
  · exact Ev.congr (fun k => by unfold corebanklaw18_ChartLeaves.f; rw [if_pos h]) hlv
  · have hn : l.length ≤ 1000 := by omega
    have hle : (leavesG l root).length ≤ 1000 := by
      have h1 := List.Nodup.length_le_of_subset (l₂ := l.map fun g : S62 => g.f0) (leavesG_asc l root).nodup (fun y hy => by
        obtain ⟨g, hg, _, e⟩ := (mem_leavesG l root y).1 hy
        exact List.mem_map.2 ⟨g, hg, e⟩)
      simp at h1; omega
    refine Ev.congr (fun k => by unfold corebanklaw18_ChartLeaves.f; rw [if_neg h]) ?_
    refine Ev.bind (leaves_ev l root hn) (Ev.bind (rleaves_ev l root hn) (Ev.bind (same_ev _ _ (by omega)) ?_))
    refine Ev.congr (fun k => by rw [if_pos (by simp)]) ?_
    refine Ev.bind (order_ev l hn) (Ev.bind (rorder_ev l hn) (Ev.bind (same_ev _ _ (by have := orderG_length l hn; omega)) ?_))
    exact Ev.congr (fun k => by rw [if_pos (by simp)]) hlv
end Go.Proofs.Ytcmaifjmnpfmbaa.C.Proof

