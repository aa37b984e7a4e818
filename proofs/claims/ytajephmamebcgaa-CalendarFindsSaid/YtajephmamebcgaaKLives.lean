/- The chapter's examples. -/
import Derived.Test.YtajephmamebcgaaKx12
import Derived.Test.YtajephmamebcgaaKBase
namespace Go.Proofs.Ytajephmamebcgaa.K.Proof
open Go.RowKit Go.Proofs.Ytajephmamebcgaa.K Go.Proofs.YtajephmamebcgaaW.PrintWords Go.Proofs.YtajephmamebcgaaW.PrintLast
theorem live_true : corebanklaw05_live.f 200 = some true := by decide +kernel
theorem live_ev : Ev (fun k => corebanklaw05_live.f k) true := ev_of corebanklaw05_live.mono live_true
theorem live_then : Ev (fun k => (corebanklaw05_live.f k).bind fun t => some t) true := Ev.bind live_ev (Ev.now _)
end Go.Proofs.Ytajephmamebcgaa.K.Proof
