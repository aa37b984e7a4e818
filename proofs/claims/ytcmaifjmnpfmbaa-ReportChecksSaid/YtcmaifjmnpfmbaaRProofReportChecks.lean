/- The pure statement of ReportChecks: the tests of rows and the owners of accounts are the same. -/
import Derived.Test.YtcmaifjmnpfmbaaRCheck
import Derived.Test.YtcmaifjmnpfmbaaROwner
import Derived.Test.YtcmaifjmnpfmbaaRGreat
import Derived.Test.YtcmaifjmnpfmbaaRLives
import Derived.Test.YtcmaifjmnpfmbaaRStateReportChecks
namespace Go.Proofs.Ytcmaifjmnpfmbaa.R.Proof
open Go.RowKit Go.Proofs.Ytcmaifjmnpfmbaa.R Go.Proofs.YtcmaifjmnpfmbaaW.PrintWords Go.Proofs.YtcmaifjmnpfmbaaW.PrintLast
section
variable (l0 : List S97) (l1 : List S86) (l2 : List S62) (a3 : Int) (a4 : Int) (a5 : Int) (a6 : Int) (a7 : Int) (a8 : Int) (a9 : Int) (a10 : Int) (a11 : Int) (a12 : Int) (a13 : Int) (a14 : Int) (a15 : Int) (a16 : Int) (l17 : List S79) (l18 : List S90) (l19 : List S84) (l20 : List S119) (l21 : List S180)
theorem okRow_of {l : List S48} (h : okSl 48 ok48 l) : ∀ r ∈ l, okRow r := fun r hr => by
  obtain ⟨h1, _, h2⟩ := h.2.2 r hr
  exact ⟨Nat.le_trans h1 (by decide), h2.2.1⟩
theorem checks_ev (l : List S48) (id : Int) (h1 : (okSl 64 ok86) l1) (h2 : (okSl 40 ok62) l2) (h17 : (okSl 240 ok79) l17) (h18 : (okSl 80 ok90) l18) (h19 : (okSl 112 ok84) l19) (h20 : (okSl 56 ok119) l20) (hl : okSl 48 ok48 l) : Ev (fun k => corebanklaw49_ReportChecks.f k l0 l1 l2 a3 a4 a5 a6 a7 a8 a9 a10 a11 a12 a13 a14 a15 a16 l17 l18 l19 l20 l21 l id) true := by
  obtain ⟨g, hg⟩ := great25 l0 l1 l2 a3 a4 a5 a6 a7 a8 a9 a10 a11 a12 a13 a14 a15 a16 l17 l18 l19 l20 l21 h1 h17 h19 h20
  obtain ⟨g', hg'⟩ := great49 l hl.2.1
  have hj : ∀ b, Ev (fun k => corebanklaw49_ReportChecks.j0 k l id b l0 l1 l2 a3 a4 a5 a6 a7 a8 a9 a10 a11 a12 a13 a14 a15 a16 l17 l18 l19 l20 l21) true := by
    intro b
    cases b with
    | true => exact Ev.step (f := fun _ => some true) (fun k => by simp only [corebanklaw49_ReportChecks.j0]; rfl) (Ev.now _)
    | false =>
      refine Ev.step (f := fun k => (report_Check.f k l0 l1 l2 a3 a4 a5 a6 a7 a8 a9 a10 a11 a12 a13 a14 a15 a16 l17 l18 l19 l20 l21 l).bind fun t286 => (corebankref49_Check.f k l0 l1 l2 a3 a4 a5 a6 a7 a8 a9 a10 a11 a12 a13 a14 a15 a16 l17 l18 l19 l20 l21 l).bind fun t287 => if t286 = t287 then ((report_Owner.f k l0 l1 l2 a3 a4 a5 a6 a7 a8 a9 a10 a11 a12 a13 a14 a15 a16 l17 l18 l19 l20 l21 id).bind fun t288 => (corebankref49_Owner.f k l0 l1 l2 a3 a4 a5 a6 a7 a8 a9 a10 a11 a12 a13 a14 a15 a16 l17 l18 l19 l20 l21 id).bind fun t289 => if t288 = t289 then ((corebanklaw49_Live.f k).bind fun t290 => some t290) else some false) else some false) (fun k => by simp only [corebanklaw49_ReportChecks.j0]; rfl) ?_
      exact Ev.bind (check_ev l0 l1 l2 a3 a4 a5 a6 a7 a8 a9 a10 a11 a12 a13 a14 a15 a16 l17 l18 l19 l20 l21 l h2.2.1 hl.2.1 (okRow_of hl)) (Ev.bind (rcheck_ev l0 l1 l2 a3 a4 a5 a6 a7 a8 a9 a10 a11 a12 a13 a14 a15 a16 l17 l18 l19 l20 l21 l h2.2.1 hl.2.1 (okRow_of hl)) (Ev.congr (fun k => if_pos rfl) (Ev.bind (owner_ev l0 l1 l2 a3 a4 a5 a6 a7 a8 a9 a10 a11 a12 a13 a14 a15 a16 l17 l18 l19 l20 l21 id h2.2.1) (Ev.bind (rowner_ev l0 l1 l2 a3 a4 a5 a6 a7 a8 a9 a10 a11 a12 a13 a14 a15 a16 l17 l18 l19 l20 l21 id h2.2.1 h18.2.1) (Ev.congr (fun k => if_pos rfl) (Ev.bind live_ev (Ev.now _)))))))
  refine Ev.congr (fun k => by unfold corebanklaw49_ReportChecks.f; rfl) (Ev.bind hg ?_)
  cases g with
  | true => exact Ev.congr (fun k => if_pos rfl) (hj true)
  | false => exact Ev.congr (fun k => if_neg (by decide)) (Ev.bind hg' (hj g'))
end
theorem ReportChecks : corebanklaw49_ReportChecks.Pure := by
  intro a l id ha hl _
  obtain ⟨_, h1, h2, _, h4, h5, h6, h7, _⟩ := ha
  obtain ⟨K, h⟩ := checks_ev _ _ _ a.f3.f0 a.f3.f1 a.f3.f2 a.f3.f3 a.f3.f4 a.f3.f5 a.f3.f6 a.f3.f7 a.f3.f8 a.f3.f9 a.f3.f10 a.f3.f11 a.f3.f12 a.f3.f13 _ _ _ _ _ l id h1 h2 h4 h5 h6 h7 hl
  exact ⟨K, h K (Nat.le_refl _)⟩
end Go.Proofs.Ytcmaifjmnpfmbaa.R.Proof
