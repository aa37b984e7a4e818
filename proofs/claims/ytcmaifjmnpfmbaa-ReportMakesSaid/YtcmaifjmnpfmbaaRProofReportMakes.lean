/- The pure statement of ReportMakes: the cells of any report are the same. -/
import Derived.Test.YtcmaifjmnpfmbaaRMade
import Derived.Test.YtcmaifjmnpfmbaaRLives
import Derived.Test.YtcmaifjmnpfmbaaRStateReportMakes
namespace Go.Proofs.Ytcmaifjmnpfmbaa.R.Proof
open Go.RowKit Go.Proofs.Ytcmaifjmnpfmbaa.R Go.Proofs.YtcmaifjmnpfmbaaW.PrintWords Go.Proofs.YtcmaifjmnpfmbaaW.PrintLast
section
variable (l0 : List S97) (l1 : List S86) (l2 : List S62) (a3 : Int) (a4 : Int) (a5 : Int) (a6 : Int) (a7 : Int) (a8 : Int) (a9 : Int) (a10 : Int) (a11 : Int) (a12 : Int) (a13 : Int) (a14 : Int) (a15 : Int) (a16 : Int) (l17 : List S79) (l18 : List S90) (l19 : List S84) (l20 : List S119) (l21 : List S180)
theorem rows_ok {l : List S48} (h : okSl 48 ok48 l) : ∀ r ∈ l, okRow r := fun r hr => by
  obtain ⟨h1, _, h2⟩ := h.2.2 r hr
  exact ⟨Nat.le_trans h1 (by decide), h2.2.1⟩
theorem size_ok {a b : Nat} (ha : a ≤ 100) (hb : b ≤ 20) : a * b < 3518437208883 := Nat.lt_of_le_of_lt (Nat.mul_le_mul ha hb) (by decide)
theorem makes_ev (l : List S48) (bk : Int) (h0 : (okSl 24 ok97) l0) (h1 : (okSl 64 ok86) l1) (h2 : (okSl 40 ok62) l2) (h17 : (okSl 240 ok79) l17) (h18 : (okSl 80 ok90) l18) (h19 : (okSl 112 ok84) l19) (h20 : (okSl 56 ok119) l20) (hl : okSl 48 ok48 l) : Ev (fun k => corebanklaw49_ReportMakes.f k l0 l1 l2 a3 a4 a5 a6 a7 a8 a9 a10 a11 a12 a13 a14 a15 a16 l17 l18 l19 l20 l21 l bk) true := by
  obtain ⟨g, hg⟩ := great25 l0 l1 l2 a3 a4 a5 a6 a7 a8 a9 a10 a11 a12 a13 a14 a15 a16 l17 l18 l19 l20 l21 h1 h17 h19 h20
  obtain ⟨g', hg'⟩ := great49 l hl.2.1
  have hjt : Ev (fun k => corebanklaw49_ReportMakes.j0 k l bk true l0 l1 l2 a3 a4 a5 a6 a7 a8 a9 a10 a11 a12 a13 a14 a15 a16 l17 l18 l19 l20 l21) true := Ev.step (f := fun _ => some true) (fun k => by simp only [corebanklaw49_ReportMakes.j0]; rfl) (Ev.now _)
  refine Ev.congr (fun k => by unfold corebanklaw49_ReportMakes.f; rfl) (Ev.bind hg ?_)
  cases g with
  | true => exact Ev.congr (fun k => if_pos rfl) hjt
  | false =>
    refine Ev.congr (fun k => if_neg (by decide)) (Ev.bind hg' ?_)
    cases g' with
    | true => exact Ev.congr (fun k => if_pos rfl) hjt
    | false =>
      obtain ⟨s0, s19⟩ := great_small l0 l1 l2 a3 a4 a5 a6 a7 a8 a9 a10 a11 a12 a13 a14 a15 a16 l17 l18 l19 l20 l21 hg
      have sl := great_rows l hg'
      have hsz := size_ok sl s0
      have hlen : (madeG l0 l2 a4 l18 l19 l bk).1.length ≤ 9223372036854775807 := by
        unfold madeG
        split
        · have := makeG_len (cellG l2 a4 l18 l19 bk) l0 l []
          simp only [List.length_nil] at this
          omega
        · simp
      have hj : ∀ b, Ev (fun k => corebanklaw49_ReportMakes.j0 k l bk b l0 l1 l2 a3 a4 a5 a6 a7 a8 a9 a10 a11 a12 a13 a14 a15 a16 l17 l18 l19 l20 l21) true := by
        intro b
        cases b with
        | true => exact hjt
        | false =>
          refine Ev.step (f := fun k => (report_Make.f k l0 l1 l2 a3 a4 a5 a6 a7 a8 a9 a10 a11 a12 a13 a14 a15 a16 l17 l18 l19 l20 l21 l bk).bind fun bt322 => (corebankref49_Make.f k l0 l1 l2 a3 a4 a5 a6 a7 a8 a9 a10 a11 a12 a13 a14 a15 a16 l17 l18 l19 l20 l21 l bk).bind fun bt326 => if bt322.2 = bt326.2 then ((corebankref49_SameCells.f k bt322.1 bt326.1).bind fun t330 => if t330 = true then ((corebanklaw49_Live.f k).bind fun t331 => some t331) else some false) else some false) (fun k => by simp only [corebanklaw49_ReportMakes.j0]; rfl) ?_
          exact Ev.bind (made_ev l0 l1 l2 a3 a4 a5 a6 a7 a8 a9 a10 a11 a12 a13 a14 a15 a16 l17 l18 l19 l20 l21 l bk (fun c hc => (h0.2.2 c hc).1) h2.2.1 (okJ_of h19) (legs_bound h19 s19) hl.2.1 (rows_ok hl) hsz) (Ev.bind (rmade_ev l0 l1 l2 a3 a4 a5 a6 a7 a8 a9 a10 a11 a12 a13 a14 a15 a16 l17 l18 l19 l20 l21 l bk h0.2.1 h2.2.1 h18.2.1 (okJ_of h19) hl.2.1 (rows_ok hl) hsz) (Ev.congr (fun k => if_pos rfl) (Ev.bind (same_cells _ hlen) (Ev.congr (fun k => if_pos rfl) (Ev.bind live_ev (Ev.now _))))))
      refine Ev.congr (fun k => if_neg (by decide)) ?_
      by_cases c : (l.length : Int) > 10
      · exact Ev.congr (fun k => if_pos c) (hj _)
      · exact Ev.congr (fun k => if_neg c) (hj false)
end
theorem ReportMakes : corebanklaw49_ReportMakes.Pure := by
  intro a l bk ha hl _
  obtain ⟨h0, h1, h2, _, h4, h5, h6, h7, _⟩ := ha
  obtain ⟨K, h⟩ := makes_ev _ _ _ a.f3.f0 a.f3.f1 a.f3.f2 a.f3.f3 a.f3.f4 a.f3.f5 a.f3.f6 a.f3.f7 a.f3.f8 a.f3.f9 a.f3.f10 a.f3.f11 a.f3.f12 a.f3.f13 _ _ _ _ _ l bk h0 h1 h2 h4 h5 h6 h7 hl
  exact ⟨K, h K (Nat.le_refl _)⟩
end Go.Proofs.Ytcmaifjmnpfmbaa.R.Proof
