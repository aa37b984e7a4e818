/- The pure statement of ReportEntries: the entries behind a row, and their amounts, are the same. -/
import Derived.Test.YtcmaifjmnpfmbaaRDrill
import Derived.Test.YtcmaifjmnpfmbaaRLives
import Derived.Test.YtcmaifjmnpfmbaaRStateReportEntries
import Derived.Test.YtcmaifjmnpfmbaaRE20
namespace Go.Proofs.Ytcmaifjmnpfmbaa.R.Proof
open Go.RowKit Go.Proofs.Ytcmaifjmnpfmbaa.R Go.Proofs.YtcmaifjmnpfmbaaW.PrintWords Go.Proofs.YtcmaifjmnpfmbaaW.PrintLast
theorem same_ints (l : List Int) (hn : l.length ≤ 9223372036854775807) : Ev (fun k => corebankref07_SameInts.f k l l) true := by
  have h : ∀ d i : Nat, l.length - i = d → i ≤ l.length → Ev (fun k => corebankref07_SameInts.l0 k l l (i : Int)) true := by
    intro d
    induction d with
    | zero =>
      intro i hd hi
      exact Ev.step (f := fun _ => some true) (fun k => by simp only [corebankref07_SameInts.l0]; rw [if_neg (by omega)]) (Ev.now _)
    | succ d ih =>
      intro i hd hi
      have hlt : i < l.length := by omega
      exact Ev.step (fun k => by simp only [corebankref07_SameInts.l0]; rw [if_pos (by omega), if_pos (by omega), if_pos (by omega), if_pos True.intro, wrap_inc hlt hn]) (ih (i + 1) (by omega) (by omega))
  exact Ev.congr (fun k => by unfold corebankref07_SameInts.f; rw [if_pos rfl]; rfl) (h l.length 0 (by omega) (Nat.zero_le _))
section
variable (l0 : List S97) (l1 : List S86) (l2 : List S62) (a3 : Int) (a4 : Int) (a5 : Int) (a6 : Int) (a7 : Int) (a8 : Int) (a9 : Int) (a10 : Int) (a11 : Int) (a12 : Int) (a13 : Int) (a14 : Int) (a15 : Int) (a16 : Int) (l17 : List S79) (l18 : List S90) (l19 : List S84) (l20 : List S119) (l21 : List S180)
theorem drillG_len (n : ByteArray) (s : Int) (roots : List Int) (x : ByteArray) (bk : Int) (h : l19.length ≤ 9223372036854775807) : (drillG l0 l2 a4 l18 l19 n s roots x bk).1.length ≤ 9223372036854775807 := by
  unfold drillG
  split
  · split
    · simp only [List.length_map]
      exact Nat.le_trans (List.length_filter_le _ _) h
    · simp
  · simp
theorem entries_ev (n : ByteArray) (s : Int) (roots : List Int) (x : ByteArray) (bk id : Int) (h0 : (okSl 24 ok97) l0) (h1 : (okSl 64 ok86) l1) (h2 : (okSl 40 ok62) l2) (h17 : (okSl 240 ok79) l17) (h18 : (okSl 80 ok90) l18) (h19 : (okSl 112 ok84) l19) (h20 : (okSl 56 ok119) l20) (hnm : n.size ≤ 140737488351232) (hr : roots.length ≤ 9223372036854775807) (hx : x.size ≤ 140737488351232) : Ev (fun k => corebanklaw49_ReportEntries.f k l0 l1 l2 a3 a4 a5 a6 a7 a8 a9 a10 a11 a12 a13 a14 a15 a16 l17 l18 l19 l20 l21 n s roots x bk id) true := by
  obtain ⟨g, hg⟩ := great25 l0 l1 l2 a3 a4 a5 a6 a7 a8 a9 a10 a11 a12 a13 a14 a15 a16 l17 l18 l19 l20 l21 h1 h17 h19 h20
  obtain ⟨g', hg'⟩ := great49 [(⟨n, s, roots⟩ : S48)] (by simp)
  have hnm' : n.size ≤ 9223372036854775807 := by omega
  have hjo := okJ_of h19
  have hj : ∀ b, Ev (fun k => corebanklaw49_ReportEntries.j0 k b l0 l1 l2 a3 a4 a5 a6 a7 a8 a9 a10 a11 a12 a13 a14 a15 a16 l17 l18 l19 l20 l21 n s roots x bk id) true := by
    intro b
    cases b with
    | true => exact Ev.step (f := fun _ => some true) (fun k => by simp only [corebanklaw49_ReportEntries.j0]; rfl) (Ev.now _)
    | false =>
      refine Ev.step (f := fun k => (report_Drill.f k l0 l1 l2 a3 a4 a5 a6 a7 a8 a9 a10 a11 a12 a13 a14 a15 a16 l17 l18 l19 l20 l21 n s roots x bk).bind fun bt369 => (corebankref49_Drill.f k l0 l1 l2 a3 a4 a5 a6 a7 a8 a9 a10 a11 a12 a13 a14 a15 a16 l17 l18 l19 l20 l21 n s roots x bk).bind fun bt373 => if bt369.2 = bt373.2 then ((corebankref07_SameInts.f k bt369.1 bt373.1).bind fun t377 => if t377 = true then ((report_Amount.f k l0 l1 l2 a3 a4 a5 a6 a7 a8 a9 a10 a11 a12 a13 a14 a15 a16 l17 l18 l19 l20 l21 n s roots x id).bind fun t378 => (corebankref49_Amount.f k l0 l1 l2 a3 a4 a5 a6 a7 a8 a9 a10 a11 a12 a13 a14 a15 a16 l17 l18 l19 l20 l21 n s roots x id).bind fun t379 => if t378 = t379 then ((corebanklaw49_Live.f k).bind fun t380 => some t380) else some false) else some false) else some false) (fun k => by simp only [corebanklaw49_ReportEntries.j0]; rfl) ?_
      exact Ev.bind (drill_ev l0 l1 l2 a3 a4 a5 a6 a7 a8 a9 a10 a11 a12 a13 a14 a15 a16 l17 l18 l19 l20 l21 n s roots x bk h0.2.1 h2.2.1 hjo hnm' hr hx) (Ev.bind (rdrill_ev l0 l1 l2 a3 a4 a5 a6 a7 a8 a9 a10 a11 a12 a13 a14 a15 a16 l17 l18 l19 l20 l21 n s roots x bk h0.2.1 h2.2.1 h18.2.1 hjo hnm' hr) (Ev.congr (fun k => if_pos rfl) (Ev.bind (same_ints _ (drillG_len l0 l2 a4 l18 l19 n s roots x bk h19.2.1)) (Ev.congr (fun k => if_pos rfl) (Ev.bind (amount_ev l0 l1 l2 a3 a4 a5 a6 a7 a8 a9 a10 a11 a12 a13 a14 a15 a16 l17 l18 l19 l20 l21 n s roots x id h2.2.1 hjo hnm' hr hx) (Ev.bind (ramount_ev l0 l1 l2 a3 a4 a5 a6 a7 a8 a9 a10 a11 a12 a13 a14 a15 a16 l17 l18 l19 l20 l21 n s roots x id h2.2.1 h18.2.1 hjo hnm' hr) (Ev.congr (fun k => if_pos rfl) (Ev.bind live_ev (Ev.now _)))))))))
  refine Ev.congr (fun k => by unfold corebanklaw49_ReportEntries.f; rfl) (Ev.bind hg ?_)
  cases g with
  | true => exact Ev.congr (fun k => if_pos rfl) (hj true)
  | false =>
    refine Ev.congr (fun k => if_neg (by decide)) (Ev.bind hg' ?_)
    cases g' with
    | true => exact Ev.congr (fun k => if_pos rfl) (hj true)
    | false => exact Ev.congr (fun k => if_neg (by decide)) (hj _)
end
theorem ReportEntries : corebanklaw49_ReportEntries.Pure := by
  intro a r q ha hr hq
  obtain ⟨h0, h1, h2, _, h4, h5, h6, h7, _⟩ := ha
  obtain ⟨r0, _, r2⟩ := hr
  obtain ⟨q0, _, _⟩ := hq
  obtain ⟨K, h⟩ := entries_ev _ _ _ a.f3.f0 a.f3.f1 a.f3.f2 a.f3.f3 a.f3.f4 a.f3.f5 a.f3.f6 a.f3.f7 a.f3.f8 a.f3.f9 a.f3.f10 a.f3.f11 a.f3.f12 a.f3.f13 _ _ _ _ a.f8 r.f0 r.f1 r.f2 q.f0 q.f1 q.f2 h0 h1 h2 h4 h5 h6 h7 r0 r2.2.1 q0
  exact ⟨K, h K (Nat.le_refl _)⟩
end Go.Proofs.Ytcmaifjmnpfmbaa.R.Proof
