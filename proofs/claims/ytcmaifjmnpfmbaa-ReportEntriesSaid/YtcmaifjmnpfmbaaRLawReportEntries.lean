/- The law ReportEntries holds for every input: whatever it is handed, it returns true and leaves its arguments as they were. No condition beyond the row's own cells. -/
import Derived.Test.YtcmaifjmnpfmbaaRows
import Derived.Test.YtcmaifjmnpfmbaaRE37
import Derived.Test.YtcmaifjmnpfmbaaROpens
import Derived.Test.YtcmaifjmnpfmbaaRProofReportEntries
import Derived.WalkKit
import Derived.ProofKit
import Derived.OpenShut
import Derived.ShutString
import Derived.ChangeOld
import Derived.Below
import Derived.SizedLaws
import Derived.WideShapes
namespace Go.Proofs.Ytcmaifjmnpfmbaa.reportEntries
open Go.ChangeShapes Go.WideShapes Go.ChangeAt Go.RowKit Go.Proofs.Ytcmaifjmnpfmbaa.R Go.Proofs.YtcmaifjmnpfmbaaW.PrintWords Go.Proofs.YtcmaifjmnpfmbaaW.PrintLast
open Go.ChangeMaps (open_string shut_string)
set_option linter.unusedVariables false
theorem own : ownKnob Try.prog.godebug = none := by kernel_rfl
theorem laidOut : laidOutB Try.prog = true := by kernel_rfl
set_option maxRecDepth 100000 in
set_option maxHeartbeats 4000000 in
theorem lifted (os : Os) (started : os.Started) (H : Type) (enc : TypeId × Value → H) :
    ReturnsInHanded {} Try.checked os 5 .any (Rows.reportEntriesSpec.pre6 enc Try.prog Try.f5 Rows.reportEntriesRow.domain false) (Rows.reportEntriesSpec.post enc Try.prog Try.f5 false true false false) := by
  refine returnsInHanded_of_change_sized (C := Try.checked) own started (by kernel_rfl) Try.func5
    (ChangeSpec.witness6 (enc := enc) (C := Try.checked) false ⟨#[], #[.agg #[.slice none 0 0, .slice none 0 0, .slice none 0 0, .int .i64 0, .int .i64 0, .int .i64 0, .int .i64 0, .int .i64 0, .int .i64 0, .int .i64 0, .int .i64 0, .int .i64 0, .int .i64 0, .int .i64 0, .int .i64 0, .int .i64 0, .int .i64 0, .slice none 0 0, .slice none 0 0, .slice none 0 0, .slice none 0 0, .slice none 0 0], .agg #[.string ByteArray.empty, .int .i64 0, .slice none 0 0], .agg #[.string ByteArray.empty, .int .i64 0, .int .i64 0]], []⟩ 8 (by kernel_rfl) (by kernel_rfl) (by kernel_rfl) (by kernel_rfl)) ?_
  intro W base args ds gs before hval0 hW hcnd hsz0 _
  have hsz : (DataW.weightsEach Try.prog (Try.f5.params.toList ++ Rows.reportEntriesSpec.plain.varTypes Try.prog) (ds ++ gs)).all (· ≤ reachBytes) = true := hsz0
  have hval : ∀ (j : Nat) t v, Try.f5.params[j]? = some t → args[j]? = some v → Value.okWide Try.prog W .any base t v := hval0
  have hW' := hW
  obtain ⟨p, q, hA0, hV, rfl, hfz, hnd⟩ := hW
  have hA : DataW.TrodAll enc Try.prog W 0 (fun _ => true) true Try.f5.params.toList args.toList ds p := hA0
  rw [Try.params5] at hA hval hsz
  obtain ⟨v0, vs0, d0, ds0, p0, q0, hargs, rfl, rfl, h0, r0⟩ := trodAll_cons hA
  obtain ⟨v1, vs1, d1, ds1, p1, q1, rfl, rfl, rfl, h1, r1⟩ := trodAll_cons r0
  obtain ⟨v2, vs2, d2, ds2, p2, q2, rfl, rfl, rfl, h2, r2⟩ := trodAll_cons r1
  obtain ⟨rfl, rfl, rfl⟩ := trodAll_nil r2
  obtain rfl : args = #[v0, v1, v2] := by cases args; simp_all
  obtain ⟨rfl, rfl⟩ := trodVars_none hV
  have k0 := h0
  have lt0 : ∀ x ∈ p0, x.block < W.heap.size := by obtain ⟨m, hm⟩ := k0; exact DataW.trod_lt m _ _ _ hm
  obtain ⟨x0, ox0, hx0⟩ : ∃ a : S33, ok33 a ∧ k33.K W a v0.cells.toList := opens_trod (P := Try.prog) (ts := _) (ds := _) hsz (j := 0) (t := 33) rfl rfl opens_33 h0
  obtain ⟨cs0, rfl, hcs0⟩ := okWide_struct Try.underlying33 (hval 0 33 v0 rfl rfl)
  obtain ⟨A0_0, c0_0, A0_1, c0_1, A0_2, c0_2, A0_17, c0_17, A0_18, c0_18, A0_19, c0_19, A0_20, c0_20, A0_21, c0_21, e0, l0_0, g0_0, l0_1, g0_1, l0_2, g0_2, l0_17, g0_17, l0_18, g0_18, l0_19, g0_19, l0_20, g0_20, l0_21, g0_21⟩ := k33_open hx0
  obtain rfl := Array.toList_inj.mp (e0.trans List.toList_toArray.symm)
  have k1 := h1
  have lt1 : ∀ x ∈ p1, x.block < W.heap.size := by obtain ⟨m, hm⟩ := k1; exact DataW.trod_lt m _ _ _ hm
  obtain ⟨x1, ox1, hx1⟩ : ∃ a : S48, ok48 a ∧ k48.K W a v1.cells.toList := opens_trod (P := Try.prog) (ts := _) (ds := _) hsz (j := 1) (t := 48) rfl rfl opens_48 h1
  obtain ⟨cs1, rfl, hcs1⟩ := okWide_struct Try.underlying48 (hval 1 48 v1 rfl rfl)
  obtain ⟨A1_2, c1_2, e1, l1_2, g1_2⟩ := k48_open hx1
  obtain rfl := Array.toList_inj.mp (e1.trans List.toList_toArray.symm)
  have k2 := h2
  have lt2 : ∀ x ∈ p2, x.block < W.heap.size := by obtain ⟨m, hm⟩ := k2; exact DataW.trod_lt m _ _ _ hm
  obtain ⟨x2, ox2, hx2⟩ : ∃ a : S50, ok50 a ∧ k50.K W a v2.cells.toList := opens_trod (P := Try.prog) (ts := _) (ds := _) hsz (j := 2) (t := 50) rfl rfl opens_50 h2
  obtain ⟨cs2, rfl, hcs2⟩ := okWide_struct Try.underlying50 (hval 2 50 v2 rfl rfl)
  obtain e2 := k50_open hx2
  obtain rfl := Array.toList_inj.mp (e2.trans List.toList_toArray.symm)
  clear hA0 hval0 hsz0 hsz
  obtain ⟨k, h⟩ := Proof.ReportEntries x0 x1 x2 ox0 ox1 ox2
  refine (corebanklaw49_ReportEntries.calls k _ _ x0.f0 _ _ x0.f1 _ _ x0.f2 x0.f3.f0 x0.f3.f1 x0.f3.f2 x0.f3.f3 x0.f3.f4 x0.f3.f5 x0.f3.f6 x0.f3.f7 x0.f3.f8 x0.f3.f9 x0.f3.f10 x0.f3.f11 x0.f3.f12 x0.f3.f13 _ _ x0.f4 _ _ x0.f5 _ _ x0.f6 _ _ x0.f7 _ _ x0.f8 x1.f0 x1.f1 (fun k_ => k_ < W.heap.size) _ _ x1.f2 x2.f0 x2.f1 x2.f2 true W g0_0 l0_0 g0_1 l0_1 g0_2 l0_2 g0_17 l0_17 g0_18 l0_18 g0_19 l0_19 g0_20 l0_20 g0_21 l0_21 (Kd.V_mk l1_2 (Kd.C_F (Kd.heap_int .i64) g1_2)) h).mono fun e W' ⟨he, hd⟩ => ?_
  have bel : Below W.heap.size W W' := hd
  subst he
  exact ⟨_, rfl, _, _, _, [], _, [], hW', trodAll_mk1 (shut_bool Try.underlying4 _), (trodAll_cons_mk (Below.trod laidOut (by kernel_rfl) (of_decide_eq_true (by kernel_rfl)) k0 bel lt0) (trodAll_cons_mk (Below.trod laidOut (by kernel_rfl) (of_decide_eq_true (by kernel_rfl)) k1 bel lt1) (trodAll_cons_mk (Below.trod laidOut (by kernel_rfl) (of_decide_eq_true (by kernel_rfl)) k2 bel lt2) trodAll_mk0))), rfl, bel.frame _, fun h => by cases h⟩
theorem over : Rows.reportEntriesRow.holds Try.pinned (OpenSpec.ofChange Rows.reportEntriesSpec) :=
  OpenClaim.holds_of_wide 5 Try.f5 rfl rfl rfl rfl rfl rfl rfl ⟨rfl, rfl, rfl, rfl, rfl⟩ rfl rfl rfl rfl rfl (by kernel_rfl) Try.func5 (by kernel_rfl)
    (of_decide_eq_true (by kernel_rfl)) (by unfold Func.isWrapper; first | (rw [if_pos (by decide +kernel)]; kernel_rfl) | (rw [if_neg (by decide +kernel)]; exact ⟨rfl, rfl⟩))
    (fun os started H enc _ => lifted os started H enc)
theorem proved : Rows.ReportEntriesSaid := over
#print axioms proved
end Go.Proofs.Ytcmaifjmnpfmbaa.reportEntries
namespace Go.Proofs.Ytcmaifjmnpfmbaa
/-- The row, under a short name, for the claim. -/
theorem reportEntries_holds : Rows.ReportEntriesSaid := reportEntries.proved
end Go.Proofs.Ytcmaifjmnpfmbaa
