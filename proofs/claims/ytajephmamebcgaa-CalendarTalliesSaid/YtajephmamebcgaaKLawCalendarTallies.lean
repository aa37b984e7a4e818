/- The law CalendarTallies holds for every input: whatever it is handed, it returns true and leaves its arguments as they were. No condition beyond the row's own cells. -/
import Derived.Test.YtajephmamebcgaaRows
import Derived.Test.YtajephmamebcgaaKx20
import Derived.Test.YtajephmamebcgaaKOpens
import Derived.Test.YtajephmamebcgaaKProofCalendarTallies
import Derived.WalkKit
import Derived.ProofKit
import Derived.OpenShut
import Derived.ShutString
import Derived.ChangeOld
import Derived.Below
import Derived.SizedLaws
import Derived.WideShapes
namespace Go.Proofs.Ytajephmamebcgaa.calendarTallies
open Go.ChangeShapes Go.WideShapes Go.ChangeAt Go.RowKit Go.Proofs.Ytajephmamebcgaa.K Go.Proofs.YtajephmamebcgaaW.PrintWords Go.Proofs.YtajephmamebcgaaW.PrintLast
open Go.ChangeMaps (open_string shut_string)
set_option linter.unusedVariables false
theorem own : ownKnob Try.prog.godebug = none := by kernel_rfl
theorem laidOut : laidOutB Try.prog = true := by kernel_rfl
set_option maxRecDepth 100000 in
set_option maxHeartbeats 4000000 in
theorem lifted (os : Os) (started : os.Started) (H : Type) (enc : TypeId × Value → H) :
    ReturnsInHanded {} Try.checked os 7 .any (Rows.calendarTalliesSpec.pre6 enc Try.prog Try.f7 Rows.calendarTalliesRow.domain false) (Rows.calendarTalliesSpec.post enc Try.prog Try.f7 false true false false) := by
  refine returnsInHanded_of_change_sized (C := Try.checked) own started (by kernel_rfl) Try.func7
    (ChangeSpec.witness6 (enc := enc) (C := Try.checked) false ⟨#[], #[.agg #[.string ByteArray.empty, .slice none 0 0, .slice none 0 0], .agg #[.int .i64 0, .int .i64 0, .int .i64 0]], []⟩ 8 (by kernel_rfl) (by kernel_rfl) (by kernel_rfl) (by kernel_rfl)) ?_
  intro W base args ds gs before hval0 hW hcnd hsz0 _
  have hsz : (DataW.weightsEach Try.prog (Try.f7.params.toList ++ Rows.calendarTalliesSpec.plain.varTypes Try.prog) (ds ++ gs)).all (· ≤ reachBytes) = true := hsz0
  have hval : ∀ (j : Nat) t v, Try.f7.params[j]? = some t → args[j]? = some v → Value.okWide Try.prog W .any base t v := hval0
  have hW' := hW
  obtain ⟨p, q, hA0, hV, rfl, hfz, hnd⟩ := hW
  have hA : DataW.TrodAll enc Try.prog W 0 (fun _ => true) true Try.f7.params.toList args.toList ds p := hA0
  rw [Try.params7] at hA hval hsz
  obtain ⟨v0, vs0, d0, ds0, p0, q0, hargs, rfl, rfl, h0, r0⟩ := trodAll_cons hA
  obtain ⟨v1, vs1, d1, ds1, p1, q1, rfl, rfl, rfl, h1, r1⟩ := trodAll_cons r0
  obtain ⟨rfl, rfl, rfl⟩ := trodAll_nil r1
  obtain rfl : args = #[v0, v1] := by cases args; simp_all
  obtain ⟨rfl, rfl⟩ := trodVars_none hV
  have k0 := h0
  have lt0 : ∀ x ∈ p0, x.block < W.heap.size := by obtain ⟨m, hm⟩ := k0; exact DataW.trod_lt m _ _ _ hm
  obtain ⟨x0, ox0, hx0⟩ : ∃ a : S24, ok24 a ∧ k24.K W a v0.cells.toList := opens_trod (P := Try.prog) (ts := _) (ds := _) hsz (j := 0) (t := 24) rfl rfl opens_24 h0
  obtain ⟨cs0, rfl, hcs0⟩ := okWide_struct Try.underlying24 (hval 0 24 v0 rfl rfl)
  obtain ⟨A0_1, c0_1, A0_2, c0_2, e0, l0_1, g0_1, l0_2, g0_2⟩ := k24_open hx0
  obtain rfl := Array.toList_inj.mp (e0.trans List.toList_toArray.symm)
  have k1 := h1
  have lt1 : ∀ x ∈ p1, x.block < W.heap.size := by obtain ⟨m, hm⟩ := k1; exact DataW.trod_lt m _ _ _ hm
  obtain ⟨x1, ox1, hx1⟩ : ∃ a : S35, ok35 a ∧ k35.K W a v1.cells.toList := opens_trod (P := Try.prog) (ts := _) (ds := _) hsz (j := 1) (t := 35) rfl rfl opens_35 h1
  obtain ⟨cs1, rfl, hcs1⟩ := okWide_struct Try.underlying35 (hval 1 35 v1 rfl rfl)
  obtain e1 := k35_open hx1
  obtain rfl := Array.toList_inj.mp (e1.trans List.toList_toArray.symm)
  clear hA0 hval0 hsz0 hsz
  obtain ⟨k, h⟩ := Proof.CalendarTallies x0 x1 ox0 ox1
  refine (corebanklaw05_CalendarTallies.calls k x0.f0 _ _ x0.f1 _ _ x0.f2 x1.f0 x1.f1 x1.f2 true W g0_1 l0_1 g0_2 l0_2 h).mono fun e W' ⟨he, hd⟩ => ?_
  have bel : Below W.heap.size W W' := hd
  subst he
  exact ⟨_, rfl, _, _, _, [], _, [], hW', trodAll_mk1 (shut_bool Try.underlying4 _), (trodAll_cons_mk (Below.trod laidOut (by kernel_rfl) (of_decide_eq_true (by kernel_rfl)) k0 bel lt0) (trodAll_cons_mk (Below.trod laidOut (by kernel_rfl) (of_decide_eq_true (by kernel_rfl)) k1 bel lt1) trodAll_mk0)), rfl, bel.frame _, fun h => by cases h⟩
theorem over : Rows.calendarTalliesRow.holds Try.pinned (OpenSpec.ofChange Rows.calendarTalliesSpec) :=
  OpenClaim.holds_of_wide 7 Try.f7 rfl rfl rfl rfl rfl rfl rfl ⟨rfl, rfl, rfl, rfl, rfl⟩ rfl rfl rfl rfl rfl (by kernel_rfl) Try.func7 (by kernel_rfl)
    (of_decide_eq_true (by kernel_rfl)) (by unfold Func.isWrapper; first | (rw [if_pos (by decide +kernel)]; kernel_rfl) | (rw [if_neg (by decide +kernel)]; exact ⟨rfl, rfl⟩))
    (fun os started H enc _ => lifted os started H enc)
theorem proved : Rows.CalendarTalliesSaid := over
#print axioms proved
end Go.Proofs.Ytajephmamebcgaa.calendarTallies
namespace Go.Proofs.Ytajephmamebcgaa
/-- The row, under a short name, for the claim. -/
theorem calendarTallies_holds : Rows.CalendarTalliesSaid := calendarTallies.proved
end Go.Proofs.Ytajephmamebcgaa
