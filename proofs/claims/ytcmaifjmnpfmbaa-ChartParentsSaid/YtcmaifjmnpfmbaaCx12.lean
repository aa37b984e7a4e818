-- Made by wip/tools/ext.py (this project's) over the kit's print, with external functions' contracts by hand. Not trusted: Lean checks it.
import Derived.Test.YtcmaifjmnpfmbaaCx0
import Derived.Test.YtcmaifjmnpfmbaaCx2
import Derived.Test.YtcmaifjmnpfmbaaCx6
import Derived.Test.YtcmaifjmnpfmbaaCx7
import Derived.Test.YtcmaifjmnpfmbaaCx10
import Derived.Test.YtcmaifjmnpfmbaaCx11
namespace Go.Proofs.Ytcmaifjmnpfmbaa.C
open Go.RowKit Go.Proofs.YtcmaifjmnpfmbaaW.PrintWords Go.Proofs.YtcmaifjmnpfmbaaW.PrintLast Go.Proofs.YtcmaifjmnpfmbaaW.PrintMore
attribute [local go_sem] max2_int min2_int max_two min_two max_three min_three max_four min_four   -- for this text's walks alone
set_option linter.unusedVariables false
set_option linter.unusedSimpArgs false

/-! ### chart_Sign: function 43 -/
def chart_Sign.j0 : Nat → Int → Bool → Option (Int)
  | 0, _, _ => none
  | k + 1, x3, x4 => if x4 = true then (some 1) else (if x3 = 2 then (some (-1)) else (if x3 = 3 then (some (-1)) else (if x3 = 4 then (some (-1)) else (some 0))))
def chart_Sign.f (k : Nat) (a0 : Int) : Option (Int) := if a0 = 1 then (chart_Sign.j0 k a0 (a0 == 1)) else (chart_Sign.j0 k a0 (a0 == 5))
theorem chart_Sign.mono_l : ∀ k, (∀ y0 y1, LeO (chart_Sign.j0 k y0 y1) (chart_Sign.j0 (k + 1) y0 y1))
  | 0 => fun _ _ r h => by simp [chart_Sign.j0] at h
  | k + 1 => by
    have ih0 := chart_Sign.mono_l k
    · intro y0 y1
      unfold chart_Sign.j0
      repeat' first
      | (with_reducible exact ih0 _ _)
      | (with_reducible exact LeO.refl _)
      | (with_reducible exact LeO.none _)
      | (with_reducible refine LeO.ite ?_ ?_)
      | (with_reducible refine LeO.bind ?_ (fun _ => ?_))
      | exact ih0 _ _
      | exact LeO.none _
      | refine LeO.ite ?_ ?_
      | refine LeO.bind ?_ (fun _ => ?_)
theorem chart_Sign.mono : ∀ a0 k, LeO (chart_Sign.f k a0) (chart_Sign.f (k + 1) a0) := by
  intro a0 k
  have ih0 := chart_Sign.mono_l k
  unfold chart_Sign.f
  repeat' first
      | (with_reducible exact ih0 _ _)
      | (with_reducible exact LeO.refl _)
      | (with_reducible exact LeO.none _)
      | (with_reducible refine LeO.ite ?_ ?_)
      | (with_reducible refine LeO.bind ?_ (fun _ => ?_))
      | exact ih0 _ _
      | exact LeO.none _
      | refine LeO.ite ?_ ?_
      | refine LeO.bind ?_ (fun _ => ?_)
set_option maxHeartbeats 8000000 in
set_option maxRecDepth 100000 in
theorem chart_Sign.calls (k : Nat) (a0 : Int) (r : Int) (w : World) (h : chart_Sign.f k a0 = some r) :
    Calls Try.prog 43 #[.int .i64 a0] w fun e w' => e = .returned (.int .i64 r) ∧ Drawn0 w w' := by
  have H : (if a0 = 1 then (chart_Sign.j0 k a0 (a0 == 1)) else (chart_Sign.j0 k a0 (a0 == 5))) = some r := h
  clear h
  have HC2 := Aside0.mk H
  clear H
  go_enter Try.func43, Try.ntmps43
  go_upto_if 4 with (fail)
  go_cut [4] (fun v4 wc => ∃ (kq : Nat) (x4_1 : Bool), v4 = .bool x4_1 ∧ Aside0 (chart_Sign.j0 kq a0 x4_1 = some r) ∧ Aside0 (kq ≤ k) ∧ Drawn0 w wc)
  case first =>
    have H := HC2.out
    clear HC2
    by_cases c3 : a0 = 1
    · rw [if_pos c3] at H
      have c3b0 : (a0 == 1) = true := beq_iff_eq.mpr c3
      have c3b1 : (a0 != 1) = false := bne_eq_false_iff_eq.mpr c3
      clear c3
      (first | rw [c3b0] | (simp only [i64_w, i32_w]; rw [c3b0]) | skip)
      have H' := Aside0.mk H
      clear H
      go_wp2
      go_meet
      case rel => exact ⟨_, ((a0 == 1)), (by first | rfl | (simp; done) | (simp [*]; done)), H', ⟨by first | omega | exact Nat.le_refl _⟩, by repeat (first | exact Drawn0.refl _ | apply Drawn0.step)⟩
    · rw [if_neg c3] at H
      have c3b0 : (a0 == 1) = false := beq_eq_false_iff_ne.mpr c3
      have c3b1 : (a0 != 1) = true := bne_iff_ne.mpr c3
      (first | rw [c3b0] | (simp only [i64_w, i32_w]; rw [c3b0]) | skip)
      have H' := Aside0.mk H
      clear H
      go_wp2
      go_meet
      case rel => exact ⟨_, ((a0 == 5)), (by first | rfl | (simp; done) | (simp [*]; done)), H', ⟨by first | omega | exact Nat.le_refl _⟩, by repeat (first | exact Drawn0.refl _ | apply Drawn0.step)⟩
  case rest =>
    clear HC2
    try clear p2
    try clear c3
    try clear c3b0
    try clear c3b1
    obtain ⟨kq, x4_1, rfl, HA, HJ1, ⟨mc1, rfl⟩⟩ := hcut
    cases kq with
    | zero => exact absurd HA.out (by simp [chart_Sign.j0])
    | succ kj1 =>
      have H := HA.out
      clear HA
      simp only [chart_Sign.j0] at H
      by_cases c4 : x4_1 = true
      · subst c4
        have H1 : (some 1) = some r := by rw [if_pos rfl] at H; exact H
        clear H
        have H := H1
        clear H1
        obtain rfl := Option.some.inj H
        go_wp2
        go_ret
        exact ⟨by first | rfl | (simp; done) | (simp [*]; done), by repeat (first | exact Drawn0.refl _ | apply Drawn0.step)⟩
      · replace c4 := Bool.eq_false_iff.mpr c4
        subst c4
        have H1 : (if a0 = 2 then (some (-1)) else (if a0 = 3 then (some (-1)) else (if a0 = 4 then (some (-1)) else (some 0)))) = some r := by rw [if_neg (show ¬ (false = true) by decide)] at H; exact H
        clear H
        have H := H1
        clear H1
        by_cases c5 : a0 = 2
        · rw [if_pos c5] at H
          have c5b0 : (a0 == 2) = true := beq_iff_eq.mpr c5
          have c5b1 : (a0 != 2) = false := bne_eq_false_iff_eq.mpr c5
          clear c5
          obtain rfl := Option.some.inj H
          go_wp2
          go_ret
          exact ⟨by first | rfl | (simp; done) | (simp [*]; done), by repeat (first | exact Drawn0.refl _ | apply Drawn0.step)⟩
        · rw [if_neg c5] at H
          have c5b0 : (a0 == 2) = false := beq_eq_false_iff_ne.mpr c5
          have c5b1 : (a0 != 2) = true := bne_iff_ne.mpr c5
          by_cases c6 : a0 = 3
          · rw [if_pos c6] at H
            have c6b0 : (a0 == 3) = true := beq_iff_eq.mpr c6
            have c6b1 : (a0 != 3) = false := bne_eq_false_iff_eq.mpr c6
            clear c6
            obtain rfl := Option.some.inj H
            go_wp2
            go_ret
            exact ⟨by first | rfl | (simp; done) | (simp [*]; done), by repeat (first | exact Drawn0.refl _ | apply Drawn0.step)⟩
          · rw [if_neg c6] at H
            have c6b0 : (a0 == 3) = false := beq_eq_false_iff_ne.mpr c6
            have c6b1 : (a0 != 3) = true := bne_iff_ne.mpr c6
            by_cases c7 : a0 = 4
            · rw [if_pos c7] at H
              have c7b0 : (a0 == 4) = true := beq_iff_eq.mpr c7
              have c7b1 : (a0 != 4) = false := bne_eq_false_iff_eq.mpr c7
              clear c7
              obtain rfl := Option.some.inj H
              go_wp2
              go_ret
              exact ⟨by first | rfl | (simp; done) | (simp [*]; done), by repeat (first | exact Drawn0.refl _ | apply Drawn0.step)⟩
            · rw [if_neg c7] at H
              have c7b0 : (a0 == 4) = false := beq_eq_false_iff_ne.mpr c7
              have c7b1 : (a0 != 4) = true := bne_iff_ne.mpr c7
              obtain rfl := Option.some.inj H
              go_wp2
              go_ret
              exact ⟨by first | rfl | (simp; done) | (simp [*]; done), by repeat (first | exact Drawn0.refl _ | apply Drawn0.step)⟩

/-! ### corebanklaw18_lives: function 29 -/
def corebanklaw18_lives.f (k : Nat)  : Option (Bool) := (some (([(⟨1, 0, 0, (⟨#[]⟩ : ByteArray)⟩ : S62), (⟨2, 1, 0, (⟨#[]⟩ : ByteArray)⟩ : S62), (⟨3, 1, 0, (⟨#[]⟩ : ByteArray)⟩ : S62), (⟨4, 0, 0, (⟨#[]⟩ : ByteArray)⟩ : S62), (⟨5, 2, 0, (⟨#[]⟩ : ByteArray)⟩ : S62)] : List (S62)) : List (S62))).bind fun y175 => ((chart_Find.f k y175 5).bind fun bt178 => ((chart_Path.f k y175 5).bind fun t184 => ((corebankref18_Same.f k t184 (([1, 2, 5] : List Int))).bind fun t190 => (if t190 = true then ((chart_Leaves.f k y175 1).bind fun t191 => ((corebankref18_Same.f k t191 (([3, 5] : List Int))).bind fun t197 => (if t197 = true then ((chart_Leaves.f k y175 4).bind fun t198 => ((corebankref18_Same.f k t198 (([4] : List Int))).bind fun t204 => (if t204 = true then ((chart_Order.f k y175).bind fun t205 => ((corebankref18_Same.f k t205 (([1, 2, 5, 3, 4] : List Int))).bind fun t211 => (if t211 = true then ((chart_Under.f k y175 5 2).bind fun t212 => (if t212 = true then ((chart_Under.f k y175 5 3).bind fun t213 => (if t213 = true then (none) else (if bt178.2.1 = 2 then (if bt178.2.2.2.2 = true then ((chart_Sign.f k 1).bind fun t214 => (if t214 = 1 then ((chart_Sign.f k 4).bind fun t215 => (if t215 = (-1) then ((chart_Check.f k ([] : List (S62)) 0 0 0 0 0 0 0 0 0 0 0 0 0 0).bind fun t216 => (some (t216 == 5))) else (none))) else (none))) else (none)) else (none)))) else (none))) else (none)))) else (none)))) else (none)))) else (none)))))
theorem corebanklaw18_lives.mono : ∀ k, LeO (corebanklaw18_lives.f k ) (corebanklaw18_lives.f (k + 1) ) := by
 intro  k
 unfold corebanklaw18_lives.f
 repeat' first
   | (with_reducible exact chart_Check.mono _ _ _ _ _ _ _ _ _ _ _ _ _ _ _ _)
   | (with_reducible exact chart_Find.mono _ _ _)
   | (with_reducible exact chart_Leaves.mono _ _ _)
   | (with_reducible exact chart_Order.mono _ _)
   | (with_reducible exact chart_Path.mono _ _ _)
   | (with_reducible exact chart_Sign.mono _ _)
   | (with_reducible exact chart_Under.mono _ _ _ _)
   | (with_reducible exact corebankref18_Same.mono _ _ _)
   | (with_reducible exact LeO.refl _)
   | (with_reducible exact LeO.none _)
   | (with_reducible refine LeO.ite ?_ ?_)
   | (with_reducible refine LeO.bind ?_ (fun _ => ?_))
   | exact chart_Check.mono _ _ _ _ _ _ _ _ _ _ _ _ _ _ _ _
   | exact chart_Find.mono _ _ _
   | exact chart_Leaves.mono _ _ _
   | exact chart_Order.mono _ _
   | exact chart_Path.mono _ _ _
   | exact chart_Sign.mono _ _
   | exact chart_Under.mono _ _ _ _
   | exact corebankref18_Same.mono _ _ _
   | exact LeO.none _
   | refine LeO.ite ?_ ?_
   | refine LeO.bind ?_ (fun _ => ?_)
set_option maxHeartbeats 8000000 in
set_option maxRecDepth 100000 in
theorem corebanklaw18_lives.calls (k : Nat)  (r : Bool) (w : World) (h : corebanklaw18_lives.f k  = some r) :
  Calls Try.prog 29 #[] w fun e w' => e = .returned (.bool r) ∧ Below w.heap.size w w' := by
 have hu62 := Try.underlying62
 have hu26 := Try.underlying26
 have HB := Aside0.mk (Below.refl w.heap.size w)
 have H : ((some (([(⟨1, 0, 0, (⟨#[]⟩ : ByteArray)⟩ : S62), (⟨2, 1, 0, (⟨#[]⟩ : ByteArray)⟩ : S62), (⟨3, 1, 0, (⟨#[]⟩ : ByteArray)⟩ : S62), (⟨4, 0, 0, (⟨#[]⟩ : ByteArray)⟩ : S62), (⟨5, 2, 0, (⟨#[]⟩ : ByteArray)⟩ : S62)] : List (S62)) : List (S62))).bind fun y175 => ((chart_Find.f k y175 5).bind fun bt178 => ((chart_Path.f k y175 5).bind fun t184 => ((corebankref18_Same.f k t184 (([1, 2, 5] : List Int))).bind fun t190 => (if t190 = true then ((chart_Leaves.f k y175 1).bind fun t191 => ((corebankref18_Same.f k t191 (([3, 5] : List Int))).bind fun t197 => (if t197 = true then ((chart_Leaves.f k y175 4).bind fun t198 => ((corebankref18_Same.f k t198 (([4] : List Int))).bind fun t204 => (if t204 = true then ((chart_Order.f k y175).bind fun t205 => ((corebankref18_Same.f k t205 (([1, 2, 5, 3, 4] : List Int))).bind fun t211 => (if t211 = true then ((chart_Under.f k y175 5 2).bind fun t212 => (if t212 = true then ((chart_Under.f k y175 5 3).bind fun t213 => (if t213 = true then (none) else (if bt178.2.1 = 2 then (if bt178.2.2.2.2 = true then ((chart_Sign.f k 1).bind fun t214 => (if t214 = 1 then ((chart_Sign.f k 4).bind fun t215 => (if t215 = (-1) then ((chart_Check.f k ([] : List (S62)) 0 0 0 0 0 0 0 0 0 0 0 0 0 0).bind fun t216 => (some (t216 == 5))) else (none))) else (none))) else (none)) else (none)))) else (none))) else (none)))) else (none)))) else (none)))) else (none)))))) = some r := h
 clear h
 obtain ⟨y175, hy175⟩ : ∃ y_ : List (S62), y_ = (([(⟨1, 0, 0, (⟨#[]⟩ : ByteArray)⟩ : S62), (⟨2, 1, 0, (⟨#[]⟩ : ByteArray)⟩ : S62), (⟨3, 1, 0, (⟨#[]⟩ : ByteArray)⟩ : S62), (⟨4, 0, 0, (⟨#[]⟩ : ByteArray)⟩ : S62), (⟨5, 2, 0, (⟨#[]⟩ : ByteArray)⟩ : S62)] : List (S62))) := ⟨_, rfl⟩
 replace H : ((chart_Find.f k y175 5).bind fun bt178 => ((chart_Path.f k y175 5).bind fun t184 => ((corebankref18_Same.f k t184 (([1, 2, 5] : List Int))).bind fun t190 => (if t190 = true then ((chart_Leaves.f k y175 1).bind fun t191 => ((corebankref18_Same.f k t191 (([3, 5] : List Int))).bind fun t197 => (if t197 = true then ((chart_Leaves.f k y175 4).bind fun t198 => ((corebankref18_Same.f k t198 (([4] : List Int))).bind fun t204 => (if t204 = true then ((chart_Order.f k y175).bind fun t205 => ((corebankref18_Same.f k t205 (([1, 2, 5, 3, 4] : List Int))).bind fun t211 => (if t211 = true then ((chart_Under.f k y175 5 2).bind fun t212 => (if t212 = true then ((chart_Under.f k y175 5 3).bind fun t213 => (if t213 = true then (none) else (if bt178.2.1 = 2 then (if bt178.2.2.2.2 = true then ((chart_Sign.f k 1).bind fun t214 => (if t214 = 1 then ((chart_Sign.f k 4).bind fun t215 => (if t215 = (-1) then ((chart_Check.f k ([] : List (S62)) 0 0 0 0 0 0 0 0 0 0 0 0 0 0).bind fun t216 => (some (t216 == 5))) else (none))) else (none))) else (none)) else (none)))) else (none))) else (none)))) else (none)))) else (none)))) else (none))))) = some r := by first | (rw [hy175]; with_reducible exact H) | (have H2_ := (Option.bind_some _ _).symm.trans H; rw [hy175]; with_reducible exact H2_) | (have H2_ := (Option.bind_some _ _).symm.trans H; with_reducible exact H2_) | with_reducible exact H | (rw [hy175]; exact H) | exact H
 have Ny175 := Aside0.mk hy175
 clear hy175
 replace H := Option.bind_eq_some_iff.mp H
 obtain ⟨⟨t178, t179, t180, t181, t182⟩, A10, H⟩ := H
 replace H : ((chart_Path.f k y175 5).bind fun t184 => ((corebankref18_Same.f k t184 (([1, 2, 5] : List Int))).bind fun t190 => (if t190 = true then ((chart_Leaves.f k y175 1).bind fun t191 => ((corebankref18_Same.f k t191 (([3, 5] : List Int))).bind fun t197 => (if t197 = true then ((chart_Leaves.f k y175 4).bind fun t198 => ((corebankref18_Same.f k t198 (([4] : List Int))).bind fun t204 => (if t204 = true then ((chart_Order.f k y175).bind fun t205 => ((corebankref18_Same.f k t205 (([1, 2, 5, 3, 4] : List Int))).bind fun t211 => (if t211 = true then ((chart_Under.f k y175 5 2).bind fun t212 => (if t212 = true then ((chart_Under.f k y175 5 3).bind fun t213 => (if t213 = true then (none) else (if t179 = 2 then (if t182 = true then ((chart_Sign.f k 1).bind fun t214 => (if t214 = 1 then ((chart_Sign.f k 4).bind fun t215 => (if t215 = (-1) then ((chart_Check.f k ([] : List (S62)) 0 0 0 0 0 0 0 0 0 0 0 0 0 0).bind fun t216 => (some (t216 == 5))) else (none))) else (none))) else (none)) else (none)))) else (none))) else (none)))) else (none)))) else (none)))) else (none)))) = some r := H
 have A1 := Aside0.mk A10
 clear A10
 replace H := Option.bind_eq_some_iff.mp H
 obtain ⟨t184, A20, H⟩ := H
 replace H : ((corebankref18_Same.f k t184 (([1, 2, 5] : List Int))).bind fun t190 => (if t190 = true then ((chart_Leaves.f k y175 1).bind fun t191 => ((corebankref18_Same.f k t191 (([3, 5] : List Int))).bind fun t197 => (if t197 = true then ((chart_Leaves.f k y175 4).bind fun t198 => ((corebankref18_Same.f k t198 (([4] : List Int))).bind fun t204 => (if t204 = true then ((chart_Order.f k y175).bind fun t205 => ((corebankref18_Same.f k t205 (([1, 2, 5, 3, 4] : List Int))).bind fun t211 => (if t211 = true then ((chart_Under.f k y175 5 2).bind fun t212 => (if t212 = true then ((chart_Under.f k y175 5 3).bind fun t213 => (if t213 = true then (none) else (if t179 = 2 then (if t182 = true then ((chart_Sign.f k 1).bind fun t214 => (if t214 = 1 then ((chart_Sign.f k 4).bind fun t215 => (if t215 = (-1) then ((chart_Check.f k ([] : List (S62)) 0 0 0 0 0 0 0 0 0 0 0 0 0 0).bind fun t216 => (some (t216 == 5))) else (none))) else (none))) else (none)) else (none)))) else (none))) else (none)))) else (none)))) else (none)))) else (none))) = some r := H
 have A2 := Aside0.mk A20
 clear A20
 obtain ⟨y187, hy187⟩ : ∃ y_ : List Int, y_ = (([1, 2, 5] : List Int)) := ⟨_, rfl⟩
 replace H : ((corebankref18_Same.f k t184 y187).bind fun t190 => (if t190 = true then ((chart_Leaves.f k y175 1).bind fun t191 => ((corebankref18_Same.f k t191 (([3, 5] : List Int))).bind fun t197 => (if t197 = true then ((chart_Leaves.f k y175 4).bind fun t198 => ((corebankref18_Same.f k t198 (([4] : List Int))).bind fun t204 => (if t204 = true then ((chart_Order.f k y175).bind fun t205 => ((corebankref18_Same.f k t205 (([1, 2, 5, 3, 4] : List Int))).bind fun t211 => (if t211 = true then ((chart_Under.f k y175 5 2).bind fun t212 => (if t212 = true then ((chart_Under.f k y175 5 3).bind fun t213 => (if t213 = true then (none) else (if t179 = 2 then (if t182 = true then ((chart_Sign.f k 1).bind fun t214 => (if t214 = 1 then ((chart_Sign.f k 4).bind fun t215 => (if t215 = (-1) then ((chart_Check.f k ([] : List (S62)) 0 0 0 0 0 0 0 0 0 0 0 0 0 0).bind fun t216 => (some (t216 == 5))) else (none))) else (none))) else (none)) else (none)))) else (none))) else (none)))) else (none)))) else (none)))) else (none))) = some r := by first | (rw [hy187]; with_reducible exact H) | (have H2_ := (Option.bind_some _ _).symm.trans H; rw [hy187]; with_reducible exact H2_) | (have H2_ := (Option.bind_some _ _).symm.trans H; with_reducible exact H2_) | with_reducible exact H | (rw [hy187]; exact H) | exact H
 have Ny187 := Aside0.mk hy187
 clear hy187
 replace H := Option.bind_eq_some_iff.mp H
 obtain ⟨t190, A30, H⟩ := H
 replace H : (if t190 = true then ((chart_Leaves.f k y175 1).bind fun t191 => ((corebankref18_Same.f k t191 (([3, 5] : List Int))).bind fun t197 => (if t197 = true then ((chart_Leaves.f k y175 4).bind fun t198 => ((corebankref18_Same.f k t198 (([4] : List Int))).bind fun t204 => (if t204 = true then ((chart_Order.f k y175).bind fun t205 => ((corebankref18_Same.f k t205 (([1, 2, 5, 3, 4] : List Int))).bind fun t211 => (if t211 = true then ((chart_Under.f k y175 5 2).bind fun t212 => (if t212 = true then ((chart_Under.f k y175 5 3).bind fun t213 => (if t213 = true then (none) else (if t179 = 2 then (if t182 = true then ((chart_Sign.f k 1).bind fun t214 => (if t214 = 1 then ((chart_Sign.f k 4).bind fun t215 => (if t215 = (-1) then ((chart_Check.f k ([] : List (S62)) 0 0 0 0 0 0 0 0 0 0 0 0 0 0).bind fun t216 => (some (t216 == 5))) else (none))) else (none))) else (none)) else (none)))) else (none))) else (none)))) else (none)))) else (none)))) else (none)) = some r := H
 have A3 := Aside0.mk A30
 clear A30
 by_cases c4 : t190 = true
 ·subst c4
  have H1 : ((chart_Leaves.f k y175 1).bind fun t191 => ((corebankref18_Same.f k t191 (([3, 5] : List Int))).bind fun t197 => (if t197 = true then ((chart_Leaves.f k y175 4).bind fun t198 => ((corebankref18_Same.f k t198 (([4] : List Int))).bind fun t204 => (if t204 = true then ((chart_Order.f k y175).bind fun t205 => ((corebankref18_Same.f k t205 (([1, 2, 5, 3, 4] : List Int))).bind fun t211 => (if t211 = true then ((chart_Under.f k y175 5 2).bind fun t212 => (if t212 = true then ((chart_Under.f k y175 5 3).bind fun t213 => (if t213 = true then (none) else (if t179 = 2 then (if t182 = true then ((chart_Sign.f k 1).bind fun t214 => (if t214 = 1 then ((chart_Sign.f k 4).bind fun t215 => (if t215 = (-1) then ((chart_Check.f k ([] : List (S62)) 0 0 0 0 0 0 0 0 0 0 0 0 0 0).bind fun t216 => (some (t216 == 5))) else (none))) else (none))) else (none)) else (none)))) else (none))) else (none)))) else (none)))) else (none)))) = some r := by rw [if_pos rfl] at H; exact H
  clear H
  have H := H1
  clear H1
  replace H := Option.bind_eq_some_iff.mp H
  obtain ⟨t191, A50, H⟩ := H
  replace H : ((corebankref18_Same.f k t191 (([3, 5] : List Int))).bind fun t197 => (if t197 = true then ((chart_Leaves.f k y175 4).bind fun t198 => ((corebankref18_Same.f k t198 (([4] : List Int))).bind fun t204 => (if t204 = true then ((chart_Order.f k y175).bind fun t205 => ((corebankref18_Same.f k t205 (([1, 2, 5, 3, 4] : List Int))).bind fun t211 => (if t211 = true then ((chart_Under.f k y175 5 2).bind fun t212 => (if t212 = true then ((chart_Under.f k y175 5 3).bind fun t213 => (if t213 = true then (none) else (if t179 = 2 then (if t182 = true then ((chart_Sign.f k 1).bind fun t214 => (if t214 = 1 then ((chart_Sign.f k 4).bind fun t215 => (if t215 = (-1) then ((chart_Check.f k ([] : List (S62)) 0 0 0 0 0 0 0 0 0 0 0 0 0 0).bind fun t216 => (some (t216 == 5))) else (none))) else (none))) else (none)) else (none)))) else (none))) else (none)))) else (none)))) else (none))) = some r := H
  have A5 := Aside0.mk A50
  clear A50
  obtain ⟨y194, hy194⟩ : ∃ y_ : List Int, y_ = (([3, 5] : List Int)) := ⟨_, rfl⟩
  replace H : ((corebankref18_Same.f k t191 y194).bind fun t197 => (if t197 = true then ((chart_Leaves.f k y175 4).bind fun t198 => ((corebankref18_Same.f k t198 (([4] : List Int))).bind fun t204 => (if t204 = true then ((chart_Order.f k y175).bind fun t205 => ((corebankref18_Same.f k t205 (([1, 2, 5, 3, 4] : List Int))).bind fun t211 => (if t211 = true then ((chart_Under.f k y175 5 2).bind fun t212 => (if t212 = true then ((chart_Under.f k y175 5 3).bind fun t213 => (if t213 = true then (none) else (if t179 = 2 then (if t182 = true then ((chart_Sign.f k 1).bind fun t214 => (if t214 = 1 then ((chart_Sign.f k 4).bind fun t215 => (if t215 = (-1) then ((chart_Check.f k ([] : List (S62)) 0 0 0 0 0 0 0 0 0 0 0 0 0 0).bind fun t216 => (some (t216 == 5))) else (none))) else (none))) else (none)) else (none)))) else (none))) else (none)))) else (none)))) else (none))) = some r := by first | (rw [hy194]; with_reducible exact H) | (have H2_ := (Option.bind_some _ _).symm.trans H; rw [hy194]; with_reducible exact H2_) | (have H2_ := (Option.bind_some _ _).symm.trans H; with_reducible exact H2_) | with_reducible exact H | (rw [hy194]; exact H) | exact H
  have Ny194 := Aside0.mk hy194
  clear hy194
  replace H := Option.bind_eq_some_iff.mp H
  obtain ⟨t197, A60, H⟩ := H
  replace H : (if t197 = true then ((chart_Leaves.f k y175 4).bind fun t198 => ((corebankref18_Same.f k t198 (([4] : List Int))).bind fun t204 => (if t204 = true then ((chart_Order.f k y175).bind fun t205 => ((corebankref18_Same.f k t205 (([1, 2, 5, 3, 4] : List Int))).bind fun t211 => (if t211 = true then ((chart_Under.f k y175 5 2).bind fun t212 => (if t212 = true then ((chart_Under.f k y175 5 3).bind fun t213 => (if t213 = true then (none) else (if t179 = 2 then (if t182 = true then ((chart_Sign.f k 1).bind fun t214 => (if t214 = 1 then ((chart_Sign.f k 4).bind fun t215 => (if t215 = (-1) then ((chart_Check.f k ([] : List (S62)) 0 0 0 0 0 0 0 0 0 0 0 0 0 0).bind fun t216 => (some (t216 == 5))) else (none))) else (none))) else (none)) else (none)))) else (none))) else (none)))) else (none)))) else (none)) = some r := H
  have A6 := Aside0.mk A60
  clear A60
  by_cases c7 : t197 = true
  ·subst c7
   have H1 : ((chart_Leaves.f k y175 4).bind fun t198 => ((corebankref18_Same.f k t198 (([4] : List Int))).bind fun t204 => (if t204 = true then ((chart_Order.f k y175).bind fun t205 => ((corebankref18_Same.f k t205 (([1, 2, 5, 3, 4] : List Int))).bind fun t211 => (if t211 = true then ((chart_Under.f k y175 5 2).bind fun t212 => (if t212 = true then ((chart_Under.f k y175 5 3).bind fun t213 => (if t213 = true then (none) else (if t179 = 2 then (if t182 = true then ((chart_Sign.f k 1).bind fun t214 => (if t214 = 1 then ((chart_Sign.f k 4).bind fun t215 => (if t215 = (-1) then ((chart_Check.f k ([] : List (S62)) 0 0 0 0 0 0 0 0 0 0 0 0 0 0).bind fun t216 => (some (t216 == 5))) else (none))) else (none))) else (none)) else (none)))) else (none))) else (none)))) else (none)))) = some r := by rw [if_pos rfl] at H; exact H
   clear H
   have H := H1
   clear H1
   replace H := Option.bind_eq_some_iff.mp H
   obtain ⟨t198, A80, H⟩ := H
   replace H : ((corebankref18_Same.f k t198 (([4] : List Int))).bind fun t204 => (if t204 = true then ((chart_Order.f k y175).bind fun t205 => ((corebankref18_Same.f k t205 (([1, 2, 5, 3, 4] : List Int))).bind fun t211 => (if t211 = true then ((chart_Under.f k y175 5 2).bind fun t212 => (if t212 = true then ((chart_Under.f k y175 5 3).bind fun t213 => (if t213 = true then (none) else (if t179 = 2 then (if t182 = true then ((chart_Sign.f k 1).bind fun t214 => (if t214 = 1 then ((chart_Sign.f k 4).bind fun t215 => (if t215 = (-1) then ((chart_Check.f k ([] : List (S62)) 0 0 0 0 0 0 0 0 0 0 0 0 0 0).bind fun t216 => (some (t216 == 5))) else (none))) else (none))) else (none)) else (none)))) else (none))) else (none)))) else (none))) = some r := H
   have A8 := Aside0.mk A80
   clear A80
   obtain ⟨y201, hy201⟩ : ∃ y_ : List Int, y_ = (([4] : List Int)) := ⟨_, rfl⟩
   replace H : ((corebankref18_Same.f k t198 y201).bind fun t204 => (if t204 = true then ((chart_Order.f k y175).bind fun t205 => ((corebankref18_Same.f k t205 (([1, 2, 5, 3, 4] : List Int))).bind fun t211 => (if t211 = true then ((chart_Under.f k y175 5 2).bind fun t212 => (if t212 = true then ((chart_Under.f k y175 5 3).bind fun t213 => (if t213 = true then (none) else (if t179 = 2 then (if t182 = true then ((chart_Sign.f k 1).bind fun t214 => (if t214 = 1 then ((chart_Sign.f k 4).bind fun t215 => (if t215 = (-1) then ((chart_Check.f k ([] : List (S62)) 0 0 0 0 0 0 0 0 0 0 0 0 0 0).bind fun t216 => (some (t216 == 5))) else (none))) else (none))) else (none)) else (none)))) else (none))) else (none)))) else (none))) = some r := by first | (rw [hy201]; with_reducible exact H) | (have H2_ := (Option.bind_some _ _).symm.trans H; rw [hy201]; with_reducible exact H2_) | (have H2_ := (Option.bind_some _ _).symm.trans H; with_reducible exact H2_) | with_reducible exact H | (rw [hy201]; exact H) | exact H
   have Ny201 := Aside0.mk hy201
   clear hy201
   replace H := Option.bind_eq_some_iff.mp H
   obtain ⟨t204, A90, H⟩ := H
   replace H : (if t204 = true then ((chart_Order.f k y175).bind fun t205 => ((corebankref18_Same.f k t205 (([1, 2, 5, 3, 4] : List Int))).bind fun t211 => (if t211 = true then ((chart_Under.f k y175 5 2).bind fun t212 => (if t212 = true then ((chart_Under.f k y175 5 3).bind fun t213 => (if t213 = true then (none) else (if t179 = 2 then (if t182 = true then ((chart_Sign.f k 1).bind fun t214 => (if t214 = 1 then ((chart_Sign.f k 4).bind fun t215 => (if t215 = (-1) then ((chart_Check.f k ([] : List (S62)) 0 0 0 0 0 0 0 0 0 0 0 0 0 0).bind fun t216 => (some (t216 == 5))) else (none))) else (none))) else (none)) else (none)))) else (none))) else (none)))) else (none)) = some r := H
   have A9 := Aside0.mk A90
   clear A90
   by_cases c10 : t204 = true
   ·subst c10
    have H1 : ((chart_Order.f k y175).bind fun t205 => ((corebankref18_Same.f k t205 (([1, 2, 5, 3, 4] : List Int))).bind fun t211 => (if t211 = true then ((chart_Under.f k y175 5 2).bind fun t212 => (if t212 = true then ((chart_Under.f k y175 5 3).bind fun t213 => (if t213 = true then (none) else (if t179 = 2 then (if t182 = true then ((chart_Sign.f k 1).bind fun t214 => (if t214 = 1 then ((chart_Sign.f k 4).bind fun t215 => (if t215 = (-1) then ((chart_Check.f k ([] : List (S62)) 0 0 0 0 0 0 0 0 0 0 0 0 0 0).bind fun t216 => (some (t216 == 5))) else (none))) else (none))) else (none)) else (none)))) else (none))) else (none)))) = some r := by rw [if_pos rfl] at H; exact H
    clear H
    have H := H1
    clear H1
    replace H := Option.bind_eq_some_iff.mp H
    obtain ⟨t205, A110, H⟩ := H
    replace H : ((corebankref18_Same.f k t205 (([1, 2, 5, 3, 4] : List Int))).bind fun t211 => (if t211 = true then ((chart_Under.f k y175 5 2).bind fun t212 => (if t212 = true then ((chart_Under.f k y175 5 3).bind fun t213 => (if t213 = true then (none) else (if t179 = 2 then (if t182 = true then ((chart_Sign.f k 1).bind fun t214 => (if t214 = 1 then ((chart_Sign.f k 4).bind fun t215 => (if t215 = (-1) then ((chart_Check.f k ([] : List (S62)) 0 0 0 0 0 0 0 0 0 0 0 0 0 0).bind fun t216 => (some (t216 == 5))) else (none))) else (none))) else (none)) else (none)))) else (none))) else (none))) = some r := H
    have A11 := Aside0.mk A110
    clear A110
    obtain ⟨y208, hy208⟩ : ∃ y_ : List Int, y_ = (([1, 2, 5, 3, 4] : List Int)) := ⟨_, rfl⟩
    replace H : ((corebankref18_Same.f k t205 y208).bind fun t211 => (if t211 = true then ((chart_Under.f k y175 5 2).bind fun t212 => (if t212 = true then ((chart_Under.f k y175 5 3).bind fun t213 => (if t213 = true then (none) else (if t179 = 2 then (if t182 = true then ((chart_Sign.f k 1).bind fun t214 => (if t214 = 1 then ((chart_Sign.f k 4).bind fun t215 => (if t215 = (-1) then ((chart_Check.f k ([] : List (S62)) 0 0 0 0 0 0 0 0 0 0 0 0 0 0).bind fun t216 => (some (t216 == 5))) else (none))) else (none))) else (none)) else (none)))) else (none))) else (none))) = some r := by first | (rw [hy208]; with_reducible exact H) | (have H2_ := (Option.bind_some _ _).symm.trans H; rw [hy208]; with_reducible exact H2_) | (have H2_ := (Option.bind_some _ _).symm.trans H; with_reducible exact H2_) | with_reducible exact H | (rw [hy208]; exact H) | exact H
    have Ny208 := Aside0.mk hy208
    clear hy208
    replace H := Option.bind_eq_some_iff.mp H
    obtain ⟨t211, A120, H⟩ := H
    replace H : (if t211 = true then ((chart_Under.f k y175 5 2).bind fun t212 => (if t212 = true then ((chart_Under.f k y175 5 3).bind fun t213 => (if t213 = true then (none) else (if t179 = 2 then (if t182 = true then ((chart_Sign.f k 1).bind fun t214 => (if t214 = 1 then ((chart_Sign.f k 4).bind fun t215 => (if t215 = (-1) then ((chart_Check.f k ([] : List (S62)) 0 0 0 0 0 0 0 0 0 0 0 0 0 0).bind fun t216 => (some (t216 == 5))) else (none))) else (none))) else (none)) else (none)))) else (none))) else (none)) = some r := H
    have A12 := Aside0.mk A120
    clear A120
    by_cases c13 : t211 = true
    ·subst c13
     have H1 : ((chart_Under.f k y175 5 2).bind fun t212 => (if t212 = true then ((chart_Under.f k y175 5 3).bind fun t213 => (if t213 = true then (none) else (if t179 = 2 then (if t182 = true then ((chart_Sign.f k 1).bind fun t214 => (if t214 = 1 then ((chart_Sign.f k 4).bind fun t215 => (if t215 = (-1) then ((chart_Check.f k ([] : List (S62)) 0 0 0 0 0 0 0 0 0 0 0 0 0 0).bind fun t216 => (some (t216 == 5))) else (none))) else (none))) else (none)) else (none)))) else (none))) = some r := by rw [if_pos rfl] at H; exact H
     clear H
     have H := H1
     clear H1
     replace H := Option.bind_eq_some_iff.mp H
     obtain ⟨t212, A140, H⟩ := H
     replace H : (if t212 = true then ((chart_Under.f k y175 5 3).bind fun t213 => (if t213 = true then (none) else (if t179 = 2 then (if t182 = true then ((chart_Sign.f k 1).bind fun t214 => (if t214 = 1 then ((chart_Sign.f k 4).bind fun t215 => (if t215 = (-1) then ((chart_Check.f k ([] : List (S62)) 0 0 0 0 0 0 0 0 0 0 0 0 0 0).bind fun t216 => (some (t216 == 5))) else (none))) else (none))) else (none)) else (none)))) else (none)) = some r := H
     have A14 := Aside0.mk A140
     clear A140
     by_cases c15 : t212 = true
     ·subst c15
      have H1 : ((chart_Under.f k y175 5 3).bind fun t213 => (if t213 = true then (none) else (if t179 = 2 then (if t182 = true then ((chart_Sign.f k 1).bind fun t214 => (if t214 = 1 then ((chart_Sign.f k 4).bind fun t215 => (if t215 = (-1) then ((chart_Check.f k ([] : List (S62)) 0 0 0 0 0 0 0 0 0 0 0 0 0 0).bind fun t216 => (some (t216 == 5))) else (none))) else (none))) else (none)) else (none)))) = some r := by rw [if_pos rfl] at H; exact H
      clear H
      have H := H1
      clear H1
      replace H := Option.bind_eq_some_iff.mp H
      obtain ⟨t213, A160, H⟩ := H
      replace H : (if t213 = true then (none) else (if t179 = 2 then (if t182 = true then ((chart_Sign.f k 1).bind fun t214 => (if t214 = 1 then ((chart_Sign.f k 4).bind fun t215 => (if t215 = (-1) then ((chart_Check.f k ([] : List (S62)) 0 0 0 0 0 0 0 0 0 0 0 0 0 0).bind fun t216 => (some (t216 == 5))) else (none))) else (none))) else (none)) else (none))) = some r := H
      have A16 := Aside0.mk A160
      clear A160
      by_cases c17 : t213 = true
      ·subst c17
       have H1 : (none) = some r := by rw [if_pos rfl] at H; exact H
       clear H
       have H := H1
       clear H1
       exact absurd H (by simp)
      ·replace c17 := Bool.eq_false_iff.mpr c17
       subst c17
       have H1 : (if t179 = 2 then (if t182 = true then ((chart_Sign.f k 1).bind fun t214 => (if t214 = 1 then ((chart_Sign.f k 4).bind fun t215 => (if t215 = (-1) then ((chart_Check.f k ([] : List (S62)) 0 0 0 0 0 0 0 0 0 0 0 0 0 0).bind fun t216 => (some (t216 == 5))) else (none))) else (none))) else (none)) else (none)) = some r := by rw [if_neg (show ¬ (false = true) by decide)] at H; exact H
       clear H
       have H := H1
       clear H1
       by_cases c18 : t179 = 2
       ·rw [if_pos c18] at H
        have c18b0 : (t179 == 2) = true := beq_iff_eq.mpr c18
        have c18b1 : (t179 != 2) = false := bne_eq_false_iff_eq.mpr c18
        clear c18
        by_cases c19 : t182 = true
        ·subst c19
         have H1 : ((chart_Sign.f k 1).bind fun t214 => (if t214 = 1 then ((chart_Sign.f k 4).bind fun t215 => (if t215 = (-1) then ((chart_Check.f k ([] : List (S62)) 0 0 0 0 0 0 0 0 0 0 0 0 0 0).bind fun t216 => (some (t216 == 5))) else (none))) else (none))) = some r := by rw [if_pos rfl] at H; exact H
         clear H
         have H := H1
         clear H1
         replace H := Option.bind_eq_some_iff.mp H
         obtain ⟨t214, A200, H⟩ := H
         replace H : (if t214 = 1 then ((chart_Sign.f k 4).bind fun t215 => (if t215 = (-1) then ((chart_Check.f k ([] : List (S62)) 0 0 0 0 0 0 0 0 0 0 0 0 0 0).bind fun t216 => (some (t216 == 5))) else (none))) else (none)) = some r := H
         have A20 := Aside0.mk A200
         clear A200
         by_cases c21 : t214 = 1
         ·rw [if_pos c21] at H
          have c21b0 : (t214 == 1) = true := beq_iff_eq.mpr c21
          have c21b1 : (t214 != 1) = false := bne_eq_false_iff_eq.mpr c21
          clear c21
          replace H := Option.bind_eq_some_iff.mp H
          obtain ⟨t215, A220, H⟩ := H
          replace H : (if t215 = (-1) then ((chart_Check.f k ([] : List (S62)) 0 0 0 0 0 0 0 0 0 0 0 0 0 0).bind fun t216 => (some (t216 == 5))) else (none)) = some r := H
          have A22 := Aside0.mk A220
          clear A220
          by_cases c23 : t215 = (-1)
          ·rw [if_pos c23] at H
           have c23b0 : (t215 == (-1)) = true := beq_iff_eq.mpr c23
           have c23b1 : (t215 != (-1)) = false := bne_eq_false_iff_eq.mpr c23
           clear c23
           replace H := Option.bind_eq_some_iff.mp H
           obtain ⟨t216, A240, H⟩ := H
           replace H : (some (t216 == 5)) = some r := H
           have A24 := Aside0.mk A240
           clear A240
           obtain rfl := Option.some.inj H
           go_enter Try.func29, Try.ntmps29
           go_wp2_with (first | ((with_reducible refine gate_dst (N := 9) rfl ?_); (try (refine gate_guard (by rfl) ?_; dsimp only)); refine Kd.R_lit k62 _ 62 ?hg (N := 9) ?hd (xs := ([(⟨1, 0, 0, (⟨#[]⟩ : ByteArray)⟩ : S62), (⟨2, 1, 0, (⟨#[]⟩ : ByteArray)⟩ : S62), (⟨3, 1, 0, (⟨#[]⟩ : ByteArray)⟩ : S62), (⟨4, 0, 0, (⟨#[]⟩ : ByteArray)⟩ : S62), (⟨5, 2, 0, (⟨#[]⟩ : ByteArray)⟩ : S62)] : List (S62))) (inner := [.int .i64 1, .int .i64 0, .int .i64 0, .string (⟨#[]⟩ : ByteArray), .int .i64 2, .int .i64 1, .int .i64 0, .string (⟨#[]⟩ : ByteArray), .int .i64 3, .int .i64 1, .int .i64 0, .string (⟨#[]⟩ : ByteArray), .int .i64 4, .int .i64 0, .int .i64 0, .string (⟨#[]⟩ : ByteArray), .int .i64 5, .int .i64 2, .int .i64 0, .string (⟨#[]⟩ : ByteArray)]) (ok := fun _ => True) (okp := fun _ => True) ?hr ?hp (fun _ hk => hk) trivial (Below.refl _ _) (Nat.le_refl _) (by simp) ?_; (case hd => rfl); (case hg => rfl); (case hr => first | (go_simp; done) | (go_simp; rfl)); (case hp => exact (Reps.c4 (show Kd.M k62 _ _ _ (⟨1, 0, 0, (⟨#[]⟩ : ByteArray)⟩ : S62) [.int .i64 1, .int .i64 0, .int .i64 0, .string (⟨#[]⟩ : ByteArray)] from (k62_mkM _ _ _ (⟨1, 0, 0, (⟨#[]⟩ : ByteArray)⟩ : S62) )) (Reps.c4 (show Kd.M k62 _ _ _ (⟨2, 1, 0, (⟨#[]⟩ : ByteArray)⟩ : S62) [.int .i64 2, .int .i64 1, .int .i64 0, .string (⟨#[]⟩ : ByteArray)] from (k62_mkM _ _ _ (⟨2, 1, 0, (⟨#[]⟩ : ByteArray)⟩ : S62) )) (Reps.c4 (show Kd.M k62 _ _ _ (⟨3, 1, 0, (⟨#[]⟩ : ByteArray)⟩ : S62) [.int .i64 3, .int .i64 1, .int .i64 0, .string (⟨#[]⟩ : ByteArray)] from (k62_mkM _ _ _ (⟨3, 1, 0, (⟨#[]⟩ : ByteArray)⟩ : S62) )) (Reps.c4 (show Kd.M k62 _ _ _ (⟨4, 0, 0, (⟨#[]⟩ : ByteArray)⟩ : S62) [.int .i64 4, .int .i64 0, .int .i64 0, .string (⟨#[]⟩ : ByteArray)] from (k62_mkM _ _ _ (⟨4, 0, 0, (⟨#[]⟩ : ByteArray)⟩ : S62) )) (Reps.c4 (show Kd.M k62 _ _ _ (⟨5, 2, 0, (⟨#[]⟩ : ByteArray)⟩ : S62) [.int .i64 5, .int .i64 2, .int .i64 0, .string (⟨#[]⟩ : ByteArray)] from (k62_mkM _ _ _ (⟨5, 2, 0, (⟨#[]⟩ : ByteArray)⟩ : S62) )) (Reps.none _ _))))))); intro v176 w25 ho26 hb hg_ hnew_; clear hg_ hnew_; (first | rw [← Ny175.out] at ho26 | (simp only [Int.reduceToNat] at ho26; rw [← Ny175.out] at ho26)); have n0_ := Aside0.mk (Kd.R_lower ho26 (below_size (by repeat (first | (with_reducible first | exact HB.out | apply below_alloc | apply pw_below_drewN | apply below_drew1) | exact HB.out)))); have n1_ := Aside0.mk (below_step (by repeat (first | (with_reducible first | exact HB.out | apply below_alloc | apply pw_below_drewN | apply below_drew1) | exact HB.out)) hb); clear HB; have HO177 := n0_; have HB := n1_; clear n0_ n1_; clear hb ho26; obtain ⟨Ao27, co27, eo27⟩ := Kd.R_slice HO177.out; subst eo27) | ((with_reducible refine gate_callee (f := 32) rfl ?_); refine goesL_ (some 12) rfl rfl Try.func32 (by kernel_rfl) rfl #[.slice Ao27 y175.length co27, .int .i64 5] rfl (by (try simp only [List.map_toArray, List.map_cons, List.map_nil]); first | done | rfl | (simp only [List.length_drop, List.length_take]; rfl)) ?_; (with_reducible refine (chart_Find.calls k _ _ y175 5 t178 t179 t180 t181 true _ ?side1 ?side2 A1.out).mono ?_); (case side1 => repeat (first | exact (Kd.R_reads' HO177.out).2.2 | (with_reducible refine Kd.C_alloc ?_ _) | (with_reducible refine Kd.C_drewN ?_ _) | (with_reducible refine Kd.C_drew ?_))); (case side2 => exact (Kd.R_reads' HO177.out).2.1); rintro e w28 ⟨rfl, hb⟩; refine ⟨_, rfl, ?_⟩; have n0_ := Aside0.mk (Kd.R_below (by (with_reducible repeat (first | apply Kd.R_alloc | apply Kd.R_drewN | apply Kd.R_drew)); exact HO177.out) hb); have n1_ := Aside0.mk (below_step (by repeat (first | (with_reducible first | exact HB.out | apply below_alloc | apply pw_below_drewN | apply below_drew1) | exact HB.out)) hb); clear HO177; clear HB; have HO177 := n0_; have HB := n1_; clear n0_ n1_; (try clear hb); (try clear hb2); (try clear hk); (try clear hi)) | ((with_reducible refine gate_dst (N := 2) rfl ?_); (try (refine gate_guard (by rfl) ?_; dsimp only)); refine box_event ?hg (N := 2) ?hd (cs := #[.int .i64 0, .int .i64 0, .int .i64 0, .string (⟨#[]⟩ : ByteArray)]) (t := 62) ?hr ?_; (case hd => rfl); (case hg => rfl); (case hr => first | (go_simp; done) | (go_simp; rfl)); intro gb183 hg w29 hbox hb; have n0_ := Aside0.mk (Kd.R_below (Kd.R_elderB (by (with_reducible repeat (first | apply Kd.R_alloc | apply Kd.R_drewN | apply Kd.R_drew)); exact HO177.out) gb183 (Nat.le_of_eq hg.symm)) hb); have n1_ := Aside0.mk (below_step (by repeat (first | (with_reducible first | exact HB.out | apply below_alloc | apply pw_below_drewN | apply below_drew1) | exact HB.out)) hb); have n2_ := Aside0.mk (hbox); have n3_ := Aside0.mk ((by rw [hg]; exact (below_size (by repeat (first | (with_reducible first | exact HB.out | apply below_alloc | apply pw_below_drewN | apply below_drew1) | exact HB.out))) : w.heap.size ≤ gb183)); have n4_ := Aside0.mk ((by rw [hg]; exact (below_size (by repeat (first | (with_reducible first | exact HB.out | apply below_alloc | apply pw_below_drewN | apply below_drew1) | exact HB.out))) : w.heap.size ≤ gb183)); clear HO177; clear HB; have HO177 := n0_; have HB := n1_; have BK183 := n2_; have GW183 := n3_; have GE183 := n4_; clear n0_ n1_ n2_ n3_ n4_; clear hb hbox hg; have hcz30_0 : w29.cell? ⟨gb183, 0, none⟩ = some (.int .i64 0) := (blk_cell BK183.out 0).trans rfl; have hcz30_1 : w29.cell? ⟨gb183, 1, none⟩ = some (.int .i64 0) := (blk_cell BK183.out 1).trans rfl; have hcz30_2 : w29.cell? ⟨gb183, 2, none⟩ = some (.int .i64 0) := (blk_cell BK183.out 2).trans rfl; have hcz30_3 : w29.cell? ⟨gb183, 3, none⟩ = some (.string (⟨#[]⟩ : ByteArray)) := (blk_cell BK183.out 3).trans rfl; have hfz30_0 := blk_frozen BK183.out 0; have hfz30_1 := blk_frozen BK183.out 1; have hfz30_2 := blk_frozen BK183.out 2; have hfz30_3 := blk_frozen BK183.out 3) | ((with_reducible refine gate_callee (f := 35) rfl ?_); refine goesL_ (some 16) rfl rfl Try.func35 (by kernel_rfl) rfl #[.slice Ao27 y175.length co27, .int .i64 5] rfl (by (try simp only [List.map_toArray, List.map_cons, List.map_nil]); first | done | rfl | (simp only [List.length_drop, List.length_take]; rfl)) ?_; (with_reducible refine (chart_Path.calls k _ _ y175 5 t184 _ ?side1 ?side2 A2.out).mono ?_); (case side1 => refine (Kd.R_reads' (e := 62) (base := w.heap.size) (ok := fun k_ => (True ∧ k_ ≠ gb183)) (n := y175.length) (c := co27) ?_).2.2; exact (by (with_reducible repeat (first | apply Kd.R_alloc | apply Kd.R_drewN | apply Kd.R_drew)); exact (Kd.R_mono (Kd.R_far (p := ⟨gb183, 3, none⟩) (Kd.R_far (p := ⟨gb183, 2, none⟩) (Kd.R_far (p := ⟨gb183, 1, none⟩) (Kd.R_far (p := ⟨gb183, 0, none⟩) (Kd.R_mono HO177.out (fun k_ hk => (⟨hk, hk.2⟩ : _ ∧ k_ ≠ gb183))) (fun _ hk => hk.2) (.int .i64 t178)) (fun _ hk => hk.2) (.int .i64 t179)) (fun _ hk => hk.2) (.int .i64 t180)) (fun _ hk => hk.2) (.string t181)) (fun _ h_ => h_.1)))); (case side2 => exact (Kd.R_reads' HO177.out).2.1); rintro e w31 ⟨v185, rfl, ho0, hb⟩; refine ⟨_, rfl, ?_⟩; have n0_ := Aside0.mk (Kd.R_below (by (with_reducible repeat (first | apply Kd.R_alloc | apply Kd.R_drewN | apply Kd.R_drew)); exact (Kd.R_mono (Kd.R_far (p := ⟨gb183, 3, none⟩) (Kd.R_far (p := ⟨gb183, 2, none⟩) (Kd.R_far (p := ⟨gb183, 1, none⟩) (Kd.R_far (p := ⟨gb183, 0, none⟩) (Kd.R_mono HO177.out (fun k_ hk => (⟨hk, hk.2⟩ : _ ∧ k_ ≠ gb183))) (fun _ hk => hk.2) (.int .i64 t178)) (fun _ hk => hk.2) (.int .i64 t179)) (fun _ hk => hk.2) (.int .i64 t180)) (fun _ hk => hk.2) (.string t181)) (fun _ h_ => h_.1))) hb); have n1_ := Aside0.mk (Kd.R_lower ho0 (below_size (by repeat (first | (with_reducible first | exact HB.out | apply below_alloc | apply pw_below_drewN | apply below_drew1 | refine below_set ?_ GE183.out) | exact HB.out)))); have n2_ := Aside0.mk (blk_below (g := gb183) (o := .cells #[.int .i64 t178, .int .i64 t179, .int .i64 t180, .string t181] 62 (0, 0)) (by (with_reducible repeat (first | refine blk_drewN ?_ _ | refine blk_drew ?_ | refine blk_alloc ?_ _)); refine blk_put (cs := #[.int .i64 t178, .int .i64 t179, .int .i64 t180, .string (⟨#[]⟩ : ByteArray)]) ?_ 3 _ rfl; (with_reducible repeat (first | refine blk_drewN ?_ _ | refine blk_drew ?_ | refine blk_alloc ?_ _)); refine blk_put (cs := #[.int .i64 t178, .int .i64 t179, .int .i64 0, .string (⟨#[]⟩ : ByteArray)]) ?_ 2 _ rfl; (with_reducible repeat (first | refine blk_drewN ?_ _ | refine blk_drew ?_ | refine blk_alloc ?_ _)); refine blk_put (cs := #[.int .i64 t178, .int .i64 0, .int .i64 0, .string (⟨#[]⟩ : ByteArray)]) ?_ 1 _ rfl; (with_reducible repeat (first | refine blk_drewN ?_ _ | refine blk_drew ?_ | refine blk_alloc ?_ _)); refine blk_put (cs := #[.int .i64 0, .int .i64 0, .int .i64 0, .string (⟨#[]⟩ : ByteArray)]) ?_ 0 _ rfl; (with_reducible repeat (first | refine blk_drewN ?_ _ | refine blk_drew ?_ | refine blk_alloc ?_ _)); exact BK183.out) hb); have n3_ := Aside0.mk (below_step (by repeat (first | (with_reducible first | exact HB.out | apply below_alloc | apply pw_below_drewN | apply below_drew1 | refine below_set ?_ GE183.out) | exact HB.out)) hb); clear HO177; clear BK183; clear HB; have HO177 := n0_; have HO186 := n1_; have BK183 := n2_; have HB := n3_; clear n0_ n1_ n2_ n3_; (try clear hb); (try clear hb2); (try clear hk); (try clear hi); (try clear ho0)) | ((with_reducible refine gate_dst (N := 17) rfl ?_); (try (refine gate_guard (by rfl) ?_; dsimp only)); refine Kd.R_lit (Kd.int .i64) _ 3 ?hg (N := 17) ?hd (xs := ([1, 2, 5] : List Int)) (inner := [.int .i64 1, .int .i64 2, .int .i64 5]) (ok := fun _ => True) (okp := fun _ => True) ?hr ?hp (fun _ hk => hk) trivial (Below.refl _ _) (Nat.le_refl _) (by simp) ?_; (case hd => rfl); (case hg => rfl); (case hr => first | (go_simp; done) | (go_simp; rfl)); (case hp => exact (Reps.one (show Kd.M (Kd.int .i64) _ _ _ 1 [.int .i64 1] from rfl) (Reps.one (show Kd.M (Kd.int .i64) _ _ _ 2 [.int .i64 2] from rfl) (Reps.one (show Kd.M (Kd.int .i64) _ _ _ 5 [.int .i64 5] from rfl) (Reps.none _ _))))); intro v188 w32 ho33 hb hg_ hnew_; clear hg_ hnew_; (first | rw [← Ny187.out] at ho33 | (simp only [Int.reduceToNat] at ho33; rw [← Ny187.out] at ho33)); have n0_ := Aside0.mk (Kd.R_below (by (with_reducible repeat (first | apply Kd.R_alloc | apply Kd.R_drewN | apply Kd.R_drew)); exact HO177.out) hb); have n1_ := Aside0.mk (Kd.R_elder' (by (with_reducible repeat (first | apply Kd.R_alloc | apply Kd.R_drewN | apply Kd.R_drew)); exact HO186.out) (Kd.R_base ho33) hb); have n2_ := Aside0.mk (Kd.R_lower (Kd.R_new' ho33 (Kd.R_lt (by (with_reducible repeat (first | apply Kd.R_alloc | apply Kd.R_drewN | apply Kd.R_drew)); exact HO186.out))) (below_size (by repeat (first | (with_reducible first | exact HB.out | apply below_alloc | apply pw_below_drewN | apply below_drew1 | refine below_set ?_ GE183.out) | exact HB.out)))); have n3_ := Aside0.mk (blk_below (g := gb183) (o := .cells #[.int .i64 t178, .int .i64 t179, .int .i64 t180, .string t181] 62 (0, 0)) (by (with_reducible repeat (first | refine blk_drewN ?_ _ | refine blk_drew ?_ | refine blk_alloc ?_ _)); exact BK183.out) hb); have n4_ := Aside0.mk (below_step (by repeat (first | (with_reducible first | exact HB.out | apply below_alloc | apply pw_below_drewN | apply below_drew1 | refine below_set ?_ GE183.out) | exact HB.out)) hb); clear HO177; clear HO186; clear BK183; clear HB; have HO177 := n0_; have HO186 := n1_; have HO189 := n2_; have BK183 := n3_; have HB := n4_; clear n0_ n1_ n2_ n3_ n4_; clear hb ho33; obtain ⟨Ao34, co34, eo34⟩ := Kd.R_slice HO186.out; subst eo34; obtain ⟨Ao35, co35, eo35⟩ := Kd.R_slice HO189.out; subst eo35) | ((with_reducible refine gate_callee (f := 34) rfl ?_); refine goesL_ (some 18) rfl rfl Try.func34 (by kernel_rfl) rfl #[.slice Ao34 t184.length co34, .slice Ao35 y187.length co35] rfl (by (try simp only [List.map_toArray, List.map_cons, List.map_nil]); first | done | rfl | (simp only [List.length_drop, List.length_take]; rfl)) ?_; (with_reducible refine (corebankref18_Same.calls k _ _ t184 _ _ y187 true _ ?side1 ?side2 ?side3 ?side4 A3.out).mono ?_); (case side1 => repeat (first | exact (Kd.R_reads' HO186.out).2.2 | (with_reducible refine Kd.C_alloc ?_ _) | (with_reducible refine Kd.C_drewN ?_ _) | (with_reducible refine Kd.C_drew ?_))); (case side2 => exact (Kd.R_reads' HO186.out).2.1); (case side3 => repeat (first | exact (Kd.R_reads' HO189.out).2.2 | (with_reducible refine Kd.C_alloc ?_ _) | (with_reducible refine Kd.C_drewN ?_ _) | (with_reducible refine Kd.C_drew ?_))); (case side4 => exact (Kd.R_reads' HO189.out).2.1); rintro e w' ⟨rfl, ⟨nd, rfl⟩⟩; refine ⟨_, rfl, ?_⟩) | (go_at_call 39; (with_reducible refine (chart_Leaves.calls k _ _ y175 1 t191 _ ?side1 ?side2 A5.out).mono ?_); (case side1 => repeat (first | exact (Kd.R_reads' HO177.out).2.2 | (with_reducible refine Kd.C_alloc ?_ _) | (with_reducible refine Kd.C_drewN ?_ _) | (with_reducible refine Kd.C_drew ?_))); (case side2 => exact (Kd.R_reads' HO177.out).2.1); rintro e w36 ⟨v192, rfl, ho0, hb⟩; have n0_ := Aside0.mk (Kd.R_below (by (with_reducible repeat (first | apply Kd.R_alloc | apply Kd.R_drewN | apply Kd.R_drew)); exact HO177.out) hb); have n1_ := Aside0.mk (Kd.R_elder' (by (with_reducible repeat (first | apply Kd.R_alloc | apply Kd.R_drewN | apply Kd.R_drew)); exact HO186.out) (Kd.R_base ho0) hb); have n2_ := Aside0.mk (Kd.R_elder' (by (with_reducible repeat (first | apply Kd.R_alloc | apply Kd.R_drewN | apply Kd.R_drew)); exact HO189.out) (Kd.R_base ho0) hb); have n3_ := Aside0.mk (Kd.R_lower (Kd.R_new' (Kd.R_new' ho0 (Kd.R_lt (by (with_reducible repeat (first | apply Kd.R_alloc | apply Kd.R_drewN | apply Kd.R_drew)); exact HO186.out))) (Kd.R_lt (by (with_reducible repeat (first | apply Kd.R_alloc | apply Kd.R_drewN | apply Kd.R_drew)); exact HO189.out))) (below_size (by repeat (first | (with_reducible first | exact HB.out | apply below_alloc | apply pw_below_drewN | apply below_drew1 | refine below_set ?_ GE183.out) | exact HB.out)))); have n4_ := Aside0.mk (blk_below (g := gb183) (o := .cells #[.int .i64 t178, .int .i64 t179, .int .i64 t180, .string t181] 62 (0, 0)) (by (with_reducible repeat (first | refine blk_drewN ?_ _ | refine blk_drew ?_ | refine blk_alloc ?_ _)); exact BK183.out) hb); have n5_ := Aside0.mk (below_step (by repeat (first | (with_reducible first | exact HB.out | apply below_alloc | apply pw_below_drewN | apply below_drew1 | refine below_set ?_ GE183.out) | exact HB.out)) hb); clear HO177; clear HO186; clear HO189; clear BK183; clear HB; have HO177 := n0_; have HO186 := n1_; have HO189 := n2_; have HO193 := n3_; have BK183 := n4_; have HB := n5_; clear n0_ n1_ n2_ n3_ n4_ n5_; (try clear hb); (try clear hb2); (try clear hk); (try clear hi); (try clear ho0)) | ((with_reducible refine gate_dst (N := 22) rfl ?_); (try (refine gate_guard (by rfl) ?_; dsimp only)); refine Kd.R_lit (Kd.int .i64) _ 3 ?hg (N := 22) ?hd (xs := ([3, 5] : List Int)) (inner := [.int .i64 3, .int .i64 5]) (ok := fun _ => True) (okp := fun _ => True) ?hr ?hp (fun _ hk => hk) trivial (Below.refl _ _) (Nat.le_refl _) (by simp) ?_; (case hd => rfl); (case hg => rfl); (case hr => first | (go_simp; done) | (go_simp; rfl)); (case hp => exact (Reps.one (show Kd.M (Kd.int .i64) _ _ _ 3 [.int .i64 3] from rfl) (Reps.one (show Kd.M (Kd.int .i64) _ _ _ 5 [.int .i64 5] from rfl) (Reps.none _ _)))); intro v195 w37 ho38 hb hg_ hnew_; clear hg_ hnew_; (first | rw [← Ny194.out] at ho38 | (simp only [Int.reduceToNat] at ho38; rw [← Ny194.out] at ho38)); have n0_ := Aside0.mk (Kd.R_below (by (with_reducible repeat (first | apply Kd.R_alloc | apply Kd.R_drewN | apply Kd.R_drew)); exact HO177.out) hb); have n1_ := Aside0.mk (Kd.R_elder' (by (with_reducible repeat (first | apply Kd.R_alloc | apply Kd.R_drewN | apply Kd.R_drew)); exact HO186.out) (Kd.R_base ho38) hb); have n2_ := Aside0.mk (Kd.R_elder' (by (with_reducible repeat (first | apply Kd.R_alloc | apply Kd.R_drewN | apply Kd.R_drew)); exact HO189.out) (Kd.R_base ho38) hb); have n3_ := Aside0.mk (Kd.R_elder' (by (with_reducible repeat (first | apply Kd.R_alloc | apply Kd.R_drewN | apply Kd.R_drew)); exact HO193.out) (Kd.R_base ho38) hb); have n4_ := Aside0.mk (Kd.R_lower (Kd.R_new' (Kd.R_new' (Kd.R_new' ho38 (Kd.R_lt (by (with_reducible repeat (first | apply Kd.R_alloc | apply Kd.R_drewN | apply Kd.R_drew)); exact HO186.out))) (Kd.R_lt (by (with_reducible repeat (first | apply Kd.R_alloc | apply Kd.R_drewN | apply Kd.R_drew)); exact HO189.out))) (Kd.R_lt (by (with_reducible repeat (first | apply Kd.R_alloc | apply Kd.R_drewN | apply Kd.R_drew)); exact HO193.out))) (below_size (by repeat (first | (with_reducible first | exact HB.out | apply below_alloc | apply pw_below_drewN | apply below_drew1 | refine below_set ?_ GE183.out) | exact HB.out)))); have n5_ := Aside0.mk (blk_below (g := gb183) (o := .cells #[.int .i64 t178, .int .i64 t179, .int .i64 t180, .string t181] 62 (0, 0)) (by (with_reducible repeat (first | refine blk_drewN ?_ _ | refine blk_drew ?_ | refine blk_alloc ?_ _)); exact BK183.out) hb); have n6_ := Aside0.mk (below_step (by repeat (first | (with_reducible first | exact HB.out | apply below_alloc | apply pw_below_drewN | apply below_drew1 | refine below_set ?_ GE183.out) | exact HB.out)) hb); clear HO177; clear HO186; clear HO189; clear HO193; clear BK183; clear HB; have HO177 := n0_; have HO186 := n1_; have HO189 := n2_; have HO193 := n3_; have HO196 := n4_; have BK183 := n5_; have HB := n6_; clear n0_ n1_ n2_ n3_ n4_ n5_ n6_; clear hb ho38; obtain ⟨Ao39, co39, eo39⟩ := Kd.R_slice HO193.out; subst eo39; obtain ⟨Ao40, co40, eo40⟩ := Kd.R_slice HO196.out; subst eo40) | (go_at_call 34; (with_reducible refine (corebankref18_Same.calls k _ _ t191 _ _ y194 true _ ?side1 ?side2 ?side3 ?side4 A6.out).mono ?_); (case side1 => repeat (first | exact (Kd.R_reads' HO193.out).2.2 | (with_reducible refine Kd.C_alloc ?_ _) | (with_reducible refine Kd.C_drewN ?_ _) | (with_reducible refine Kd.C_drew ?_))); (case side2 => exact (Kd.R_reads' HO193.out).2.1); (case side3 => repeat (first | exact (Kd.R_reads' HO196.out).2.2 | (with_reducible refine Kd.C_alloc ?_ _) | (with_reducible refine Kd.C_drewN ?_ _) | (with_reducible refine Kd.C_drew ?_))); (case side4 => exact (Kd.R_reads' HO196.out).2.1); rintro e w' ⟨rfl, ⟨nd, rfl⟩⟩) | (go_at_call 39; (with_reducible refine (chart_Leaves.calls k _ _ y175 4 t198 _ ?side1 ?side2 A8.out).mono ?_); (case side1 => repeat (first | exact (Kd.R_reads' HO177.out).2.2 | (with_reducible refine Kd.C_alloc ?_ _) | (with_reducible refine Kd.C_drewN ?_ _) | (with_reducible refine Kd.C_drew ?_))); (case side2 => exact (Kd.R_reads' HO177.out).2.1); rintro e w41 ⟨v199, rfl, ho0, hb⟩; have n0_ := Aside0.mk (Kd.R_below (by (with_reducible repeat (first | apply Kd.R_alloc | apply Kd.R_drewN | apply Kd.R_drew)); exact HO177.out) hb); have n1_ := Aside0.mk (Kd.R_elder' (by (with_reducible repeat (first | apply Kd.R_alloc | apply Kd.R_drewN | apply Kd.R_drew)); exact HO186.out) (Kd.R_base ho0) hb); have n2_ := Aside0.mk (Kd.R_elder' (by (with_reducible repeat (first | apply Kd.R_alloc | apply Kd.R_drewN | apply Kd.R_drew)); exact HO189.out) (Kd.R_base ho0) hb); have n3_ := Aside0.mk (Kd.R_elder' (by (with_reducible repeat (first | apply Kd.R_alloc | apply Kd.R_drewN | apply Kd.R_drew)); exact HO193.out) (Kd.R_base ho0) hb); have n4_ := Aside0.mk (Kd.R_elder' (by (with_reducible repeat (first | apply Kd.R_alloc | apply Kd.R_drewN | apply Kd.R_drew)); exact HO196.out) (Kd.R_base ho0) hb); have n5_ := Aside0.mk (Kd.R_lower (Kd.R_new' (Kd.R_new' (Kd.R_new' (Kd.R_new' ho0 (Kd.R_lt (by (with_reducible repeat (first | apply Kd.R_alloc | apply Kd.R_drewN | apply Kd.R_drew)); exact HO186.out))) (Kd.R_lt (by (with_reducible repeat (first | apply Kd.R_alloc | apply Kd.R_drewN | apply Kd.R_drew)); exact HO189.out))) (Kd.R_lt (by (with_reducible repeat (first | apply Kd.R_alloc | apply Kd.R_drewN | apply Kd.R_drew)); exact HO193.out))) (Kd.R_lt (by (with_reducible repeat (first | apply Kd.R_alloc | apply Kd.R_drewN | apply Kd.R_drew)); exact HO196.out))) (below_size (by repeat (first | (with_reducible first | exact HB.out | apply below_alloc | apply pw_below_drewN | apply below_drew1 | refine below_set ?_ GE183.out) | exact HB.out)))); have n6_ := Aside0.mk (blk_below (g := gb183) (o := .cells #[.int .i64 t178, .int .i64 t179, .int .i64 t180, .string t181] 62 (0, 0)) (by (with_reducible repeat (first | refine blk_drewN ?_ _ | refine blk_drew ?_ | refine blk_alloc ?_ _)); exact BK183.out) hb); have n7_ := Aside0.mk (below_step (by repeat (first | (with_reducible first | exact HB.out | apply below_alloc | apply pw_below_drewN | apply below_drew1 | refine below_set ?_ GE183.out) | exact HB.out)) hb); clear HO177; clear HO186; clear HO189; clear HO193; clear HO196; clear BK183; clear HB; have HO177 := n0_; have HO186 := n1_; have HO189 := n2_; have HO193 := n3_; have HO196 := n4_; have HO200 := n5_; have BK183 := n6_; have HB := n7_; clear n0_ n1_ n2_ n3_ n4_ n5_ n6_ n7_; (try clear hb); (try clear hb2); (try clear hk); (try clear hi); (try clear ho0)) | ((with_reducible refine gate_dst (N := 28) rfl ?_); (try (refine gate_guard (by rfl) ?_; dsimp only)); refine Kd.R_lit (Kd.int .i64) _ 3 ?hg (N := 28) ?hd (xs := ([4] : List Int)) (inner := [.int .i64 4]) (ok := fun _ => True) (okp := fun _ => True) ?hr ?hp (fun _ hk => hk) trivial (Below.refl _ _) (Nat.le_refl _) (by simp) ?_; (case hd => rfl); (case hg => rfl); (case hr => first | (go_simp; done) | (go_simp; rfl)); (case hp => exact (Reps.one (show Kd.M (Kd.int .i64) _ _ _ 4 [.int .i64 4] from rfl) (Reps.none _ _))); intro v202 w42 ho43 hb hg_ hnew_; clear hg_ hnew_; (first | rw [← Ny201.out] at ho43 | (simp only [Int.reduceToNat] at ho43; rw [← Ny201.out] at ho43)); have n0_ := Aside0.mk (Kd.R_below (by (with_reducible repeat (first | apply Kd.R_alloc | apply Kd.R_drewN | apply Kd.R_drew)); exact HO177.out) hb); have n1_ := Aside0.mk (Kd.R_elder' (by (with_reducible repeat (first | apply Kd.R_alloc | apply Kd.R_drewN | apply Kd.R_drew)); exact HO186.out) (Kd.R_base ho43) hb); have n2_ := Aside0.mk (Kd.R_elder' (by (with_reducible repeat (first | apply Kd.R_alloc | apply Kd.R_drewN | apply Kd.R_drew)); exact HO189.out) (Kd.R_base ho43) hb); have n3_ := Aside0.mk (Kd.R_elder' (by (with_reducible repeat (first | apply Kd.R_alloc | apply Kd.R_drewN | apply Kd.R_drew)); exact HO193.out) (Kd.R_base ho43) hb); have n4_ := Aside0.mk (Kd.R_elder' (by (with_reducible repeat (first | apply Kd.R_alloc | apply Kd.R_drewN | apply Kd.R_drew)); exact HO196.out) (Kd.R_base ho43) hb); have n5_ := Aside0.mk (Kd.R_elder' (by (with_reducible repeat (first | apply Kd.R_alloc | apply Kd.R_drewN | apply Kd.R_drew)); exact HO200.out) (Kd.R_base ho43) hb); have n6_ := Aside0.mk (Kd.R_lower (Kd.R_new' (Kd.R_new' (Kd.R_new' (Kd.R_new' (Kd.R_new' ho43 (Kd.R_lt (by (with_reducible repeat (first | apply Kd.R_alloc | apply Kd.R_drewN | apply Kd.R_drew)); exact HO186.out))) (Kd.R_lt (by (with_reducible repeat (first | apply Kd.R_alloc | apply Kd.R_drewN | apply Kd.R_drew)); exact HO189.out))) (Kd.R_lt (by (with_reducible repeat (first | apply Kd.R_alloc | apply Kd.R_drewN | apply Kd.R_drew)); exact HO193.out))) (Kd.R_lt (by (with_reducible repeat (first | apply Kd.R_alloc | apply Kd.R_drewN | apply Kd.R_drew)); exact HO196.out))) (Kd.R_lt (by (with_reducible repeat (first | apply Kd.R_alloc | apply Kd.R_drewN | apply Kd.R_drew)); exact HO200.out))) (below_size (by repeat (first | (with_reducible first | exact HB.out | apply below_alloc | apply pw_below_drewN | apply below_drew1 | refine below_set ?_ GE183.out) | exact HB.out)))); have n7_ := Aside0.mk (blk_below (g := gb183) (o := .cells #[.int .i64 t178, .int .i64 t179, .int .i64 t180, .string t181] 62 (0, 0)) (by (with_reducible repeat (first | refine blk_drewN ?_ _ | refine blk_drew ?_ | refine blk_alloc ?_ _)); exact BK183.out) hb); have n8_ := Aside0.mk (below_step (by repeat (first | (with_reducible first | exact HB.out | apply below_alloc | apply pw_below_drewN | apply below_drew1 | refine below_set ?_ GE183.out) | exact HB.out)) hb); clear HO177; clear HO186; clear HO189; clear HO193; clear HO196; clear HO200; clear BK183; clear HB; have HO177 := n0_; have HO186 := n1_; have HO189 := n2_; have HO193 := n3_; have HO196 := n4_; have HO200 := n5_; have HO203 := n6_; have BK183 := n7_; have HB := n8_; clear n0_ n1_ n2_ n3_ n4_ n5_ n6_ n7_ n8_; clear hb ho43; obtain ⟨Ao44, co44, eo44⟩ := Kd.R_slice HO200.out; subst eo44; obtain ⟨Ao45, co45, eo45⟩ := Kd.R_slice HO203.out; subst eo45) | (go_at_call 34; (with_reducible refine (corebankref18_Same.calls k _ _ t198 _ _ y201 true _ ?side1 ?side2 ?side3 ?side4 A9.out).mono ?_); (case side1 => repeat (first | exact (Kd.R_reads' HO200.out).2.2 | (with_reducible refine Kd.C_alloc ?_ _) | (with_reducible refine Kd.C_drewN ?_ _) | (with_reducible refine Kd.C_drew ?_))); (case side2 => exact (Kd.R_reads' HO200.out).2.1); (case side3 => repeat (first | exact (Kd.R_reads' HO203.out).2.2 | (with_reducible refine Kd.C_alloc ?_ _) | (with_reducible refine Kd.C_drewN ?_ _) | (with_reducible refine Kd.C_drew ?_))); (case side4 => exact (Kd.R_reads' HO203.out).2.1); rintro e w' ⟨rfl, ⟨nd, rfl⟩⟩) | (go_at_call 41; (with_reducible refine (chart_Order.calls k _ _ y175 t205 _ ?side1 ?side2 A11.out).mono ?_); (case side1 => repeat (first | exact (Kd.R_reads' HO177.out).2.2 | (with_reducible refine Kd.C_alloc ?_ _) | (with_reducible refine Kd.C_drewN ?_ _) | (with_reducible refine Kd.C_drew ?_))); (case side2 => exact (Kd.R_reads' HO177.out).2.1); rintro e w46 ⟨v206, rfl, ho0, hb⟩; have n0_ := Aside0.mk (Kd.R_below (by (with_reducible repeat (first | apply Kd.R_alloc | apply Kd.R_drewN | apply Kd.R_drew)); exact HO177.out) hb); have n1_ := Aside0.mk (Kd.R_elder' (by (with_reducible repeat (first | apply Kd.R_alloc | apply Kd.R_drewN | apply Kd.R_drew)); exact HO186.out) (Kd.R_base ho0) hb); have n2_ := Aside0.mk (Kd.R_elder' (by (with_reducible repeat (first | apply Kd.R_alloc | apply Kd.R_drewN | apply Kd.R_drew)); exact HO189.out) (Kd.R_base ho0) hb); have n3_ := Aside0.mk (Kd.R_elder' (by (with_reducible repeat (first | apply Kd.R_alloc | apply Kd.R_drewN | apply Kd.R_drew)); exact HO193.out) (Kd.R_base ho0) hb); have n4_ := Aside0.mk (Kd.R_elder' (by (with_reducible repeat (first | apply Kd.R_alloc | apply Kd.R_drewN | apply Kd.R_drew)); exact HO196.out) (Kd.R_base ho0) hb); have n5_ := Aside0.mk (Kd.R_elder' (by (with_reducible repeat (first | apply Kd.R_alloc | apply Kd.R_drewN | apply Kd.R_drew)); exact HO200.out) (Kd.R_base ho0) hb); have n6_ := Aside0.mk (Kd.R_elder' (by (with_reducible repeat (first | apply Kd.R_alloc | apply Kd.R_drewN | apply Kd.R_drew)); exact HO203.out) (Kd.R_base ho0) hb); have n7_ := Aside0.mk (Kd.R_lower (Kd.R_new' (Kd.R_new' (Kd.R_new' (Kd.R_new' (Kd.R_new' (Kd.R_new' ho0 (Kd.R_lt (by (with_reducible repeat (first | apply Kd.R_alloc | apply Kd.R_drewN | apply Kd.R_drew)); exact HO186.out))) (Kd.R_lt (by (with_reducible repeat (first | apply Kd.R_alloc | apply Kd.R_drewN | apply Kd.R_drew)); exact HO189.out))) (Kd.R_lt (by (with_reducible repeat (first | apply Kd.R_alloc | apply Kd.R_drewN | apply Kd.R_drew)); exact HO193.out))) (Kd.R_lt (by (with_reducible repeat (first | apply Kd.R_alloc | apply Kd.R_drewN | apply Kd.R_drew)); exact HO196.out))) (Kd.R_lt (by (with_reducible repeat (first | apply Kd.R_alloc | apply Kd.R_drewN | apply Kd.R_drew)); exact HO200.out))) (Kd.R_lt (by (with_reducible repeat (first | apply Kd.R_alloc | apply Kd.R_drewN | apply Kd.R_drew)); exact HO203.out))) (below_size (by repeat (first | (with_reducible first | exact HB.out | apply below_alloc | apply pw_below_drewN | apply below_drew1 | refine below_set ?_ GE183.out) | exact HB.out)))); have n8_ := Aside0.mk (blk_below (g := gb183) (o := .cells #[.int .i64 t178, .int .i64 t179, .int .i64 t180, .string t181] 62 (0, 0)) (by (with_reducible repeat (first | refine blk_drewN ?_ _ | refine blk_drew ?_ | refine blk_alloc ?_ _)); exact BK183.out) hb); have n9_ := Aside0.mk (below_step (by repeat (first | (with_reducible first | exact HB.out | apply below_alloc | apply pw_below_drewN | apply below_drew1 | refine below_set ?_ GE183.out) | exact HB.out)) hb); clear HO177; clear HO186; clear HO189; clear HO193; clear HO196; clear HO200; clear HO203; clear BK183; clear HB; have HO177 := n0_; have HO186 := n1_; have HO189 := n2_; have HO193 := n3_; have HO196 := n4_; have HO200 := n5_; have HO203 := n6_; have HO207 := n7_; have BK183 := n8_; have HB := n9_; clear n0_ n1_ n2_ n3_ n4_ n5_ n6_ n7_ n8_ n9_; (try clear hb); (try clear hb2); (try clear hk); (try clear hi); (try clear ho0)) | ((with_reducible refine gate_dst (N := 34) rfl ?_); (try (refine gate_guard (by rfl) ?_; dsimp only)); refine Kd.R_lit (Kd.int .i64) _ 3 ?hg (N := 34) ?hd (xs := ([1, 2, 5, 3, 4] : List Int)) (inner := [.int .i64 1, .int .i64 2, .int .i64 5, .int .i64 3, .int .i64 4]) (ok := fun _ => True) (okp := fun _ => True) ?hr ?hp (fun _ hk => hk) trivial (Below.refl _ _) (Nat.le_refl _) (by simp) ?_; (case hd => rfl); (case hg => rfl); (case hr => first | (go_simp; done) | (go_simp; rfl)); (case hp => exact (Reps.one (show Kd.M (Kd.int .i64) _ _ _ 1 [.int .i64 1] from rfl) (Reps.one (show Kd.M (Kd.int .i64) _ _ _ 2 [.int .i64 2] from rfl) (Reps.one (show Kd.M (Kd.int .i64) _ _ _ 5 [.int .i64 5] from rfl) (Reps.one (show Kd.M (Kd.int .i64) _ _ _ 3 [.int .i64 3] from rfl) (Reps.one (show Kd.M (Kd.int .i64) _ _ _ 4 [.int .i64 4] from rfl) (Reps.none _ _))))))); intro v209 w47 ho48 hb hg_ hnew_; clear hg_ hnew_; (first | rw [← Ny208.out] at ho48 | (simp only [Int.reduceToNat] at ho48; rw [← Ny208.out] at ho48)); have n0_ := Aside0.mk (Kd.R_below (by (with_reducible repeat (first | apply Kd.R_alloc | apply Kd.R_drewN | apply Kd.R_drew)); exact HO177.out) hb); have n1_ := Aside0.mk (Kd.R_elder' (by (with_reducible repeat (first | apply Kd.R_alloc | apply Kd.R_drewN | apply Kd.R_drew)); exact HO186.out) (Kd.R_base ho48) hb); have n2_ := Aside0.mk (Kd.R_elder' (by (with_reducible repeat (first | apply Kd.R_alloc | apply Kd.R_drewN | apply Kd.R_drew)); exact HO189.out) (Kd.R_base ho48) hb); have n3_ := Aside0.mk (Kd.R_elder' (by (with_reducible repeat (first | apply Kd.R_alloc | apply Kd.R_drewN | apply Kd.R_drew)); exact HO193.out) (Kd.R_base ho48) hb); have n4_ := Aside0.mk (Kd.R_elder' (by (with_reducible repeat (first | apply Kd.R_alloc | apply Kd.R_drewN | apply Kd.R_drew)); exact HO196.out) (Kd.R_base ho48) hb); have n5_ := Aside0.mk (Kd.R_elder' (by (with_reducible repeat (first | apply Kd.R_alloc | apply Kd.R_drewN | apply Kd.R_drew)); exact HO200.out) (Kd.R_base ho48) hb); have n6_ := Aside0.mk (Kd.R_elder' (by (with_reducible repeat (first | apply Kd.R_alloc | apply Kd.R_drewN | apply Kd.R_drew)); exact HO203.out) (Kd.R_base ho48) hb); have n7_ := Aside0.mk (Kd.R_elder' (by (with_reducible repeat (first | apply Kd.R_alloc | apply Kd.R_drewN | apply Kd.R_drew)); exact HO207.out) (Kd.R_base ho48) hb); have n8_ := Aside0.mk (Kd.R_lower (Kd.R_new' (Kd.R_new' (Kd.R_new' (Kd.R_new' (Kd.R_new' (Kd.R_new' (Kd.R_new' ho48 (Kd.R_lt (by (with_reducible repeat (first | apply Kd.R_alloc | apply Kd.R_drewN | apply Kd.R_drew)); exact HO186.out))) (Kd.R_lt (by (with_reducible repeat (first | apply Kd.R_alloc | apply Kd.R_drewN | apply Kd.R_drew)); exact HO189.out))) (Kd.R_lt (by (with_reducible repeat (first | apply Kd.R_alloc | apply Kd.R_drewN | apply Kd.R_drew)); exact HO193.out))) (Kd.R_lt (by (with_reducible repeat (first | apply Kd.R_alloc | apply Kd.R_drewN | apply Kd.R_drew)); exact HO196.out))) (Kd.R_lt (by (with_reducible repeat (first | apply Kd.R_alloc | apply Kd.R_drewN | apply Kd.R_drew)); exact HO200.out))) (Kd.R_lt (by (with_reducible repeat (first | apply Kd.R_alloc | apply Kd.R_drewN | apply Kd.R_drew)); exact HO203.out))) (Kd.R_lt (by (with_reducible repeat (first | apply Kd.R_alloc | apply Kd.R_drewN | apply Kd.R_drew)); exact HO207.out))) (below_size (by repeat (first | (with_reducible first | exact HB.out | apply below_alloc | apply pw_below_drewN | apply below_drew1 | refine below_set ?_ GE183.out) | exact HB.out)))); have n9_ := Aside0.mk (blk_below (g := gb183) (o := .cells #[.int .i64 t178, .int .i64 t179, .int .i64 t180, .string t181] 62 (0, 0)) (by (with_reducible repeat (first | refine blk_drewN ?_ _ | refine blk_drew ?_ | refine blk_alloc ?_ _)); exact BK183.out) hb); have n10_ := Aside0.mk (below_step (by repeat (first | (with_reducible first | exact HB.out | apply below_alloc | apply pw_below_drewN | apply below_drew1 | refine below_set ?_ GE183.out) | exact HB.out)) hb); clear HO177; clear HO186; clear HO189; clear HO193; clear HO196; clear HO200; clear HO203; clear HO207; clear BK183; clear HB; have HO177 := n0_; have HO186 := n1_; have HO189 := n2_; have HO193 := n3_; have HO196 := n4_; have HO200 := n5_; have HO203 := n6_; have HO207 := n7_; have HO210 := n8_; have BK183 := n9_; have HB := n10_; clear n0_ n1_ n2_ n3_ n4_ n5_ n6_ n7_ n8_ n9_ n10_; clear hb ho48; obtain ⟨Ao49, co49, eo49⟩ := Kd.R_slice HO207.out; subst eo49; obtain ⟨Ao50, co50, eo50⟩ := Kd.R_slice HO210.out; subst eo50) | (go_at_call 34; (with_reducible refine (corebankref18_Same.calls k _ _ t205 _ _ y208 true _ ?side1 ?side2 ?side3 ?side4 A12.out).mono ?_); (case side1 => repeat (first | exact (Kd.R_reads' HO207.out).2.2 | (with_reducible refine Kd.C_alloc ?_ _) | (with_reducible refine Kd.C_drewN ?_ _) | (with_reducible refine Kd.C_drew ?_))); (case side2 => exact (Kd.R_reads' HO207.out).2.1); (case side3 => repeat (first | exact (Kd.R_reads' HO210.out).2.2 | (with_reducible refine Kd.C_alloc ?_ _) | (with_reducible refine Kd.C_drewN ?_ _) | (with_reducible refine Kd.C_drew ?_))); (case side4 => exact (Kd.R_reads' HO210.out).2.1); rintro e w' ⟨rfl, ⟨nd, rfl⟩⟩) | (go_at_call 37; (with_reducible refine (chart_Under.calls k _ _ y175 5 2 true _ ?side1 ?side2 A14.out).mono ?_); (case side1 => repeat (first | exact (Kd.R_reads' HO177.out).2.2 | (with_reducible refine Kd.C_alloc ?_ _) | (with_reducible refine Kd.C_drewN ?_ _) | (with_reducible refine Kd.C_drew ?_))); (case side2 => exact (Kd.R_reads' HO177.out).2.1); rintro e w51 ⟨rfl, hb⟩; have n0_ := Aside0.mk (Kd.R_below (by (with_reducible repeat (first | apply Kd.R_alloc | apply Kd.R_drewN | apply Kd.R_drew)); exact HO177.out) hb); have n1_ := Aside0.mk (Kd.R_below (by (with_reducible repeat (first | apply Kd.R_alloc | apply Kd.R_drewN | apply Kd.R_drew)); exact HO186.out) hb); have n2_ := Aside0.mk (Kd.R_below (by (with_reducible repeat (first | apply Kd.R_alloc | apply Kd.R_drewN | apply Kd.R_drew)); exact HO189.out) hb); have n3_ := Aside0.mk (Kd.R_below (by (with_reducible repeat (first | apply Kd.R_alloc | apply Kd.R_drewN | apply Kd.R_drew)); exact HO193.out) hb); have n4_ := Aside0.mk (Kd.R_below (by (with_reducible repeat (first | apply Kd.R_alloc | apply Kd.R_drewN | apply Kd.R_drew)); exact HO196.out) hb); have n5_ := Aside0.mk (Kd.R_below (by (with_reducible repeat (first | apply Kd.R_alloc | apply Kd.R_drewN | apply Kd.R_drew)); exact HO200.out) hb); have n6_ := Aside0.mk (Kd.R_below (by (with_reducible repeat (first | apply Kd.R_alloc | apply Kd.R_drewN | apply Kd.R_drew)); exact HO203.out) hb); have n7_ := Aside0.mk (Kd.R_below (by (with_reducible repeat (first | apply Kd.R_alloc | apply Kd.R_drewN | apply Kd.R_drew)); exact HO207.out) hb); have n8_ := Aside0.mk (Kd.R_below (by (with_reducible repeat (first | apply Kd.R_alloc | apply Kd.R_drewN | apply Kd.R_drew)); exact HO210.out) hb); have n9_ := Aside0.mk (blk_below (g := gb183) (o := .cells #[.int .i64 t178, .int .i64 t179, .int .i64 t180, .string t181] 62 (0, 0)) (by (with_reducible repeat (first | refine blk_drewN ?_ _ | refine blk_drew ?_ | refine blk_alloc ?_ _)); exact BK183.out) hb); have n10_ := Aside0.mk (below_step (by repeat (first | (with_reducible first | exact HB.out | apply below_alloc | apply pw_below_drewN | apply below_drew1 | refine below_set ?_ GE183.out) | exact HB.out)) hb); clear HO177; clear HO186; clear HO189; clear HO193; clear HO196; clear HO200; clear HO203; clear HO207; clear HO210; clear BK183; clear HB; have HO177 := n0_; have HO186 := n1_; have HO189 := n2_; have HO193 := n3_; have HO196 := n4_; have HO200 := n5_; have HO203 := n6_; have HO207 := n7_; have HO210 := n8_; have BK183 := n9_; have HB := n10_; clear n0_ n1_ n2_ n3_ n4_ n5_ n6_ n7_ n8_ n9_ n10_; (try clear hb); (try clear hb2); (try clear hk); (try clear hi)) | (go_at_call 37; (with_reducible refine (chart_Under.calls k _ _ y175 5 3 false _ ?side1 ?side2 A16.out).mono ?_); (case side1 => repeat (first | exact (Kd.R_reads' HO177.out).2.2 | (with_reducible refine Kd.C_alloc ?_ _) | (with_reducible refine Kd.C_drewN ?_ _) | (with_reducible refine Kd.C_drew ?_))); (case side2 => exact (Kd.R_reads' HO177.out).2.1); rintro e w52 ⟨rfl, hb⟩; have n0_ := Aside0.mk (Kd.R_below (by (with_reducible repeat (first | apply Kd.R_alloc | apply Kd.R_drewN | apply Kd.R_drew)); exact HO177.out) hb); have n1_ := Aside0.mk (Kd.R_below (by (with_reducible repeat (first | apply Kd.R_alloc | apply Kd.R_drewN | apply Kd.R_drew)); exact HO186.out) hb); have n2_ := Aside0.mk (Kd.R_below (by (with_reducible repeat (first | apply Kd.R_alloc | apply Kd.R_drewN | apply Kd.R_drew)); exact HO189.out) hb); have n3_ := Aside0.mk (Kd.R_below (by (with_reducible repeat (first | apply Kd.R_alloc | apply Kd.R_drewN | apply Kd.R_drew)); exact HO193.out) hb); have n4_ := Aside0.mk (Kd.R_below (by (with_reducible repeat (first | apply Kd.R_alloc | apply Kd.R_drewN | apply Kd.R_drew)); exact HO196.out) hb); have n5_ := Aside0.mk (Kd.R_below (by (with_reducible repeat (first | apply Kd.R_alloc | apply Kd.R_drewN | apply Kd.R_drew)); exact HO200.out) hb); have n6_ := Aside0.mk (Kd.R_below (by (with_reducible repeat (first | apply Kd.R_alloc | apply Kd.R_drewN | apply Kd.R_drew)); exact HO203.out) hb); have n7_ := Aside0.mk (Kd.R_below (by (with_reducible repeat (first | apply Kd.R_alloc | apply Kd.R_drewN | apply Kd.R_drew)); exact HO207.out) hb); have n8_ := Aside0.mk (Kd.R_below (by (with_reducible repeat (first | apply Kd.R_alloc | apply Kd.R_drewN | apply Kd.R_drew)); exact HO210.out) hb); have n9_ := Aside0.mk (blk_below (g := gb183) (o := .cells #[.int .i64 t178, .int .i64 t179, .int .i64 t180, .string t181] 62 (0, 0)) (by (with_reducible repeat (first | refine blk_drewN ?_ _ | refine blk_drew ?_ | refine blk_alloc ?_ _)); exact BK183.out) hb); have n10_ := Aside0.mk (below_step (by repeat (first | (with_reducible first | exact HB.out | apply below_alloc | apply pw_below_drewN | apply below_drew1 | refine below_set ?_ GE183.out) | exact HB.out)) hb); clear HO177; clear HO186; clear HO189; clear HO193; clear HO196; clear HO200; clear HO203; clear HO207; clear HO210; clear BK183; clear HB; have HO177 := n0_; have HO186 := n1_; have HO189 := n2_; have HO193 := n3_; have HO196 := n4_; have HO200 := n5_; have HO203 := n6_; have HO207 := n7_; have HO210 := n8_; have BK183 := n9_; have HB := n10_; clear n0_ n1_ n2_ n3_ n4_ n5_ n6_ n7_ n8_ n9_ n10_; (try clear hb); (try clear hb2); (try clear hk); (try clear hi); have hcz53_0 : w52.cell? ⟨gb183, 0, none⟩ = some (.int .i64 t178) := (blk_cell BK183.out 0).trans rfl; have hcz53_1 : w52.cell? ⟨gb183, 1, none⟩ = some (.int .i64 t179) := (blk_cell BK183.out 1).trans rfl; have hcz53_2 : w52.cell? ⟨gb183, 2, none⟩ = some (.int .i64 t180) := (blk_cell BK183.out 2).trans rfl; have hcz53_3 : w52.cell? ⟨gb183, 3, none⟩ = some (.string t181) := (blk_cell BK183.out 3).trans rfl; have hfz53_0 := blk_frozen BK183.out 0; have hfz53_1 := blk_frozen BK183.out 1; have hfz53_2 := blk_frozen BK183.out 2; have hfz53_3 := blk_frozen BK183.out 3) | (go_at_call 43; (with_reducible refine (chart_Sign.calls k 1 t214 _ A20.out).mono ?_); rintro e w' ⟨rfl, ⟨nd, rfl⟩⟩) | (go_at_call 43; (with_reducible refine (chart_Sign.calls k 4 t215 _ A22.out).mono ?_); rintro e w' ⟨rfl, ⟨nd, rfl⟩⟩) | (go_at_call 30; (refine (chart_Check.calls k _ _ ([] : List (S62)) 0 0 0 0 0 0 0 0 0 0 0 0 0 0 t216 _ ?side1 ?side2 A24.out).mono ?_); (case side1 => exact Kd.C_nil _ _); (case side2 => exact Nat.le_refl _); rintro e w54 ⟨rfl, hb⟩; have n0_ := Aside0.mk (Kd.R_below (by (with_reducible repeat (first | apply Kd.R_alloc | apply Kd.R_drewN | apply Kd.R_drew)); exact HO177.out) hb); have n1_ := Aside0.mk (Kd.R_below (by (with_reducible repeat (first | apply Kd.R_alloc | apply Kd.R_drewN | apply Kd.R_drew)); exact HO186.out) hb); have n2_ := Aside0.mk (Kd.R_below (by (with_reducible repeat (first | apply Kd.R_alloc | apply Kd.R_drewN | apply Kd.R_drew)); exact HO189.out) hb); have n3_ := Aside0.mk (Kd.R_below (by (with_reducible repeat (first | apply Kd.R_alloc | apply Kd.R_drewN | apply Kd.R_drew)); exact HO193.out) hb); have n4_ := Aside0.mk (Kd.R_below (by (with_reducible repeat (first | apply Kd.R_alloc | apply Kd.R_drewN | apply Kd.R_drew)); exact HO196.out) hb); have n5_ := Aside0.mk (Kd.R_below (by (with_reducible repeat (first | apply Kd.R_alloc | apply Kd.R_drewN | apply Kd.R_drew)); exact HO200.out) hb); have n6_ := Aside0.mk (Kd.R_below (by (with_reducible repeat (first | apply Kd.R_alloc | apply Kd.R_drewN | apply Kd.R_drew)); exact HO203.out) hb); have n7_ := Aside0.mk (Kd.R_below (by (with_reducible repeat (first | apply Kd.R_alloc | apply Kd.R_drewN | apply Kd.R_drew)); exact HO207.out) hb); have n8_ := Aside0.mk (Kd.R_below (by (with_reducible repeat (first | apply Kd.R_alloc | apply Kd.R_drewN | apply Kd.R_drew)); exact HO210.out) hb); have n9_ := Aside0.mk (blk_below (g := gb183) (o := .cells #[.int .i64 t178, .int .i64 t179, .int .i64 t180, .string t181] 62 (0, 0)) (by (with_reducible repeat (first | refine blk_drewN ?_ _ | refine blk_drew ?_ | refine blk_alloc ?_ _)); exact BK183.out) hb); have n10_ := Aside0.mk (below_step (by repeat (first | (with_reducible first | exact HB.out | apply below_alloc | apply pw_below_drewN | apply below_drew1 | refine below_set ?_ GE183.out) | exact HB.out)) hb); clear HO177; clear HO186; clear HO189; clear HO193; clear HO196; clear HO200; clear HO203; clear HO207; clear HO210; clear BK183; clear HB; have HO177 := n0_; have HO186 := n1_; have HO189 := n2_; have HO193 := n3_; have HO196 := n4_; have HO200 := n5_; have HO203 := n6_; have HO207 := n7_; have HO210 := n8_; have BK183 := n9_; have HB := n10_; clear n0_ n1_ n2_ n3_ n4_ n5_ n6_ n7_ n8_ n9_ n10_; (try clear hb); (try clear hb2); (try clear hk); (try clear hi)))
           go_ret
           exact ⟨by first | rfl | (simp [errW_none, errW_some] <;> rfl) | (simp [*, errW_none, errW_some] <;> rfl), by repeat (first | (with_reducible first | exact HB.out | apply below_alloc | apply pw_below_drewN | apply below_drew1 | refine below_set ?_ GE183.out) | exact HB.out)⟩
          ·rw [if_neg c23] at H
           exact absurd H (by simp)
         ·rw [if_neg c21] at H
          exact absurd H (by simp)
        ·replace c19 := Bool.eq_false_iff.mpr c19
         subst c19
         have H1 : (none) = some r := by rw [if_neg (show ¬ (false = true) by decide)] at H; exact H
         clear H
         have H := H1
         clear H1
         exact absurd H (by simp)
       ·rw [if_neg c18] at H
        exact absurd H (by simp)
     ·replace c15 := Bool.eq_false_iff.mpr c15
      subst c15
      have H1 : (none) = some r := by rw [if_neg (show ¬ (false = true) by decide)] at H; exact H
      clear H
      have H := H1
      clear H1
      exact absurd H (by simp)
    ·replace c13 := Bool.eq_false_iff.mpr c13
     subst c13
     have H1 : (none) = some r := by rw [if_neg (show ¬ (false = true) by decide)] at H; exact H
     clear H
     have H := H1
     clear H1
     exact absurd H (by simp)
   ·replace c10 := Bool.eq_false_iff.mpr c10
    subst c10
    have H1 : (none) = some r := by rw [if_neg (show ¬ (false = true) by decide)] at H; exact H
    clear H
    have H := H1
    clear H1
    exact absurd H (by simp)
  ·replace c7 := Bool.eq_false_iff.mpr c7
   subst c7
   have H1 : (none) = some r := by rw [if_neg (show ¬ (false = true) by decide)] at H; exact H
   clear H
   have H := H1
   clear H1
   exact absurd H (by simp)
 ·replace c4 := Bool.eq_false_iff.mpr c4
  subst c4
  have H1 : (none) = some r := by rw [if_neg (show ¬ (false = true) by decide)] at H; exact H
  clear H
  have H := H1
  clear H1
  exact absurd H (by simp)

/-! ### corebankref18_Find: function 33 -/
def corebankref18_Find.l0 : Nat → List (S62) → Int → Int → Option (Int × Int × Int × ByteArray × Bool)
  | 0, _, _, _ => none
  | k + 1, x0, x1, x6 => if x6 < (x0.length : Int) then (if 0 ≤ x6 then (if ((rd_T62 x0 x6).f0) = x1 then (some ((rd_T62 x0 x6).f0, (rd_T62 x0 x6).f1, (rd_T62 x0 x6).f2, (rd_T62 x0 x6).f3, true)) else (corebankref18_Find.l0 k x0 x1 (wrap64 (x6 + 1)))) else (none)) else (some (0, 0, 0, (⟨#[]⟩ : ByteArray), false))
def corebankref18_Find.f (k : Nat) (l0 : List (S62)) (a1 : Int) : Option (Int × Int × Int × ByteArray × Bool) := corebankref18_Find.l0 k l0 a1 0
theorem corebankref18_Find.mono_l : ∀ k, (∀ y0 y1 y2, LeO (corebankref18_Find.l0 k y0 y1 y2) (corebankref18_Find.l0 (k + 1) y0 y1 y2))
  | 0 => fun _ _ _ r h => by simp [corebankref18_Find.l0] at h
  | k + 1 => by
    have ih0 := corebankref18_Find.mono_l k
    · intro y0 y1 y2
      unfold corebankref18_Find.l0
      repeat' first
      | (with_reducible exact ih0 _ _ _)
      | (with_reducible exact LeO.refl _)
      | (with_reducible exact LeO.none _)
      | (with_reducible refine LeO.ite ?_ ?_)
      | (with_reducible refine LeO.bind ?_ (fun _ => ?_))
      | exact ih0 _ _ _
      | exact LeO.none _
      | refine LeO.ite ?_ ?_
      | refine LeO.bind ?_ (fun _ => ?_)
theorem corebankref18_Find.mono : ∀ a0 a1 k, LeO (corebankref18_Find.f k a0 a1) (corebankref18_Find.f (k + 1) a0 a1) := by
  intro a0 a1 k
  have ih0 := corebankref18_Find.mono_l k
  unfold corebankref18_Find.f
  repeat' first
      | (with_reducible exact ih0 _ _ _)
      | (with_reducible exact LeO.refl _)
      | (with_reducible exact LeO.none _)
      | (with_reducible refine LeO.ite ?_ ?_)
      | (with_reducible refine LeO.bind ?_ (fun _ => ?_))
      | exact ih0 _ _ _
      | exact LeO.none _
      | refine LeO.ite ?_ ?_
      | refine LeO.bind ?_ (fun _ => ?_)
set_option maxHeartbeats 8000000 in
set_option maxRecDepth 100000 in
theorem corebankref18_Find.calls (k : Nat) (A0 : Option Addr) (c0 : Nat) (l0 : List (S62)) (a1 : Int) (r1 : Int) (r2 : Int) (r3 : Int) (r4 : ByteArray) (r5 : Bool) (w : World) (hr0 : Kd.C k62 w A0 l0.length l0) (hc0 : l0.length ≤ c0) (h : corebankref18_Find.f k l0 a1 = some (r1, r2, r3, r4, r5)) :
    Calls Try.prog 33 #[.slice A0 l0.length c0, .int .i64 a1] w fun e w' => e = .returned (.tuple #[.agg #[.int .i64 r1, .int .i64 r2, .int .i64 r3, .string r4], .bool r5]) ∧ Below w.heap.size w w' := by
  have hu62 := Try.underlying62
  have HR0 := Aside0.mk hr0
  have HC0 := Aside0.mk hc0
  clear hr0 hc0
  have HB := Aside0.mk (Below.refl w.heap.size w)
  have H : (corebankref18_Find.l0 k l0 a1 0) = some (r1, r2, r3, r4, r5) := h
  clear h
  have H' := Aside0.mk H
  clear H
  go_enter Try.func33, Try.ntmps33
  go_wp2_with (first | ((with_reducible refine gate_dst (N := 4) rfl ?_); refine box_event ?hg (N := 4) ?hd (cs := #[.int .i64 0, .int .i64 0, .int .i64 0, .string (⟨#[]⟩ : ByteArray)]) (t := 62) ?hr ?_; (case hd => rfl); (case hg => rfl); (case hr => first | (go_simp; done) | (go_simp; rfl)); intro gb217 hg w3 hbox hb; have n0_ := Aside0.mk (below_step (by repeat (first | (with_reducible first | exact HB.out | apply below_alloc | apply pw_below_drewN | apply below_drew1) | exact HB.out)) hb); have n1_ := Aside0.mk (hbox); have n2_ := Aside0.mk ((by rw [hg]; exact (below_size (by repeat (first | (with_reducible first | exact HB.out | apply below_alloc | apply pw_below_drewN | apply below_drew1) | exact HB.out))) : w.heap.size ≤ gb217)); have n3_ := Aside0.mk ((by rw [hg]; exact (below_size (by repeat (first | (with_reducible first | exact HB.out | apply below_alloc | apply pw_below_drewN | apply below_drew1) | exact HB.out))) : w.heap.size ≤ gb217)); clear HB; have HB := n0_; have BK217 := n1_; have GW217 := n2_; have GE217 := n3_; clear n0_ n1_ n2_ n3_; clear hb hbox hg))
  go_loopg [6] k (fun kq v6 w' => ∃ (x6_1 : Int) (x218000_1 : Int) (x218001_1 : Int) (x218002_1 : Int) (x218003_1 : ByteArray), v6 = .int .i64 x6_1 ∧ Aside0 (corebankref18_Find.l0 kq l0 a1 x6_1 = some (r1, r2, r3, r4, r5)) ∧ Aside0 (kq ≤ k) ∧ Aside0 (w'.heap[gb217]? = some (.cells #[.int .i64 x218000_1, .int .i64 x218001_1, .int .i64 x218002_1, .string x218003_1] 62 (0, 0))) ∧ Aside0 (Below w.heap.size w w'))
  case atStart => exact ⟨(0), (0), (0), (0), ((⟨#[]⟩ : ByteArray)), (by first | rfl | (simp; done) | (simp [*]; done)), H', ⟨Nat.le_refl _⟩, ⟨by (with_reducible repeat (first | refine blk_drewN ?_ _ | refine blk_drew ?_ | refine blk_alloc ?_ _)); exact BK217.out⟩, ⟨by repeat (first | (with_reducible first | exact HB.out | apply below_alloc | apply pw_below_drewN | apply below_drew1 | refine below_set ?_ GE217.out) | exact HB.out)⟩⟩
  case round =>
    clear H'
    try clear p2
    try clear c3
    obtain ⟨x6_1, x218000_1, x218001_1, x218002_1, x218003_1, rfl, HA, HK1, BK217, HB⟩ := hrel
    cases gk with
    | zero => exact absurd HA.out (by simp [corebankref18_Find.l0])
    | succ k1 =>
      have H := HA.out
      clear HA
      simp only [corebankref18_Find.l0] at H
      by_cases c4 : x6_1 < (l0.length : Int)
      · rw [if_pos c4] at H
        have c4b0 : decide (x6_1 < (l0.length : Int)) = true := decide_eq_true c4
        clear c4
        by_cases c5 : 0 ≤ x6_1
        · rw [if_pos c5] at H
          have c5b0 : decide (0 ≤ x6_1) = true := decide_eq_true c5
          clear c5
          by_cases c6 : ((rd_T62 l0 x6_1).f0) = a1
          · rw [if_pos c6] at H
            have c6b0 : (((rd_T62 l0 x6_1).f0) == a1) = true := beq_iff_eq.mpr c6
            have c6b1 : (((rd_T62 l0 x6_1).f0) != a1) = false := bne_eq_false_iff_eq.mpr c6
            clear c6
            simp only [Option.some.injEq, Prod.mk.injEq] at H
            obtain ⟨rfl, rfl, rfl, rfl, rfl⟩ := H
            have p218 : 0 ≤ (x6_1 : Int) := of_decide_eq_true (by first | (with_reducible assumption) | assumption)
            have q218 : x6_1 < (l0.length : Int) := of_decide_eq_true (by first | (with_reducible assumption) | assumption)
            obtain ⟨ad218, e218, hx218_0, hx218_1, hx218_2, hx218_3⟩ := at_T62 HR0.out x6_1 p218 q218
            cases e218
            replace hx218_0 := (HB.out.cell (World.block_lt_of_cell? w _ hx218_0)).trans hx218_0
            replace hx218_1 := (HB.out.cell (World.block_lt_of_cell? w _ hx218_1)).trans hx218_1
            replace hx218_2 := (HB.out.cell (World.block_lt_of_cell? w _ hx218_2)).trans hx218_2
            replace hx218_3 := (HB.out.cell (World.block_lt_of_cell? w _ hx218_3)).trans hx218_3
            replace p218 := eq_true p218
            replace q218 := eq_true q218
            have p219 : 0 ≤ (x6_1 : Int) := of_decide_eq_true (by first | (with_reducible assumption) | assumption)
            have q219 : x6_1 < (l0.length : Int) := of_decide_eq_true (by first | (with_reducible assumption) | assumption)
            obtain ⟨ad219, e219, hx219_0, hx219_1, hx219_2, hx219_3⟩ := at_T62 HR0.out x6_1 p219 q219
            obtain rfl : ad218 = ad219 := (by injection e219)
            replace hx219_0 := (HB.out.cell (World.block_lt_of_cell? w _ hx219_0)).trans hx219_0
            replace hx219_1 := (HB.out.cell (World.block_lt_of_cell? w _ hx219_1)).trans hx219_1
            replace hx219_2 := (HB.out.cell (World.block_lt_of_cell? w _ hx219_2)).trans hx219_2
            replace hx219_3 := (HB.out.cell (World.block_lt_of_cell? w _ hx219_3)).trans hx219_3
            replace p219 := eq_true p219
            replace q219 := eq_true q219
            have hcz7_0 : wr.cell? ⟨gb217, 0, none⟩ = some (.int .i64 x218000_1) := (blk_cell BK217.out 0).trans rfl
            have hcz7_1 : wr.cell? ⟨gb217, 1, none⟩ = some (.int .i64 x218001_1) := (blk_cell BK217.out 1).trans rfl
            have hcz7_2 : wr.cell? ⟨gb217, 2, none⟩ = some (.int .i64 x218002_1) := (blk_cell BK217.out 2).trans rfl
            have hcz7_3 : wr.cell? ⟨gb217, 3, none⟩ = some (.string x218003_1) := (blk_cell BK217.out 3).trans rfl
            have hfz7_0 := blk_frozen BK217.out 0
            have hfz7_1 := blk_frozen BK217.out 1
            have hfz7_2 := blk_frozen BK217.out 2
            have hfz7_3 := blk_frozen BK217.out 3
            go_wp2
            refine bodyPost_ret (results_ct rfl _ _ gb217 62 #[.int .i64 ((rd_T62 l0 x6_1).f0), .int .i64 ((rd_T62 l0 x6_1).f1), .int .i64 ((rd_T62 l0 x6_1).f2), .string ((rd_T62 l0 x6_1).f3)] (0, 0) _ rfl (by (with_reducible repeat (first | refine blk_drewN ?_ _ | refine blk_drew ?_ | refine blk_alloc ?_ _)); refine blk_put (cs := #[.int .i64 ((rd_T62 l0 x6_1).f0), .int .i64 ((rd_T62 l0 x6_1).f1), .int .i64 ((rd_T62 l0 x6_1).f2), .string x218003_1]) ?_ 3 _ rfl; (with_reducible repeat (first | refine blk_drewN ?_ _ | refine blk_drew ?_ | refine blk_alloc ?_ _)); refine blk_put (cs := #[.int .i64 ((rd_T62 l0 x6_1).f0), .int .i64 ((rd_T62 l0 x6_1).f1), .int .i64 x218002_1, .string x218003_1]) ?_ 2 _ rfl; (with_reducible repeat (first | refine blk_drewN ?_ _ | refine blk_drew ?_ | refine blk_alloc ?_ _)); refine blk_put (cs := #[.int .i64 ((rd_T62 l0 x6_1).f0), .int .i64 x218001_1, .int .i64 x218002_1, .string x218003_1]) ?_ 1 _ rfl; (with_reducible repeat (first | refine blk_drewN ?_ _ | refine blk_drew ?_ | refine blk_alloc ?_ _)); refine blk_put (cs := #[.int .i64 x218000_1, .int .i64 x218001_1, .int .i64 x218002_1, .string x218003_1]) ?_ 0 _ rfl; (with_reducible repeat (first | refine blk_drewN ?_ _ | refine blk_drew ?_ | refine blk_alloc ?_ _)); exact BK217.out) Try.underlying62 rfl (by kernel_rfl)) rfl ?_
            exact ⟨by first | rfl | (simp [errW_none, errW_some] <;> rfl) | (simp [*, errW_none, errW_some] <;> rfl), by repeat (first | (with_reducible first | exact HB.out | apply below_alloc | apply pw_below_drewN | apply below_drew1 | refine below_set ?_ GE217.out) | exact HB.out)⟩
          · rw [if_neg c6] at H
            have c6b0 : (((rd_T62 l0 x6_1).f0) == a1) = false := beq_eq_false_iff_ne.mpr c6
            have c6b1 : (((rd_T62 l0 x6_1).f0) != a1) = true := bne_iff_ne.mpr c6
            have H' := Aside0.mk H
            clear H
            have p218 : 0 ≤ (x6_1 : Int) := of_decide_eq_true (by first | (with_reducible assumption) | assumption)
            have q218 : x6_1 < (l0.length : Int) := of_decide_eq_true (by first | (with_reducible assumption) | assumption)
            obtain ⟨ad218, e218, hx218_0, hx218_1, hx218_2, hx218_3⟩ := at_T62 HR0.out x6_1 p218 q218
            cases e218
            replace hx218_0 := (HB.out.cell (World.block_lt_of_cell? w _ hx218_0)).trans hx218_0
            replace hx218_1 := (HB.out.cell (World.block_lt_of_cell? w _ hx218_1)).trans hx218_1
            replace hx218_2 := (HB.out.cell (World.block_lt_of_cell? w _ hx218_2)).trans hx218_2
            replace hx218_3 := (HB.out.cell (World.block_lt_of_cell? w _ hx218_3)).trans hx218_3
            replace p218 := eq_true p218
            replace q218 := eq_true q218
            go_wp2
            go_roundg k1
            case measure => have := HK1.out; omega
            case rel => exact ⟨(wrap64 (x6_1 + 1)), (x218000_1), (x218001_1), (x218002_1), (x218003_1), (by first | rfl | (simp; done) | (simp [*]; done)), H', ⟨by have := HK1.out; omega⟩, ⟨by (with_reducible repeat (first | refine blk_drewN ?_ _ | refine blk_drew ?_ | refine blk_alloc ?_ _)); exact BK217.out⟩, ⟨by repeat (first | (with_reducible first | exact HB.out | apply below_alloc | apply pw_below_drewN | apply below_drew1 | refine below_set ?_ GE217.out) | exact HB.out)⟩⟩
        · rw [if_neg c5] at H
          exact absurd H (by simp)
      · rw [if_neg c4] at H
        have c4b0 : decide (x6_1 < (l0.length : Int)) = false := decide_eq_false c4
        clear c4
        simp only [Option.some.injEq, Prod.mk.injEq] at H
        obtain ⟨rfl, rfl, rfl, rfl, rfl⟩ := H
        have hcz8_0 : wr.cell? ⟨gb217, 0, none⟩ = some (.int .i64 x218000_1) := (blk_cell BK217.out 0).trans rfl
        have hcz8_1 : wr.cell? ⟨gb217, 1, none⟩ = some (.int .i64 x218001_1) := (blk_cell BK217.out 1).trans rfl
        have hcz8_2 : wr.cell? ⟨gb217, 2, none⟩ = some (.int .i64 x218002_1) := (blk_cell BK217.out 2).trans rfl
        have hcz8_3 : wr.cell? ⟨gb217, 3, none⟩ = some (.string x218003_1) := (blk_cell BK217.out 3).trans rfl
        have hfz8_0 := blk_frozen BK217.out 0
        have hfz8_1 := blk_frozen BK217.out 1
        have hfz8_2 := blk_frozen BK217.out 2
        have hfz8_3 := blk_frozen BK217.out 3
        go_wp2
        refine bodyPost_ret (results_ct rfl _ _ gb217 62 #[.int .i64 0, .int .i64 0, .int .i64 0, .string (⟨#[]⟩ : ByteArray)] (0, 0) _ rfl (by (with_reducible repeat (first | refine blk_drewN ?_ _ | refine blk_drew ?_ | refine blk_alloc ?_ _)); refine blk_put (cs := #[.int .i64 0, .int .i64 0, .int .i64 0, .string x218003_1]) ?_ 3 _ rfl; (with_reducible repeat (first | refine blk_drewN ?_ _ | refine blk_drew ?_ | refine blk_alloc ?_ _)); refine blk_put (cs := #[.int .i64 0, .int .i64 0, .int .i64 x218002_1, .string x218003_1]) ?_ 2 _ rfl; (with_reducible repeat (first | refine blk_drewN ?_ _ | refine blk_drew ?_ | refine blk_alloc ?_ _)); refine blk_put (cs := #[.int .i64 0, .int .i64 x218001_1, .int .i64 x218002_1, .string x218003_1]) ?_ 1 _ rfl; (with_reducible repeat (first | refine blk_drewN ?_ _ | refine blk_drew ?_ | refine blk_alloc ?_ _)); refine blk_put (cs := #[.int .i64 x218000_1, .int .i64 x218001_1, .int .i64 x218002_1, .string x218003_1]) ?_ 0 _ rfl; (with_reducible repeat (first | refine blk_drewN ?_ _ | refine blk_drew ?_ | refine blk_alloc ?_ _)); exact BK217.out) Try.underlying62 rfl (by kernel_rfl)) rfl ?_
        exact ⟨by first | rfl | (simp [errW_none, errW_some] <;> rfl) | (simp [*, errW_none, errW_some] <;> rfl), by repeat (first | (with_reducible first | exact HB.out | apply below_alloc | apply pw_below_drewN | apply below_drew1 | refine below_set ?_ GE217.out) | exact HB.out)⟩

end Go.Proofs.Ytcmaifjmnpfmbaa.C
