-- Made by wip/tools/ext.py (this project's) over the kit's print, with external functions' contracts by hand. Not trusted: Lean checks it.
import Derived.Test.YtajephmamebcgaaKx0
import Derived.Test.YtajephmamebcgaaKx6
namespace Go.Proofs.Ytajephmamebcgaa.K
open Go.RowKit Go.Proofs.YtajephmamebcgaaW.PrintWords Go.Proofs.YtajephmamebcgaaW.PrintLast Go.Proofs.YtajephmamebcgaaW.PrintMore
attribute [local go_sem] max2_int min2_int max_two min_two max_three min_three max_four min_four   -- for this text's walks alone
set_option linter.unusedVariables false
set_option linter.unusedSimpArgs false

-- EXT: date_length (this project's own)
/-! ### date_length: function 58 -/
def daysL : List Int := [0, 31, 28, 31, 30, 31, 30, 31, 31, 30, 31, 30, 31]
def date_length.f (a0 : Int) (a1 : Int) : Option (Int) := if 0 ≤ a1 then (if a1 < 13 then (if a1 = 2 then (date_Leap.f a0).bind fun t => (if t = true then some 29 else some 28) else some (daysL.getD a1.toNat 0)) else none) else none
set_option maxHeartbeats 4000000 in
set_option maxRecDepth 100000 in
theorem date_length.calls (a0 : Int) (a1 : Int) (r : Int) (w : World) (h : date_length.f a0 a1 = some r) :
    Calls Try.prog 58 #[.int .i64 a0, .int .i64 a1] w fun e w' => e = .returned (.int .i64 r) ∧ Below w.heap.size w w' := by
  have hm : 0 ≤ a1 ∧ a1 < 13 := by
    unfold date_length.f at h
    split at h
    · split at h
      · exact ⟨by assumption, by assumption⟩
      · cases h
    · cases h
  have hc : a1 = 0 ∨ a1 = 1 ∨ a1 = 2 ∨ a1 = 3 ∨ a1 = 4 ∨ a1 = 5 ∨ a1 = 6 ∨ a1 = 7 ∨ a1 = 8 ∨ a1 = 9 ∨ a1 = 10 ∨ a1 = 11 ∨ a1 = 12 := by omega
  clear hm
  rcases hc with rfl | rfl | rfl | rfl | rfl | rfl | rfl | rfl | rfl | rfl | rfl | rfl | rfl
  · obtain rfl : (0 : Int) = r := by simpa [date_length.f, daysL] using h
    clear h
    go_enter Try.func58, Try.ntmps58
    go_wp2
    go_ret
    exact ⟨rfl, below_alloc (Below.refl _ _) _⟩
  · obtain rfl : (31 : Int) = r := by simpa [date_length.f, daysL] using h
    clear h
    go_enter Try.func58, Try.ntmps58
    go_wp2
    go_ret
    exact ⟨rfl, below_alloc (Below.refl _ _) _⟩
  · have H : ((date_Leap.f a0).bind fun t => (if t = true then some (29 : Int) else some 28)) = some r := by simpa [date_length.f] using h
    clear h
    replace H := Option.bind_eq_some_iff.mp H
    obtain ⟨t, A10, H⟩ := H
    have A1 := Aside0.mk A10
    clear A10
    cases t with
    | true =>
      obtain rfl : (29 : Int) = r := by simpa using H
      clear H
      go_enter Try.func58, Try.ntmps58
      go_wp2_with (go_at_call 66; refine (date_Leap.calls a0 true _ A1.out).mono ?_; rintro e w' ⟨rfl, ⟨nd, rfl⟩⟩)
      go_ret
      exact ⟨rfl, by apply pw_below_drewN; exact below_alloc (Below.refl _ _) _⟩
    | false =>
      obtain rfl : (28 : Int) = r := by simpa using H
      clear H
      go_enter Try.func58, Try.ntmps58
      go_wp2_with (go_at_call 66; refine (date_Leap.calls a0 false _ A1.out).mono ?_; rintro e w' ⟨rfl, ⟨nd, rfl⟩⟩)
      go_ret
      exact ⟨rfl, by apply pw_below_drewN; exact below_alloc (Below.refl _ _) _⟩
  · obtain rfl : (31 : Int) = r := by simpa [date_length.f, daysL] using h
    clear h
    go_enter Try.func58, Try.ntmps58
    go_wp2
    go_ret
    exact ⟨rfl, below_alloc (Below.refl _ _) _⟩
  · obtain rfl : (30 : Int) = r := by simpa [date_length.f, daysL] using h
    clear h
    go_enter Try.func58, Try.ntmps58
    go_wp2
    go_ret
    exact ⟨rfl, below_alloc (Below.refl _ _) _⟩
  · obtain rfl : (31 : Int) = r := by simpa [date_length.f, daysL] using h
    clear h
    go_enter Try.func58, Try.ntmps58
    go_wp2
    go_ret
    exact ⟨rfl, below_alloc (Below.refl _ _) _⟩
  · obtain rfl : (30 : Int) = r := by simpa [date_length.f, daysL] using h
    clear h
    go_enter Try.func58, Try.ntmps58
    go_wp2
    go_ret
    exact ⟨rfl, below_alloc (Below.refl _ _) _⟩
  · obtain rfl : (31 : Int) = r := by simpa [date_length.f, daysL] using h
    clear h
    go_enter Try.func58, Try.ntmps58
    go_wp2
    go_ret
    exact ⟨rfl, below_alloc (Below.refl _ _) _⟩
  · obtain rfl : (31 : Int) = r := by simpa [date_length.f, daysL] using h
    clear h
    go_enter Try.func58, Try.ntmps58
    go_wp2
    go_ret
    exact ⟨rfl, below_alloc (Below.refl _ _) _⟩
  · obtain rfl : (30 : Int) = r := by simpa [date_length.f, daysL] using h
    clear h
    go_enter Try.func58, Try.ntmps58
    go_wp2
    go_ret
    exact ⟨rfl, below_alloc (Below.refl _ _) _⟩
  · obtain rfl : (31 : Int) = r := by simpa [date_length.f, daysL] using h
    clear h
    go_enter Try.func58, Try.ntmps58
    go_wp2
    go_ret
    exact ⟨rfl, below_alloc (Below.refl _ _) _⟩
  · obtain rfl : (30 : Int) = r := by simpa [date_length.f, daysL] using h
    clear h
    go_enter Try.func58, Try.ntmps58
    go_wp2
    go_ret
    exact ⟨rfl, below_alloc (Below.refl _ _) _⟩
  · obtain rfl : (31 : Int) = r := by simpa [date_length.f, daysL] using h
    clear h
    go_enter Try.func58, Try.ntmps58
    go_wp2
    go_ret
    exact ⟨rfl, below_alloc (Below.refl _ _) _⟩

end Go.Proofs.Ytajephmamebcgaa.K
