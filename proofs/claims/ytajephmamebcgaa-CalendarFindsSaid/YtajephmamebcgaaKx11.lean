-- Made by wip/tools/ext.py (this project's) over the kit's print, with external functions' contracts by hand. Not trusted: Lean checks it.
import Derived.Test.YtajephmamebcgaaKx0
import Derived.Test.YtajephmamebcgaaKx10
namespace Go.Proofs.Ytajephmamebcgaa.K
open Go.RowKit Go.Proofs.YtajephmamebcgaaW.PrintWords Go.Proofs.YtajephmamebcgaaW.PrintLast Go.Proofs.YtajephmamebcgaaW.PrintMore
attribute [local go_sem] max2_int min2_int max_two min_two max_three min_three max_four min_four   -- for this text's walks alone
set_option linter.unusedVariables false
set_option linter.unusedSimpArgs false

-- EXT: slices_Compact_int_int (this project's own)
/-! ### slices_Compact_int_int: function 63 -/
def slices_Compact_int_int.f (l0 : List Int) : Option (List Int) := some (Lib.compact l0)
set_option maxHeartbeats 2000000 in
set_option maxRecDepth 100000 in
theorem slices_Compact_int_int.calls (P0_ : Nat → Prop) (u9000_ : Value) (l0 : List Int) (r : List Int) (w0 w : World) (hB : Below w0.heap.size w0 w) (ho0 : Kd.R (Kd.int .i64) 3 w w0.heap.size P0_ u9000_ l0) (h : slices_Compact_int_int.f l0 = some r) :
    Calls Try.prog 63 #[u9000_] w fun e w' => ∃ v0_ : Value, e = .returned (v0_) ∧ Kd.R (Kd.int .i64) 3 w' w0.heap.size (fun k_ => (P0_ k_ ∨ w.heap.size ≤ k_)) v0_ r ∧ Below w0.heap.size w0 w' ∧ Kept w w' (fun k_ => P0_ k_) := by
  obtain rfl := Option.some.inj h
  clear h
  obtain ⟨A, c, rfl⟩ := Kd.R_slice ho0
  rcases l0 with _ | ⟨x, l0⟩
  · refine (Try.slices_Compact_int_empty A c w).mono ?_
    rintro e w' ⟨rfl, rfl⟩
    exact ⟨_, rfl, Kd.R_mono (by simpa [Lib.compact, Lib.compactUpTo] using ho0) (fun _ hk => .inl hk), hB, Kept.refl _ _⟩
  · obtain ⟨g, cap, hv, hg⟩ := Kd.R_form ho0 (by simp)
    injection hv with h1 h2 h3
    subst h1 h3
    obtain ⟨hH, hlt, hn, hcap, hmax, hb, hok⟩ := put_holds ho0
    refine (Try.slices_Compact_int g 0 c (x :: l0) w hH hmax hcap).mono ?_
    rintro e w' ⟨rfl, q, rfl⟩
    have hle : (Lib.compact (x :: l0)).length ≤ (x :: l0).length := Lib.compact_length_le _
    have hl : (Lib.compact (x :: l0) ++ List.replicate ((x :: l0).length - (Lib.compact (x :: l0)).length) 0).length = (x :: l0).length := by rw [List.length_append, List.length_replicate]; omega
    have hr := put_R (q := q) (os := #[]) ho0 hl hle
    rw [List.take_left, Sort.grow_empty] at hr
    have hk := put_kept (w := w) (g := g) (q := q) (os := #[]) (ys := Lib.compact (x :: l0) ++ List.replicate ((x :: l0).length - (Lib.compact (x :: l0)).length) 0) (S := fun k_ => P0_ k_) hok
    have hbl := put_below (g := g) (q := q) (os := #[]) (ys := Lib.compact (x :: l0) ++ List.replicate ((x :: l0).length - (Lib.compact (x :: l0)).length) 0) hB hb
    rw [Sort.grow_empty] at hk hbl
    exact ⟨_, rfl, Kd.R_mono hr (fun _ hk => .inl hk), hbl, hk⟩

end Go.Proofs.Ytajephmamebcgaa.K
