-- Made by wip/tools/ext.py (this project's) over the kit's print, with external functions' contracts by hand. Not trusted: Lean checks it.
import Derived.Test.YtajephmamebcgaaKx0
namespace Go.Proofs.Ytajephmamebcgaa.K
open Go.RowKit Go.Proofs.YtajephmamebcgaaW.PrintWords Go.Proofs.YtajephmamebcgaaW.PrintLast Go.Proofs.YtajephmamebcgaaW.PrintMore
attribute [local go_sem] max2_int min2_int max_two min_two max_three min_three max_four min_four   -- for this text's walks alone
set_option linter.unusedVariables false
set_option linter.unusedSimpArgs false

-- EXT: calendar_within (this project's own)
/-! ### calendar_within: function 34 -/
/-- The first place, from i on, at which p holds. -/
def idxFrom {α : Type} (p : α → Bool) : List α → Nat → Int
  | [], _ => -1
  | x :: xs, i => if p x then (i : Int) else idxFrom p xs (i + 1)
theorem idxFrom_at {α : Type} (p : α → Bool) (l : List α) (i : Nat) (z : α) (h : i < l.length) : idxFrom p (l.drop i) i = if p (l.getD i z) then (i : Int) else idxFrom p (l.drop (i + 1)) (i + 1) := by
  rw [List.drop_eq_getElem_cons h, idxFrom, List.getD_eq_getElem?_getD, List.getElem?_eq_getElem h]
  rfl
theorem idxFrom_end {α : Type} (p : α → Bool) (l : List α) (i : Nat) (h : l.length ≤ i) : idxFrom p (l.drop i) i = -1 := by
  rw [List.drop_of_length_le h]; rfl
theorem idxFrom_any {α : Type} (p : α → Bool) : ∀ (l : List α) (i : Nat), decide (0 ≤ idxFrom p l i) = l.any p
  | [], _ => rfl
  | x :: xs, i => by
    rw [idxFrom, List.any_cons]
    cases p x with
    | true => simp
    | false => simpa using idxFrom_any p xs (i + 1)
def outQ (lo hi n : Int) : Bool := decide (n < lo) || decide (n > hi)
def calendar_within.f (l0 : List Int) (a1 : Int) (a2 : Int) : Option (Bool) := some (!(l0.any (outQ a1 a2)))
set_option maxHeartbeats 2000000 in
set_option maxRecDepth 100000 in
theorem calendar_within.lit (B1 B2 : Nat) (a1 a2 x : Int) (w : World) (hB1 : w.heap[B1]? = some (.cells #[.int .i64 a1] 3 (0, 0))) (hB2 : w.heap[B2]? = some (.cells #[.int .i64 a2] 3 (0, 0))) :
    Calls Try.prog 55 #[.int .i64 x, .pointer (some ⟨B1, 0, none⟩), .pointer (some ⟨B2, 0, none⟩)] w fun e w' => e = .returned (.bool (outQ a1 a2 x)) ∧ Below w.heap.size w w' := by
  have hc1 : w.cell? ⟨B1, 0, none⟩ = some (.int .i64 a1) := blk_cell hB1 0
  have hc2 : w.cell? ⟨B2, 0, none⟩ = some (.int .i64 a2) := blk_cell hB2 0
  have hlt1 : B1 < w.heap.size := blk_lt hB1
  have hlt2 : B2 < w.heap.size := blk_lt hB2
  clear hB1 hB2
  by_cases c1 : x < a1
  · have c1b : decide (x < a1) = true := decide_eq_true c1
    clear c1
    go_enter Try.func55, Try.ntmps55
    go_wp2
    go_ret
    exact ⟨by simp [outQ, c1b], Below.refl _ _⟩
  · have c1b : decide (x < a1) = false := decide_eq_false c1
    clear c1
    go_enter Try.func55, Try.ntmps55
    go_wp2
    go_ret
    exact ⟨by simp [outQ, c1b], Below.refl _ _⟩
set_option maxHeartbeats 2000000 in
set_option maxRecDepth 100000 in
theorem calendar_within.idx (A0 : Option Addr) (c0 : Nat) (l0 : List Int) (a1 a2 : Int) (B1 B2 : Nat) (w : World) (hr0 : Kd.C (Kd.int .i64) w A0 l0.length l0) (hc0 : l0.length ≤ c0) (hB1 : w.heap[B1]? = some (.cells #[.int .i64 a1] 3 (0, 0))) (hB2 : w.heap[B2]? = some (.cells #[.int .i64 a2] 3 (0, 0))) :
    Calls Try.prog 64 #[.slice A0 l0.length c0, .func (.func 55) #[] #[.pointer (some ⟨B1, 0, none⟩), .pointer (some ⟨B2, 0, none⟩)]] w fun e w' => e = .returned (.int .i64 (idxFrom (outQ a1 a2) l0 0)) ∧ Below w.heap.size w w' := by
  have HR0 := Aside0.mk hr0
  have hmax := hr0.2.1
  have HB1 := Aside0.mk hB1
  have HB2 := Aside0.mk hB2
  clear hr0 hB1 hB2
  have eg : ∀ args w, (callFunc 55 args).run Try.prog w = .ok (.enter 55 args) w := enters_of Try.func55 (by kernel_rfl) rfl
  go_enter Try.func64, Try.ntmps64
  go_wp2
  go_loopg [5, 8] l0.length (fun gg _ s8 wr => ∃ kk : Nat, s8 = .int .i64 kk ∧ Aside0 (kk ≤ l0.length) ∧ Aside0 (l0.length - kk ≤ gg) ∧ Aside0 (Below w.heap.size w wr) ∧ Aside0 (idxFrom (outQ a1 a2) (l0.drop kk) kk = idxFrom (outQ a1 a2) l0 0))
  case atStart => exact ⟨0, rfl, ⟨Nat.zero_le _⟩, ⟨Nat.le_refl _⟩, ⟨Below.refl _ w⟩, ⟨rfl⟩⟩
  case round =>
    obtain ⟨kk, rfl, hkk, hg, HB, HI⟩ := hrel
    by_cases hlt : kk < l0.length
    · have hltz : decide ((kk : Int) < (l0.length : Int)) = true := decide_eq_true (by omega)
      obtain ⟨ad, e1, hx0⟩ := Kd.at_int HR0.out (kk : Int) (by omega) (by omega)
      cases e1
      simp only [Int.toNat_natCast] at hx0
      replace hx0 := (HB.out.cell (World.block_lt_of_cell? w _ hx0)).trans hx0
      have p1 : (0 ≤ (kk : Int)) = True := eq_true (by omega)
      have q1 : ((kk : Int) < (l0.length : Int)) = True := eq_true (by omega)
      have hcall := calendar_within.lit B1 B2 a1 a2 (rd l0 (kk : Int)) wr (blk_below HB1.out HB.out) (blk_below HB2.out HB.out)
      have hstep := idxFrom_at (outQ a1 a2) l0 kk 0 hlt
      have hrd : l0.getD kk 0 = rd l0 (kk : Int) := rfl
      rw [hrd] at hstep
      have HS := Aside0.mk hstep
      clear hstep hrd
      cases hq : outQ a1 a2 (rd l0 (kk : Int)) with
      | true =>
        rw [hq] at hcall
        have HQ := Aside0.mk hq
        clear hq
        go_wp2_with (go_at_fn 55; refine hcall.mono ?_; rintro e w' ⟨rfl, hb'⟩)
        go_ret
        refine ⟨?_, below_step HB.out hb'⟩
        rw [← HI.out, HS.out, if_pos HQ.out]; rfl
      | false =>
        rw [hq] at hcall
        have HQ := Aside0.mk hq
        clear hq
        go_wp2_with (go_at_fn 55; refine hcall.mono ?_; rintro e w' ⟨rfl, hb'⟩)
        go_roundg (l0.length - (kk + 1))
        case measure => have := hg.out; omega
        case rel =>
          refine ⟨kk + 1, by go_num, ⟨hlt⟩, ⟨Nat.le_refl _⟩, ⟨below_step HB.out hb'⟩, ⟨?_⟩⟩
          rw [← HI.out, HS.out, HQ.out]; rfl
    · have hltz : decide ((kk : Int) < (l0.length : Int)) = false := decide_eq_false (by omega)
      go_wp2
      go_ret
      exact ⟨by rw [← HI.out, idxFrom_end _ _ _ (by omega)]; rfl, HB.out⟩
set_option maxHeartbeats 2000000 in
set_option maxRecDepth 100000 in
theorem calendar_within.calls (A0 : Option Addr) (c0 : Nat) (l0 : List Int) (a1 : Int) (a2 : Int) (r : Bool) (w : World) (hr0 : Kd.C (Kd.int .i64) w A0 l0.length l0) (hc0 : l0.length ≤ c0) (h : calendar_within.f l0 a1 a2 = some r) :
    Calls Try.prog 34 #[.slice A0 l0.length c0, .int .i64 a1, .int .i64 a2] w fun e w' => e = .returned (.bool r) ∧ Below w.heap.size w w' := by
  have HR0 := Aside0.mk hr0
  obtain rfl := Option.some.inj h
  clear hr0 h
  have hb2 := below_alloc (below_alloc (Below.refl w.heap.size w) (.cells #[.int .i64 a1] 3)) (.cells #[.int .i64 a2] 3)
  have hcall := calendar_within.idx A0 c0 l0 a1 a2 w.heap.size (w.heap.size + 1) ((w.alloc (.cells #[.int .i64 a1] 3)).alloc (.cells #[.int .i64 a2] 3)) (Kd.C_below HR0.out hb2) hc0 (blk_alloc (blk_new _ _) _) (by have h := blk_new (w.alloc (.cells #[.int .i64 a1] 3)) (.cells #[.int .i64 a2] 3); rw [World.size_alloc w] at h; exact h)
  have HBB := Aside0.mk hb2
  clear hb2
  go_enter Try.func34, Try.ntmps34
  go_wp2_with (first | (go_at_call 54; go_in) | (go_at_call 64; refine hcall.mono ?_; rintro e w' ⟨rfl, hb'⟩))
  go_ret
  refine ⟨?_, below_step HBB.out hb'⟩
  rw [← idxFrom_any _ l0 0]; rfl

end Go.Proofs.Ytajephmamebcgaa.K
