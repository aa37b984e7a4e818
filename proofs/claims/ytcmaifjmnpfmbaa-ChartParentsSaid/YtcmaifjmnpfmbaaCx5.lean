-- Made by wip/tools/ext.py (this project's) over the kit's print, with external functions' contracts by hand. Not trusted: Lean checks it.
import Derived.Test.YtcmaifjmnpfmbaaCx0
namespace Go.Proofs.Ytcmaifjmnpfmbaa.C
open Go.RowKit Go.Proofs.YtcmaifjmnpfmbaaW.PrintWords Go.Proofs.YtcmaifjmnpfmbaaW.PrintLast Go.Proofs.YtcmaifjmnpfmbaaW.PrintMore
attribute [local go_sem] max2_int min2_int max_two min_two max_three min_three max_four min_four   -- for this text's walks alone
set_option linter.unusedVariables false
set_option linter.unusedSimpArgs false

-- EXT: chart_parent (this project's own)
/-! ### chart_parent: function 63 -/
/-- The first place, from i on, at which p holds. -/
def idxFrom {α : Type} (p : α → Bool) : List α → Nat → Int
  | [], _ => -1
  | x :: xs, i => if p x then (i : Int) else idxFrom p xs (i + 1)
theorem idxFrom_at {α : Type} (p : α → Bool) (l : List α) (i : Nat) (z : α) (h : i < l.length) : idxFrom p (l.drop i) i = if p (l.getD i z) then (i : Int) else idxFrom p (l.drop (i + 1)) (i + 1) := by
  rw [List.drop_eq_getElem_cons h, idxFrom, List.getD_eq_getElem?_getD, List.getElem?_eq_getElem h]
  rfl
theorem idxFrom_end {α : Type} (p : α → Bool) (l : List α) (i : Nat) (h : l.length ≤ i) : idxFrom p (l.drop i) i = -1 := by
  rw [List.drop_of_length_le h]; rfl
theorem idxFrom_any {α : Type} (p : α → Bool) : ∀ (l : List α) (i : Nat), decide (0 ≤ idxFrom p l i) = l.any p
  | [], _ => rfl
  | x :: xs, i => by
    rw [idxFrom, List.any_cons]
    cases p x with
    | true => simp
    | false => simpa using idxFrom_any p xs (i + 1)
def chart_parent.f (l0 : List (S62)) (a1 : Int) : Option (Bool) := some (l0.any fun g => g.f1 == a1)
set_option maxHeartbeats 2000000 in
set_option maxRecDepth 100000 in
theorem chart_parent.lit (B : Nat) (a1 : Int) (x : S62) (w : World) (hB : w.heap[B]? = some (.cells #[.int .i64 a1] 3 (0, 0))) :
    Calls Try.prog 80 #[.agg #[.int .i64 x.f0, .int .i64 x.f1, .int .i64 x.f2, .string x.f3], .pointer (some ⟨B, 0, none⟩)] w fun e w' => e = .returned (.bool (x.f1 == a1)) ∧ Below w.heap.size w w' := by
  have hc : w.cell? ⟨B, 0, none⟩ = some (.int .i64 a1) := blk_cell hB 0
  have hlt : B < w.heap.size := blk_lt hB
  clear hB
  go_enter Try.func80, Try.ntmps80
  go_wp2
  go_ret
  exact ⟨rfl, below_alloc (Below.refl _ _) _⟩
set_option maxHeartbeats 2000000 in
set_option maxRecDepth 100000 in
theorem chart_parent.idx (A0 : Option Addr) (c0 : Nat) (l0 : List (S62)) (a1 : Int) (B : Nat) (w : World) (hr0 : Kd.C k62 w A0 l0.length l0) (hc0 : l0.length ≤ c0) (hB : w.heap[B]? = some (.cells #[.int .i64 a1] 3 (0, 0))) :
    Calls Try.prog 90 #[.slice A0 l0.length c0, .func (.func 80) #[] #[.pointer (some ⟨B, 0, none⟩)]] w fun e w' => e = .returned (.int .i64 (idxFrom (fun g : S62 => g.f1 == a1) l0 0)) ∧ Below w.heap.size w w' := by
  have hu62 := Try.underlying62
  have HR0 := Aside0.mk hr0
  have hmax := hr0.2.1
  have HBk := Aside0.mk hB
  clear hr0 hB
  have eg : ∀ args w, (callFunc 80 args).run Try.prog w = .ok (.enter 80 args) w := enters_of Try.func80 (by kernel_rfl) rfl
  go_enter Try.func90, Try.ntmps90
  go_wp2
  go_loopg [5, 8] l0.length (fun gg _ s8 wr => ∃ kk : Nat, s8 = .int .i64 kk ∧ Aside0 (kk ≤ l0.length) ∧ Aside0 (l0.length - kk ≤ gg) ∧ Aside0 (Below w.heap.size w wr) ∧ Aside0 (idxFrom (fun g : S62 => g.f1 == a1) (l0.drop kk) kk = idxFrom (fun g : S62 => g.f1 == a1) l0 0))
  case atStart => exact ⟨0, rfl, ⟨Nat.zero_le _⟩, ⟨Nat.le_refl _⟩, ⟨Below.refl _ w⟩, ⟨rfl⟩⟩
  case round =>
    obtain ⟨kk, rfl, hkk, hg, HB, HI⟩ := hrel
    by_cases hlt : kk < l0.length
    · have hltz : decide ((kk : Int) < (l0.length : Int)) = true := decide_eq_true (by omega)
      obtain ⟨ad, e1, hx0, hx1, hx2, hx3⟩ := at_T62 HR0.out (kk : Int) (by omega) (by omega)
      cases e1
      simp only [Int.toNat_natCast] at hx0 hx1 hx2 hx3
      replace hx0 := (HB.out.cell (World.block_lt_of_cell? w _ hx0)).trans hx0
      replace hx1 := (HB.out.cell (World.block_lt_of_cell? w _ hx1)).trans hx1
      replace hx2 := (HB.out.cell (World.block_lt_of_cell? w _ hx2)).trans hx2
      replace hx3 := (HB.out.cell (World.block_lt_of_cell? w _ hx3)).trans hx3
      have p1 : (0 ≤ (kk : Int)) = True := eq_true (by omega)
      have q1 : ((kk : Int) < (l0.length : Int)) = True := eq_true (by omega)
      have hcall := chart_parent.lit B a1 (rd_T62 l0 (kk : Int)) wr (blk_below HBk.out HB.out)
      have hstep := idxFrom_at (fun g : S62 => g.f1 == a1) l0 kk z62 hlt
      have hrd : l0.getD kk z62 = rd_T62 l0 (kk : Int) := rfl
      rw [hrd] at hstep
      have HS := Aside0.mk hstep
      clear hstep hrd
      cases hq : ((rd_T62 l0 (kk : Int)).f1 == a1) with
      | true =>
        rw [hq] at hcall
        have HQ := Aside0.mk hq
        clear hq
        go_wp2_with (go_at_fn 80; refine hcall.mono ?_; rintro e w' ⟨rfl, hb'⟩)
        go_ret
        refine ⟨?_, below_step HB.out hb'⟩
        rw [← HI.out, HS.out, if_pos HQ.out]; rfl
      | false =>
        rw [hq] at hcall
        have HQ := Aside0.mk hq
        clear hq
        go_wp2_with (go_at_fn 80; refine hcall.mono ?_; rintro e w' ⟨rfl, hb'⟩)
        go_roundg (l0.length - (kk + 1))
        case measure => have := hg.out; omega
        case rel =>
          refine ⟨kk + 1, by go_num, ⟨hlt⟩, ⟨Nat.le_refl _⟩, ⟨below_step HB.out hb'⟩, ⟨?_⟩⟩
          rw [← HI.out, HS.out, HQ.out]; rfl
    · have hltz : decide ((kk : Int) < (l0.length : Int)) = false := decide_eq_false (by omega)
      go_wp2
      go_ret
      exact ⟨by rw [← HI.out, idxFrom_end _ _ _ (by omega)]; rfl, HB.out⟩
set_option maxHeartbeats 2000000 in
set_option maxRecDepth 100000 in
theorem chart_parent.calls (A0 : Option Addr) (c0 : Nat) (l0 : List (S62)) (a1 : Int) (r : Bool) (w : World) (hr0 : Kd.C k62 w A0 l0.length l0) (hc0 : l0.length ≤ c0) (h : chart_parent.f l0 a1 = some r) :
    Calls Try.prog 63 #[.slice A0 l0.length c0, .int .i64 a1] w fun e w' => e = .returned (.bool r) ∧ Below w.heap.size w w' := by
  have HR0 := Aside0.mk hr0
  obtain rfl := Option.some.inj h
  clear hr0 h
  have hcall := chart_parent.idx A0 c0 l0 a1 w.heap.size (w.alloc (.cells #[.int .i64 a1] 3)) (Kd.C_below HR0.out (below_alloc (Below.refl _ _) _)) hc0 (blk_new _ _)
  have e90 : ∀ args w, (callFunc 90 args).run Try.prog w = .ok (.enter 90 args) w := enters_of Try.func90 (by kernel_rfl) rfl
  go_enter Try.func63, Try.ntmps63
  go_wp2_with (first | (go_at_call 79; go_in) | (go_at_call 90; refine hcall.mono ?_; rintro e w' ⟨rfl, hb'⟩))
  go_ret
  refine ⟨?_, below_step (below_alloc (Below.refl _ _) _) hb'⟩
  rw [← idxFrom_any _ l0 0]; rfl

end Go.Proofs.Ytcmaifjmnpfmbaa.C
