-- Made by wip/tools/ext.py (this project's) over the kit's print, with external functions' contracts by hand. Not trusted: Lean checks it.
import Derived.Test.YtajephmamebcgaaKx0
namespace Go.Proofs.Ytajephmamebcgaa.K
open Go.RowKit Go.Proofs.YtajephmamebcgaaW.PrintWords Go.Proofs.YtajephmamebcgaaW.PrintLast Go.Proofs.YtajephmamebcgaaW.PrintMore
attribute [local go_sem] max2_int min2_int max_two min_two max_three min_three max_four min_four   -- for this text's walks alone
set_option linter.unusedVariables false
set_option linter.unusedSimpArgs false

-- EXT: slices_Concat_int_int (this project's own)
/-! ### slices_Concat_int_int: function 61 -/
set_option maxHeartbeats 4000000 in
set_option maxRecDepth 100000 in
/-- slices.Grow of nil: a new row without elements; or nil itself. -/
theorem slices_Concat_int_int.grow (n : Nat) (w0 w : World) (hn : n < 17592186044416) (hB : Below w0.heap.size w0 w) :
    Calls Try.prog 69 #[.slice none 0 0, .int .i64 n] w fun e w' => ∃ v : Value, e = .returned v ∧ Kd.R (Kd.int .i64) 3 w' w0.heap.size (fun _ => True) v [] ∧ Below w0.heap.size w0 w' := by
  obtain ⟨i3, hi3, hz3, hs3, hb3⟩ : ∃ i, Try.prog.info? 3 = some i ∧ i.zero = some (.int .i64 0) ∧ i.size = 1 ∧ i.bytes = 8 := by
    have h := info3
    cases hi : Try.prog.info? 3 with
    | none => rw [hi] at h; cases h
    | some i =>
      rw [hi] at h
      have h' := Option.some.inj h
      exact ⟨i, rfl, congrArg Prod.fst h', congrArg (fun p => p.2.1) h', congrArg (fun p => p.2.2) h'⟩
  have h1 : ¬ ((n : Int) < 0) := by omega
  have h2 : wrap64 ((0 : Int) - (0 : Int)) = 0 := by unfold wrap64; omega
  have h3 : wrap64 ((n : Int) - 0) = (n : Int) := by unfold wrap64; omega
  by_cases h0 : n = 0
  · subst h0
    have hB' := Aside0.mk hB
    clear hB
    go_enter Try.func69, Try.ntmps69
    go_wp2
    go_ret
    exact ⟨_, rfl, Kd.R_nil _ _ _ _ _, hB'.out⟩
  · have h4 : (n : Int) > 0 := by omega
    have hrz : ∀ ty, (Builtin.append_ #[22, 3] ty #[.slice none 0 0, .int .i64 (n : Int)]).run Try.prog w =
        .ok (.slice (some ⟨w.heap.size, 0, none⟩) n (grownCap w n 0 3)) (w.drew.alloc (.cells (#[] ++ Builtin.zeroCells (Value.int .i64 0).cells n ++ Builtin.zeroCells (Value.int .i64 0).cells (grownCap w n 0 3 - n)) 3)) := fun ty => by
      have h := Lib.run_append_grow_zeros w 22 3 ty 3 i3 (.int .i64 0) .i64 .i64 Try.underlying22 Try.underlying3 hi3 hz3 none 0 0 [] (run_firstCells_none _ _ _ _ _) n (by omega) (by omega) (by omega) (by omega) (by rw [hb3]; omega)
        (by rw [Nat.zero_add]; exact growslice_fits (by omega) (by rw [hb3]; omega))
      simp only [Nat.zero_add] at h
      exact h
    have hGn : n ≤ grownCap w n 0 3 := grownCap_ge w _ _ _
    have hG63 : grownCap w n 0 3 ≤ maxLen := grownCap_le_maxLen w n 0 3 (by unfold maxLen; omega)
    obtain ⟨G, hG⟩ : ∃ G, G = grownCap w n 0 3 := ⟨_, rfl⟩
    rw [← hG] at hrz hGn hG63
    have hG9 : G ≤ 9223372036854775807 := by unfold maxLen at hG63; omega
    have hsz : (#[] ++ Builtin.zeroCells (Value.int .i64 0).cells n ++ Builtin.zeroCells (Value.int .i64 0).cells (G - n)).size = G := by
      simp [Builtin.zeroCells, Value.cells]; omega
    obtain ⟨cur, hcur⟩ : ∃ cur, cur = #[] ++ Builtin.zeroCells (Value.int .i64 0).cells n ++ Builtin.zeroCells (Value.int .i64 0).cells (G - n) := ⟨_, rfl⟩
    rw [← hcur] at hrz hsz
    have hB' := Aside0.mk hB
    have HS := Aside0.mk hsz
    clear hB hG hcur hsz hi3 hz3 hs3 hb3
    go_enter Try.func69, Try.ntmps69
    go_wp2_with (at_builtin; refine Lib.wpList_append_run _ rfl _ _ _ _ rfl _ _ rfl rfl _ _ (hrz _) ?_)
    all_goals
      go_ret
      refine ⟨_, rfl, Kd.R_of_own ⟨by simp [encs], .inr ⟨w.heap.size, G, cur, rfl, hB'.out.size, blk_new _ _, Nat.zero_le _, hG63, ?_, by simp [encs]⟩⟩ (fun _ _ => trivial), below_alloc (below_drew1 hB'.out) _⟩
      rw [HS.out, Nat.mul_one]
def slices_Concat_int_int.f (l0 : List (List Int)) : Option (List Int) := if l0.flatten.length < 17592186044416 then some l0.flatten else none
theorem flat_take (l : List (List Int)) (k : Nat) (h : k < l.length) : (l.take (k + 1)).flatten = (l.take k).flatten ++ rd_L1 l (k : Int) := by
  rw [List.take_succ_eq_append_getElem h, List.flatten_append]
  simp [rd_L1, List.getD_eq_getElem?_getD, List.getElem?_eq_getElem h]
theorem flat_le (l : List (List Int)) (k : Nat) : (l.take k).flatten.length ≤ l.flatten.length := by
  have h : l.flatten = (l.take k).flatten ++ (l.drop k).flatten := by rw [← List.flatten_append, List.take_append_drop]
  rw [h, List.length_append]; omega
set_option maxHeartbeats 4000000 in
set_option maxRecDepth 100000 in
theorem slices_Concat_int_int.calls (A0 : Option Addr) (c0 : Nat) (l0 : List (List Int)) (r : List Int) (w : World) (hr0 : Kd.C (Kd.slice 3 (Kd.int .i64)) w A0 l0.length l0) (hc0 : l0.length ≤ c0) (h : slices_Concat_int_int.f l0 = some r) :
    Calls Try.prog 61 #[.slice A0 l0.length c0] w fun e w' => ∃ v0_ : Value, e = .returned (v0_) ∧ Kd.R (Kd.int .i64) 3 w' w.heap.size (fun _ => True) v0_ r ∧ Below w.heap.size w w' := by
  unfold slices_Concat_int_int.f at h
  by_cases hlen : l0.flatten.length < 17592186044416
  case neg => rw [if_neg hlen] at h; cases h
  rw [if_pos hlen] at h
  obtain rfl := Option.some.inj h
  clear h
  have HR0 := Aside0.mk hr0
  have hmax := hr0.2.1
  have HLEN := Aside0.mk hlen
  clear hr0 hlen
  go_enter Try.func61, Try.ntmps61
  go_wp2
  go_loopg [3, 5, 11] l0.length (fun gg s3 _ s11 wr => ∃ (kk S : Nat), s11 = .int .i64 kk ∧ s3 = .int .i64 S ∧ Aside0 (S = (l0.take kk).flatten.length) ∧ Aside0 (kk ≤ l0.length) ∧ Aside0 (l0.length - kk ≤ gg) ∧ Aside0 (Below w.heap.size w wr))
  case atStart => exact ⟨0, 0, rfl, rfl, ⟨rfl⟩, ⟨Nat.zero_le _⟩, ⟨Nat.le_refl _⟩, ⟨Below.refl _ w⟩⟩
  case round =>
    obtain ⟨kk, S, rfl, rfl, HS, hkk, hg, HB⟩ := hrel
    by_cases hlt : kk < l0.length
    · have hltz : decide ((kk : Int) < (l0.length : Int)) = true := decide_eq_true (by omega)
      obtain ⟨ad, A1, c1, e1, hx0, hle, hC⟩ := at_L1 HR0.out (kk : Int) (by omega) (by omega)
      cases e1
      simp only [Int.toNat_natCast] at hx0
      replace hx0 := (HB.out.cell (World.block_lt_of_cell? w _ hx0)).trans hx0
      have p1 : (0 ≤ (kk : Int)) = True := eq_true (by omega)
      have q1 : ((kk : Int) < (l0.length : Int)) = True := eq_true (by omega)
      have h1 := flat_take l0 kk hlt
      have h2 := flat_le l0 (kk + 1)
      have h3 := HLEN.out
      obtain ⟨S2, hS2⟩ : ∃ S2 : Nat, S2 = S + (rd_L1 l0 (kk : Int)).length := ⟨_, rfl⟩
      have h4 : S2 = (l0.take (kk + 1)).flatten.length := by rw [h1, List.length_append, hS2, HS.out]
      have hw : wrap64 ((S : Int) + ((rd_L1 l0 (kk : Int)).length : Int)) = (S2 : Int) := by unfold wrap64; omega
      have hneg : decide ((S2 : Int) < 0) = false := decide_eq_false (by omega)
      have H4 := Aside0.mk h4
      clear h1 h2 h3 h4 hS2 hle hC
      go_wp2
      go_roundg (l0.length - (kk + 1))
      case measure => have := hg.out; omega
      case rel => exact ⟨kk + 1, S2, by go_num, by rw [hw], H4, ⟨hlt⟩, ⟨Nat.le_refl _⟩, HB⟩
    · have hltz : decide ((kk : Int) < (l0.length : Int)) = false := decide_eq_false (by omega)
      have hS : S < 17592186044416 := by have h1 := flat_le l0 kk; have h2 := HLEN.out; have h3 := HS.out; omega
      clear HS
      go_wp2_with (go_at_call 69; refine (slices_Concat_int_int.grow S w _ hS HB.out).mono ?_; rintro e w' ⟨v6, rfl, ho6, hb6⟩; have HO6 := Aside0.mk ho6; have HB6 := Aside0.mk hb6; clear ho6 hb6)
      clear hg hkk hltz
      go_loopg [6, 8, 27] l0.length (fun gg v6 _ s27 wr => ∃ (kk : Nat) (xs : List Int), s27 = .int .i64 kk ∧ Aside0 (xs = (l0.take kk).flatten) ∧ Aside0 (Kd.R (Kd.int .i64) 3 wr w.heap.size (fun _ => True) v6 xs) ∧ Aside0 (kk ≤ l0.length) ∧ Aside0 (l0.length - kk ≤ gg) ∧ Aside0 (Below w.heap.size w wr))
      case atStart => exact ⟨0, [], rfl, ⟨rfl⟩, HO6, ⟨Nat.zero_le _⟩, ⟨Nat.le_refl _⟩, HB6⟩
      case round =>
        clear HO6 HB6 HB
        obtain ⟨kj, xs, rfl, HX, HO, hkk, hg, HB⟩ := hrel
        by_cases hlt : kj < l0.length
        · have hltz : decide ((kj : Int) < (l0.length : Int)) = true := decide_eq_true (by omega)
          obtain ⟨ad, A1, c1, e1, hx0, hle, hC⟩ := at_L1 HR0.out (kj : Int) (by omega) (by omega)
          cases e1
          simp only [Int.toNat_natCast] at hx0
          replace hx0 := (HB.out.cell (World.block_lt_of_cell? w _ hx0)).trans hx0
          have p1 : (0 ≤ (kj : Int)) = True := eq_true (by omega)
          have q1 : ((kj : Int) < (l0.length : Int)) = True := eq_true (by omega)
          have h1 := flat_take l0 kj hlt
          have h2 := flat_le l0 (kj + 1)
          have h3 := HLEN.out
          have hal : xs.length + (rd_L1 l0 (kj : Int)).length < 17592186044416 := by rw [h1, List.length_append] at h2; rw [HX.out]; omega
          have H4 : Aside0 (xs ++ rd_L1 l0 (kj : Int) = (l0.take (kj + 1)).flatten) := ⟨by rw [h1, HX.out]⟩
          have HAL := Aside0.mk hal
          have HC1 := Aside0.mk hC
          clear h1 h2 h3 hle hC hal
          go_wp2_with ((with_reducible refine gate_builtin (b := .append) (xs := #[.tmp 31, .tmp 32]) rfl ?_); (try (refine gate_guard (by rfl) ?_; dsimp only)); at_builtin; refine Kd.R_append_rows (Kd.int .i64) (w0 := w) w.heap.size rfl (.tmp 31) (.tmp 32) 22 3 (.int .i64 0) 8 rfl Try.underlying22 info3 rfl (by decide) (by omega) _ xs (rd_L1 l0 (kj : Int)) _ _ _ (fun _ => True) (fun _ => False) rfl rfl ?aO ?aR (fun _ _ h => h) (fun _ h => h.elim) ?aF ?aB ?aS ?aL ?_; (case aR => exact Kd.C_below HC1.out HB.out); (case aB => exact HB.out); (case aF => exact (fun _ _ => trivial)); (case aO => exact HO.out); (case aS => exact below_size HB.out); (case aL => have := HAL.out; omega); intro v7 w7 ho hb hg_ hat_; have HO7 := Aside0.mk ho; have HB7 := Aside0.mk hb; clear ho hb hg_ hat_)
          go_roundg (l0.length - (kj + 1))
          case measure => have := hg.out; omega
          case rel => exact ⟨kj + 1, xs ++ rd_L1 l0 (kj : Int), by go_num, H4, HO7, ⟨hlt⟩, ⟨Nat.le_refl _⟩, HB7⟩
        · have hltz : decide ((kj : Int) < (l0.length : Int)) = false := decide_eq_false (by omega)
          go_wp2
          go_ret
          have hxs : xs = l0.flatten := by rw [HX.out, List.take_of_length_le (by omega)]
          exact ⟨_, rfl, hxs ▸ HO.out, HB.out⟩

end Go.Proofs.Ytajephmamebcgaa.K
