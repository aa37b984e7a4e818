-- Made by wip/tools/ext.py (this project's) over the kit's print, with external functions' contracts by hand. Not trusted: Lean checks it.
import Derived.Test.YtcmaifjmnpfmbaaRx0
import Derived.Test.YtcmaifjmnpfmbaaRx7
import Derived.Test.YtcmaifjmnpfmbaaRx15
namespace Go.Proofs.Ytcmaifjmnpfmbaa.R
open Go.RowKit Go.Proofs.YtcmaifjmnpfmbaaW.PrintWords Go.Proofs.YtcmaifjmnpfmbaaW.PrintLast Go.Proofs.YtcmaifjmnpfmbaaW.PrintMore
attribute [local go_sem] max2_int min2_int max_two min_two max_three min_three max_four min_four   -- for this text's walks alone
set_option linter.unusedVariables false
set_option linter.unusedSimpArgs false
/-! ### report_belongs: function 76 -/
/-- The first root, from i on, below which an account stands. -/
def report_rootAt.l0 : Nat → List S62 → Int → List Int → Int → Option Int
  | 0, _, _, _, _ => none
  | k + 1, ch, o, l, i => if i < (l.length : Int) then (if 0 ≤ i then ((chart_Under.f k ch o (rd l i)).bind fun t => if t = true then some i else report_rootAt.l0 k ch o l (wrap64 (i + 1))) else none) else some (-1)
theorem report_rootAt.mono : ∀ (k : Nat) (ch : List S62) (o : Int) (l : List Int) (i : Int), LeO (report_rootAt.l0 k ch o l i) (report_rootAt.l0 (k + 1) ch o l i)
  | 0, _, _, _, _ => fun r h => by simp [report_rootAt.l0] at h
  | k + 1, ch, o, l, i => by
    have ih := report_rootAt.mono k
    unfold report_rootAt.l0
    refine LeO.ite ?_ (LeO.refl _)
    refine LeO.ite ?_ (LeO.refl _)
    refine LeO.bind (chart_Under.mono ch o _ k) (fun t => ?_)
    refine LeO.ite (LeO.refl _) ?_
    exact ih ch o l _
def report_belongs.f (k : Nat) (l0_0 : List (S97)) (l0_1 : List (S86)) (l0_2 : List (S62)) (a0_3 : Int) (a0_4 : Int) (a0_5 : Int) (a0_6 : Int) (a0_7 : Int) (a0_8 : Int) (a0_9 : Int) (a0_10 : Int) (a0_11 : Int) (a0_12 : Int) (a0_13 : Int) (a0_14 : Int) (a0_15 : Int) (a0_16 : Int) (l0_17 : List (S79)) (l0_18 : List (S90)) (l0_19 : List (S84)) (l0_20 : List (S119)) (l0_21 : List (S180)) (a1_0 : ByteArray) (a1_1 : Int) (l1_2 : List Int) (a2 : Int) : Option (Bool) :=
  (report_Owner.f k l0_0 l0_1 l0_2 a0_3 a0_4 a0_5 a0_6 a0_7 a0_8 a0_9 a0_10 a0_11 a0_12 a0_13 a0_14 a0_15 a0_16 l0_17 l0_18 l0_19 l0_20 l0_21 a2).bind fun o => if o = 0 then some false else ((report_rootAt.l0 k l0_2 o l1_2 0).bind fun i => some (decide (i ≥ 0)))
theorem report_belongs.mono : ∀ a0 a1 a2 a3 a4 a5 a6 a7 a8 a9 a10 a11 a12 a13 a14 a15 a16 a17 a18 a19 a20 a21 a22 a23 a24 a25 k, LeO (report_belongs.f k a0 a1 a2 a3 a4 a5 a6 a7 a8 a9 a10 a11 a12 a13 a14 a15 a16 a17 a18 a19 a20 a21 a22 a23 a24 a25) (report_belongs.f (k + 1) a0 a1 a2 a3 a4 a5 a6 a7 a8 a9 a10 a11 a12 a13 a14 a15 a16 a17 a18 a19 a20 a21 a22 a23 a24 a25) := by
  intro a0 a1 a2 a3 a4 a5 a6 a7 a8 a9 a10 a11 a12 a13 a14 a15 a16 a17 a18 a19 a20 a21 a22 a23 a24 a25 k
  unfold report_belongs.f
  refine LeO.bind (report_Owner.mono _ _ _ _ _ _ _ _ _ _ _ _ _ _ _ _ _ _ _ _ _ _ _ k) (fun o => ?_)
  refine LeO.ite (LeO.refl _) ?_
  exact LeO.bind (report_rootAt.mono k _ _ _ _) (fun i => LeO.refl _)
set_option maxHeartbeats 4000000 in
set_option maxRecDepth 100000 in
theorem report_belongs.lit (k : Nat) (B B2 : Nat) (A0_0 : Option Addr) (c0_0 : Nat) (l0_0 : List (S97)) (A0_1 : Option Addr) (c0_1 : Nat) (l0_1 : List (S86)) (A0_2 : Option Addr) (c0_2 : Nat) (l0_2 : List (S62)) (a0_3 : Int) (a0_4 : Int) (a0_5 : Int) (a0_6 : Int) (a0_7 : Int) (a0_8 : Int) (a0_9 : Int) (a0_10 : Int) (a0_11 : Int) (a0_12 : Int) (a0_13 : Int) (a0_14 : Int) (a0_15 : Int) (a0_16 : Int) (A0_17 : Option Addr) (c0_17 : Nat) (l0_17 : List (S79)) (A0_18 : Option Addr) (c0_18 : Nat) (l0_18 : List (S90)) (A0_19 : Option Addr) (c0_19 : Nat) (l0_19 : List (S84)) (A0_20 : Option Addr) (c0_20 : Nat) (l0_20 : List (S119)) (A0_21 : Option Addr) (c0_21 : Nat) (l0_21 : List (S180)) (o : Int) (a1 : Int) (r : Bool) (w : World) (hr : Kd.C k62 w A0_2 l0_2.length l0_2) (hc : l0_2.length ≤ c0_2)
    (hB : w.heap[B]? = some (.cells #[.slice A0_0 l0_0.length c0_0, .slice A0_1 l0_1.length c0_1, .slice A0_2 l0_2.length c0_2, .int .i64 a0_3, .int .i64 a0_4, .int .i64 a0_5, .int .i64 a0_6, .int .i64 a0_7, .int .i64 a0_8, .int .i64 a0_9, .int .i64 a0_10, .int .i64 a0_11, .int .i64 a0_12, .int .i64 a0_13, .int .i64 a0_14, .int .i64 a0_15, .int .i64 a0_16, .slice A0_17 l0_17.length c0_17, .slice A0_18 l0_18.length c0_18, .slice A0_19 l0_19.length c0_19, .slice A0_20 l0_20.length c0_20, .slice A0_21 l0_21.length c0_21] 33 (0, 0))) (hB2 : w.heap[B2]? = some (.cells #[.int .i64 o] 3 (0, 0))) (h : chart_Under.f k l0_2 o a1 = some r) :
    Calls Try.prog 89 #[.int .i64 a1, .pointer (some ⟨B, 0, none⟩), .pointer (some ⟨B2, 0, none⟩)] w fun e w' => e = .returned (.bool r) ∧ Below w.heap.size w w' := by
  have hcz : w.cell? ⟨B, 2, none⟩ = some (.slice A0_2 l0_2.length c0_2) := (blk_cell hB 2).trans rfl
  have hcz2 : w.cell? ⟨B2, 0, none⟩ = some (.int .i64 o) := blk_cell hB2 0
  have hlt2 : B2 < w.heap.size := blk_lt hB2
  have hcall := chart_Under.calls k A0_2 c0_2 l0_2 o a1 r w hr hc h
  clear hB hB2 hr h
  go_enter Try.func89, Try.ntmps89
  go_wp2_with (go_at_call 37; refine hcall.mono ?_; rintro e w' ⟨rfl, hb'⟩)
  go_ret
  exact ⟨rfl, hb'⟩
set_option maxHeartbeats 4000000 in
set_option maxRecDepth 100000 in
theorem report_belongs.idx (k : Nat) (B B2 : Nat) (A0_0 : Option Addr) (c0_0 : Nat) (l0_0 : List (S97)) (A0_1 : Option Addr) (c0_1 : Nat) (l0_1 : List (S86)) (A0_2 : Option Addr) (c0_2 : Nat) (l0_2 : List (S62)) (a0_3 : Int) (a0_4 : Int) (a0_5 : Int) (a0_6 : Int) (a0_7 : Int) (a0_8 : Int) (a0_9 : Int) (a0_10 : Int) (a0_11 : Int) (a0_12 : Int) (a0_13 : Int) (a0_14 : Int) (a0_15 : Int) (a0_16 : Int) (A0_17 : Option Addr) (c0_17 : Nat) (l0_17 : List (S79)) (A0_18 : Option Addr) (c0_18 : Nat) (l0_18 : List (S90)) (A0_19 : Option Addr) (c0_19 : Nat) (l0_19 : List (S84)) (A0_20 : Option Addr) (c0_20 : Nat) (l0_20 : List (S119)) (A0_21 : Option Addr) (c0_21 : Nat) (l0_21 : List (S180)) (o : Int) (A1 : Option Addr) (c1 : Nat) (l1 : List Int) (r : Int) (w : World) (hr : Kd.C k62 w A0_2 l0_2.length l0_2) (hc : l0_2.length ≤ c0_2) (hr1 : Kd.C (Kd.int .i64) w A1 l1.length l1) (hc1 : l1.length ≤ c1)
    (hB : w.heap[B]? = some (.cells #[.slice A0_0 l0_0.length c0_0, .slice A0_1 l0_1.length c0_1, .slice A0_2 l0_2.length c0_2, .int .i64 a0_3, .int .i64 a0_4, .int .i64 a0_5, .int .i64 a0_6, .int .i64 a0_7, .int .i64 a0_8, .int .i64 a0_9, .int .i64 a0_10, .int .i64 a0_11, .int .i64 a0_12, .int .i64 a0_13, .int .i64 a0_14, .int .i64 a0_15, .int .i64 a0_16, .slice A0_17 l0_17.length c0_17, .slice A0_18 l0_18.length c0_18, .slice A0_19 l0_19.length c0_19, .slice A0_20 l0_20.length c0_20, .slice A0_21 l0_21.length c0_21] 33 (0, 0))) (hB2 : w.heap[B2]? = some (.cells #[.int .i64 o] 3 (0, 0))) (h : report_rootAt.l0 k l0_2 o l1 0 = some r) :
    Calls Try.prog 102 #[.slice A1 l1.length c1, .func (.func 89) #[] #[.pointer (some ⟨B, 0, none⟩), .pointer (some ⟨B2, 0, none⟩)]] w fun e w' => e = .returned (.int .i64 r) ∧ Below w.heap.size w w' := by
  have HR := Aside0.mk hr
  have HC := Aside0.mk hc
  have HR1 := Aside0.mk hr1
  have HBk := Aside0.mk hB
  have HBk2 := Aside0.mk hB2
  have H' := Aside0.mk h
  clear hr hc hr1 hB hB2 h
  have eg : ∀ args w, (callFunc 89 args).run Try.prog w = .ok (.enter 89 args) w := enters_of Try.func89 (by kernel_rfl) rfl
  go_enter Try.func102, Try.ntmps102
  go_wp2
  go_loopg [5, 8] k (fun gg _ s8 wr => ∃ i : Int, s8 = .int .i64 i ∧ Aside0 (report_rootAt.l0 gg l0_2 o l1 i = some r) ∧ Aside0 (gg ≤ k) ∧ Aside0 (Below w.heap.size w wr))
  case atStart => exact ⟨0, rfl, H', ⟨Nat.le_refl _⟩, ⟨Below.refl _ w⟩⟩
  case round =>
    clear H'
    obtain ⟨i, rfl, HA, HK, HB⟩ := hrel
    cases gk with
    | zero => exact absurd HA.out (by simp [report_rootAt.l0])
    | succ k1 =>
      have H := HA.out
      clear HA
      simp only [report_rootAt.l0] at H
      by_cases c2 : i < (l1.length : Int)
      · rw [if_pos c2] at H
        by_cases c3 : 0 ≤ i
        · rw [if_pos c3] at H
          replace H := Option.bind_eq_some_iff.mp H
          obtain ⟨t, A30, H⟩ := H
          have A3 := Aside0.mk A30
          clear A30
          obtain ⟨ad, e1, hx0⟩ := Kd.at_int HR1.out i c3 c2
          cases e1
          replace hx0 := (HB.out.cell (World.block_lt_of_cell? w _ hx0)).trans hx0
          have p1 : (0 ≤ i) = True := eq_true c3
          have q1 : (i < (l1.length : Int)) = True := eq_true c2
          clear c2 c3
          have hcall := report_belongs.lit k1 B B2 A0_0 c0_0 l0_0 A0_1 c0_1 l0_1 A0_2 c0_2 l0_2 a0_3 a0_4 a0_5 a0_6 a0_7 a0_8 a0_9 a0_10 a0_11 a0_12 a0_13 a0_14 a0_15 a0_16 A0_17 c0_17 l0_17 A0_18 c0_18 l0_18 A0_19 c0_19 l0_19 A0_20 c0_20 l0_20 A0_21 c0_21 l0_21 o (rd l1 i) t wr (Kd.C_below HR.out HB.out) HC.out (blk_below HBk.out HB.out) (blk_below HBk2.out HB.out) A3.out
          cases t with
          | true =>
            have H1 : some i = some r := by simpa using H
            clear H
            obtain rfl := Option.some.inj H1
            go_wp2_with (go_at_fn 89; refine hcall.mono ?_; rintro e w' ⟨rfl, hb'⟩)
            go_ret
            exact ⟨rfl, below_step HB.out hb'⟩
          | false =>
            have H1 : report_rootAt.l0 k1 l0_2 o l1 (wrap64 (i + 1)) = some r := by simpa using H
            clear H
            have HN := Aside0.mk H1
            clear H1
            go_wp2_with (go_at_fn 89; refine hcall.mono ?_; rintro e w' ⟨rfl, hb'⟩)
            go_roundg k1
            case measure => have := HK.out; omega
            case rel => exact ⟨wrap64 (i + 1), (by rfl), HN, ⟨by have := HK.out; omega⟩, ⟨below_step HB.out hb'⟩⟩
        · rw [if_neg c3] at H; cases H
      · rw [if_neg c2] at H
        obtain rfl := Option.some.inj H
        clear H
        go_wp2
        go_ret
        exact ⟨rfl, HB.out⟩
set_option maxHeartbeats 8000000 in
set_option maxRecDepth 100000 in
theorem report_belongs.calls (k : Nat) (A0_0 : Option Addr) (c0_0 : Nat) (l0_0 : List (S97)) (A0_1 : Option Addr) (c0_1 : Nat) (l0_1 : List (S86)) (A0_2 : Option Addr) (c0_2 : Nat) (l0_2 : List (S62)) (a0_3 : Int) (a0_4 : Int) (a0_5 : Int) (a0_6 : Int) (a0_7 : Int) (a0_8 : Int) (a0_9 : Int) (a0_10 : Int) (a0_11 : Int) (a0_12 : Int) (a0_13 : Int) (a0_14 : Int) (a0_15 : Int) (a0_16 : Int) (A0_17 : Option Addr) (c0_17 : Nat) (l0_17 : List (S79)) (A0_18 : Option Addr) (c0_18 : Nat) (l0_18 : List (S90)) (A0_19 : Option Addr) (c0_19 : Nat) (l0_19 : List (S84)) (A0_20 : Option Addr) (c0_20 : Nat) (l0_20 : List (S119)) (A0_21 : Option Addr) (c0_21 : Nat) (l0_21 : List (S180)) (a1_0 : ByteArray) (a1_1 : Int) (A1_2 : Option Addr) (c1_2 : Nat) (l1_2 : List Int) (a2 : Int) (r : Bool) (w : World) (hr0_0 : Kd.C k97 w A0_0 l0_0.length l0_0) (hc0_0 : l0_0.length ≤ c0_0) (hr0_1 : Kd.C k86 w A0_1 l0_1.length l0_1) (hc0_1 : l0_1.length ≤ c0_1) (hr0_2 : Kd.C k62 w A0_2 l0_2.length l0_2) (hc0_2 : l0_2.length ≤ c0_2) (hr0_17 : Kd.C k79 w A0_17 l0_17.length l0_17) (hc0_17 : l0_17.length ≤ c0_17) (hr0_18 : Kd.C k90 w A0_18 l0_18.length l0_18) (hc0_18 : l0_18.length ≤ c0_18) (hr0_19 : Kd.C k84 w A0_19 l0_19.length l0_19) (hc0_19 : l0_19.length ≤ c0_19) (hr0_20 : Kd.C k119 w A0_20 l0_20.length l0_20) (hc0_20 : l0_20.length ≤ c0_20) (hr0_21 : Kd.C k180 w A0_21 l0_21.length l0_21) (hc0_21 : l0_21.length ≤ c0_21) (hr1_2 : Kd.C (Kd.int .i64) w A1_2 l1_2.length l1_2) (hc1_2 : l1_2.length ≤ c1_2) (h : report_belongs.f k l0_0 l0_1 l0_2 a0_3 a0_4 a0_5 a0_6 a0_7 a0_8 a0_9 a0_10 a0_11 a0_12 a0_13 a0_14 a0_15 a0_16 l0_17 l0_18 l0_19 l0_20 l0_21 a1_0 a1_1 l1_2 a2 = some r) :
    Calls Try.prog 76 #[.agg #[.slice A0_0 l0_0.length c0_0, .slice A0_1 l0_1.length c0_1, .slice A0_2 l0_2.length c0_2, .int .i64 a0_3, .int .i64 a0_4, .int .i64 a0_5, .int .i64 a0_6, .int .i64 a0_7, .int .i64 a0_8, .int .i64 a0_9, .int .i64 a0_10, .int .i64 a0_11, .int .i64 a0_12, .int .i64 a0_13, .int .i64 a0_14, .int .i64 a0_15, .int .i64 a0_16, .slice A0_17 l0_17.length c0_17, .slice A0_18 l0_18.length c0_18, .slice A0_19 l0_19.length c0_19, .slice A0_20 l0_20.length c0_20, .slice A0_21 l0_21.length c0_21], .agg #[.string a1_0, .int .i64 a1_1, .slice A1_2 l1_2.length c1_2], .int .i64 a2] w fun e w' => e = .returned (.bool r) ∧ Below w.heap.size w w' := by
  have HBw := Aside0.mk (Below.refl w.heap.size w)
  have HR0_0 := Aside0.mk hr0_0
  have HC0_0 := Aside0.mk hc0_0
  clear hr0_0 hc0_0
  have HR0_1 := Aside0.mk hr0_1
  have HC0_1 := Aside0.mk hc0_1
  clear hr0_1 hc0_1
  have HR0_2 := Aside0.mk hr0_2
  have HC0_2 := Aside0.mk hc0_2
  clear hr0_2 hc0_2
  have HR0_17 := Aside0.mk hr0_17
  have HC0_17 := Aside0.mk hc0_17
  clear hr0_17 hc0_17
  have HR0_18 := Aside0.mk hr0_18
  have HC0_18 := Aside0.mk hc0_18
  clear hr0_18 hc0_18
  have HR0_19 := Aside0.mk hr0_19
  have HC0_19 := Aside0.mk hc0_19
  clear hr0_19 hc0_19
  have HR0_20 := Aside0.mk hr0_20
  have HC0_20 := Aside0.mk hc0_20
  clear hr0_20 hc0_20
  have HR0_21 := Aside0.mk hr0_21
  have HC0_21 := Aside0.mk hc0_21
  clear hr0_21 hc0_21
  have HR1_2 := Aside0.mk hr1_2
  have HC1_2 := Aside0.mk hc1_2
  clear hr1_2 hc1_2
  unfold report_belongs.f at h
  replace h := Option.bind_eq_some_iff.mp h
  obtain ⟨o, AO0, h⟩ := h
  have AO := Aside0.mk AO0
  clear AO0
  by_cases c : o = 0
  · rw [if_pos c] at h
    have cb : (o != 0) = false := bne_eq_false_iff_eq.mpr c
    clear c
    obtain rfl := Option.some.inj h
    clear h
    go_enter Try.func76, Try.ntmps76
    go_wp2_with (first | ((with_reducible refine gate_dst (N := 3) rfl ?_); refine box_event ?hg (N := 3) ?hd (cs := #[.slice A0_0 l0_0.length c0_0, .slice A0_1 l0_1.length c0_1, .slice A0_2 l0_2.length c0_2, .int .i64 a0_3, .int .i64 a0_4, .int .i64 a0_5, .int .i64 a0_6, .int .i64 a0_7, .int .i64 a0_8, .int .i64 a0_9, .int .i64 a0_10, .int .i64 a0_11, .int .i64 a0_12, .int .i64 a0_13, .int .i64 a0_14, .int .i64 a0_15, .int .i64 a0_16, .slice A0_17 l0_17.length c0_17, .slice A0_18 l0_18.length c0_18, .slice A0_19 l0_19.length c0_19, .slice A0_20 l0_20.length c0_20, .slice A0_21 l0_21.length c0_21]) (t := 33) ?hr ?_; (case hd => rfl); (case hg => rfl); (case hr => (go_simp; done)); intro gb hg w8 hbox hb; have HX := Aside0.mk hbox; have HBe := Aside0.mk (below_step HBw.out hb); clear hbox hb hg) | ((with_reducible refine gate_dst (N := 4) rfl ?_); refine box_event ?hg (N := 4) ?hd (cs := #[.string a1_0, .int .i64 a1_1, .slice A1_2 l1_2.length c1_2]) (t := 48) ?hr ?_; (case hd => rfl); (case hg => rfl); (case hr => (go_simp; done)); intro gb2 hg w9 hbox hb; have HY := Aside0.mk hbox; have HBf := Aside0.mk (below_step HBe.out hb); have HXf := Aside0.mk (blk_below HX.out hb); clear hbox hb hg) | ((with_reducible refine gate_dst (N := 8) rfl ?_); refine wpList_load_row rfl 33 (.tmp 3) rfl gb rfl 33 #[.slice A0_0 l0_0.length c0_0, .slice A0_1 l0_1.length c0_1, .slice A0_2 l0_2.length c0_2, .int .i64 a0_3, .int .i64 a0_4, .int .i64 a0_5, .int .i64 a0_6, .int .i64 a0_7, .int .i64 a0_8, .int .i64 a0_9, .int .i64 a0_10, .int .i64 a0_11, .int .i64 a0_12, .int .i64 a0_13, .int .i64 a0_14, .int .i64 a0_15, .int .i64 a0_16, .slice A0_17 l0_17.length c0_17, .slice A0_18 l0_18.length c0_18, .slice A0_19 l0_19.length c0_19, .slice A0_20 l0_20.length c0_20, .slice A0_21 l0_21.length c0_21] (0, 0) _ HXf.out Try.underlying33 rfl (by kernel_rfl) ?_) | (go_at_call 17; refine (report_Owner.calls k A0_0 c0_0 l0_0 A0_1 c0_1 l0_1 A0_2 c0_2 l0_2 a0_3 a0_4 a0_5 a0_6 a0_7 a0_8 a0_9 a0_10 a0_11 a0_12 a0_13 a0_14 a0_15 a0_16 A0_17 c0_17 l0_17 A0_18 c0_18 l0_18 A0_19 c0_19 l0_19 A0_20 c0_20 l0_20 A0_21 c0_21 l0_21 a2 o _ ?s0 HC0_0.out ?s1 HC0_1.out ?s2 HC0_2.out ?s17 HC0_17.out ?s18 HC0_18.out ?s19 HC0_19.out ?s20 HC0_20.out ?s21 HC0_21.out AO.out).mono ?_; (case s0 => exact Kd.C_below HR0_0.out HBf.out); (case s1 => exact Kd.C_below HR0_1.out HBf.out); (case s2 => exact Kd.C_below HR0_2.out HBf.out); (case s17 => exact Kd.C_below HR0_17.out HBf.out); (case s18 => exact Kd.C_below HR0_18.out HBf.out); (case s19 => exact Kd.C_below HR0_19.out HBf.out); (case s20 => exact Kd.C_below HR0_20.out HBf.out); (case s21 => exact Kd.C_below HR0_21.out HBf.out); rintro e w' ⟨rfl, hb'⟩; have hcy : w'.cell? ⟨gb2, 2, none⟩ = some (.slice A1_2 l1_2.length c1_2) := (blk_cell (blk_below HY.out hb') 2).trans rfl; have hlt2 : gb2 < w'.heap.size := blk_lt (blk_below HY.out hb')))
    go_ret
    exact ⟨rfl, below_alloc (below_step HBf.out hb') _⟩
  · rw [if_neg c] at h
    have cb : (o != 0) = true := bne_iff_ne.mpr c
    clear c
    replace h := Option.bind_eq_some_iff.mp h
    obtain ⟨i, AI0, h⟩ := h
    have AI := Aside0.mk AI0
    clear AI0
    obtain rfl := Option.some.inj h
    clear h
    go_enter Try.func76, Try.ntmps76
    go_wp2_with (first | ((with_reducible refine gate_dst (N := 3) rfl ?_); refine box_event ?hg (N := 3) ?hd (cs := #[.slice A0_0 l0_0.length c0_0, .slice A0_1 l0_1.length c0_1, .slice A0_2 l0_2.length c0_2, .int .i64 a0_3, .int .i64 a0_4, .int .i64 a0_5, .int .i64 a0_6, .int .i64 a0_7, .int .i64 a0_8, .int .i64 a0_9, .int .i64 a0_10, .int .i64 a0_11, .int .i64 a0_12, .int .i64 a0_13, .int .i64 a0_14, .int .i64 a0_15, .int .i64 a0_16, .slice A0_17 l0_17.length c0_17, .slice A0_18 l0_18.length c0_18, .slice A0_19 l0_19.length c0_19, .slice A0_20 l0_20.length c0_20, .slice A0_21 l0_21.length c0_21]) (t := 33) ?hr ?_; (case hd => rfl); (case hg => rfl); (case hr => (go_simp; done)); intro gb hg w8 hbox hb; have HX := Aside0.mk hbox; have HBe := Aside0.mk (below_step HBw.out hb); clear hbox hb hg) | ((with_reducible refine gate_dst (N := 4) rfl ?_); refine box_event ?hg (N := 4) ?hd (cs := #[.string a1_0, .int .i64 a1_1, .slice A1_2 l1_2.length c1_2]) (t := 48) ?hr ?_; (case hd => rfl); (case hg => rfl); (case hr => (go_simp; done)); intro gb2 hg w9 hbox hb; have HY := Aside0.mk hbox; have HBf := Aside0.mk (below_step HBe.out hb); have HXf := Aside0.mk (blk_below HX.out hb); clear hbox hb hg) | ((with_reducible refine gate_dst (N := 8) rfl ?_); refine wpList_load_row rfl 33 (.tmp 3) rfl gb rfl 33 #[.slice A0_0 l0_0.length c0_0, .slice A0_1 l0_1.length c0_1, .slice A0_2 l0_2.length c0_2, .int .i64 a0_3, .int .i64 a0_4, .int .i64 a0_5, .int .i64 a0_6, .int .i64 a0_7, .int .i64 a0_8, .int .i64 a0_9, .int .i64 a0_10, .int .i64 a0_11, .int .i64 a0_12, .int .i64 a0_13, .int .i64 a0_14, .int .i64 a0_15, .int .i64 a0_16, .slice A0_17 l0_17.length c0_17, .slice A0_18 l0_18.length c0_18, .slice A0_19 l0_19.length c0_19, .slice A0_20 l0_20.length c0_20, .slice A0_21 l0_21.length c0_21] (0, 0) _ HXf.out Try.underlying33 rfl (by kernel_rfl) ?_) | (go_at_call 17; refine (report_Owner.calls k A0_0 c0_0 l0_0 A0_1 c0_1 l0_1 A0_2 c0_2 l0_2 a0_3 a0_4 a0_5 a0_6 a0_7 a0_8 a0_9 a0_10 a0_11 a0_12 a0_13 a0_14 a0_15 a0_16 A0_17 c0_17 l0_17 A0_18 c0_18 l0_18 A0_19 c0_19 l0_19 A0_20 c0_20 l0_20 A0_21 c0_21 l0_21 a2 o _ ?s0 HC0_0.out ?s1 HC0_1.out ?s2 HC0_2.out ?s17 HC0_17.out ?s18 HC0_18.out ?s19 HC0_19.out ?s20 HC0_20.out ?s21 HC0_21.out AO.out).mono ?_; (case s0 => exact Kd.C_below HR0_0.out HBf.out); (case s1 => exact Kd.C_below HR0_1.out HBf.out); (case s2 => exact Kd.C_below HR0_2.out HBf.out); (case s17 => exact Kd.C_below HR0_17.out HBf.out); (case s18 => exact Kd.C_below HR0_18.out HBf.out); (case s19 => exact Kd.C_below HR0_19.out HBf.out); (case s20 => exact Kd.C_below HR0_20.out HBf.out); (case s21 => exact Kd.C_below HR0_21.out HBf.out); rintro e w' ⟨rfl, hb'⟩; have hcy : w'.cell? ⟨gb2, 2, none⟩ = some (.slice A1_2 l1_2.length c1_2) := (blk_cell (blk_below HY.out hb') 2).trans rfl; have hlt2 : gb2 < w'.heap.size := blk_lt (blk_below HY.out hb')) | (go_at_call 88; go_in) | (go_at_call 102; refine (report_belongs.idx k gb _ A0_0 c0_0 l0_0 A0_1 c0_1 l0_1 A0_2 c0_2 l0_2 a0_3 a0_4 a0_5 a0_6 a0_7 a0_8 a0_9 a0_10 a0_11 a0_12 a0_13 a0_14 a0_15 a0_16 A0_17 c0_17 l0_17 A0_18 c0_18 l0_18 A0_19 c0_19 l0_19 A0_20 c0_20 l0_20 A0_21 c0_21 l0_21 o A1_2 c1_2 l1_2 i _ ?t1 HC0_2.out ?t2 HC1_2.out ?t3 ?t4 AI.out).mono ?_; (case t4 => exact blk_new _ _); (case t1 => exact Kd.C_below HR0_2.out (below_alloc (below_step HBf.out hb') _)); (case t2 => exact Kd.C_below HR1_2.out (below_alloc (below_step HBf.out hb') _)); (case t3 => exact blk_alloc (blk_below HXf.out hb') _); rintro e w'' ⟨rfl, hb''⟩))
    go_ret
    exact ⟨rfl, below_step (below_alloc (below_step HBf.out hb') _) hb''⟩
end Go.Proofs.Ytcmaifjmnpfmbaa.R
