-- Made by wip/tools/ext.py (this project's) over the kit's print, with external functions' contracts by hand. Not trusted: Lean checks it.
import Derived.Test.YtcmaifjmnpfmbaaRx0
import Derived.Test.YtcmaifjmnpfmbaaRx8
import Derived.Test.YtcmaifjmnpfmbaaRx17
namespace Go.Proofs.Ytcmaifjmnpfmbaa.R
open Go.RowKit Go.Proofs.YtcmaifjmnpfmbaaW.PrintWords Go.Proofs.YtcmaifjmnpfmbaaW.PrintLast Go.Proofs.YtcmaifjmnpfmbaaW.PrintMore
attribute [local go_sem] max2_int min2_int max_two min_two max_three min_three max_four min_four   -- for this text's walks alone
set_option linter.unusedVariables false
set_option linter.unusedSimpArgs false
/-! ### report_Amount: function 26 -/
theorem report_Amount.lit (w : World) (a0 : ByteArray) (a1 : Int) (A : Option Addr) (c : Nat) (l : List Int) (hr : Kd.C (Kd.int .i64) w A l.length l) (hc : l.length ≤ c) :
    Kd.C k48 (w.alloc (.cells #[.string a0, .int .i64 a1, .slice A l.length c] 48)) (some ⟨w.heap.size, 0, none⟩) 1 [(⟨a0, a1, l⟩ : S48)] := by
  refine ⟨rfl, by decide, fun _ => ⟨_, rfl, ?_⟩⟩
  intro j p hp
  match j with
  | 0 =>
    obtain rfl : (⟨a0, a1, l⟩ : S48) = p := by simpa using hp
    refine ⟨_, rfl, k48_mk _ (⟨a0, a1, l⟩ : S48) hc (Kd.C_below hr (below_alloc (Below.refl _ _) _)), ?_⟩
    intro i u hu
    have h := blk_cell (blk_new w (.cells #[.string a0, .int .i64 a1, .slice A l.length c] 48)) i
    have e : (⟨w.heap.size, 0, none⟩ : Addr).add (0 * k48.sz + i) = ⟨w.heap.size, i, none⟩ := by unfold Addr.add; split <;> simp_all
    rw [e, h]
    simpa using hu
  | j + 1 => simp at hp
def report_Amount.l (am : List S129 → Option (List (ByteArray × Int))) (a2 : ByteArray) (a3 : Int) : List S84 → Option Int
  | [] => some 0
  | x :: xs => if x.f0 = a3 then (am x.f8).bind fun cs => some (sumOf cs a2) else report_Amount.l am a2 a3 xs
theorem report_Amount.mono_l {am am' : List S129 → Option (List (ByteArray × Int))} (hb : ∀ x, LeO (am x) (am' x)) (a2 : ByteArray) (a3 : Int) : ∀ l, LeO (report_Amount.l am a2 a3 l) (report_Amount.l am' a2 a3 l)
  | [] => LeO.refl _
  | x :: xs => by
    unfold report_Amount.l
    exact LeO.ite (LeO.bind (hb _) (fun _ => LeO.refl _)) (report_Amount.mono_l hb a2 a3 xs)
def report_Amount.f (k : Nat) (l0_0 : List (S97)) (l0_1 : List (S86)) (l0_2 : List (S62)) (a0_3 : Int) (a0_4 : Int) (a0_5 : Int) (a0_6 : Int) (a0_7 : Int) (a0_8 : Int) (a0_9 : Int) (a0_10 : Int) (a0_11 : Int) (a0_12 : Int) (a0_13 : Int) (a0_14 : Int) (a0_15 : Int) (a0_16 : Int) (l0_17 : List (S79)) (l0_18 : List (S90)) (l0_19 : List (S84)) (l0_20 : List (S119)) (l0_21 : List (S180)) (a1_0 : ByteArray) (a1_1 : Int) (l1_2 : List Int) (a2 : ByteArray) (a3 : Int) : Option Int :=
  if a2.size ≤ 140737488351232 then ((report_Check.f k l0_0 l0_1 l0_2 a0_3 a0_4 a0_5 a0_6 a0_7 a0_8 a0_9 a0_10 a0_11 a0_12 a0_13 a0_14 a0_15 a0_16 l0_17 l0_18 l0_19 l0_20 l0_21 [(⟨a1_0, a1_1, l1_2⟩ : S48)]).bind fun e => if e = 0 then report_Amount.l (fun l => report_amounts.f k l0_0 l0_1 l0_2 a0_3 a0_4 a0_5 a0_6 a0_7 a0_8 a0_9 a0_10 a0_11 a0_12 a0_13 a0_14 a0_15 a0_16 l0_17 l0_18 l0_19 l0_20 l0_21 a1_0 a1_1 l1_2 l) a2 a3 l0_19 else some 0) else none
theorem report_Amount.mono : ∀ a0 a1 a2 a3 a4 a5 a6 a7 a8 a9 a10 a11 a12 a13 a14 a15 a16 a17 a18 a19 a20 a21 a22 a23 a24 a25 a26 k, LeO (report_Amount.f k a0 a1 a2 a3 a4 a5 a6 a7 a8 a9 a10 a11 a12 a13 a14 a15 a16 a17 a18 a19 a20 a21 a22 a23 a24 a25 a26) (report_Amount.f (k + 1) a0 a1 a2 a3 a4 a5 a6 a7 a8 a9 a10 a11 a12 a13 a14 a15 a16 a17 a18 a19 a20 a21 a22 a23 a24 a25 a26) := by
  intro a0 a1 a2 a3 a4 a5 a6 a7 a8 a9 a10 a11 a12 a13 a14 a15 a16 a17 a18 a19 a20 a21 a22 a23 a24 a25 a26 k
  unfold report_Amount.f
  refine LeO.ite ?_ (LeO.refl _)
  refine LeO.bind (report_Check.mono _ _ _ _ _ _ _ _ _ _ _ _ _ _ _ _ _ _ _ _ _ _ _ k) (fun e => ?_)
  exact LeO.ite (report_Amount.mono_l (fun x => report_amounts.mono _ _ _ _ _ _ _ _ _ _ _ _ _ _ _ _ _ _ _ _ _ _ _ _ _ _ k) _ _ _) (LeO.refl _)
set_option maxHeartbeats 8000000 in
set_option maxRecDepth 100000 in
theorem report_Amount.calls (k : Nat) (A0_0 : Option Addr) (c0_0 : Nat) (l0_0 : List (S97)) (A0_1 : Option Addr) (c0_1 : Nat) (l0_1 : List (S86)) (A0_2 : Option Addr) (c0_2 : Nat) (l0_2 : List (S62)) (a0_3 : Int) (a0_4 : Int) (a0_5 : Int) (a0_6 : Int) (a0_7 : Int) (a0_8 : Int) (a0_9 : Int) (a0_10 : Int) (a0_11 : Int) (a0_12 : Int) (a0_13 : Int) (a0_14 : Int) (a0_15 : Int) (a0_16 : Int) (A0_17 : Option Addr) (c0_17 : Nat) (l0_17 : List (S79)) (A0_18 : Option Addr) (c0_18 : Nat) (l0_18 : List (S90)) (A0_19 : Option Addr) (c0_19 : Nat) (l0_19 : List (S84)) (A0_20 : Option Addr) (c0_20 : Nat) (l0_20 : List (S119)) (A0_21 : Option Addr) (c0_21 : Nat) (l0_21 : List (S180)) (a1_0 : ByteArray) (a1_1 : Int) (A1_2 : Option Addr) (c1_2 : Nat) (l1_2 : List Int) (a2 : ByteArray) (a3 : Int) (r : Int) (w : World) (hr0_0 : Kd.C k97 w A0_0 l0_0.length l0_0) (hc0_0 : l0_0.length ≤ c0_0) (hr0_1 : Kd.C k86 w A0_1 l0_1.length l0_1) (hc0_1 : l0_1.length ≤ c0_1) (hr0_2 : Kd.C k62 w A0_2 l0_2.length l0_2) (hc0_2 : l0_2.length ≤ c0_2) (hr0_17 : Kd.C k79 w A0_17 l0_17.length l0_17) (hc0_17 : l0_17.length ≤ c0_17) (hr0_18 : Kd.C k90 w A0_18 l0_18.length l0_18) (hc0_18 : l0_18.length ≤ c0_18) (hr0_19 : Kd.C k84 w A0_19 l0_19.length l0_19) (hc0_19 : l0_19.length ≤ c0_19) (hr0_20 : Kd.C k119 w A0_20 l0_20.length l0_20) (hc0_20 : l0_20.length ≤ c0_20) (hr0_21 : Kd.C k180 w A0_21 l0_21.length l0_21) (hc0_21 : l0_21.length ≤ c0_21) (hr1_2 : Kd.C (Kd.int .i64) w A1_2 l1_2.length l1_2) (hc1_2 : l1_2.length ≤ c1_2) (h : report_Amount.f k l0_0 l0_1 l0_2 a0_3 a0_4 a0_5 a0_6 a0_7 a0_8 a0_9 a0_10 a0_11 a0_12 a0_13 a0_14 a0_15 a0_16 l0_17 l0_18 l0_19 l0_20 l0_21 a1_0 a1_1 l1_2 a2 a3 = some r) :
    Calls Try.prog 26 #[.agg #[.slice A0_0 l0_0.length c0_0, .slice A0_1 l0_1.length c0_1, .slice A0_2 l0_2.length c0_2, .int .i64 a0_3, .int .i64 a0_4, .int .i64 a0_5, .int .i64 a0_6, .int .i64 a0_7, .int .i64 a0_8, .int .i64 a0_9, .int .i64 a0_10, .int .i64 a0_11, .int .i64 a0_12, .int .i64 a0_13, .int .i64 a0_14, .int .i64 a0_15, .int .i64 a0_16, .slice A0_17 l0_17.length c0_17, .slice A0_18 l0_18.length c0_18, .slice A0_19 l0_19.length c0_19, .slice A0_20 l0_20.length c0_20, .slice A0_21 l0_21.length c0_21], .agg #[.string a1_0, .int .i64 a1_1, .slice A1_2 l1_2.length c1_2], .string a2, .int .i64 a3] w fun e w' => e = .returned (.int .i64 r) ∧ Below w.heap.size w w' := by
  have HBw := Aside0.mk (Below.refl w.heap.size w)
  have HR0_0 := Aside0.mk hr0_0
  have HC0_0 := Aside0.mk hc0_0
  clear hr0_0 hc0_0
  have HR0_1 := Aside0.mk hr0_1
  have HC0_1 := Aside0.mk hc0_1
  clear hr0_1 hc0_1
  have HR0_2 := Aside0.mk hr0_2
  have HC0_2 := Aside0.mk hc0_2
  clear hr0_2 hc0_2
  have HR0_17 := Aside0.mk hr0_17
  have HC0_17 := Aside0.mk hc0_17
  clear hr0_17 hc0_17
  have HR0_18 := Aside0.mk hr0_18
  have HC0_18 := Aside0.mk hc0_18
  clear hr0_18 hc0_18
  have HR0_19 := Aside0.mk hr0_19
  have HC0_19 := Aside0.mk hc0_19
  clear hr0_19 hc0_19
  have HR0_20 := Aside0.mk hr0_20
  have HC0_20 := Aside0.mk hc0_20
  clear hr0_20 hc0_20
  have HR0_21 := Aside0.mk hr0_21
  have HC0_21 := Aside0.mk hc0_21
  clear hr0_21 hc0_21
  have HR1_2 := Aside0.mk hr1_2
  have HC1_2 := Aside0.mk hc1_2
  have hmax := HR0_19.out.2.1
  clear hr1_2 hc1_2
  unfold report_Amount.f at h
  by_cases hsz : a2.size ≤ 140737488351232
  · rw [if_pos hsz] at h
    have HSZ := Aside0.mk (show a2.size ≤ maxLen by unfold maxLen; omega)
    clear hsz
    replace h := Option.bind_eq_some_iff.mp h
    obtain ⟨er, AE0, h⟩ := h
    have AE := Aside0.mk AE0
    clear AE0
    by_cases ce : er = 0
    · rw [if_pos ce] at h
      have ceb : (er != 0) = false := bne_eq_false_iff_eq.mpr ce
      clear ce
      have H0 := Aside0.mk h
      clear h
      go_enter Try.func26, Try.ntmps26
      go_wp2_with (first | ((with_reducible refine gate_dst (N := 4) rfl ?_); refine box_event ?hg (N := 4) ?hd (cs := #[.slice A0_0 l0_0.length c0_0, .slice A0_1 l0_1.length c0_1, .slice A0_2 l0_2.length c0_2, .int .i64 a0_3, .int .i64 a0_4, .int .i64 a0_5, .int .i64 a0_6, .int .i64 a0_7, .int .i64 a0_8, .int .i64 a0_9, .int .i64 a0_10, .int .i64 a0_11, .int .i64 a0_12, .int .i64 a0_13, .int .i64 a0_14, .int .i64 a0_15, .int .i64 a0_16, .slice A0_17 l0_17.length c0_17, .slice A0_18 l0_18.length c0_18, .slice A0_19 l0_19.length c0_19, .slice A0_20 l0_20.length c0_20, .slice A0_21 l0_21.length c0_21]) (t := 33) ?hr ?_; (case hd => rfl); (case hg => rfl); (case hr => (go_simp; done)); intro gb4 hg w6 hbox hb; have HX := Aside0.mk hbox; have HBe := Aside0.mk (below_step HBw.out hb); clear hbox hb hg) | ((with_reducible refine gate_dst (N := 5) rfl ?_); refine box_event ?hg (N := 5) ?hd (cs := #[.string a1_0, .int .i64 a1_1, .slice A1_2 l1_2.length c1_2]) (t := 48) ?hr ?_; (case hd => rfl); (case hg => rfl); (case hr => (go_simp; done)); intro gb5 hg w7 hbox hb; have HY := Aside0.mk hbox; have HX1 := Aside0.mk (blk_below HX.out hb); have HBf := Aside0.mk (below_step HBe.out hb); clear HX HBe; clear hbox hb hg) | ((with_reducible refine gate_dst (N := 11) rfl ?_); (try (refine gate_guard (by rfl) ?_; dsimp only)); refine wpList_load_row rfl 33 (.tmp 4) rfl gb4 rfl 33 #[.slice A0_0 l0_0.length c0_0, .slice A0_1 l0_1.length c0_1, .slice A0_2 l0_2.length c0_2, .int .i64 a0_3, .int .i64 a0_4, .int .i64 a0_5, .int .i64 a0_6, .int .i64 a0_7, .int .i64 a0_8, .int .i64 a0_9, .int .i64 a0_10, .int .i64 a0_11, .int .i64 a0_12, .int .i64 a0_13, .int .i64 a0_14, .int .i64 a0_15, .int .i64 a0_16, .slice A0_17 l0_17.length c0_17, .slice A0_18 l0_18.length c0_18, .slice A0_19 l0_19.length c0_19, .slice A0_20 l0_20.length c0_20, .slice A0_21 l0_21.length c0_21] (0, 0) _ HX1.out Try.underlying33 rfl (by kernel_rfl) ?_) | ((with_reducible refine gate_dst (N := 12) rfl ?_); (try (refine gate_guard (by rfl) ?_; dsimp only)); refine wpList_load_row rfl 48 (.tmp 5) rfl gb5 rfl 48 #[.string a1_0, .int .i64 a1_1, .slice A1_2 l1_2.length c1_2] (0, 0) _ HY.out Try.underlying48 rfl (by kernel_rfl) ?_) | (go_at_call 15; refine (report_Check.calls k A0_0 c0_0 l0_0 A0_1 c0_1 l0_1 A0_2 c0_2 l0_2 a0_3 a0_4 a0_5 a0_6 a0_7 a0_8 a0_9 a0_10 a0_11 a0_12 a0_13 a0_14 a0_15 a0_16 A0_17 c0_17 l0_17 A0_18 c0_18 l0_18 A0_19 c0_19 l0_19 A0_20 c0_20 l0_20 A0_21 c0_21 l0_21 _ 1 [(⟨a1_0, a1_1, l1_2⟩ : S48)] er _ ?s0 HC0_0.out ?s1 HC0_1.out ?s2 HC0_2.out ?s17 HC0_17.out ?s18 HC0_18.out ?s19 HC0_19.out ?s20 HC0_20.out ?s21 HC0_21.out ?t1 (Nat.le_refl _) AE.out).mono ?_; (case s0 => exact Kd.C_below HR0_0.out (below_alloc HBf.out _)); (case s1 => exact Kd.C_below HR0_1.out (below_alloc HBf.out _)); (case s2 => exact Kd.C_below HR0_2.out (below_alloc HBf.out _)); (case s17 => exact Kd.C_below HR0_17.out (below_alloc HBf.out _)); (case s18 => exact Kd.C_below HR0_18.out (below_alloc HBf.out _)); (case s19 => exact Kd.C_below HR0_19.out (below_alloc HBf.out _)); (case s20 => exact Kd.C_below HR0_20.out (below_alloc HBf.out _)); (case s21 => exact Kd.C_below HR0_21.out (below_alloc HBf.out _)); (case t1 => exact report_Amount.lit _ a1_0 a1_1 A1_2 c1_2 l1_2 (Kd.C_below HR1_2.out HBf.out) HC1_2.out); rintro e w9 ⟨rfl, hb'⟩; have HB3 := Aside0.mk (below_step (below_alloc HBf.out _) hb'); have HX3 := Aside0.mk (blk_below (blk_alloc HX1.out _) hb'); have HY3 := Aside0.mk (blk_below (blk_alloc HY.out _) hb'); have hc19 := (blk_cell HX3.out 19); clear hb'))
      clear hc19
      go_loopg [19] l0_19.length (fun gg s19 wr => ∃ kk : Nat, s19 = .int .i64 kk ∧ Aside0 (kk ≤ l0_19.length) ∧ Aside0 (l0_19.length - kk ≤ gg) ∧ Aside0 (report_Amount.l (fun l => report_amounts.f k l0_0 l0_1 l0_2 a0_3 a0_4 a0_5 a0_6 a0_7 a0_8 a0_9 a0_10 a0_11 a0_12 a0_13 a0_14 a0_15 a0_16 l0_17 l0_18 l0_19 l0_20 l0_21 a1_0 a1_1 l1_2 l) a2 a3 (l0_19.drop kk) = some r) ∧ Aside0 (wr.heap[gb4]? = some (.cells #[.slice A0_0 l0_0.length c0_0, .slice A0_1 l0_1.length c0_1, .slice A0_2 l0_2.length c0_2, .int .i64 a0_3, .int .i64 a0_4, .int .i64 a0_5, .int .i64 a0_6, .int .i64 a0_7, .int .i64 a0_8, .int .i64 a0_9, .int .i64 a0_10, .int .i64 a0_11, .int .i64 a0_12, .int .i64 a0_13, .int .i64 a0_14, .int .i64 a0_15, .int .i64 a0_16, .slice A0_17 l0_17.length c0_17, .slice A0_18 l0_18.length c0_18, .slice A0_19 l0_19.length c0_19, .slice A0_20 l0_20.length c0_20, .slice A0_21 l0_21.length c0_21] 33 (0, 0))) ∧ Aside0 (wr.heap[gb5]? = some (.cells #[.string a1_0, .int .i64 a1_1, .slice A1_2 l1_2.length c1_2] 48 (0, 0))) ∧ Aside0 (Below w.heap.size w wr))
      case atStart => exact ⟨0, rfl, ⟨Nat.zero_le _⟩, ⟨Nat.le_refl _⟩, H0, HX3, HY3, HB3⟩
      case round =>
        clear H0 HB3 HX3 HY3
        obtain ⟨kk, rfl, hkk, hg, HL, HX, HY, HB⟩ := hrel
        by_cases hlt : kk < l0_19.length
        · skip
          obtain ⟨ad, A8, c8, e1, hx0, hx1, hx2, hx3, hx4, hx5, hx6, hx7, hx8, hx9, hl8, hr8⟩ := at_T84 HR0_19.out (kk : Int) (by omega) (by omega)
          cases e1
          simp only [Int.toNat_natCast] at hx0 hx1 hx2 hx3 hx4 hx5 hx6 hx7 hx8 hx9
          replace hx0 := (HB.out.cell (World.block_lt_of_cell? w _ hx0)).trans hx0
          replace hx1 := (HB.out.cell (World.block_lt_of_cell? w _ hx1)).trans hx1
          replace hx2 := (HB.out.cell (World.block_lt_of_cell? w _ hx2)).trans hx2
          replace hx3 := (HB.out.cell (World.block_lt_of_cell? w _ hx3)).trans hx3
          replace hx4 := (HB.out.cell (World.block_lt_of_cell? w _ hx4)).trans hx4
          replace hx5 := (HB.out.cell (World.block_lt_of_cell? w _ hx5)).trans hx5
          replace hx6 := (HB.out.cell (World.block_lt_of_cell? w _ hx6)).trans hx6
          replace hx7 := (HB.out.cell (World.block_lt_of_cell? w _ hx7)).trans hx7
          replace hx8 := (HB.out.cell (World.block_lt_of_cell? w _ hx8)).trans hx8
          replace hx9 := (HB.out.cell (World.block_lt_of_cell? w _ hx9)).trans hx9
          have HR8 := Aside0.mk hr8
          have HL8 := Aside0.mk hl8
          clear hr8 hl8
          have p1 : (0 ≤ (kk : Int)) = True := eq_true (by omega)
          have q1 : ((kk : Int) < (l0_19.length : Int)) = True := eq_true (by omega)
          have hdrop : l0_19.drop kk = rd_T84 l0_19 (kk : Int) :: l0_19.drop (kk + 1) := by
            rw [List.drop_eq_getElem_cons hlt]
            congr 1
            show _ = l0_19.getD kk z84
            rw [List.getD_eq_getElem?_getD, List.getElem?_eq_getElem hlt]; rfl
          have hL := HL.out
          rw [hdrop, report_Amount.l] at hL
          clear HL hdrop
          have N44 := Aside0.mk (show gb4 < wr.heap.size from blk_lt HX.out)
          have N54 := Aside0.mk (show gb5 < wr.heap.size from blk_lt HY.out)
          by_cases cid : (rd_T84 l0_19 (kk : Int)).f0 = a3
          · rw [if_pos cid] at hL
            have cidb : ((rd_T84 l0_19 (kk : Int)).f0 == a3) = true := beq_iff_eq.mpr cid
            clear cid
            replace hL := Option.bind_eq_some_iff.mp hL
            obtain ⟨cs, hcs, hL⟩ := hL
            have HCS := Aside0.mk hcs
            obtain rfl := Option.some.inj hL
            clear hL hcs
            go_wp2_with (first | ((with_reducible refine gate_dst (N := 10) rfl ?_); refine box_event ?hg (N := 10) ?hd (cs := #[.int .i64 0, .int .i64 0, .int .i64 0, .int .i64 0, .int .i64 0, .int .i64 0, .string (⟨#[]⟩ : ByteArray), .string (⟨#[]⟩ : ByteArray), .slice none 0 0, .int .u64 0]) (t := 84) ?hr ?_; (case hd => rfl); (case hg => rfl); (case hr => (go_simp; done)); intro gb10 hg w10 hbox hb; have HZ := Aside0.mk hbox; have HX1 := Aside0.mk (blk_below HX.out hb); have HY1 := Aside0.mk (blk_below HY.out hb); have HB1 := Aside0.mk (below_step HB.out hb); have GE10 := Aside0.mk ((by rw [hg]; exact below_size HB.out) : w.heap.size ≤ gb10); have N410 := Aside0.mk ((by rw [hg]; exact Nat.ne_of_lt N44.out) : gb4 ≠ gb10); have N510 := Aside0.mk ((by rw [hg]; exact Nat.ne_of_lt N54.out) : gb5 ≠ gb10); have hs0 := (blk_cell HZ.out 0); have hfs0 := blk_frozen HZ.out 0; have hs1 := (blk_cell HZ.out 1); have hfs1 := blk_frozen HZ.out 1; have hs2 := (blk_cell HZ.out 2); have hfs2 := blk_frozen HZ.out 2; have hs3 := (blk_cell HZ.out 3); have hfs3 := blk_frozen HZ.out 3; have hs4 := (blk_cell HZ.out 4); have hfs4 := blk_frozen HZ.out 4; have hs5 := (blk_cell HZ.out 5); have hfs5 := blk_frozen HZ.out 5; have hs6 := (blk_cell HZ.out 6); have hfs6 := blk_frozen HZ.out 6; have hs7 := (blk_cell HZ.out 7); have hfs7 := blk_frozen HZ.out 7; have hs8 := (blk_cell HZ.out 8); have hfs8 := blk_frozen HZ.out 8; have hs9 := (blk_cell HZ.out 9); have hfs9 := blk_frozen HZ.out 9; clear hbox hb hg) | ((with_reducible refine gate_dst (N := 27) rfl ?_); (try (refine gate_guard (by rfl) ?_; dsimp only)); refine wpList_load_row rfl 33 (.tmp 4) rfl gb4 rfl 33 #[.slice A0_0 l0_0.length c0_0, .slice A0_1 l0_1.length c0_1, .slice A0_2 l0_2.length c0_2, .int .i64 a0_3, .int .i64 a0_4, .int .i64 a0_5, .int .i64 a0_6, .int .i64 a0_7, .int .i64 a0_8, .int .i64 a0_9, .int .i64 a0_10, .int .i64 a0_11, .int .i64 a0_12, .int .i64 a0_13, .int .i64 a0_14, .int .i64 a0_15, .int .i64 a0_16, .slice A0_17 l0_17.length c0_17, .slice A0_18 l0_18.length c0_18, .slice (some ad) l0_19.length c0_19, .slice A0_20 l0_20.length c0_20, .slice A0_21 l0_21.length c0_21] (0, 0) _ (by (with_reducible repeat (first | exact HX1.out | refine blk_far ?_ N410.out _))) Try.underlying33 rfl (by kernel_rfl) ?_) | ((with_reducible refine gate_dst (N := 28) rfl ?_); (try (refine gate_guard (by rfl) ?_; dsimp only)); refine wpList_load_row rfl 48 (.tmp 5) rfl gb5 rfl 48 #[.string a1_0, .int .i64 a1_1, .slice A1_2 l1_2.length c1_2] (0, 0) _ (by (with_reducible repeat (first | exact HY1.out | refine blk_far ?_ N510.out _))) Try.underlying48 rfl (by kernel_rfl) ?_) | ((with_reducible refine gate_dst (N := 29) rfl ?_); refine wpList_load_row rfl 84 (.tmp 10) rfl gb10 rfl 84 #[.int .i64 (rd_T84 l0_19 (kk : Int)).f0, .int .i64 (rd_T84 l0_19 (kk : Int)).f1, .int .i64 (rd_T84 l0_19 (kk : Int)).f2, .int .i64 (rd_T84 l0_19 (kk : Int)).f3, .int .i64 (rd_T84 l0_19 (kk : Int)).f4, .int .i64 (rd_T84 l0_19 (kk : Int)).f5, .string (rd_T84 l0_19 (kk : Int)).f6, .string (rd_T84 l0_19 (kk : Int)).f7, .slice A8 (rd_T84 l0_19 (kk : Int)).f8.length c8, .int .u64 (rd_T84 l0_19 (kk : Int)).f9] (0, 0) _ (blk_put (cs' := #[.int .i64 (rd_T84 l0_19 (kk : Int)).f0, .int .i64 (rd_T84 l0_19 (kk : Int)).f1, .int .i64 (rd_T84 l0_19 (kk : Int)).f2, .int .i64 (rd_T84 l0_19 (kk : Int)).f3, .int .i64 (rd_T84 l0_19 (kk : Int)).f4, .int .i64 (rd_T84 l0_19 (kk : Int)).f5, .string (rd_T84 l0_19 (kk : Int)).f6, .string (rd_T84 l0_19 (kk : Int)).f7, .slice A8 (rd_T84 l0_19 (kk : Int)).f8.length c8, .int .u64 (rd_T84 l0_19 (kk : Int)).f9]) (blk_put (cs' := #[.int .i64 (rd_T84 l0_19 (kk : Int)).f0, .int .i64 (rd_T84 l0_19 (kk : Int)).f1, .int .i64 (rd_T84 l0_19 (kk : Int)).f2, .int .i64 (rd_T84 l0_19 (kk : Int)).f3, .int .i64 (rd_T84 l0_19 (kk : Int)).f4, .int .i64 (rd_T84 l0_19 (kk : Int)).f5, .string (rd_T84 l0_19 (kk : Int)).f6, .string (rd_T84 l0_19 (kk : Int)).f7, .slice A8 (rd_T84 l0_19 (kk : Int)).f8.length c8, .int .u64 0]) (blk_put (cs' := #[.int .i64 (rd_T84 l0_19 (kk : Int)).f0, .int .i64 (rd_T84 l0_19 (kk : Int)).f1, .int .i64 (rd_T84 l0_19 (kk : Int)).f2, .int .i64 (rd_T84 l0_19 (kk : Int)).f3, .int .i64 (rd_T84 l0_19 (kk : Int)).f4, .int .i64 (rd_T84 l0_19 (kk : Int)).f5, .string (rd_T84 l0_19 (kk : Int)).f6, .string (rd_T84 l0_19 (kk : Int)).f7, .slice none 0 0, .int .u64 0]) (blk_put (cs' := #[.int .i64 (rd_T84 l0_19 (kk : Int)).f0, .int .i64 (rd_T84 l0_19 (kk : Int)).f1, .int .i64 (rd_T84 l0_19 (kk : Int)).f2, .int .i64 (rd_T84 l0_19 (kk : Int)).f3, .int .i64 (rd_T84 l0_19 (kk : Int)).f4, .int .i64 (rd_T84 l0_19 (kk : Int)).f5, .string (rd_T84 l0_19 (kk : Int)).f6, .string (⟨#[]⟩ : ByteArray), .slice none 0 0, .int .u64 0]) (blk_put (cs' := #[.int .i64 (rd_T84 l0_19 (kk : Int)).f0, .int .i64 (rd_T84 l0_19 (kk : Int)).f1, .int .i64 (rd_T84 l0_19 (kk : Int)).f2, .int .i64 (rd_T84 l0_19 (kk : Int)).f3, .int .i64 (rd_T84 l0_19 (kk : Int)).f4, .int .i64 (rd_T84 l0_19 (kk : Int)).f5, .string (⟨#[]⟩ : ByteArray), .string (⟨#[]⟩ : ByteArray), .slice none 0 0, .int .u64 0]) (blk_put (cs' := #[.int .i64 (rd_T84 l0_19 (kk : Int)).f0, .int .i64 (rd_T84 l0_19 (kk : Int)).f1, .int .i64 (rd_T84 l0_19 (kk : Int)).f2, .int .i64 (rd_T84 l0_19 (kk : Int)).f3, .int .i64 (rd_T84 l0_19 (kk : Int)).f4, .int .i64 0, .string (⟨#[]⟩ : ByteArray), .string (⟨#[]⟩ : ByteArray), .slice none 0 0, .int .u64 0]) (blk_put (cs' := #[.int .i64 (rd_T84 l0_19 (kk : Int)).f0, .int .i64 (rd_T84 l0_19 (kk : Int)).f1, .int .i64 (rd_T84 l0_19 (kk : Int)).f2, .int .i64 (rd_T84 l0_19 (kk : Int)).f3, .int .i64 0, .int .i64 0, .string (⟨#[]⟩ : ByteArray), .string (⟨#[]⟩ : ByteArray), .slice none 0 0, .int .u64 0]) (blk_put (cs' := #[.int .i64 (rd_T84 l0_19 (kk : Int)).f0, .int .i64 (rd_T84 l0_19 (kk : Int)).f1, .int .i64 (rd_T84 l0_19 (kk : Int)).f2, .int .i64 0, .int .i64 0, .int .i64 0, .string (⟨#[]⟩ : ByteArray), .string (⟨#[]⟩ : ByteArray), .slice none 0 0, .int .u64 0]) (blk_put (cs' := #[.int .i64 (rd_T84 l0_19 (kk : Int)).f0, .int .i64 (rd_T84 l0_19 (kk : Int)).f1, .int .i64 0, .int .i64 0, .int .i64 0, .int .i64 0, .string (⟨#[]⟩ : ByteArray), .string (⟨#[]⟩ : ByteArray), .slice none 0 0, .int .u64 0]) (blk_put (cs' := #[.int .i64 (rd_T84 l0_19 (kk : Int)).f0, .int .i64 0, .int .i64 0, .int .i64 0, .int .i64 0, .int .i64 0, .string (⟨#[]⟩ : ByteArray), .string (⟨#[]⟩ : ByteArray), .slice none 0 0, .int .u64 0]) HZ.out 0 (.int .i64 (rd_T84 l0_19 (kk : Int)).f0) rfl) 1 (.int .i64 (rd_T84 l0_19 (kk : Int)).f1) rfl) 2 (.int .i64 (rd_T84 l0_19 (kk : Int)).f2) rfl) 3 (.int .i64 (rd_T84 l0_19 (kk : Int)).f3) rfl) 4 (.int .i64 (rd_T84 l0_19 (kk : Int)).f4) rfl) 5 (.int .i64 (rd_T84 l0_19 (kk : Int)).f5) rfl) 6 (.string (rd_T84 l0_19 (kk : Int)).f6) rfl) 7 (.string (rd_T84 l0_19 (kk : Int)).f7) rfl) 8 (.slice A8 (rd_T84 l0_19 (kk : Int)).f8.length c8) rfl) 9 (.int .u64 (rd_T84 l0_19 (kk : Int)).f9) rfl) Try.underlying84 rfl (by kernel_rfl) ?_) | (go_at_call 55; have HB2 := Aside0.mk (below_set (j := 9) (v := .int .u64 (rd_T84 l0_19 (kk : Int)).f9) (below_set (j := 8) (v := .slice A8 (rd_T84 l0_19 (kk : Int)).f8.length c8) (below_set (j := 7) (v := .string (rd_T84 l0_19 (kk : Int)).f7) (below_set (j := 6) (v := .string (rd_T84 l0_19 (kk : Int)).f6) (below_set (j := 5) (v := .int .i64 (rd_T84 l0_19 (kk : Int)).f5) (below_set (j := 4) (v := .int .i64 (rd_T84 l0_19 (kk : Int)).f4) (below_set (j := 3) (v := .int .i64 (rd_T84 l0_19 (kk : Int)).f3) (below_set (j := 2) (v := .int .i64 (rd_T84 l0_19 (kk : Int)).f2) (below_set (j := 1) (v := .int .i64 (rd_T84 l0_19 (kk : Int)).f1) (below_set (j := 0) (v := .int .i64 (rd_T84 l0_19 (kk : Int)).f0) HB1.out GE10.out) GE10.out) GE10.out) GE10.out) GE10.out) GE10.out) GE10.out) GE10.out) GE10.out) GE10.out); refine (report_amounts.calls k A0_0 c0_0 l0_0 A0_1 c0_1 l0_1 A0_2 c0_2 l0_2 a0_3 a0_4 a0_5 a0_6 a0_7 a0_8 a0_9 a0_10 a0_11 a0_12 a0_13 a0_14 a0_15 a0_16 A0_17 c0_17 l0_17 A0_18 c0_18 l0_18 _ c0_19 l0_19 A0_20 c0_20 l0_20 A0_21 c0_21 l0_21 a1_0 a1_1 A1_2 c1_2 l1_2 (rd_T84 l0_19 (kk : Int)).f0 (rd_T84 l0_19 (kk : Int)).f1 (rd_T84 l0_19 (kk : Int)).f2 (rd_T84 l0_19 (kk : Int)).f3 (rd_T84 l0_19 (kk : Int)).f4 (rd_T84 l0_19 (kk : Int)).f5 (rd_T84 l0_19 (kk : Int)).f6 (rd_T84 l0_19 (kk : Int)).f7 A8 c8 (rd_T84 l0_19 (kk : Int)).f8 (rd_T84 l0_19 (kk : Int)).f9 cs _ ?s0 HC0_0.out ?s1 HC0_1.out ?s2 HC0_2.out ?s17 HC0_17.out ?s18 HC0_18.out ?s19 HC0_19.out ?s20 HC0_20.out ?s21 HC0_21.out ?t1 HC1_2.out ?t2 HL8.out HCS.out).mono ?_; (case s0 => exact Kd.C_below HR0_0.out HB2.out); (case s1 => exact Kd.C_below HR0_1.out HB2.out); (case s2 => exact Kd.C_below HR0_2.out HB2.out); (case s17 => exact Kd.C_below HR0_17.out HB2.out); (case s18 => exact Kd.C_below HR0_18.out HB2.out); (case s19 => exact Kd.C_below HR0_19.out HB2.out); (case s20 => exact Kd.C_below HR0_20.out HB2.out); (case s21 => exact Kd.C_below HR0_21.out HB2.out); (case t1 => exact Kd.C_below HR1_2.out HB2.out); (case t2 => exact Kd.C_below HR8.out HB2.out); rintro e w11 ⟨B, rfl, hBg, hM, hb'⟩; have HM3 := Aside0.mk hM; have HB4 := Aside0.mk (below_step HB2.out hb'); clear hb' hM hBg) | (at_lookup; obtain ⟨D, hown, hat⟩ := HM3.out; refine wpList_lookup_own_int _ rfl _ _ 94 rfl 9 3 .i64 mapLaw Try.underlying94 Try.underlying3 (mapZero _) _ _ _ rfl hown _ _ rfl (Go.WideMaps.keyOf_string_mk Try.underlying9 HSZ.out) ?_; intro c hc hwc; rw [hat] at hc; simp only [DataW.lit.injEq, Lit.int.injEq, true_and] at hc; have HC9 := Aside0.mk hc; clear hc hwc hown hat))
            go_ret
            exact ⟨by rw [HC9.out]; rfl, HB4.out⟩
          · rw [if_neg cid] at hL
            have cidb : ((rd_T84 l0_19 (kk : Int)).f0 == a3) = false := beq_eq_false_iff_ne.mpr cid
            clear cid
            have HL1 := Aside0.mk hL
            clear hL
            go_wp2_with (first | ((with_reducible refine gate_dst (N := 10) rfl ?_); refine box_event ?hg (N := 10) ?hd (cs := #[.int .i64 0, .int .i64 0, .int .i64 0, .int .i64 0, .int .i64 0, .int .i64 0, .string (⟨#[]⟩ : ByteArray), .string (⟨#[]⟩ : ByteArray), .slice none 0 0, .int .u64 0]) (t := 84) ?hr ?_; (case hd => rfl); (case hg => rfl); (case hr => (go_simp; done)); intro gb10 hg w10 hbox hb; have HZ := Aside0.mk hbox; have HX1 := Aside0.mk (blk_below HX.out hb); have HY1 := Aside0.mk (blk_below HY.out hb); have HB1 := Aside0.mk (below_step HB.out hb); have GE10 := Aside0.mk ((by rw [hg]; exact below_size HB.out) : w.heap.size ≤ gb10); have N410 := Aside0.mk ((by rw [hg]; exact Nat.ne_of_lt N44.out) : gb4 ≠ gb10); have N510 := Aside0.mk ((by rw [hg]; exact Nat.ne_of_lt N54.out) : gb5 ≠ gb10); have hs0 := (blk_cell HZ.out 0); have hfs0 := blk_frozen HZ.out 0; have hs1 := (blk_cell HZ.out 1); have hfs1 := blk_frozen HZ.out 1; have hs2 := (blk_cell HZ.out 2); have hfs2 := blk_frozen HZ.out 2; have hs3 := (blk_cell HZ.out 3); have hfs3 := blk_frozen HZ.out 3; have hs4 := (blk_cell HZ.out 4); have hfs4 := blk_frozen HZ.out 4; have hs5 := (blk_cell HZ.out 5); have hfs5 := blk_frozen HZ.out 5; have hs6 := (blk_cell HZ.out 6); have hfs6 := blk_frozen HZ.out 6; have hs7 := (blk_cell HZ.out 7); have hfs7 := blk_frozen HZ.out 7; have hs8 := (blk_cell HZ.out 8); have hfs8 := blk_frozen HZ.out 8; have hs9 := (blk_cell HZ.out 9); have hfs9 := blk_frozen HZ.out 9; clear hbox hb hg))
            go_roundg (l0_19.length - (kk + 1))
            case measure => have := hg.out; omega
            case rel => exact ⟨kk + 1, by go_num, ⟨hlt⟩, ⟨Nat.le_refl _⟩, HL1, ⟨by (with_reducible repeat (first | exact HX1.out | refine blk_far ?_ N410.out _))⟩, ⟨by (with_reducible repeat (first | exact HY1.out | refine blk_far ?_ N510.out _))⟩, ⟨by (with_reducible repeat (first | exact HB1.out | refine below_set ?_ GE10.out))⟩⟩
        · skip
          have hL := HL.out
          rw [List.drop_of_length_le (by omega), report_Amount.l] at hL
          obtain rfl := Option.some.inj hL
          go_wp2
          go_ret
          exact ⟨rfl, HB.out⟩
    · rw [if_neg ce] at h
      have ceb : (er != 0) = true := bne_iff_ne.mpr ce
      clear ce
      obtain rfl := Option.some.inj h
      clear h
      go_enter Try.func26, Try.ntmps26
      go_wp2_with (first | ((with_reducible refine gate_dst (N := 4) rfl ?_); refine box_event ?hg (N := 4) ?hd (cs := #[.slice A0_0 l0_0.length c0_0, .slice A0_1 l0_1.length c0_1, .slice A0_2 l0_2.length c0_2, .int .i64 a0_3, .int .i64 a0_4, .int .i64 a0_5, .int .i64 a0_6, .int .i64 a0_7, .int .i64 a0_8, .int .i64 a0_9, .int .i64 a0_10, .int .i64 a0_11, .int .i64 a0_12, .int .i64 a0_13, .int .i64 a0_14, .int .i64 a0_15, .int .i64 a0_16, .slice A0_17 l0_17.length c0_17, .slice A0_18 l0_18.length c0_18, .slice A0_19 l0_19.length c0_19, .slice A0_20 l0_20.length c0_20, .slice A0_21 l0_21.length c0_21]) (t := 33) ?hr ?_; (case hd => rfl); (case hg => rfl); (case hr => (go_simp; done)); intro gb4 hg w6 hbox hb; have HX := Aside0.mk hbox; have HBe := Aside0.mk (below_step HBw.out hb); clear hbox hb hg) | ((with_reducible refine gate_dst (N := 5) rfl ?_); refine box_event ?hg (N := 5) ?hd (cs := #[.string a1_0, .int .i64 a1_1, .slice A1_2 l1_2.length c1_2]) (t := 48) ?hr ?_; (case hd => rfl); (case hg => rfl); (case hr => (go_simp; done)); intro gb5 hg w7 hbox hb; have HY := Aside0.mk hbox; have HX1 := Aside0.mk (blk_below HX.out hb); have HBf := Aside0.mk (below_step HBe.out hb); clear HX HBe; clear hbox hb hg) | ((with_reducible refine gate_dst (N := 11) rfl ?_); (try (refine gate_guard (by rfl) ?_; dsimp only)); refine wpList_load_row rfl 33 (.tmp 4) rfl gb4 rfl 33 #[.slice A0_0 l0_0.length c0_0, .slice A0_1 l0_1.length c0_1, .slice A0_2 l0_2.length c0_2, .int .i64 a0_3, .int .i64 a0_4, .int .i64 a0_5, .int .i64 a0_6, .int .i64 a0_7, .int .i64 a0_8, .int .i64 a0_9, .int .i64 a0_10, .int .i64 a0_11, .int .i64 a0_12, .int .i64 a0_13, .int .i64 a0_14, .int .i64 a0_15, .int .i64 a0_16, .slice A0_17 l0_17.length c0_17, .slice A0_18 l0_18.length c0_18, .slice A0_19 l0_19.length c0_19, .slice A0_20 l0_20.length c0_20, .slice A0_21 l0_21.length c0_21] (0, 0) _ HX1.out Try.underlying33 rfl (by kernel_rfl) ?_) | ((with_reducible refine gate_dst (N := 12) rfl ?_); (try (refine gate_guard (by rfl) ?_; dsimp only)); refine wpList_load_row rfl 48 (.tmp 5) rfl gb5 rfl 48 #[.string a1_0, .int .i64 a1_1, .slice A1_2 l1_2.length c1_2] (0, 0) _ HY.out Try.underlying48 rfl (by kernel_rfl) ?_) | (go_at_call 15; refine (report_Check.calls k A0_0 c0_0 l0_0 A0_1 c0_1 l0_1 A0_2 c0_2 l0_2 a0_3 a0_4 a0_5 a0_6 a0_7 a0_8 a0_9 a0_10 a0_11 a0_12 a0_13 a0_14 a0_15 a0_16 A0_17 c0_17 l0_17 A0_18 c0_18 l0_18 A0_19 c0_19 l0_19 A0_20 c0_20 l0_20 A0_21 c0_21 l0_21 _ 1 [(⟨a1_0, a1_1, l1_2⟩ : S48)] er _ ?s0 HC0_0.out ?s1 HC0_1.out ?s2 HC0_2.out ?s17 HC0_17.out ?s18 HC0_18.out ?s19 HC0_19.out ?s20 HC0_20.out ?s21 HC0_21.out ?t1 (Nat.le_refl _) AE.out).mono ?_; (case s0 => exact Kd.C_below HR0_0.out (below_alloc HBf.out _)); (case s1 => exact Kd.C_below HR0_1.out (below_alloc HBf.out _)); (case s2 => exact Kd.C_below HR0_2.out (below_alloc HBf.out _)); (case s17 => exact Kd.C_below HR0_17.out (below_alloc HBf.out _)); (case s18 => exact Kd.C_below HR0_18.out (below_alloc HBf.out _)); (case s19 => exact Kd.C_below HR0_19.out (below_alloc HBf.out _)); (case s20 => exact Kd.C_below HR0_20.out (below_alloc HBf.out _)); (case s21 => exact Kd.C_below HR0_21.out (below_alloc HBf.out _)); (case t1 => exact report_Amount.lit _ a1_0 a1_1 A1_2 c1_2 l1_2 (Kd.C_below HR1_2.out HBf.out) HC1_2.out); rintro e w9 ⟨rfl, hb'⟩; have HB3 := Aside0.mk (below_step (below_alloc HBf.out _) hb'); have HX3 := Aside0.mk (blk_below (blk_alloc HX1.out _) hb'); have HY3 := Aside0.mk (blk_below (blk_alloc HY.out _) hb'); have hc19 := (blk_cell HX3.out 19); clear hb'))
      go_ret
      exact ⟨rfl, HB3.out⟩
  · rw [if_neg hsz] at h; cases h
end Go.Proofs.Ytcmaifjmnpfmbaa.R
