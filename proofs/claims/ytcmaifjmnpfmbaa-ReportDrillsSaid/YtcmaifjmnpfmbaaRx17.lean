-- Made by wip/tools/ext.py (this project's) over the kit's print, with external functions' contracts by hand. Not trusted: Lean checks it.
import Derived.Test.YtcmaifjmnpfmbaaRx0
import Derived.Test.YtcmaifjmnpfmbaaRx16
namespace Go.Proofs.Ytcmaifjmnpfmbaa.R
open Go.RowKit Go.Proofs.YtcmaifjmnpfmbaaW.PrintWords Go.Proofs.YtcmaifjmnpfmbaaW.PrintLast Go.Proofs.YtcmaifjmnpfmbaaW.PrintMore
attribute [local go_sem] max2_int min2_int max_two min_two max_three min_three max_four min_four   -- for this text's walks alone
set_option linter.unusedVariables false
set_option linter.unusedSimpArgs false
/-! ### report_amounts: function 55 -/
def report_amounts.l (bel : Int → Option Bool) (sign : Int) : List S129 → Option (List (ByteArray × Int))
  | [] => some []
  | x :: xs => (bel x.f0).bind fun b => (report_amounts.l bel sign xs).bind fun r => if b = true then (if x.f2.size ≤ 140737488351232 then some ((x.f2, wrap64 (sign * x.f1)) :: r) else none) else some r
theorem report_amounts.mono_l {bel bel' : Int → Option Bool} (hb : ∀ x, LeO (bel x) (bel' x)) (sign : Int) : ∀ l, LeO (report_amounts.l bel sign l) (report_amounts.l bel' sign l)
  | [] => LeO.refl _
  | x :: xs => by
    unfold report_amounts.l
    refine LeO.bind (hb _) (fun b => ?_)
    exact LeO.bind (report_amounts.mono_l hb sign xs) (fun r => LeO.refl _)
def report_amounts.f (k : Nat) (l0_0 : List (S97)) (l0_1 : List (S86)) (l0_2 : List (S62)) (a0_3 : Int) (a0_4 : Int) (a0_5 : Int) (a0_6 : Int) (a0_7 : Int) (a0_8 : Int) (a0_9 : Int) (a0_10 : Int) (a0_11 : Int) (a0_12 : Int) (a0_13 : Int) (a0_14 : Int) (a0_15 : Int) (a0_16 : Int) (l0_17 : List (S79)) (l0_18 : List (S90)) (l0_19 : List (S84)) (l0_20 : List (S119)) (l0_21 : List (S180)) (a1_0 : ByteArray) (a1_1 : Int) (l1_2 : List Int) (l3_8 : List S129) : Option (List (ByteArray × Int)) :=
  report_amounts.l (fun x => report_belongs.f k l0_0 l0_1 l0_2 a0_3 a0_4 a0_5 a0_6 a0_7 a0_8 a0_9 a0_10 a0_11 a0_12 a0_13 a0_14 a0_15 a0_16 l0_17 l0_18 l0_19 l0_20 l0_21 a1_0 a1_1 l1_2 x) a1_1 l3_8
theorem report_amounts.mono : ∀ a0 a1 a2 a3 a4 a5 a6 a7 a8 a9 a10 a11 a12 a13 a14 a15 a16 a17 a18 a19 a20 a21 a22 a23 a24 a25 k, LeO (report_amounts.f k a0 a1 a2 a3 a4 a5 a6 a7 a8 a9 a10 a11 a12 a13 a14 a15 a16 a17 a18 a19 a20 a21 a22 a23 a24 a25) (report_amounts.f (k + 1) a0 a1 a2 a3 a4 a5 a6 a7 a8 a9 a10 a11 a12 a13 a14 a15 a16 a17 a18 a19 a20 a21 a22 a23 a24 a25) := by
  intro a0 a1 a2 a3 a4 a5 a6 a7 a8 a9 a10 a11 a12 a13 a14 a15 a16 a17 a18 a19 a20 a21 a22 a23 a24 a25 k
  unfold report_amounts.f
  exact report_amounts.mono_l (fun x => report_belongs.mono _ _ _ _ _ _ _ _ _ _ _ _ _ _ _ _ _ _ _ _ _ _ _ _ _ _ k) _ _
set_option maxHeartbeats 8000000 in
set_option maxRecDepth 100000 in
theorem report_amounts.calls (k : Nat) (A0_0 : Option Addr) (c0_0 : Nat) (l0_0 : List (S97)) (A0_1 : Option Addr) (c0_1 : Nat) (l0_1 : List (S86)) (A0_2 : Option Addr) (c0_2 : Nat) (l0_2 : List (S62)) (a0_3 : Int) (a0_4 : Int) (a0_5 : Int) (a0_6 : Int) (a0_7 : Int) (a0_8 : Int) (a0_9 : Int) (a0_10 : Int) (a0_11 : Int) (a0_12 : Int) (a0_13 : Int) (a0_14 : Int) (a0_15 : Int) (a0_16 : Int) (A0_17 : Option Addr) (c0_17 : Nat) (l0_17 : List (S79)) (A0_18 : Option Addr) (c0_18 : Nat) (l0_18 : List (S90)) (A0_19 : Option Addr) (c0_19 : Nat) (l0_19 : List (S84)) (A0_20 : Option Addr) (c0_20 : Nat) (l0_20 : List (S119)) (A0_21 : Option Addr) (c0_21 : Nat) (l0_21 : List (S180)) (a1_0 : ByteArray) (a1_1 : Int) (A1_2 : Option Addr) (c1_2 : Nat) (l1_2 : List Int) (a3_0 a3_1 a3_2 a3_3 a3_4 a3_5 : Int) (a3_6 a3_7 : ByteArray) (A3_8 : Option Addr) (c3_8 : Nat) (l3_8 : List (S129)) (a3_9 : Int) (r : List (ByteArray × Int)) (w : World) (hr0_0 : Kd.C k97 w A0_0 l0_0.length l0_0) (hc0_0 : l0_0.length ≤ c0_0) (hr0_1 : Kd.C k86 w A0_1 l0_1.length l0_1) (hc0_1 : l0_1.length ≤ c0_1) (hr0_2 : Kd.C k62 w A0_2 l0_2.length l0_2) (hc0_2 : l0_2.length ≤ c0_2) (hr0_17 : Kd.C k79 w A0_17 l0_17.length l0_17) (hc0_17 : l0_17.length ≤ c0_17) (hr0_18 : Kd.C k90 w A0_18 l0_18.length l0_18) (hc0_18 : l0_18.length ≤ c0_18) (hr0_19 : Kd.C k84 w A0_19 l0_19.length l0_19) (hc0_19 : l0_19.length ≤ c0_19) (hr0_20 : Kd.C k119 w A0_20 l0_20.length l0_20) (hc0_20 : l0_20.length ≤ c0_20) (hr0_21 : Kd.C k180 w A0_21 l0_21.length l0_21) (hc0_21 : l0_21.length ≤ c0_21) (hr1_2 : Kd.C (Kd.int .i64) w A1_2 l1_2.length l1_2) (hc1_2 : l1_2.length ≤ c1_2) (hr3_8 : Kd.C k129 w A3_8 l3_8.length l3_8) (hc3_8 : l3_8.length ≤ c3_8) (h : report_amounts.f k l0_0 l0_1 l0_2 a0_3 a0_4 a0_5 a0_6 a0_7 a0_8 a0_9 a0_10 a0_11 a0_12 a0_13 a0_14 a0_15 a0_16 l0_17 l0_18 l0_19 l0_20 l0_21 a1_0 a1_1 l1_2 l3_8 = some r) :
    Calls Try.prog 55 #[.agg #[.slice A0_0 l0_0.length c0_0, .slice A0_1 l0_1.length c0_1, .slice A0_2 l0_2.length c0_2, .int .i64 a0_3, .int .i64 a0_4, .int .i64 a0_5, .int .i64 a0_6, .int .i64 a0_7, .int .i64 a0_8, .int .i64 a0_9, .int .i64 a0_10, .int .i64 a0_11, .int .i64 a0_12, .int .i64 a0_13, .int .i64 a0_14, .int .i64 a0_15, .int .i64 a0_16, .slice A0_17 l0_17.length c0_17, .slice A0_18 l0_18.length c0_18, .slice A0_19 l0_19.length c0_19, .slice A0_20 l0_20.length c0_20, .slice A0_21 l0_21.length c0_21], .agg #[.string a1_0, .int .i64 a1_1, .slice A1_2 l1_2.length c1_2], .agg #[.int .i64 a3_0, .int .i64 a3_1, .int .i64 a3_2, .int .i64 a3_3, .int .i64 a3_4, .int .i64 a3_5, .string a3_6, .string a3_7, .slice A3_8 l3_8.length c3_8, .int .u64 a3_9]] w fun e w' => ∃ B : Nat, e = .returned (.map (some B)) ∧ w.heap.size ≤ B ∧ MapIs w' B l3_8.length (sumOf r) ∧ Below w.heap.size w w' := by
  have hmm := @run_makeMap Try.prog
  have HBw := Aside0.mk (Below.refl w.heap.size w)
  have HR0_0 := Aside0.mk hr0_0
  have HC0_0 := Aside0.mk hc0_0
  clear hr0_0 hc0_0
  have HR0_1 := Aside0.mk hr0_1
  have HC0_1 := Aside0.mk hc0_1
  clear hr0_1 hc0_1
  have HR0_2 := Aside0.mk hr0_2
  have HC0_2 := Aside0.mk hc0_2
  clear hr0_2 hc0_2
  have HR0_17 := Aside0.mk hr0_17
  have HC0_17 := Aside0.mk hc0_17
  clear hr0_17 hc0_17
  have HR0_18 := Aside0.mk hr0_18
  have HC0_18 := Aside0.mk hc0_18
  clear hr0_18 hc0_18
  have HR0_19 := Aside0.mk hr0_19
  have HC0_19 := Aside0.mk hc0_19
  clear hr0_19 hc0_19
  have HR0_20 := Aside0.mk hr0_20
  have HC0_20 := Aside0.mk hc0_20
  clear hr0_20 hc0_20
  have HR0_21 := Aside0.mk hr0_21
  have HC0_21 := Aside0.mk hc0_21
  clear hr0_21 hc0_21
  have HR1_2 := Aside0.mk hr1_2
  have HC1_2 := Aside0.mk hc1_2
  have HR3_8 := Aside0.mk hr3_8
  have hmax := hr3_8.2.1
  clear hr1_2 hc1_2 hr3_8 hc3_8
  have H0 := Aside0.mk h
  clear h
  go_enter Try.func55, Try.ntmps55
  go_wp2_with (first | ((with_reducible refine gate_dst (N := 3) rfl ?_); refine box_event ?hg (N := 3) ?hd (cs := #[.slice A0_0 l0_0.length c0_0, .slice A0_1 l0_1.length c0_1, .slice A0_2 l0_2.length c0_2, .int .i64 a0_3, .int .i64 a0_4, .int .i64 a0_5, .int .i64 a0_6, .int .i64 a0_7, .int .i64 a0_8, .int .i64 a0_9, .int .i64 a0_10, .int .i64 a0_11, .int .i64 a0_12, .int .i64 a0_13, .int .i64 a0_14, .int .i64 a0_15, .int .i64 a0_16, .slice A0_17 l0_17.length c0_17, .slice A0_18 l0_18.length c0_18, .slice A0_19 l0_19.length c0_19, .slice A0_20 l0_20.length c0_20, .slice A0_21 l0_21.length c0_21]) (t := 33) ?hr ?_; (case hd => rfl); (case hg => rfl); (case hr => (go_simp; done)); intro gb3 hg w6 hbox hb; have HX := Aside0.mk hbox; have HBe := Aside0.mk (below_step HBw.out hb); clear hbox hb hg) | ((with_reducible refine gate_dst (N := 4) rfl ?_); refine box_event ?hg (N := 4) ?hd (cs := #[.string a1_0, .int .i64 a1_1, .slice A1_2 l1_2.length c1_2]) (t := 48) ?hr ?_; (case hd => rfl); (case hg => rfl); (case hr => (go_simp; done)); intro gb4 hg w7 hbox hb; have HY := Aside0.mk hbox; have HX1 := Aside0.mk (blk_below HX.out hb); have HBf := Aside0.mk (below_step HBe.out hb); clear HX HBe; clear hbox hb hg) | ((with_reducible refine gate_dst (N := 5) rfl ?_); refine box_event ?hg (N := 5) ?hd (cs := #[.int .i64 a3_0, .int .i64 a3_1, .int .i64 a3_2, .int .i64 a3_3, .int .i64 a3_4, .int .i64 a3_5, .string a3_6, .string a3_7, .slice A3_8 l3_8.length c3_8, .int .u64 a3_9]) (t := 84) ?hr ?_; (case hd => rfl); (case hg => rfl); (case hr => (go_simp; done)); intro gb5 hg w8 hbox hb; have hc8 := (blk_cell hbox 8); have hlt5 := blk_lt hbox; have HX2 := Aside0.mk (blk_below HX1.out hb); have HY1 := Aside0.mk (blk_below HY.out hb); have HBg := Aside0.mk (below_step HBf.out hb); clear HX1 HY HBf; clear hbox hb hg))
  clear hc8 hlt5
  have HM0 := Aside0.mk (MapIs.made w8)
  have HB0 := Aside0.mk (below_alloc HBg.out (.map #[] 0))
  have GB := Aside0.mk (below_size HBg.out)
  have HX0 := Aside0.mk (blk_alloc HX2.out (.map #[] 0))
  have HY0 := Aside0.mk (blk_alloc HY1.out (.map #[] 0))
  obtain ⟨B, hB⟩ : ∃ B, w8.heap.size = B := ⟨_, rfl⟩
  rw [hB] at HM0 GB ⊢
  generalize w8.alloc (.map #[] 0) = w9 at HM0 HB0 HX0 HY0 ⊢
  clear hB HX2 HY1 HBg
  go_loopg [14] l3_8.length (fun gg s14 wr => ∃ (kk : Nat) (dn rs : List (ByteArray × Int)), s14 = .int .i64 kk ∧ Aside0 (kk ≤ l3_8.length) ∧ Aside0 (l3_8.length - kk ≤ gg) ∧ Aside0 (report_amounts.l (fun x => report_belongs.f k l0_0 l0_1 l0_2 a0_3 a0_4 a0_5 a0_6 a0_7 a0_8 a0_9 a0_10 a0_11 a0_12 a0_13 a0_14 a0_15 a0_16 l0_17 l0_18 l0_19 l0_20 l0_21 a1_0 a1_1 l1_2 x) a1_1 (l3_8.drop kk) = some rs) ∧ Aside0 (dn ++ rs = r) ∧ Aside0 (MapIs wr B kk (sumOf dn)) ∧ Aside0 (wr.heap[gb3]? = some (.cells #[.slice A0_0 l0_0.length c0_0, .slice A0_1 l0_1.length c0_1, .slice A0_2 l0_2.length c0_2, .int .i64 a0_3, .int .i64 a0_4, .int .i64 a0_5, .int .i64 a0_6, .int .i64 a0_7, .int .i64 a0_8, .int .i64 a0_9, .int .i64 a0_10, .int .i64 a0_11, .int .i64 a0_12, .int .i64 a0_13, .int .i64 a0_14, .int .i64 a0_15, .int .i64 a0_16, .slice A0_17 l0_17.length c0_17, .slice A0_18 l0_18.length c0_18, .slice A0_19 l0_19.length c0_19, .slice A0_20 l0_20.length c0_20, .slice A0_21 l0_21.length c0_21] 33 (0, 0))) ∧ Aside0 (wr.heap[gb4]? = some (.cells #[.string a1_0, .int .i64 a1_1, .slice A1_2 l1_2.length c1_2] 48 (0, 0))) ∧ Aside0 (Below w.heap.size w wr))
  case atStart => exact ⟨0, [], r, rfl, ⟨Nat.zero_le _⟩, ⟨Nat.le_refl _⟩, H0, ⟨rfl⟩, HM0, HX0, HY0, HB0⟩
  case round =>
    clear H0 HM0 HB0 HX0 HY0
    obtain ⟨kk, dn, rs, rfl, hkk, hg, HL, HS, HM, HX, HY, HB⟩ := hrel
    by_cases hlt : kk < l3_8.length
    · skip
      obtain ⟨ad, e1, hx0, hx1, hx2⟩ := at_T129 HR3_8.out (kk : Int) (by omega) (by omega)
      cases e1
      simp only [Int.toNat_natCast] at hx0 hx1 hx2
      replace hx0 := (HB.out.cell (World.block_lt_of_cell? w _ hx0)).trans hx0
      replace hx1 := (HB.out.cell (World.block_lt_of_cell? w _ hx1)).trans hx1
      replace hx2 := (HB.out.cell (World.block_lt_of_cell? w _ hx2)).trans hx2
      have p1 : (0 ≤ (kk : Int)) = True := eq_true (by omega)
      have q1 : ((kk : Int) < (l3_8.length : Int)) = True := eq_true (by omega)
      have hdrop : l3_8.drop kk = rd_T129 l3_8 (kk : Int) :: l3_8.drop (kk + 1) := by
        rw [List.drop_eq_getElem_cons hlt]
        congr 1
        show _ = l3_8.getD kk z129
        rw [List.getD_eq_getElem?_getD, List.getElem?_eq_getElem hlt]; rfl
      have hL := HL.out
      rw [hdrop, report_amounts.l] at hL
      clear HL hdrop
      replace hL := Option.bind_eq_some_iff.mp hL
      obtain ⟨b, hbel, hL⟩ := hL
      replace hL := Option.bind_eq_some_iff.mp hL
      obtain ⟨rs', hrs, hL⟩ := hL
      have HBEL := Aside0.mk hbel
      have HRS := Aside0.mk hrs
      clear hbel hrs
      have hltm : B < wr.heap.size := HM.out.lt
      have HLM := Aside0.mk hltm
      have N34 := Aside0.mk (show gb3 < wr.heap.size from blk_lt HX.out)
      have N44 := Aside0.mk (show gb4 < wr.heap.size from blk_lt HY.out)
      clear hltm
      cases b with
      | false =>
        have hL1 : some rs' = some rs := by simpa using hL
        obtain rfl := Option.some.inj hL1
        clear hL hL1
        go_wp2_with (first | ((with_reducible refine gate_dst (N := 9) rfl ?_); refine box_event ?hg (N := 9) ?hd (cs := #[.int .i64 0, .int .i64 0, .string (⟨#[]⟩ : ByteArray)]) (t := 129) ?hr ?_; (case hd => rfl); (case hg => rfl); (case hr => (go_simp; done)); intro gb9 hg w10 hbox hb; have HZ := Aside0.mk hbox; have HX1 := Aside0.mk (blk_below HX.out hb); have HY1 := Aside0.mk (blk_below HY.out hb); have HM1 := Aside0.mk (HM.out.below hb); have HB1 := Aside0.mk (below_step HB.out hb); have GE9 := Aside0.mk ((by rw [hg]; exact below_size HB.out) : w.heap.size ≤ gb9); have N39 := Aside0.mk ((by rw [hg]; exact Nat.ne_of_lt N34.out) : gb3 ≠ gb9); have N49 := Aside0.mk ((by rw [hg]; exact Nat.ne_of_lt N44.out) : gb4 ≠ gb9); have NB9 := Aside0.mk ((by rw [hg]; exact Nat.ne_of_lt HLM.out) : B ≠ gb9); have hs0 := (blk_cell HZ.out 0); have hfs0 := blk_frozen HZ.out 0; have hs1 := (blk_cell HZ.out 1); have hfs1 := blk_frozen HZ.out 1; have hs2 := (blk_cell HZ.out 2); have hfs2 := blk_frozen HZ.out 2; clear hbox hb hg) | ((with_reducible refine gate_dst (N := 18) rfl ?_); refine wpList_load_row rfl 33 (.tmp 3) rfl gb3 rfl 33 #[.slice A0_0 l0_0.length c0_0, .slice A0_1 l0_1.length c0_1, .slice A0_2 l0_2.length c0_2, .int .i64 a0_3, .int .i64 a0_4, .int .i64 a0_5, .int .i64 a0_6, .int .i64 a0_7, .int .i64 a0_8, .int .i64 a0_9, .int .i64 a0_10, .int .i64 a0_11, .int .i64 a0_12, .int .i64 a0_13, .int .i64 a0_14, .int .i64 a0_15, .int .i64 a0_16, .slice A0_17 l0_17.length c0_17, .slice A0_18 l0_18.length c0_18, .slice A0_19 l0_19.length c0_19, .slice A0_20 l0_20.length c0_20, .slice A0_21 l0_21.length c0_21] (0, 0) _ (by repeat (first | exact HX1.out | refine blk_far ?_ N39.out _)) Try.underlying33 rfl (by kernel_rfl) ?_) | ((with_reducible refine gate_dst (N := 19) rfl ?_); refine wpList_load_row rfl 48 (.tmp 4) rfl gb4 rfl 48 #[.string a1_0, .int .i64 a1_1, .slice A1_2 l1_2.length c1_2] (0, 0) _ (by repeat (first | exact HY1.out | refine blk_far ?_ N49.out _)) Try.underlying48 rfl (by kernel_rfl) ?_) | (go_at_call 76; have HB2 := Aside0.mk (below_set (j := 2) (v := .string (rd_T129 l3_8 (kk : Int)).f2) (below_set (j := 1) (v := .int .i64 (rd_T129 l3_8 (kk : Int)).f1) (below_set (j := 0) (v := .int .i64 (rd_T129 l3_8 (kk : Int)).f0) HB1.out GE9.out) GE9.out) GE9.out); refine (report_belongs.calls k A0_0 c0_0 l0_0 A0_1 c0_1 l0_1 A0_2 c0_2 l0_2 a0_3 a0_4 a0_5 a0_6 a0_7 a0_8 a0_9 a0_10 a0_11 a0_12 a0_13 a0_14 a0_15 a0_16 A0_17 c0_17 l0_17 A0_18 c0_18 l0_18 A0_19 c0_19 l0_19 A0_20 c0_20 l0_20 A0_21 c0_21 l0_21 a1_0 a1_1 A1_2 c1_2 l1_2 (rd_T129 l3_8 (kk : Int)).f0 _ _ ?s0 HC0_0.out ?s1 HC0_1.out ?s2 HC0_2.out ?s17 HC0_17.out ?s18 HC0_18.out ?s19 HC0_19.out ?s20 HC0_20.out ?s21 HC0_21.out ?t1 HC1_2.out HBEL.out).mono ?_; (case s0 => exact Kd.C_below HR0_0.out HB2.out); (case s1 => exact Kd.C_below HR0_1.out HB2.out); (case s2 => exact Kd.C_below HR0_2.out HB2.out); (case s17 => exact Kd.C_below HR0_17.out HB2.out); (case s18 => exact Kd.C_below HR0_18.out HB2.out); (case s19 => exact Kd.C_below HR0_19.out HB2.out); (case s20 => exact Kd.C_below HR0_20.out HB2.out); (case s21 => exact Kd.C_below HR0_21.out HB2.out); (case t1 => exact Kd.C_below HR1_2.out HB2.out); rintro e w11 ⟨rfl, hb'⟩; have HB3 := Aside0.mk (below_step HB2.out hb'); have HX3 := Aside0.mk (blk_below (blk_far (p := ⟨gb9, 2, none⟩) (blk_far (p := ⟨gb9, 1, none⟩) (blk_far (p := ⟨gb9, 0, none⟩) HX1.out N39.out _) N39.out _) N39.out _) hb'); have HY3 := Aside0.mk (blk_below (blk_far (p := ⟨gb9, 2, none⟩) (blk_far (p := ⟨gb9, 1, none⟩) (blk_far (p := ⟨gb9, 0, none⟩) HY1.out N49.out _) N49.out _) N49.out _) hb'); have HM3 := Aside0.mk ((((HM1.out.far (i := 0) NB9.out _).far (i := 1) NB9.out _).far (i := 2) NB9.out _).below hb'); have HZ3 := Aside0.mk (blk_below (blk_put (blk_put (blk_put HZ.out 0 (.int .i64 (rd_T129 l3_8 (kk : Int)).f0) rfl) 1 (.int .i64 (rd_T129 l3_8 (kk : Int)).f1) rfl) 2 (.string (rd_T129 l3_8 (kk : Int)).f2) (cs' := #[.int .i64 (rd_T129 l3_8 (kk : Int)).f0, .int .i64 (rd_T129 l3_8 (kk : Int)).f1, .string (rd_T129 l3_8 (kk : Int)).f2]) rfl) hb'); have hz1 := (blk_cell HZ3.out 1); have hz2 := (blk_cell HZ3.out 2); have hy1 := (blk_cell HY3.out 1); clear hb'))
        go_roundg (l3_8.length - (kk + 1))
        case measure => have := hg.out; omega
        case rel => exact ⟨kk + 1, dn, _, by go_num, ⟨hlt⟩, ⟨Nat.le_refl _⟩, HRS, HS, ⟨HM3.out.mono (Nat.le_succ _)⟩, HX3, HY3, HB3⟩
      | true =>
        by_cases hsz : (rd_T129 l3_8 (kk : Int)).f2.size ≤ 140737488351232
        · rw [if_pos rfl, if_pos hsz] at hL
          have hL1 := Option.some.inj hL
          clear hL
          subst hL1
          have hsz' : (rd_T129 l3_8 (kk : Int)).f2.size ≤ maxLen := by unfold maxLen; omega
          have HSZ := Aside0.mk hsz'
          clear hsz hsz'
          go_wp2_with (first | ((with_reducible refine gate_dst (N := 9) rfl ?_); refine box_event ?hg (N := 9) ?hd (cs := #[.int .i64 0, .int .i64 0, .string (⟨#[]⟩ : ByteArray)]) (t := 129) ?hr ?_; (case hd => rfl); (case hg => rfl); (case hr => (go_simp; done)); intro gb9 hg w10 hbox hb; have HZ := Aside0.mk hbox; have HX1 := Aside0.mk (blk_below HX.out hb); have HY1 := Aside0.mk (blk_below HY.out hb); have HM1 := Aside0.mk (HM.out.below hb); have HB1 := Aside0.mk (below_step HB.out hb); have GE9 := Aside0.mk ((by rw [hg]; exact below_size HB.out) : w.heap.size ≤ gb9); have N39 := Aside0.mk ((by rw [hg]; exact Nat.ne_of_lt N34.out) : gb3 ≠ gb9); have N49 := Aside0.mk ((by rw [hg]; exact Nat.ne_of_lt N44.out) : gb4 ≠ gb9); have NB9 := Aside0.mk ((by rw [hg]; exact Nat.ne_of_lt HLM.out) : B ≠ gb9); have hs0 := (blk_cell HZ.out 0); have hfs0 := blk_frozen HZ.out 0; have hs1 := (blk_cell HZ.out 1); have hfs1 := blk_frozen HZ.out 1; have hs2 := (blk_cell HZ.out 2); have hfs2 := blk_frozen HZ.out 2; clear hbox hb hg) | ((with_reducible refine gate_dst (N := 18) rfl ?_); refine wpList_load_row rfl 33 (.tmp 3) rfl gb3 rfl 33 #[.slice A0_0 l0_0.length c0_0, .slice A0_1 l0_1.length c0_1, .slice A0_2 l0_2.length c0_2, .int .i64 a0_3, .int .i64 a0_4, .int .i64 a0_5, .int .i64 a0_6, .int .i64 a0_7, .int .i64 a0_8, .int .i64 a0_9, .int .i64 a0_10, .int .i64 a0_11, .int .i64 a0_12, .int .i64 a0_13, .int .i64 a0_14, .int .i64 a0_15, .int .i64 a0_16, .slice A0_17 l0_17.length c0_17, .slice A0_18 l0_18.length c0_18, .slice A0_19 l0_19.length c0_19, .slice A0_20 l0_20.length c0_20, .slice A0_21 l0_21.length c0_21] (0, 0) _ (by repeat (first | exact HX1.out | refine blk_far ?_ N39.out _)) Try.underlying33 rfl (by kernel_rfl) ?_) | ((with_reducible refine gate_dst (N := 19) rfl ?_); refine wpList_load_row rfl 48 (.tmp 4) rfl gb4 rfl 48 #[.string a1_0, .int .i64 a1_1, .slice A1_2 l1_2.length c1_2] (0, 0) _ (by repeat (first | exact HY1.out | refine blk_far ?_ N49.out _)) Try.underlying48 rfl (by kernel_rfl) ?_) | (go_at_call 76; have HB2 := Aside0.mk (below_set (j := 2) (v := .string (rd_T129 l3_8 (kk : Int)).f2) (below_set (j := 1) (v := .int .i64 (rd_T129 l3_8 (kk : Int)).f1) (below_set (j := 0) (v := .int .i64 (rd_T129 l3_8 (kk : Int)).f0) HB1.out GE9.out) GE9.out) GE9.out); refine (report_belongs.calls k A0_0 c0_0 l0_0 A0_1 c0_1 l0_1 A0_2 c0_2 l0_2 a0_3 a0_4 a0_5 a0_6 a0_7 a0_8 a0_9 a0_10 a0_11 a0_12 a0_13 a0_14 a0_15 a0_16 A0_17 c0_17 l0_17 A0_18 c0_18 l0_18 A0_19 c0_19 l0_19 A0_20 c0_20 l0_20 A0_21 c0_21 l0_21 a1_0 a1_1 A1_2 c1_2 l1_2 (rd_T129 l3_8 (kk : Int)).f0 _ _ ?s0 HC0_0.out ?s1 HC0_1.out ?s2 HC0_2.out ?s17 HC0_17.out ?s18 HC0_18.out ?s19 HC0_19.out ?s20 HC0_20.out ?s21 HC0_21.out ?t1 HC1_2.out HBEL.out).mono ?_; (case s0 => exact Kd.C_below HR0_0.out HB2.out); (case s1 => exact Kd.C_below HR0_1.out HB2.out); (case s2 => exact Kd.C_below HR0_2.out HB2.out); (case s17 => exact Kd.C_below HR0_17.out HB2.out); (case s18 => exact Kd.C_below HR0_18.out HB2.out); (case s19 => exact Kd.C_below HR0_19.out HB2.out); (case s20 => exact Kd.C_below HR0_20.out HB2.out); (case s21 => exact Kd.C_below HR0_21.out HB2.out); (case t1 => exact Kd.C_below HR1_2.out HB2.out); rintro e w11 ⟨rfl, hb'⟩; have HB3 := Aside0.mk (below_step HB2.out hb'); have HX3 := Aside0.mk (blk_below (blk_far (p := ⟨gb9, 2, none⟩) (blk_far (p := ⟨gb9, 1, none⟩) (blk_far (p := ⟨gb9, 0, none⟩) HX1.out N39.out _) N39.out _) N39.out _) hb'); have HY3 := Aside0.mk (blk_below (blk_far (p := ⟨gb9, 2, none⟩) (blk_far (p := ⟨gb9, 1, none⟩) (blk_far (p := ⟨gb9, 0, none⟩) HY1.out N49.out _) N49.out _) N49.out _) hb'); have HM3 := Aside0.mk ((((HM1.out.far (i := 0) NB9.out _).far (i := 1) NB9.out _).far (i := 2) NB9.out _).below hb'); have HZ3 := Aside0.mk (blk_below (blk_put (blk_put (blk_put HZ.out 0 (.int .i64 (rd_T129 l3_8 (kk : Int)).f0) rfl) 1 (.int .i64 (rd_T129 l3_8 (kk : Int)).f1) rfl) 2 (.string (rd_T129 l3_8 (kk : Int)).f2) (cs' := #[.int .i64 (rd_T129 l3_8 (kk : Int)).f0, .int .i64 (rd_T129 l3_8 (kk : Int)).f1, .string (rd_T129 l3_8 (kk : Int)).f2]) rfl) hb'); have hz1 := (blk_cell HZ3.out 1); have hz2 := (blk_cell HZ3.out 2); have hy1 := (blk_cell HY3.out 1); clear hb') | (at_lookup; obtain ⟨D, hown, hat⟩ := HM3.out; refine wpList_lookup_own_int _ rfl _ _ 94 rfl 9 3 .i64 mapLaw Try.underlying94 Try.underlying3 (mapZero _) B kk _ rfl hown _ _ rfl (Go.WideMaps.keyOf_string_mk Try.underlying9 HSZ.out) ?_; intro c hc hwc; rw [hat] at hc; simp only [DataW.lit.injEq, Lit.int.injEq, true_and] at hc; have HC9 := Aside0.mk hc; have HOWN := Aside0.mk hown; have HAT := Aside0.mk hat; clear hc hwc hown hat) | (at_mapUpdate; refine wpList_mapUpdate_own _ rfl _ _ _ 94 rfl 9 3 mapLaw Try.underlying94 _ B kk _ rfl HOWN.out (by unfold maxLen; omega) _ _ _ rfl rfl (Go.WideMaps.keyOf_string_mk Try.underlying9 HSZ.out) _ [] (plainElem_int Try.underlying3 (wrap64_wf _)) ?_; intro w12 hown1 hgrow1; have HO1 := Aside0.mk hown1; have HG1 := Aside0.mk hgrow1; clear hown1 hgrow1))
          have NX := Aside0.mk (HM3.out.ne HX3.out)
          have NY := Aside0.mk (HM3.out.ne HY3.out)
          go_roundg (l3_8.length - (kk + 1))
          case measure => have := hg.out; omega
          case rel =>
            refine ⟨kk + 1, dn ++ [((rd_T129 l3_8 (kk : Int)).f2, wrap64 (a1_1 * (rd_T129 l3_8 (kk : Int)).f1))], rs', by go_num, ⟨hlt⟩, ⟨Nat.le_refl _⟩, HRS, ⟨by rw [← HS.out]; simp⟩, ⟨?_⟩, ⟨blk_grownM HX3.out HG1.out (fun e => NX.out (Option.some.inj e))⟩, ⟨blk_grownM HY3.out HG1.out (fun e => NY.out (Option.some.inj e))⟩, ⟨HB3.out.grown HG1.out HB3.out.size (fun j hj => by cases hj; exact GB.out)⟩⟩
            rw [sumOf_snoc]
            have h9 := MapIs.put HOWN.out HAT.out HSZ.out HO1.out
            rw [← HC9.out] at h9
            exact h9
        · rw [if_pos rfl, if_neg hsz] at hL; cases hL
    · skip
      have hL := HL.out
      rw [List.drop_of_length_le (by omega), report_amounts.l] at hL
      obtain rfl := Option.some.inj hL
      go_wp2
      go_ret
      exact ⟨B, rfl, GB.out, by rw [← HS.out, List.append_nil]; exact HM.out.mono hkk.out, HB.out⟩
end Go.Proofs.Ytcmaifjmnpfmbaa.R
