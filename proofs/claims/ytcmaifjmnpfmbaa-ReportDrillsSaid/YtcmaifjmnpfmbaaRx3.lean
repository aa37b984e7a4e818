-- Made by wip/tools/ext.py (this project's) over the kit's print, with external functions' contracts by hand. Not trusted: Lean checks it.
import Derived.Test.YtcmaifjmnpfmbaaRx0
import Derived.Test.YtcmaifjmnpfmbaaRx2
namespace Go.Proofs.Ytcmaifjmnpfmbaa.R
open Go.RowKit Go.Proofs.YtcmaifjmnpfmbaaW.PrintWords Go.Proofs.YtcmaifjmnpfmbaaW.PrintLast Go.Proofs.YtcmaifjmnpfmbaaW.PrintMore
attribute [local go_sem] max2_int min2_int max_two min_two max_three min_three max_four min_four   -- for this text's walks alone
set_option linter.unusedVariables false
set_option linter.unusedSimpArgs false
/-! ### corebankref16_Great: function 46 -/
mutual
def corebankref16_Great.j0 : Nat → Bool → ByteArray → ByteArray → ByteArray → Int → Int → Int → Int → List (S182) → Bool → Int → Int → Bool → List (S182) → Bool → Int → Int → Bool → List (S124) → List (S127) → Option (Bool)
 | 0, _, _, _, _, _, _, _, _, _, _, _, _, _, _, _, _, _, _, _, _ => none
 | k + 1, x46, x108000, x108001, x108002, x108003, x108004, x108005, x108006, x108007, x108008, x108009, x108010, x108011, x108012, x108013, x108014, x108015, x108016, x108017, x108018 => if x46 = true then (some true) else (corebankref16_Great.l0 k 0 x108000 x108001 x108002 x108003 x108004 x108005 x108006 x108007 x108008 x108009 x108010 x108011 x108012 x108013 x108014 x108015 x108016 x108017 x108018)
def corebankref16_Great.l0 : Nat → Int → ByteArray → ByteArray → ByteArray → Int → Int → Int → Int → List (S182) → Bool → Int → Int → Bool → List (S182) → Bool → Int → Int → Bool → List (S124) → List (S127) → Option (Bool)
 | 0, _, _, _, _, _, _, _, _, _, _, _, _, _, _, _, _, _, _, _, _ => none
 | k + 1, x3, x108000, x108001, x108002, x108003, x108004, x108005, x108006, x108007, x108008, x108009, x108010, x108011, x108012, x108013, x108014, x108015, x108016, x108017, x108018 => if x3 < (x108017.length : Int) then (if 0 ≤ x3 then (if (((rd_T124 x108017 x3).f0).size : Int) > 100 then (some true) else ((corebankref10_Great.f k ((rd_T124 x108017 x3).f2.f0) ((rd_T124 x108017 x3).f2.f1) ((rd_T124 x108017 x3).f2.f2) ((rd_T124 x108017 x3).f2.f3) 100).bind fun t110 => (if t110 = true then (some true) else ((corebankref10_Great.f k ((rd_T124 x108017 x3).f3.f0) ((rd_T124 x108017 x3).f3.f1) ((rd_T124 x108017 x3).f3.f2) ((rd_T124 x108017 x3).f3.f3) 100).bind fun t112 => (if t112 = true then (some true) else (corebankref16_Great.l0 k (wrap64 (x3 + 1)) x108000 x108001 x108002 x108003 x108004 x108005 x108006 x108007 x108008 x108009 x108010 x108011 x108012 x108013 x108014 x108015 x108016 x108017 x108018)))))) else (none)) else (corebankref16_Great.l1 k 0 x108000 x108001 x108002 x108003 x108004 x108005 x108006 x108007 x108008 x108009 x108010 x108011 x108012 x108013 x108014 x108015 x108016 x108017 x108018)
def corebankref16_Great.l1 : Nat → Int → ByteArray → ByteArray → ByteArray → Int → Int → Int → Int → List (S182) → Bool → Int → Int → Bool → List (S182) → Bool → Int → Int → Bool → List (S124) → List (S127) → Option (Bool)
 | 0, _, _, _, _, _, _, _, _, _, _, _, _, _, _, _, _, _, _, _, _ => none
 | k + 1, x4, x108000, x108001, x108002, x108003, x108004, x108005, x108006, x108007, x108008, x108009, x108010, x108011, x108012, x108013, x108014, x108015, x108016, x108017, x108018 => if x4 < (x108018.length : Int) then (if 0 ≤ x4 then (if (((rd_T127 x108018 x4).f0).size : Int) > 100 then (some true) else ((corebankref10_Great.f k ((rd_T127 x108018 x4).f2.f0) ((rd_T127 x108018 x4).f2.f1) ((rd_T127 x108018 x4).f2.f2) ((rd_T127 x108018 x4).f2.f3) 100).bind fun t115 => (if t115 = true then (some true) else (corebankref16_Great.l1 k (wrap64 (x4 + 1)) x108000 x108001 x108002 x108003 x108004 x108005 x108006 x108007 x108008 x108009 x108010 x108011 x108012 x108013 x108014 x108015 x108016 x108017 x108018)))) else (none)) else (some false)
end
def corebankref16_Great.f (k : Nat) (a0_0 : ByteArray) (a0_1 : ByteArray) (a0_2 : ByteArray) (a0_3 : Int) (a0_4 : Int) (a0_5 : Int) (a0_6 : Int) (l0_7 : List (S182)) (a0_8 : Bool) (a0_9 : Int) (a0_10 : Int) (a0_11 : Bool) (l0_12 : List (S182)) (a0_13 : Bool) (a0_14 : Int) (a0_15 : Int) (a0_16 : Bool) (l0_17 : List (S124)) (l0_18 : List (S127)) : Option (Bool) := if (a0_0.size : Int) > 100 then (corebankref16_Great.j0 k true a0_0 a0_1 a0_2 a0_3 a0_4 a0_5 a0_6 l0_7 a0_8 a0_9 a0_10 a0_11 l0_12 a0_13 a0_14 a0_15 a0_16 l0_17 l0_18) else (if (a0_1.size : Int) > 100 then (corebankref16_Great.j0 k true a0_0 a0_1 a0_2 a0_3 a0_4 a0_5 a0_6 l0_7 a0_8 a0_9 a0_10 a0_11 l0_12 a0_13 a0_14 a0_15 a0_16 l0_17 l0_18) else (if (a0_2.size : Int) > 100 then (corebankref16_Great.j0 k true a0_0 a0_1 a0_2 a0_3 a0_4 a0_5 a0_6 l0_7 a0_8 a0_9 a0_10 a0_11 l0_12 a0_13 a0_14 a0_15 a0_16 l0_17 l0_18) else (if (l0_7.length : Int) > 20 then (corebankref16_Great.j0 k true a0_0 a0_1 a0_2 a0_3 a0_4 a0_5 a0_6 l0_7 a0_8 a0_9 a0_10 a0_11 l0_12 a0_13 a0_14 a0_15 a0_16 l0_17 l0_18) else (if (l0_12.length : Int) > 20 then (corebankref16_Great.j0 k true a0_0 a0_1 a0_2 a0_3 a0_4 a0_5 a0_6 l0_7 a0_8 a0_9 a0_10 a0_11 l0_12 a0_13 a0_14 a0_15 a0_16 l0_17 l0_18) else (if (l0_17.length : Int) > 10 then (corebankref16_Great.j0 k true a0_0 a0_1 a0_2 a0_3 a0_4 a0_5 a0_6 l0_7 a0_8 a0_9 a0_10 a0_11 l0_12 a0_13 a0_14 a0_15 a0_16 l0_17 l0_18) else (corebankref16_Great.j0 k (decide ((l0_18.length : Int) > 10)) a0_0 a0_1 a0_2 a0_3 a0_4 a0_5 a0_6 l0_7 a0_8 a0_9 a0_10 a0_11 l0_12 a0_13 a0_14 a0_15 a0_16 l0_17 l0_18))))))
set_option maxHeartbeats 8000000 in
set_option maxRecDepth 100000 in
theorem corebankref16_Great.calls (k : Nat) (a0_0 : ByteArray) (a0_1 : ByteArray) (a0_2 : ByteArray) (a0_3 : Int) (a0_4 : Int) (a0_5 : Int) (a0_6 : Int) (A0_7 : Option Addr) (c0_7 : Nat) (l0_7 : List (S182)) (a0_8 : Bool) (a0_9 : Int) (a0_10 : Int) (a0_11 : Bool) (A0_12 : Option Addr) (c0_12 : Nat) (l0_12 : List (S182)) (a0_13 : Bool) (a0_14 : Int) (a0_15 : Int) (a0_16 : Bool) (A0_17 : Option Addr) (c0_17 : Nat) (l0_17 : List (S124)) (A0_18 : Option Addr) (c0_18 : Nat) (l0_18 : List (S127)) (r : Bool) (w : World) (hr0_7 : Kd.C k182 w A0_7 l0_7.length l0_7) (hc0_7 : l0_7.length ≤ c0_7) (hr0_12 : Kd.C k182 w A0_12 l0_12.length l0_12) (hc0_12 : l0_12.length ≤ c0_12) (hr0_17 : Kd.C k124 w A0_17 l0_17.length l0_17) (hc0_17 : l0_17.length ≤ c0_17) (hr0_18 : Kd.C k127 w A0_18 l0_18.length l0_18) (hc0_18 : l0_18.length ≤ c0_18) (h : corebankref16_Great.f k a0_0 a0_1 a0_2 a0_3 a0_4 a0_5 a0_6 l0_7 a0_8 a0_9 a0_10 a0_11 l0_12 a0_13 a0_14 a0_15 a0_16 l0_17 l0_18 = some r) :
  Calls Try.prog 46 #[.agg #[.string a0_0, .string a0_1, .string a0_2, .int .i64 a0_3, .int .i64 a0_4, .int .i64 a0_5, .int .i64 a0_6, .slice A0_7 l0_7.length c0_7, .bool a0_8, .int .i64 a0_9, .int .i64 a0_10, .bool a0_11, .slice A0_12 l0_12.length c0_12, .bool a0_13, .int .i64 a0_14, .int .i64 a0_15, .bool a0_16, .slice A0_17 l0_17.length c0_17, .slice A0_18 l0_18.length c0_18]] w fun e w' => e = .returned (.bool r) ∧ Below w.heap.size w w' := by
 clear hr0_7 hc0_7
 clear hr0_12 hc0_12
 have HR0_17 := Aside0.mk hr0_17
 clear hr0_17 hc0_17
 have HR0_18 := Aside0.mk hr0_18
 clear hr0_18 hc0_18
 have HB := Aside0.mk (Below.refl w.heap.size w)
 have H : (if (a0_0.size : Int) > 100 then (corebankref16_Great.j0 k true a0_0 a0_1 a0_2 a0_3 a0_4 a0_5 a0_6 l0_7 a0_8 a0_9 a0_10 a0_11 l0_12 a0_13 a0_14 a0_15 a0_16 l0_17 l0_18) else (if (a0_1.size : Int) > 100 then (corebankref16_Great.j0 k true a0_0 a0_1 a0_2 a0_3 a0_4 a0_5 a0_6 l0_7 a0_8 a0_9 a0_10 a0_11 l0_12 a0_13 a0_14 a0_15 a0_16 l0_17 l0_18) else (if (a0_2.size : Int) > 100 then (corebankref16_Great.j0 k true a0_0 a0_1 a0_2 a0_3 a0_4 a0_5 a0_6 l0_7 a0_8 a0_9 a0_10 a0_11 l0_12 a0_13 a0_14 a0_15 a0_16 l0_17 l0_18) else (if (l0_7.length : Int) > 20 then (corebankref16_Great.j0 k true a0_0 a0_1 a0_2 a0_3 a0_4 a0_5 a0_6 l0_7 a0_8 a0_9 a0_10 a0_11 l0_12 a0_13 a0_14 a0_15 a0_16 l0_17 l0_18) else (if (l0_12.length : Int) > 20 then (corebankref16_Great.j0 k true a0_0 a0_1 a0_2 a0_3 a0_4 a0_5 a0_6 l0_7 a0_8 a0_9 a0_10 a0_11 l0_12 a0_13 a0_14 a0_15 a0_16 l0_17 l0_18) else (if (l0_17.length : Int) > 10 then (corebankref16_Great.j0 k true a0_0 a0_1 a0_2 a0_3 a0_4 a0_5 a0_6 l0_7 a0_8 a0_9 a0_10 a0_11 l0_12 a0_13 a0_14 a0_15 a0_16 l0_17 l0_18) else (corebankref16_Great.j0 k (decide ((l0_18.length : Int) > 10)) a0_0 a0_1 a0_2 a0_3 a0_4 a0_5 a0_6 l0_7 a0_8 a0_9 a0_10 a0_11 l0_12 a0_13 a0_14 a0_15 a0_16 l0_17 l0_18))))))) = some r := h
 clear h
 have HC2 := Aside0.mk H
 clear H
 go_enter Try.func46, Try.ntmps46
 go_upto_region 1 with (first | ((with_reducible refine gate_dst (N := 1) rfl ?_); (try (refine gate_guard (by rfl) ?_; dsimp only)); refine box_event ?hg (N := 1) ?hd (cs := #[.string a0_0, .string a0_1, .string a0_2, .int .i64 a0_3, .int .i64 a0_4, .int .i64 a0_5, .int .i64 a0_6, .slice A0_7 l0_7.length c0_7, .bool a0_8, .int .i64 a0_9, .int .i64 a0_10, .bool a0_11, .slice A0_12 l0_12.length c0_12, .bool a0_13, .int .i64 a0_14, .int .i64 a0_15, .bool a0_16, .slice A0_17 l0_17.length c0_17, .slice A0_18 l0_18.length c0_18]) (t := 79) ?hr ?_; (case hd => rfl); (case hg => rfl); (case hr => (go_simp; done)); intro gb107 hg w3 hbox hb; have n0_ := Aside0.mk (below_step HB.out hb); have n1_ := Aside0.mk (hbox); have n2_ := Aside0.mk ((by rw [hg]; exact (below_size HB.out) : w.heap.size ≤ gb107)); have n3_ := n2_; clear HB; have HB := n0_; have BK107 := n1_; clear n0_ n1_ n2_ n3_; clear hb hbox hg))
 go_cut [46] (fun v46 wc => ∃ (kq : Nat) (x46_1 : Bool), v46 = .bool x46_1 ∧ Aside0 (corebankref16_Great.j0 kq x46_1 a0_0 a0_1 a0_2 a0_3 a0_4 a0_5 a0_6 l0_7 a0_8 a0_9 a0_10 a0_11 l0_12 a0_13 a0_14 a0_15 a0_16 l0_17 l0_18 = some r) ∧ Aside0 (kq ≤ k) ∧ Aside0 (wc.heap[gb107]? = some (.cells #[.string a0_0, .string a0_1, .string a0_2, .int .i64 a0_3, .int .i64 a0_4, .int .i64 a0_5, .int .i64 a0_6, (.slice A0_7 l0_7.length c0_7), .bool a0_8, .int .i64 a0_9, .int .i64 a0_10, .bool a0_11, (.slice A0_12 l0_12.length c0_12), .bool a0_13, .int .i64 a0_14, .int .i64 a0_15, .bool a0_16, (.slice A0_17 l0_17.length c0_17), (.slice A0_18 l0_18.length c0_18)] 79 (0, 0))) ∧ Aside0 (Below w.heap.size w wc))
 case first =>
  have H := HC2.out
  clear HC2
  by_cases c4 : (a0_0.size : Int) > 100
  ·rw [if_pos c4] at H
   have c4b0 : decide (100 < (a0_0.size : Int)) = true := decide_eq_true c4
   clear c4
   have H' := Aside0.mk H
   clear H
   have hcz5_0 : w3.cell? ⟨gb107, 0, none⟩ = some (.string a0_0) := (blk_cell BK107.out 0).trans rfl
   go_wp2
   go_meet
   case rel => exact ⟨_, (true), (by rfl), H', ⟨by (omega)⟩, ⟨BK107.out⟩, ⟨HB.out⟩⟩
  ·rw [if_neg c4] at H
   have c4b0 : decide (100 < (a0_0.size : Int)) = false := decide_eq_false c4
   clear c4
   by_cases c6 : (a0_1.size : Int) > 100
   ·rw [if_pos c6] at H
    have c6b0 : decide (100 < (a0_1.size : Int)) = true := decide_eq_true c6
    clear c6
    have H' := Aside0.mk H
    clear H
    have hcz7_0 : w3.cell? ⟨gb107, 0, none⟩ = some (.string a0_0) := (blk_cell BK107.out 0).trans rfl
    have hcz7_1 : w3.cell? ⟨gb107, 1, none⟩ = some (.string a0_1) := (blk_cell BK107.out 1).trans rfl
    go_wp2
    go_meet
    case rel => exact ⟨_, (true), (by rfl), H', ⟨by (omega)⟩, ⟨BK107.out⟩, ⟨HB.out⟩⟩
   ·rw [if_neg c6] at H
    have c6b0 : decide (100 < (a0_1.size : Int)) = false := decide_eq_false c6
    clear c6
    by_cases c8 : (a0_2.size : Int) > 100
    ·rw [if_pos c8] at H
     have c8b0 : decide (100 < (a0_2.size : Int)) = true := decide_eq_true c8
     clear c8
     have H' := Aside0.mk H
     clear H
     have hcz9_0 : w3.cell? ⟨gb107, 0, none⟩ = some (.string a0_0) := (blk_cell BK107.out 0).trans rfl
     have hcz9_1 : w3.cell? ⟨gb107, 1, none⟩ = some (.string a0_1) := (blk_cell BK107.out 1).trans rfl
     have hcz9_2 : w3.cell? ⟨gb107, 2, none⟩ = some (.string a0_2) := (blk_cell BK107.out 2).trans rfl
     go_wp2
     go_meet
     case rel => exact ⟨_, (true), (by rfl), H', ⟨by (omega)⟩, ⟨BK107.out⟩, ⟨HB.out⟩⟩
    ·rw [if_neg c8] at H
     have c8b0 : decide (100 < (a0_2.size : Int)) = false := decide_eq_false c8
     clear c8
     by_cases c10 : (l0_7.length : Int) > 20
     ·rw [if_pos c10] at H
      have c10b0 : decide (20 < (l0_7.length : Int)) = true := decide_eq_true c10
      clear c10
      have H' := Aside0.mk H
      clear H
      have hcz11_0 : w3.cell? ⟨gb107, 0, none⟩ = some (.string a0_0) := (blk_cell BK107.out 0).trans rfl
      have hcz11_1 : w3.cell? ⟨gb107, 1, none⟩ = some (.string a0_1) := (blk_cell BK107.out 1).trans rfl
      have hcz11_2 : w3.cell? ⟨gb107, 2, none⟩ = some (.string a0_2) := (blk_cell BK107.out 2).trans rfl
      have hcz11_7 : w3.cell? ⟨gb107, 7, none⟩ = some (.slice A0_7 l0_7.length c0_7) := (blk_cell BK107.out 7).trans rfl
      go_wp2
      go_meet
      case rel => exact ⟨_, (true), (by rfl), H', ⟨by (omega)⟩, ⟨BK107.out⟩, ⟨HB.out⟩⟩
     ·rw [if_neg c10] at H
      have c10b0 : decide (20 < (l0_7.length : Int)) = false := decide_eq_false c10
      clear c10
      by_cases c12 : (l0_12.length : Int) > 20
      ·rw [if_pos c12] at H
       have c12b0 : decide (20 < (l0_12.length : Int)) = true := decide_eq_true c12
       clear c12
       have H' := Aside0.mk H
       clear H
       have hcz13_0 : w3.cell? ⟨gb107, 0, none⟩ = some (.string a0_0) := (blk_cell BK107.out 0).trans rfl
       have hcz13_1 : w3.cell? ⟨gb107, 1, none⟩ = some (.string a0_1) := (blk_cell BK107.out 1).trans rfl
       have hcz13_2 : w3.cell? ⟨gb107, 2, none⟩ = some (.string a0_2) := (blk_cell BK107.out 2).trans rfl
       have hcz13_7 : w3.cell? ⟨gb107, 7, none⟩ = some (.slice A0_7 l0_7.length c0_7) := (blk_cell BK107.out 7).trans rfl
       have hcz13_12 : w3.cell? ⟨gb107, 12, none⟩ = some (.slice A0_12 l0_12.length c0_12) := (blk_cell BK107.out 12).trans rfl
       go_wp2
       go_meet
       case rel => exact ⟨_, (true), (by rfl), H', ⟨by (omega)⟩, ⟨BK107.out⟩, ⟨HB.out⟩⟩
      ·rw [if_neg c12] at H
       have c12b0 : decide (20 < (l0_12.length : Int)) = false := decide_eq_false c12
       clear c12
       by_cases c14 : (l0_17.length : Int) > 10
       ·rw [if_pos c14] at H
        have c14b0 : decide (10 < (l0_17.length : Int)) = true := decide_eq_true c14
        clear c14
        have H' := Aside0.mk H
        clear H
        have hcz15_0 : w3.cell? ⟨gb107, 0, none⟩ = some (.string a0_0) := (blk_cell BK107.out 0).trans rfl
        have hcz15_1 : w3.cell? ⟨gb107, 1, none⟩ = some (.string a0_1) := (blk_cell BK107.out 1).trans rfl
        have hcz15_2 : w3.cell? ⟨gb107, 2, none⟩ = some (.string a0_2) := (blk_cell BK107.out 2).trans rfl
        have hcz15_7 : w3.cell? ⟨gb107, 7, none⟩ = some (.slice A0_7 l0_7.length c0_7) := (blk_cell BK107.out 7).trans rfl
        have hcz15_12 : w3.cell? ⟨gb107, 12, none⟩ = some (.slice A0_12 l0_12.length c0_12) := (blk_cell BK107.out 12).trans rfl
        have hcz15_17 : w3.cell? ⟨gb107, 17, none⟩ = some (.slice A0_17 l0_17.length c0_17) := (blk_cell BK107.out 17).trans rfl
        go_wp2
        go_meet
        case rel => exact ⟨_, (true), (by rfl), H', ⟨by (omega)⟩, ⟨BK107.out⟩, ⟨HB.out⟩⟩
       ·rw [if_neg c14] at H
        have c14b0 : decide (10 < (l0_17.length : Int)) = false := decide_eq_false c14
        clear c14
        have H' := Aside0.mk H
        clear H
        have hcz16_0 : w3.cell? ⟨gb107, 0, none⟩ = some (.string a0_0) := (blk_cell BK107.out 0).trans rfl
        have hcz16_1 : w3.cell? ⟨gb107, 1, none⟩ = some (.string a0_1) := (blk_cell BK107.out 1).trans rfl
        have hcz16_2 : w3.cell? ⟨gb107, 2, none⟩ = some (.string a0_2) := (blk_cell BK107.out 2).trans rfl
        have hcz16_7 : w3.cell? ⟨gb107, 7, none⟩ = some (.slice A0_7 l0_7.length c0_7) := (blk_cell BK107.out 7).trans rfl
        have hcz16_12 : w3.cell? ⟨gb107, 12, none⟩ = some (.slice A0_12 l0_12.length c0_12) := (blk_cell BK107.out 12).trans rfl
        have hcz16_17 : w3.cell? ⟨gb107, 17, none⟩ = some (.slice A0_17 l0_17.length c0_17) := (blk_cell BK107.out 17).trans rfl
        have hcz16_18 : w3.cell? ⟨gb107, 18, none⟩ = some (.slice A0_18 l0_18.length c0_18) := (blk_cell BK107.out 18).trans rfl
        go_wp2
        go_meet
        case rel => exact ⟨_, (decide ((l0_18.length : Int) > 10)), (by rfl), H', ⟨by (omega)⟩, ⟨BK107.out⟩, ⟨HB.out⟩⟩
 case rest =>
  clear HC2
  obtain ⟨kq, x46_1, rfl, HA, HJ1, BK107, HB⟩ := hcut
  cases kq with
  | zero => exact absurd HA.out (by simp [corebankref16_Great.j0])
  | succ kj1 =>
   have H := HA.out
   clear HA
   simp only [corebankref16_Great.j0] at H
   by_cases c17 : x46_1 = true
   ·subst c17
    have H1 : (some true) = some r := by rw [if_pos rfl] at H; exact H
    clear H
    have H := H1
    clear H1
    obtain rfl := Option.some.inj H
    go_wp2
    go_ret
    exact ⟨by (rfl), HB.out⟩
   ·replace c17 := Bool.eq_false_iff.mpr c17
    subst c17
    have H1 : (corebankref16_Great.l0 kj1 0 a0_0 a0_1 a0_2 a0_3 a0_4 a0_5 a0_6 l0_7 a0_8 a0_9 a0_10 a0_11 l0_12 a0_13 a0_14 a0_15 a0_16 l0_17 l0_18) = some r := by rw [if_neg (show ¬ (false = true) by decide)] at H; exact H
    clear H
    have H := H1
    clear H1
    have H' := Aside0.mk H
    clear H
    go_wp2
    go_loopg [3] kj1 (fun kq v3 w' => ∃ (x3_2 : Int), v3 = .int .i64 x3_2 ∧ Aside0 (corebankref16_Great.l0 kq x3_2 a0_0 a0_1 a0_2 a0_3 a0_4 a0_5 a0_6 l0_7 a0_8 a0_9 a0_10 a0_11 l0_12 a0_13 a0_14 a0_15 a0_16 l0_17 l0_18 = some r) ∧ Aside0 (kq ≤ kj1) ∧ Aside0 (w'.heap[gb107]? = some (.cells #[.string a0_0, .string a0_1, .string a0_2, .int .i64 a0_3, .int .i64 a0_4, .int .i64 a0_5, .int .i64 a0_6, (.slice A0_7 l0_7.length c0_7), .bool a0_8, .int .i64 a0_9, .int .i64 a0_10, .bool a0_11, (.slice A0_12 l0_12.length c0_12), .bool a0_13, .int .i64 a0_14, .int .i64 a0_15, .bool a0_16, (.slice A0_17 l0_17.length c0_17), (.slice A0_18 l0_18.length c0_18)] 79 (0, 0))) ∧ Aside0 (Below w.heap.size w w'))
    case atStart => exact ⟨(0), (by rfl), H', ⟨Nat.le_refl _⟩, ⟨BK107.out⟩, ⟨HB.out⟩⟩
    case round =>
     clear H'
     obtain ⟨x3_2, rfl, HA, HK2, BK107, HB⟩ := hrel
     cases gk with
     | zero => exact absurd HA.out (by simp [corebankref16_Great.l0])
     | succ k2 =>
      have H := HA.out
      clear HA
      simp only [corebankref16_Great.l0] at H
      by_cases c18 : x3_2 < (l0_17.length : Int)
      ·rw [if_pos c18] at H
       have c18b0 : decide (x3_2 < (l0_17.length : Int)) = true := decide_eq_true c18
       clear c18
       by_cases c19 : 0 ≤ x3_2
       ·rw [if_pos c19] at H
        have c19b0 : decide (0 ≤ x3_2) = true := decide_eq_true c19
        clear c19
        by_cases c20 : (((rd_T124 l0_17 x3_2).f0).size : Int) > 100
        ·rw [if_pos c20] at H
         have c20b0 : decide (100 < (((rd_T124 l0_17 x3_2).f0).size : Int)) = true := decide_eq_true c20
         clear c20
         obtain rfl := Option.some.inj H
         have hcz21_17 : wr.cell? ⟨gb107, 17, none⟩ = some (.slice A0_17 l0_17.length c0_17) := (blk_cell BK107.out 17).trans rfl
         have p108 : 0 ≤ (x3_2 : Int) := of_decide_eq_true (by (with_reducible assumption))
         have q108 : x3_2 < (l0_17.length : Int) := of_decide_eq_true (by (with_reducible assumption))
         obtain ⟨ad108, A108_5, c108_5, A108_9, c108_9, e108, hx108_0, hx108_1, hx108_2, hx108_3, hx108_4, hx108_5, hx108_6, hx108_7, hx108_8, hx108_9, hl108_5, hi108_5, hl108_9, hi108_9⟩ := at_T124 HR0_17.out x3_2 p108 q108
         cases e108
         replace hx108_0 := (HB.out.cell (World.block_lt_of_cell? w _ hx108_0)).trans hx108_0
         replace hx108_2 := (HB.out.cell (World.block_lt_of_cell? w _ hx108_2)).trans hx108_2
         replace hx108_3 := (HB.out.cell (World.block_lt_of_cell? w _ hx108_3)).trans hx108_3
         replace hx108_4 := (HB.out.cell (World.block_lt_of_cell? w _ hx108_4)).trans hx108_4
         replace hx108_5 := (HB.out.cell (World.block_lt_of_cell? w _ hx108_5)).trans hx108_5
         replace hx108_9 := (HB.out.cell (World.block_lt_of_cell? w _ hx108_9)).trans hx108_9
         clear hi108_5 hl108_5
         clear hi108_9 hl108_9
         replace p108 := eq_true p108
         replace q108 := eq_true q108
         go_wp2
         go_ret
         exact ⟨by (rfl), HB.out⟩
        ·rw [if_neg c20] at H
         have c20b0 : decide (100 < (((rd_T124 l0_17 x3_2).f0).size : Int)) = false := decide_eq_false c20
         clear c20
         replace H := Option.bind_eq_some_iff.mp H
         obtain ⟨t110, A220, H⟩ := H
         replace H : (if t110 = true then (some true) else ((corebankref10_Great.f k2 ((rd_T124 l0_17 x3_2).f3.f0) ((rd_T124 l0_17 x3_2).f3.f1) ((rd_T124 l0_17 x3_2).f3.f2) ((rd_T124 l0_17 x3_2).f3.f3) 100).bind fun t112 => (if t112 = true then (some true) else (corebankref16_Great.l0 k2 (wrap64 (x3_2 + 1)) a0_0 a0_1 a0_2 a0_3 a0_4 a0_5 a0_6 l0_7 a0_8 a0_9 a0_10 a0_11 l0_12 a0_13 a0_14 a0_15 a0_16 l0_17 l0_18)))) = some r := H
         have A22 := Aside0.mk A220
         clear A220
         by_cases c23 : t110 = true
         ·subst c23
          have H1 : (some true) = some r := by rw [if_pos rfl] at H; exact H
          clear H
          have H := H1
          clear H1
          obtain rfl := Option.some.inj H
          have hcz24_17 : wr.cell? ⟨gb107, 17, none⟩ = some (.slice A0_17 l0_17.length c0_17) := (blk_cell BK107.out 17).trans rfl
          have p108 : 0 ≤ (x3_2 : Int) := of_decide_eq_true (by (with_reducible assumption))
          have q108 : x3_2 < (l0_17.length : Int) := of_decide_eq_true (by (with_reducible assumption))
          obtain ⟨ad108, A108_5, c108_5, A108_9, c108_9, e108, hx108_0, hx108_1, hx108_2, hx108_3, hx108_4, hx108_5, hx108_6, hx108_7, hx108_8, hx108_9, hl108_5, hi108_5, hl108_9, hi108_9⟩ := at_T124 HR0_17.out x3_2 p108 q108
          cases e108
          replace hx108_0 := (HB.out.cell (World.block_lt_of_cell? w _ hx108_0)).trans hx108_0
          replace hx108_2 := (HB.out.cell (World.block_lt_of_cell? w _ hx108_2)).trans hx108_2
          replace hx108_3 := (HB.out.cell (World.block_lt_of_cell? w _ hx108_3)).trans hx108_3
          replace hx108_4 := (HB.out.cell (World.block_lt_of_cell? w _ hx108_4)).trans hx108_4
          replace hx108_5 := (HB.out.cell (World.block_lt_of_cell? w _ hx108_5)).trans hx108_5
          replace hx108_9 := (HB.out.cell (World.block_lt_of_cell? w _ hx108_9)).trans hx108_9
          clear hi108_5 hl108_5
          clear hi108_9 hl108_9
          replace p108 := eq_true p108
          replace q108 := eq_true q108
          have p109 : 0 ≤ (x3_2 : Int) := of_decide_eq_true (by (with_reducible assumption))
          have q109 : x3_2 < (l0_17.length : Int) := of_decide_eq_true (by (with_reducible assumption))
          obtain ⟨ad109, A109_5, c109_5, A109_9, c109_9, e109, hx109_0, hx109_1, hx109_2, hx109_3, hx109_4, hx109_5, hx109_6, hx109_7, hx109_8, hx109_9, hl109_5, hi109_5, hl109_9, hi109_9⟩ := at_T124 HR0_17.out x3_2 p109 q109
          obtain rfl : ad108 = ad109 := (by injection e109)
          replace hx109_5 := (HB.out.cell (World.block_lt_of_cell? w _ hx109_5)).trans hx109_5
          replace hx109_9 := (HB.out.cell (World.block_lt_of_cell? w _ hx109_9)).trans hx109_9
          have HR109_5 := Aside0.mk hi109_5
          have HC109_5 := Aside0.mk hl109_5
          clear hi109_5 hl109_5
          have HR109_9 := Aside0.mk hi109_9
          have HC109_9 := Aside0.mk hl109_9
          clear hi109_9 hl109_9
          replace p109 := eq_true p109
          replace q109 := eq_true q109
          have ea_ := Option.some.inj (hx108_5.symm.trans hx109_5)
          injection ea_ with ea_ en_ ec_
          subst ea_
          subst ec_
          clear en_
          have ea_ := Option.some.inj (hx108_9.symm.trans hx109_9)
          injection ea_ with ea_ en_ ec_
          subst ea_
          subst ec_
          clear en_
          go_wp2_with (first | (go_at_call 74; (with_reducible refine (corebankref10_Great.calls k2 ((rd_T124 l0_17 x3_2).f2.f0) ((rd_T124 l0_17 x3_2).f2.f1) ((rd_T124 l0_17 x3_2).f2.f2) _ _ ((rd_T124 l0_17 x3_2).f2.f3) 100 true _ ?side1 ?side2 A22.out).mono ?_); (case side1 => exact (Kd.C_below HR109_5.out HB.out)); (case side2 => exact HC109_5.out); rintro e w25 ⟨rfl, hb⟩; have n0_ := Aside0.mk (blk_below BK107.out hb); have n1_ := Aside0.mk (below_step HB.out hb); clear BK107; clear HB; have BK107 := n0_; have HB := n1_; clear n0_ n1_; (try clear hb)))
          go_ret
          exact ⟨by (rfl), HB.out⟩
         ·replace c23 := Bool.eq_false_iff.mpr c23
          subst c23
          have H1 : ((corebankref10_Great.f k2 ((rd_T124 l0_17 x3_2).f3.f0) ((rd_T124 l0_17 x3_2).f3.f1) ((rd_T124 l0_17 x3_2).f3.f2) ((rd_T124 l0_17 x3_2).f3.f3) 100).bind fun t112 => (if t112 = true then (some true) else (corebankref16_Great.l0 k2 (wrap64 (x3_2 + 1)) a0_0 a0_1 a0_2 a0_3 a0_4 a0_5 a0_6 l0_7 a0_8 a0_9 a0_10 a0_11 l0_12 a0_13 a0_14 a0_15 a0_16 l0_17 l0_18))) = some r := by rw [if_neg (show ¬ (false = true) by decide)] at H; exact H
          clear H
          have H := H1
          clear H1
          replace H := Option.bind_eq_some_iff.mp H
          obtain ⟨t112, A260, H⟩ := H
          replace H : (if t112 = true then (some true) else (corebankref16_Great.l0 k2 (wrap64 (x3_2 + 1)) a0_0 a0_1 a0_2 a0_3 a0_4 a0_5 a0_6 l0_7 a0_8 a0_9 a0_10 a0_11 l0_12 a0_13 a0_14 a0_15 a0_16 l0_17 l0_18)) = some r := H
          have A26 := Aside0.mk A260
          clear A260
          by_cases c27 : t112 = true
          ·subst c27
           have H1 : (some true) = some r := by rw [if_pos rfl] at H; exact H
           clear H
           have H := H1
           clear H1
           obtain rfl := Option.some.inj H
           have hcz28_17 : wr.cell? ⟨gb107, 17, none⟩ = some (.slice A0_17 l0_17.length c0_17) := (blk_cell BK107.out 17).trans rfl
           have p108 : 0 ≤ (x3_2 : Int) := of_decide_eq_true (by (with_reducible assumption))
           have q108 : x3_2 < (l0_17.length : Int) := of_decide_eq_true (by (with_reducible assumption))
           obtain ⟨ad108, A108_5, c108_5, A108_9, c108_9, e108, hx108_0, hx108_1, hx108_2, hx108_3, hx108_4, hx108_5, hx108_6, hx108_7, hx108_8, hx108_9, hl108_5, hi108_5, hl108_9, hi108_9⟩ := at_T124 HR0_17.out x3_2 p108 q108
           cases e108
           replace hx108_0 := (HB.out.cell (World.block_lt_of_cell? w _ hx108_0)).trans hx108_0
           replace hx108_2 := (HB.out.cell (World.block_lt_of_cell? w _ hx108_2)).trans hx108_2
           replace hx108_3 := (HB.out.cell (World.block_lt_of_cell? w _ hx108_3)).trans hx108_3
           replace hx108_4 := (HB.out.cell (World.block_lt_of_cell? w _ hx108_4)).trans hx108_4
           replace hx108_5 := (HB.out.cell (World.block_lt_of_cell? w _ hx108_5)).trans hx108_5
           replace hx108_9 := (HB.out.cell (World.block_lt_of_cell? w _ hx108_9)).trans hx108_9
           clear hi108_5 hl108_5
           clear hi108_9 hl108_9
           replace p108 := eq_true p108
           replace q108 := eq_true q108
           have p109 : 0 ≤ (x3_2 : Int) := of_decide_eq_true (by (with_reducible assumption))
           have q109 : x3_2 < (l0_17.length : Int) := of_decide_eq_true (by (with_reducible assumption))
           obtain ⟨ad109, A109_5, c109_5, A109_9, c109_9, e109, hx109_0, hx109_1, hx109_2, hx109_3, hx109_4, hx109_5, hx109_6, hx109_7, hx109_8, hx109_9, hl109_5, hi109_5, hl109_9, hi109_9⟩ := at_T124 HR0_17.out x3_2 p109 q109
           obtain rfl : ad108 = ad109 := (by injection e109)
           replace hx109_5 := (HB.out.cell (World.block_lt_of_cell? w _ hx109_5)).trans hx109_5
           replace hx109_9 := (HB.out.cell (World.block_lt_of_cell? w _ hx109_9)).trans hx109_9
           have HR109_5 := Aside0.mk hi109_5
           have HC109_5 := Aside0.mk hl109_5
           clear hi109_5 hl109_5
           have HR109_9 := Aside0.mk hi109_9
           have HC109_9 := Aside0.mk hl109_9
           clear hi109_9 hl109_9
           replace p109 := eq_true p109
           replace q109 := eq_true q109
           have ea_ := Option.some.inj (hx108_5.symm.trans hx109_5)
           injection ea_ with ea_ en_ ec_
           subst ea_
           subst ec_
           clear en_
           have ea_ := Option.some.inj (hx108_9.symm.trans hx109_9)
           injection ea_ with ea_ en_ ec_
           subst ea_
           subst ec_
           clear en_
           go_wp2_with (first | (go_at_call 74; (with_reducible refine (corebankref10_Great.calls k2 ((rd_T124 l0_17 x3_2).f2.f0) ((rd_T124 l0_17 x3_2).f2.f1) ((rd_T124 l0_17 x3_2).f2.f2) _ _ ((rd_T124 l0_17 x3_2).f2.f3) 100 false _ ?side1 ?side2 A22.out).mono ?_); (case side1 => exact (Kd.C_below HR109_5.out HB.out)); (case side2 => exact HC109_5.out); rintro e w29 ⟨rfl, hb⟩; have n0_ := Aside0.mk (blk_below BK107.out hb); have n1_ := Aside0.mk (below_step HB.out hb); clear BK107; clear HB; have BK107 := n0_; have HB := n1_; clear n0_ n1_; (try clear hb); have hcz30_17 : w29.cell? ⟨gb107, 17, none⟩ = some (.slice (some ad108) l0_17.length c0_17) := (blk_cell BK107.out 17).trans rfl; have p111 : 0 ≤ (x3_2 : Int) := of_decide_eq_true (by (with_reducible assumption)); have q111 : x3_2 < (l0_17.length : Int) := of_decide_eq_true (by (with_reducible assumption)); obtain ⟨ad111, A111_5, c111_5, A111_9, c111_9, e111, hx111_0, hx111_1, hx111_2, hx111_3, hx111_4, hx111_5, hx111_6, hx111_7, hx111_8, hx111_9, hl111_5, hi111_5, hl111_9, hi111_9⟩ := at_T124 HR0_17.out x3_2 p111 q111; obtain rfl : ad108 = ad111 := (by injection e111); replace hx111_6 := (HB.out.cell (World.block_lt_of_cell? w _ hx111_6)).trans hx111_6; replace hx111_7 := (HB.out.cell (World.block_lt_of_cell? w _ hx111_7)).trans hx111_7; replace hx111_8 := (HB.out.cell (World.block_lt_of_cell? w _ hx111_8)).trans hx111_8; replace hx111_9 := (HB.out.cell (World.block_lt_of_cell? w _ hx111_9)).trans hx111_9; clear hi111_5 hl111_5; have HR111_9 := Aside0.mk hi111_9; have HC111_9 := Aside0.mk hl111_9; clear hi111_9 hl111_9; replace p111 := eq_true p111; replace q111 := eq_true q111) | (go_at_call 74; (with_reducible refine (corebankref10_Great.calls k2 ((rd_T124 l0_17 x3_2).f3.f0) ((rd_T124 l0_17 x3_2).f3.f1) ((rd_T124 l0_17 x3_2).f3.f2) _ _ ((rd_T124 l0_17 x3_2).f3.f3) 100 true _ ?side1 ?side2 A26.out).mono ?_); (case side1 => exact (Kd.C_below HR111_9.out HB.out)); (case side2 => exact HC111_9.out); rintro e w31 ⟨rfl, hb⟩; have n0_ := Aside0.mk (blk_below BK107.out hb); have n1_ := Aside0.mk (below_step HB.out hb); clear BK107; clear HB; have BK107 := n0_; have HB := n1_; clear n0_ n1_; (try clear hb)))
           go_ret
           exact ⟨by (rfl), HB.out⟩
          ·replace c27 := Bool.eq_false_iff.mpr c27
           subst c27
           have H1 : (corebankref16_Great.l0 k2 (wrap64 (x3_2 + 1)) a0_0 a0_1 a0_2 a0_3 a0_4 a0_5 a0_6 l0_7 a0_8 a0_9 a0_10 a0_11 l0_12 a0_13 a0_14 a0_15 a0_16 l0_17 l0_18) = some r := by rw [if_neg (show ¬ (false = true) by decide)] at H; exact H
           clear H
           have H := H1
           clear H1
           have H' := Aside0.mk H
           clear H
           have hcz32_17 : wr.cell? ⟨gb107, 17, none⟩ = some (.slice A0_17 l0_17.length c0_17) := (blk_cell BK107.out 17).trans rfl
           have p108 : 0 ≤ (x3_2 : Int) := of_decide_eq_true (by (with_reducible assumption))
           have q108 : x3_2 < (l0_17.length : Int) := of_decide_eq_true (by (with_reducible assumption))
           obtain ⟨ad108, A108_5, c108_5, A108_9, c108_9, e108, hx108_0, hx108_1, hx108_2, hx108_3, hx108_4, hx108_5, hx108_6, hx108_7, hx108_8, hx108_9, hl108_5, hi108_5, hl108_9, hi108_9⟩ := at_T124 HR0_17.out x3_2 p108 q108
           cases e108
           replace hx108_0 := (HB.out.cell (World.block_lt_of_cell? w _ hx108_0)).trans hx108_0
           replace hx108_2 := (HB.out.cell (World.block_lt_of_cell? w _ hx108_2)).trans hx108_2
           replace hx108_3 := (HB.out.cell (World.block_lt_of_cell? w _ hx108_3)).trans hx108_3
           replace hx108_4 := (HB.out.cell (World.block_lt_of_cell? w _ hx108_4)).trans hx108_4
           replace hx108_5 := (HB.out.cell (World.block_lt_of_cell? w _ hx108_5)).trans hx108_5
           replace hx108_9 := (HB.out.cell (World.block_lt_of_cell? w _ hx108_9)).trans hx108_9
           clear hi108_5 hl108_5
           clear hi108_9 hl108_9
           replace p108 := eq_true p108
           replace q108 := eq_true q108
           have p109 : 0 ≤ (x3_2 : Int) := of_decide_eq_true (by (with_reducible assumption))
           have q109 : x3_2 < (l0_17.length : Int) := of_decide_eq_true (by (with_reducible assumption))
           obtain ⟨ad109, A109_5, c109_5, A109_9, c109_9, e109, hx109_0, hx109_1, hx109_2, hx109_3, hx109_4, hx109_5, hx109_6, hx109_7, hx109_8, hx109_9, hl109_5, hi109_5, hl109_9, hi109_9⟩ := at_T124 HR0_17.out x3_2 p109 q109
           obtain rfl : ad108 = ad109 := (by injection e109)
           replace hx109_5 := (HB.out.cell (World.block_lt_of_cell? w _ hx109_5)).trans hx109_5
           replace hx109_9 := (HB.out.cell (World.block_lt_of_cell? w _ hx109_9)).trans hx109_9
           have HR109_5 := Aside0.mk hi109_5
           have HC109_5 := Aside0.mk hl109_5
           clear hi109_5 hl109_5
           have HR109_9 := Aside0.mk hi109_9
           have HC109_9 := Aside0.mk hl109_9
           clear hi109_9 hl109_9
           replace p109 := eq_true p109
           replace q109 := eq_true q109
           have ea_ := Option.some.inj (hx108_5.symm.trans hx109_5)
           injection ea_ with ea_ en_ ec_
           subst ea_
           subst ec_
           clear en_
           have ea_ := Option.some.inj (hx108_9.symm.trans hx109_9)
           injection ea_ with ea_ en_ ec_
           subst ea_
           subst ec_
           clear en_
           go_wp2_with (first | (go_at_call 74; (with_reducible refine (corebankref10_Great.calls k2 ((rd_T124 l0_17 x3_2).f2.f0) ((rd_T124 l0_17 x3_2).f2.f1) ((rd_T124 l0_17 x3_2).f2.f2) _ _ ((rd_T124 l0_17 x3_2).f2.f3) 100 false _ ?side1 ?side2 A22.out).mono ?_); (case side1 => exact (Kd.C_below HR109_5.out HB.out)); (case side2 => exact HC109_5.out); rintro e w33 ⟨rfl, hb⟩; have n0_ := Aside0.mk (blk_below BK107.out hb); have n1_ := Aside0.mk (below_step HB.out hb); clear BK107; clear HB; have BK107 := n0_; have HB := n1_; clear n0_ n1_; (try clear hb); have hcz34_17 : w33.cell? ⟨gb107, 17, none⟩ = some (.slice (some ad108) l0_17.length c0_17) := (blk_cell BK107.out 17).trans rfl; have p111 : 0 ≤ (x3_2 : Int) := of_decide_eq_true (by (with_reducible assumption)); have q111 : x3_2 < (l0_17.length : Int) := of_decide_eq_true (by (with_reducible assumption)); obtain ⟨ad111, A111_5, c111_5, A111_9, c111_9, e111, hx111_0, hx111_1, hx111_2, hx111_3, hx111_4, hx111_5, hx111_6, hx111_7, hx111_8, hx111_9, hl111_5, hi111_5, hl111_9, hi111_9⟩ := at_T124 HR0_17.out x3_2 p111 q111; obtain rfl : ad108 = ad111 := (by injection e111); replace hx111_6 := (HB.out.cell (World.block_lt_of_cell? w _ hx111_6)).trans hx111_6; replace hx111_7 := (HB.out.cell (World.block_lt_of_cell? w _ hx111_7)).trans hx111_7; replace hx111_8 := (HB.out.cell (World.block_lt_of_cell? w _ hx111_8)).trans hx111_8; replace hx111_9 := (HB.out.cell (World.block_lt_of_cell? w _ hx111_9)).trans hx111_9; clear hi111_5 hl111_5; have HR111_9 := Aside0.mk hi111_9; have HC111_9 := Aside0.mk hl111_9; clear hi111_9 hl111_9; replace p111 := eq_true p111; replace q111 := eq_true q111) | (go_at_call 74; (with_reducible refine (corebankref10_Great.calls k2 ((rd_T124 l0_17 x3_2).f3.f0) ((rd_T124 l0_17 x3_2).f3.f1) ((rd_T124 l0_17 x3_2).f3.f2) _ _ ((rd_T124 l0_17 x3_2).f3.f3) 100 false _ ?side1 ?side2 A26.out).mono ?_); (case side1 => exact (Kd.C_below HR111_9.out HB.out)); (case side2 => exact HC111_9.out); rintro e w35 ⟨rfl, hb⟩; have n0_ := Aside0.mk (blk_below BK107.out hb); have n1_ := Aside0.mk (below_step HB.out hb); clear BK107; clear HB; have BK107 := n0_; have HB := n1_; clear n0_ n1_; (try clear hb)))
           go_roundg k2
           case measure => have := HJ1.out; have := HK2.out; omega
           case rel => exact ⟨(wrap64 (x3_2 + 1)), (by rfl), H', ⟨by have := HJ1.out; have := HK2.out; omega⟩, ⟨BK107.out⟩, ⟨HB.out⟩⟩
       ·rw [if_neg c19] at H
        exact absurd H (by simp)
      ·rw [if_neg c18] at H
       have c18b0 : decide (x3_2 < (l0_17.length : Int)) = false := decide_eq_false c18
       clear c18
       have H' := Aside0.mk H
       clear H
       have hcz36_17 : wr.cell? ⟨gb107, 17, none⟩ = some (.slice A0_17 l0_17.length c0_17) := (blk_cell BK107.out 17).trans rfl
       go_wp2
       go_loopg [4] k2 (fun kq v4 w' => ∃ (x4_3 : Int), v4 = .int .i64 x4_3 ∧ Aside0 (corebankref16_Great.l1 kq x4_3 a0_0 a0_1 a0_2 a0_3 a0_4 a0_5 a0_6 l0_7 a0_8 a0_9 a0_10 a0_11 l0_12 a0_13 a0_14 a0_15 a0_16 l0_17 l0_18 = some r) ∧ Aside0 (kq ≤ k2) ∧ Aside0 (w'.heap[gb107]? = some (.cells #[.string a0_0, .string a0_1, .string a0_2, .int .i64 a0_3, .int .i64 a0_4, .int .i64 a0_5, .int .i64 a0_6, (.slice A0_7 l0_7.length c0_7), .bool a0_8, .int .i64 a0_9, .int .i64 a0_10, .bool a0_11, (.slice A0_12 l0_12.length c0_12), .bool a0_13, .int .i64 a0_14, .int .i64 a0_15, .bool a0_16, (.slice A0_17 l0_17.length c0_17), (.slice A0_18 l0_18.length c0_18)] 79 (0, 0))) ∧ Aside0 (Below w.heap.size w w'))
       case atStart => exact ⟨(0), (by rfl), H', ⟨Nat.le_refl _⟩, ⟨BK107.out⟩, ⟨HB.out⟩⟩
       case round =>
        clear H'
        try clear c18b0
        try clear hcz36_17
        obtain ⟨x4_3, rfl, HA, HK3, BK107, HB⟩ := hrel
        cases gk with
        | zero => exact absurd HA.out (by simp [corebankref16_Great.l1])
        | succ k3 =>
         have H := HA.out
         clear HA
         simp only [corebankref16_Great.l1] at H
         by_cases c37 : x4_3 < (l0_18.length : Int)
         ·rw [if_pos c37] at H
          have c37b0 : decide (x4_3 < (l0_18.length : Int)) = true := decide_eq_true c37
          clear c37
          by_cases c38 : 0 ≤ x4_3
          ·rw [if_pos c38] at H
           have c38b0 : decide (0 ≤ x4_3) = true := decide_eq_true c38
           clear c38
           by_cases c39 : (((rd_T127 l0_18 x4_3).f0).size : Int) > 100
           ·rw [if_pos c39] at H
            have c39b0 : decide (100 < (((rd_T127 l0_18 x4_3).f0).size : Int)) = true := decide_eq_true c39
            clear c39
            obtain rfl := Option.some.inj H
            have hcz40_18 : wr.cell? ⟨gb107, 18, none⟩ = some (.slice A0_18 l0_18.length c0_18) := (blk_cell BK107.out 18).trans rfl
            have p113 : 0 ≤ (x4_3 : Int) := of_decide_eq_true (by (with_reducible assumption))
            have q113 : x4_3 < (l0_18.length : Int) := of_decide_eq_true (by (with_reducible assumption))
            obtain ⟨ad113, A113_5, c113_5, e113, hx113_0, hx113_1, hx113_2, hx113_3, hx113_4, hx113_5, hl113_5, hi113_5⟩ := at_T127 HR0_18.out x4_3 p113 q113
            cases e113
            replace hx113_0 := (HB.out.cell (World.block_lt_of_cell? w _ hx113_0)).trans hx113_0
            replace hx113_2 := (HB.out.cell (World.block_lt_of_cell? w _ hx113_2)).trans hx113_2
            replace hx113_3 := (HB.out.cell (World.block_lt_of_cell? w _ hx113_3)).trans hx113_3
            replace hx113_4 := (HB.out.cell (World.block_lt_of_cell? w _ hx113_4)).trans hx113_4
            replace hx113_5 := (HB.out.cell (World.block_lt_of_cell? w _ hx113_5)).trans hx113_5
            clear hi113_5 hl113_5
            replace p113 := eq_true p113
            replace q113 := eq_true q113
            go_wp2
            go_ret
            exact ⟨by (rfl), HB.out⟩
           ·rw [if_neg c39] at H
            have c39b0 : decide (100 < (((rd_T127 l0_18 x4_3).f0).size : Int)) = false := decide_eq_false c39
            clear c39
            replace H := Option.bind_eq_some_iff.mp H
            obtain ⟨t115, A410, H⟩ := H
            replace H : (if t115 = true then (some true) else (corebankref16_Great.l1 k3 (wrap64 (x4_3 + 1)) a0_0 a0_1 a0_2 a0_3 a0_4 a0_5 a0_6 l0_7 a0_8 a0_9 a0_10 a0_11 l0_12 a0_13 a0_14 a0_15 a0_16 l0_17 l0_18)) = some r := H
            have A41 := Aside0.mk A410
            clear A410
            by_cases c42 : t115 = true
            ·subst c42
             have H1 : (some true) = some r := by rw [if_pos rfl] at H; exact H
             clear H
             have H := H1
             clear H1
             obtain rfl := Option.some.inj H
             have hcz43_18 : wr.cell? ⟨gb107, 18, none⟩ = some (.slice A0_18 l0_18.length c0_18) := (blk_cell BK107.out 18).trans rfl
             have p113 : 0 ≤ (x4_3 : Int) := of_decide_eq_true (by (with_reducible assumption))
             have q113 : x4_3 < (l0_18.length : Int) := of_decide_eq_true (by (with_reducible assumption))
             obtain ⟨ad113, A113_5, c113_5, e113, hx113_0, hx113_1, hx113_2, hx113_3, hx113_4, hx113_5, hl113_5, hi113_5⟩ := at_T127 HR0_18.out x4_3 p113 q113
             cases e113
             replace hx113_0 := (HB.out.cell (World.block_lt_of_cell? w _ hx113_0)).trans hx113_0
             replace hx113_2 := (HB.out.cell (World.block_lt_of_cell? w _ hx113_2)).trans hx113_2
             replace hx113_3 := (HB.out.cell (World.block_lt_of_cell? w _ hx113_3)).trans hx113_3
             replace hx113_4 := (HB.out.cell (World.block_lt_of_cell? w _ hx113_4)).trans hx113_4
             replace hx113_5 := (HB.out.cell (World.block_lt_of_cell? w _ hx113_5)).trans hx113_5
             clear hi113_5 hl113_5
             replace p113 := eq_true p113
             replace q113 := eq_true q113
             have p114 : 0 ≤ (x4_3 : Int) := of_decide_eq_true (by (with_reducible assumption))
             have q114 : x4_3 < (l0_18.length : Int) := of_decide_eq_true (by (with_reducible assumption))
             obtain ⟨ad114, A114_5, c114_5, e114, hx114_0, hx114_1, hx114_2, hx114_3, hx114_4, hx114_5, hl114_5, hi114_5⟩ := at_T127 HR0_18.out x4_3 p114 q114
             obtain rfl : ad113 = ad114 := (by injection e114)
             replace hx114_5 := (HB.out.cell (World.block_lt_of_cell? w _ hx114_5)).trans hx114_5
             have HR114_5 := Aside0.mk hi114_5
             have HC114_5 := Aside0.mk hl114_5
             clear hi114_5 hl114_5
             replace p114 := eq_true p114
             replace q114 := eq_true q114
             have ea_ := Option.some.inj (hx113_5.symm.trans hx114_5)
             injection ea_ with ea_ en_ ec_
             subst ea_
             subst ec_
             clear en_
             go_wp2_with (first | (go_at_call 74; (with_reducible refine (corebankref10_Great.calls k3 ((rd_T127 l0_18 x4_3).f2.f0) ((rd_T127 l0_18 x4_3).f2.f1) ((rd_T127 l0_18 x4_3).f2.f2) _ _ ((rd_T127 l0_18 x4_3).f2.f3) 100 true _ ?side1 ?side2 A41.out).mono ?_); (case side1 => exact (Kd.C_below HR114_5.out HB.out)); (case side2 => exact HC114_5.out); rintro e w44 ⟨rfl, hb⟩; have n0_ := Aside0.mk (blk_below BK107.out hb); have n1_ := Aside0.mk (below_step HB.out hb); clear BK107; clear HB; have BK107 := n0_; have HB := n1_; clear n0_ n1_; (try clear hb)))
             go_ret
             exact ⟨by (rfl), HB.out⟩
            ·replace c42 := Bool.eq_false_iff.mpr c42
             subst c42
             have H1 : (corebankref16_Great.l1 k3 (wrap64 (x4_3 + 1)) a0_0 a0_1 a0_2 a0_3 a0_4 a0_5 a0_6 l0_7 a0_8 a0_9 a0_10 a0_11 l0_12 a0_13 a0_14 a0_15 a0_16 l0_17 l0_18) = some r := by rw [if_neg (show ¬ (false = true) by decide)] at H; exact H
             clear H
             have H := H1
             clear H1
             have H' := Aside0.mk H
             clear H
             have hcz45_18 : wr.cell? ⟨gb107, 18, none⟩ = some (.slice A0_18 l0_18.length c0_18) := (blk_cell BK107.out 18).trans rfl
             have p113 : 0 ≤ (x4_3 : Int) := of_decide_eq_true (by (with_reducible assumption))
             have q113 : x4_3 < (l0_18.length : Int) := of_decide_eq_true (by (with_reducible assumption))
             obtain ⟨ad113, A113_5, c113_5, e113, hx113_0, hx113_1, hx113_2, hx113_3, hx113_4, hx113_5, hl113_5, hi113_5⟩ := at_T127 HR0_18.out x4_3 p113 q113
             cases e113
             replace hx113_0 := (HB.out.cell (World.block_lt_of_cell? w _ hx113_0)).trans hx113_0
             replace hx113_2 := (HB.out.cell (World.block_lt_of_cell? w _ hx113_2)).trans hx113_2
             replace hx113_3 := (HB.out.cell (World.block_lt_of_cell? w _ hx113_3)).trans hx113_3
             replace hx113_4 := (HB.out.cell (World.block_lt_of_cell? w _ hx113_4)).trans hx113_4
             replace hx113_5 := (HB.out.cell (World.block_lt_of_cell? w _ hx113_5)).trans hx113_5
             clear hi113_5 hl113_5
             replace p113 := eq_true p113
             replace q113 := eq_true q113
             have p114 : 0 ≤ (x4_3 : Int) := of_decide_eq_true (by (with_reducible assumption))
             have q114 : x4_3 < (l0_18.length : Int) := of_decide_eq_true (by (with_reducible assumption))
             obtain ⟨ad114, A114_5, c114_5, e114, hx114_0, hx114_1, hx114_2, hx114_3, hx114_4, hx114_5, hl114_5, hi114_5⟩ := at_T127 HR0_18.out x4_3 p114 q114
             obtain rfl : ad113 = ad114 := (by injection e114)
             replace hx114_5 := (HB.out.cell (World.block_lt_of_cell? w _ hx114_5)).trans hx114_5
             have HR114_5 := Aside0.mk hi114_5
             have HC114_5 := Aside0.mk hl114_5
             clear hi114_5 hl114_5
             replace p114 := eq_true p114
             replace q114 := eq_true q114
             have ea_ := Option.some.inj (hx113_5.symm.trans hx114_5)
             injection ea_ with ea_ en_ ec_
             subst ea_
             subst ec_
             clear en_
             go_wp2_with (first | (go_at_call 74; (with_reducible refine (corebankref10_Great.calls k3 ((rd_T127 l0_18 x4_3).f2.f0) ((rd_T127 l0_18 x4_3).f2.f1) ((rd_T127 l0_18 x4_3).f2.f2) _ _ ((rd_T127 l0_18 x4_3).f2.f3) 100 false _ ?side1 ?side2 A41.out).mono ?_); (case side1 => exact (Kd.C_below HR114_5.out HB.out)); (case side2 => exact HC114_5.out); rintro e w46 ⟨rfl, hb⟩; have n0_ := Aside0.mk (blk_below BK107.out hb); have n1_ := Aside0.mk (below_step HB.out hb); clear BK107; clear HB; have BK107 := n0_; have HB := n1_; clear n0_ n1_; (try clear hb)))
             go_roundg k3
             case measure => have := HJ1.out; have := HK2.out; have := HK3.out; omega
             case rel => exact ⟨(wrap64 (x4_3 + 1)), (by rfl), H', ⟨by have := HJ1.out; have := HK2.out; have := HK3.out; omega⟩, ⟨BK107.out⟩, ⟨HB.out⟩⟩
          ·rw [if_neg c38] at H
           exact absurd H (by simp)
         ·rw [if_neg c37] at H
          have c37b0 : decide (x4_3 < (l0_18.length : Int)) = false := decide_eq_false c37
          clear c37
          obtain rfl := Option.some.inj H
          have hcz47_18 : wr.cell? ⟨gb107, 18, none⟩ = some (.slice A0_18 l0_18.length c0_18) := (blk_cell BK107.out 18).trans rfl
          go_wp2
          go_ret
          exact ⟨by (rfl), HB.out⟩
end Go.Proofs.Ytcmaifjmnpfmbaa.R
