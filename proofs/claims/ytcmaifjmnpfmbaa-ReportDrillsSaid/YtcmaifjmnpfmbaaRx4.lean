-- Made by wip/tools/ext.py (this project's) over the kit's print, with external functions' contracts by hand. Not trusted: Lean checks it.
import Derived.Test.YtcmaifjmnpfmbaaRx0
namespace Go.Proofs.Ytcmaifjmnpfmbaa.R
open Go.RowKit Go.Proofs.YtcmaifjmnpfmbaaW.PrintWords Go.Proofs.YtcmaifjmnpfmbaaW.PrintLast Go.Proofs.YtcmaifjmnpfmbaaW.PrintMore
attribute [local go_sem] max2_int min2_int max_two min_two max_three min_three max_four min_four   -- for this text's walks alone
set_option linter.unusedVariables false
set_option linter.unusedSimpArgs false
/-! ### corebankref19_Great: function 47 -/
mutual
def corebankref19_Great.j0 : Nat → Bool → Int → Int → Int → Int → Int → Int → ByteArray → ByteArray → List (S129) → Int → Option (Bool)
 | 0, _, _, _, _, _, _, _, _, _, _, _ => none
 | k + 1, x19, x117000, x117001, x117002, x117003, x117004, x117005, x117006, x117007, x117008, x117009 => if x19 = true then (some true) else (corebankref19_Great.l0 k 0 x117000 x117001 x117002 x117003 x117004 x117005 x117006 x117007 x117008 x117009)
def corebankref19_Great.l0 : Nat → Int → Int → Int → Int → Int → Int → Int → ByteArray → ByteArray → List (S129) → Int → Option (Bool)
 | 0, _, _, _, _, _, _, _, _, _, _, _ => none
 | k + 1, x3, x117000, x117001, x117002, x117003, x117004, x117005, x117006, x117007, x117008, x117009 => if x3 < (x117008.length : Int) then (if 0 ≤ x3 then (if (((rd_T129 x117008 x3).f2).size : Int) > 100 then (some true) else (corebankref19_Great.l0 k (wrap64 (x3 + 1)) x117000 x117001 x117002 x117003 x117004 x117005 x117006 x117007 x117008 x117009)) else (none)) else (some false)
end
def corebankref19_Great.f (k : Nat) (a0_0 : Int) (a0_1 : Int) (a0_2 : Int) (a0_3 : Int) (a0_4 : Int) (a0_5 : Int) (a0_6 : ByteArray) (a0_7 : ByteArray) (l0_8 : List (S129)) (a0_9 : Int) : Option (Bool) := if (l0_8.length : Int) > 30 then (corebankref19_Great.j0 k true a0_0 a0_1 a0_2 a0_3 a0_4 a0_5 a0_6 a0_7 l0_8 a0_9) else (if (a0_6.size : Int) > 1000 then (corebankref19_Great.j0 k true a0_0 a0_1 a0_2 a0_3 a0_4 a0_5 a0_6 a0_7 l0_8 a0_9) else (corebankref19_Great.j0 k (decide ((a0_7.size : Int) > 1000)) a0_0 a0_1 a0_2 a0_3 a0_4 a0_5 a0_6 a0_7 l0_8 a0_9))
set_option maxHeartbeats 8000000 in
set_option maxRecDepth 100000 in
theorem corebankref19_Great.calls (k : Nat) (a0_0 : Int) (a0_1 : Int) (a0_2 : Int) (a0_3 : Int) (a0_4 : Int) (a0_5 : Int) (a0_6 : ByteArray) (a0_7 : ByteArray) (A0_8 : Option Addr) (c0_8 : Nat) (l0_8 : List (S129)) (a0_9 : Int) (r : Bool) (w : World) (hr0_8 : Kd.C k129 w A0_8 l0_8.length l0_8) (hc0_8 : l0_8.length ≤ c0_8) (h : corebankref19_Great.f k a0_0 a0_1 a0_2 a0_3 a0_4 a0_5 a0_6 a0_7 l0_8 a0_9 = some r) :
  Calls Try.prog 47 #[.agg #[.int .i64 a0_0, .int .i64 a0_1, .int .i64 a0_2, .int .i64 a0_3, .int .i64 a0_4, .int .i64 a0_5, .string a0_6, .string a0_7, .slice A0_8 l0_8.length c0_8, .int .u64 a0_9]] w fun e w' => e = .returned (.bool r) ∧ Below w.heap.size w w' := by
 have HR0_8 := Aside0.mk hr0_8
 clear hr0_8 hc0_8
 have HB := Aside0.mk (Below.refl w.heap.size w)
 have H : (if (l0_8.length : Int) > 30 then (corebankref19_Great.j0 k true a0_0 a0_1 a0_2 a0_3 a0_4 a0_5 a0_6 a0_7 l0_8 a0_9) else (if (a0_6.size : Int) > 1000 then (corebankref19_Great.j0 k true a0_0 a0_1 a0_2 a0_3 a0_4 a0_5 a0_6 a0_7 l0_8 a0_9) else (corebankref19_Great.j0 k (decide ((a0_7.size : Int) > 1000)) a0_0 a0_1 a0_2 a0_3 a0_4 a0_5 a0_6 a0_7 l0_8 a0_9))) = some r := h
 clear h
 have HC2 := Aside0.mk H
 clear H
 go_enter Try.func47, Try.ntmps47
 go_upto_region 1 with (first | ((with_reducible refine gate_dst (N := 1) rfl ?_); (try (refine gate_guard (by rfl) ?_; dsimp only)); refine box_event ?hg (N := 1) ?hd (cs := #[.int .i64 a0_0, .int .i64 a0_1, .int .i64 a0_2, .int .i64 a0_3, .int .i64 a0_4, .int .i64 a0_5, .string a0_6, .string a0_7, .slice A0_8 l0_8.length c0_8, .int .u64 a0_9]) (t := 84) ?hr ?_; (case hd => rfl); (case hg => rfl); (case hr => (go_simp; done)); intro gb116 hg w3 hbox hb; have n0_ := Aside0.mk (below_step HB.out hb); have n1_ := Aside0.mk (hbox); have n2_ := Aside0.mk ((by rw [hg]; exact (below_size HB.out) : w.heap.size ≤ gb116)); have n3_ := n2_; clear HB; have HB := n0_; have BK116 := n1_; clear n0_ n1_ n2_ n3_; clear hb hbox hg))
 go_cut [19] (fun v19 wc => ∃ (kq : Nat) (x19_1 : Bool), v19 = .bool x19_1 ∧ Aside0 (corebankref19_Great.j0 kq x19_1 a0_0 a0_1 a0_2 a0_3 a0_4 a0_5 a0_6 a0_7 l0_8 a0_9 = some r) ∧ Aside0 (kq ≤ k) ∧ Aside0 (wc.heap[gb116]? = some (.cells #[.int .i64 a0_0, .int .i64 a0_1, .int .i64 a0_2, .int .i64 a0_3, .int .i64 a0_4, .int .i64 a0_5, .string a0_6, .string a0_7, (.slice A0_8 l0_8.length c0_8), .int .u64 a0_9] 84 (0, 0))) ∧ Aside0 (Below w.heap.size w wc))
 case first =>
  have H := HC2.out
  clear HC2
  by_cases c4 : (l0_8.length : Int) > 30
  ·rw [if_pos c4] at H
   have c4b0 : decide (30 < (l0_8.length : Int)) = true := decide_eq_true c4
   clear c4
   have H' := Aside0.mk H
   clear H
   have hcz5_8 : w3.cell? ⟨gb116, 8, none⟩ = some (.slice A0_8 l0_8.length c0_8) := (blk_cell BK116.out 8).trans rfl
   go_wp2
   go_meet
   case rel => exact ⟨_, (true), (by rfl), H', ⟨by (omega)⟩, ⟨BK116.out⟩, ⟨HB.out⟩⟩
  ·rw [if_neg c4] at H
   have c4b0 : decide (30 < (l0_8.length : Int)) = false := decide_eq_false c4
   clear c4
   by_cases c6 : (a0_6.size : Int) > 1000
   ·rw [if_pos c6] at H
    have c6b0 : decide (1000 < (a0_6.size : Int)) = true := decide_eq_true c6
    clear c6
    have H' := Aside0.mk H
    clear H
    have hcz7_6 : w3.cell? ⟨gb116, 6, none⟩ = some (.string a0_6) := (blk_cell BK116.out 6).trans rfl
    have hcz7_8 : w3.cell? ⟨gb116, 8, none⟩ = some (.slice A0_8 l0_8.length c0_8) := (blk_cell BK116.out 8).trans rfl
    go_wp2
    go_meet
    case rel => exact ⟨_, (true), (by rfl), H', ⟨by (omega)⟩, ⟨BK116.out⟩, ⟨HB.out⟩⟩
   ·rw [if_neg c6] at H
    have c6b0 : decide (1000 < (a0_6.size : Int)) = false := decide_eq_false c6
    clear c6
    have H' := Aside0.mk H
    clear H
    have hcz8_6 : w3.cell? ⟨gb116, 6, none⟩ = some (.string a0_6) := (blk_cell BK116.out 6).trans rfl
    have hcz8_7 : w3.cell? ⟨gb116, 7, none⟩ = some (.string a0_7) := (blk_cell BK116.out 7).trans rfl
    have hcz8_8 : w3.cell? ⟨gb116, 8, none⟩ = some (.slice A0_8 l0_8.length c0_8) := (blk_cell BK116.out 8).trans rfl
    go_wp2
    go_meet
    case rel => exact ⟨_, (decide ((a0_7.size : Int) > 1000)), (by rfl), H', ⟨by (omega)⟩, ⟨BK116.out⟩, ⟨HB.out⟩⟩
 case rest =>
  clear HC2
  obtain ⟨kq, x19_1, rfl, HA, HJ1, BK116, HB⟩ := hcut
  cases kq with
  | zero => exact absurd HA.out (by simp [corebankref19_Great.j0])
  | succ kj1 =>
   have H := HA.out
   clear HA
   simp only [corebankref19_Great.j0] at H
   by_cases c9 : x19_1 = true
   ·subst c9
    have H1 : (some true) = some r := by rw [if_pos rfl] at H; exact H
    clear H
    have H := H1
    clear H1
    obtain rfl := Option.some.inj H
    go_wp2
    go_ret
    exact ⟨by (rfl), HB.out⟩
   ·replace c9 := Bool.eq_false_iff.mpr c9
    subst c9
    have H1 : (corebankref19_Great.l0 kj1 0 a0_0 a0_1 a0_2 a0_3 a0_4 a0_5 a0_6 a0_7 l0_8 a0_9) = some r := by rw [if_neg (show ¬ (false = true) by decide)] at H; exact H
    clear H
    have H := H1
    clear H1
    have H' := Aside0.mk H
    clear H
    go_wp2
    go_loopg [3] kj1 (fun kq v3 w' => ∃ (x3_2 : Int), v3 = .int .i64 x3_2 ∧ Aside0 (corebankref19_Great.l0 kq x3_2 a0_0 a0_1 a0_2 a0_3 a0_4 a0_5 a0_6 a0_7 l0_8 a0_9 = some r) ∧ Aside0 (kq ≤ kj1) ∧ Aside0 (w'.heap[gb116]? = some (.cells #[.int .i64 a0_0, .int .i64 a0_1, .int .i64 a0_2, .int .i64 a0_3, .int .i64 a0_4, .int .i64 a0_5, .string a0_6, .string a0_7, (.slice A0_8 l0_8.length c0_8), .int .u64 a0_9] 84 (0, 0))) ∧ Aside0 (Below w.heap.size w w'))
    case atStart => exact ⟨(0), (by rfl), H', ⟨Nat.le_refl _⟩, ⟨BK116.out⟩, ⟨HB.out⟩⟩
    case round =>
     clear H'
     obtain ⟨x3_2, rfl, HA, HK2, BK116, HB⟩ := hrel
     cases gk with
     | zero => exact absurd HA.out (by simp [corebankref19_Great.l0])
     | succ k2 =>
      have H := HA.out
      clear HA
      simp only [corebankref19_Great.l0] at H
      by_cases c10 : x3_2 < (l0_8.length : Int)
      ·rw [if_pos c10] at H
       have c10b0 : decide (x3_2 < (l0_8.length : Int)) = true := decide_eq_true c10
       clear c10
       by_cases c11 : 0 ≤ x3_2
       ·rw [if_pos c11] at H
        have c11b0 : decide (0 ≤ x3_2) = true := decide_eq_true c11
        clear c11
        by_cases c12 : (((rd_T129 l0_8 x3_2).f2).size : Int) > 100
        ·rw [if_pos c12] at H
         have c12b0 : decide (100 < (((rd_T129 l0_8 x3_2).f2).size : Int)) = true := decide_eq_true c12
         clear c12
         obtain rfl := Option.some.inj H
         have hcz13_8 : wr.cell? ⟨gb116, 8, none⟩ = some (.slice A0_8 l0_8.length c0_8) := (blk_cell BK116.out 8).trans rfl
         have p117 : 0 ≤ (x3_2 : Int) := of_decide_eq_true (by (with_reducible assumption))
         have q117 : x3_2 < (l0_8.length : Int) := of_decide_eq_true (by (with_reducible assumption))
         obtain ⟨ad117, e117, hx117_0, hx117_1, hx117_2⟩ := at_T129 HR0_8.out x3_2 p117 q117
         cases e117
         replace hx117_2 := (HB.out.cell (World.block_lt_of_cell? w _ hx117_2)).trans hx117_2
         replace p117 := eq_true p117
         replace q117 := eq_true q117
         go_wp2
         go_ret
         exact ⟨by (rfl), HB.out⟩
        ·rw [if_neg c12] at H
         have c12b0 : decide (100 < (((rd_T129 l0_8 x3_2).f2).size : Int)) = false := decide_eq_false c12
         clear c12
         have H' := Aside0.mk H
         clear H
         have hcz14_8 : wr.cell? ⟨gb116, 8, none⟩ = some (.slice A0_8 l0_8.length c0_8) := (blk_cell BK116.out 8).trans rfl
         have p117 : 0 ≤ (x3_2 : Int) := of_decide_eq_true (by (with_reducible assumption))
         have q117 : x3_2 < (l0_8.length : Int) := of_decide_eq_true (by (with_reducible assumption))
         obtain ⟨ad117, e117, hx117_0, hx117_1, hx117_2⟩ := at_T129 HR0_8.out x3_2 p117 q117
         cases e117
         replace hx117_2 := (HB.out.cell (World.block_lt_of_cell? w _ hx117_2)).trans hx117_2
         replace p117 := eq_true p117
         replace q117 := eq_true q117
         go_wp2
         go_roundg k2
         case measure => have := HJ1.out; have := HK2.out; omega
         case rel => exact ⟨(wrap64 (x3_2 + 1)), (by rfl), H', ⟨by have := HJ1.out; have := HK2.out; omega⟩, ⟨BK116.out⟩, ⟨HB.out⟩⟩
       ·rw [if_neg c11] at H
        exact absurd H (by simp)
      ·rw [if_neg c10] at H
       have c10b0 : decide (x3_2 < (l0_8.length : Int)) = false := decide_eq_false c10
       clear c10
       obtain rfl := Option.some.inj H
       have hcz15_8 : wr.cell? ⟨gb116, 8, none⟩ = some (.slice A0_8 l0_8.length c0_8) := (blk_cell BK116.out 8).trans rfl
       go_wp2
       go_ret
       exact ⟨by (rfl), HB.out⟩
end Go.Proofs.Ytcmaifjmnpfmbaa.R
