-- Made by wip/tools/ext.py (this project's) over the kit's print, with external functions' contracts by hand. Not trusted: Lean checks it.
import Derived.Test.YtcmaifjmnpfmbaaRx0
import Derived.Test.YtcmaifjmnpfmbaaRx2
import Derived.Test.YtcmaifjmnpfmbaaRx3
import Derived.Test.YtcmaifjmnpfmbaaRx4
namespace Go.Proofs.Ytcmaifjmnpfmbaa.R
open Go.RowKit Go.Proofs.YtcmaifjmnpfmbaaW.PrintWords Go.Proofs.YtcmaifjmnpfmbaaW.PrintLast Go.Proofs.YtcmaifjmnpfmbaaW.PrintMore
attribute [local go_sem] max2_int min2_int max_two min_two max_three min_three max_four min_four   -- for this text's walks alone
set_option linter.unusedVariables false
set_option linter.unusedSimpArgs false
/-! ### corebankref25_Great: function 13 -/
mutual
def corebankref25_Great.j0 : Nat → Bool → List (S97) → List (S86) → List (S62) → Int → Int → Int → Int → Int → Int → Int → Int → Int → Int → Int → Int → Int → Int → List (S79) → List (S90) → List (S84) → List (S119) → List (S180) → Option (Bool)
 | 0, _, _, _, _, _, _, _, _, _, _, _, _, _, _, _, _, _, _, _, _, _, _, _ => none
 | k + 1, x50, x119000, x119001, x119002, x119003, x119004, x119005, x119006, x119007, x119008, x119009, x119010, x119011, x119012, x119013, x119014, x119015, x119016, x119017, x119018, x119019, x119020, x119021 => if x50 = true then (some true) else (corebankref25_Great.l0 k 0 x119000 x119001 x119002 x119003 x119004 x119005 x119006 x119007 x119008 x119009 x119010 x119011 x119012 x119013 x119014 x119015 x119016 x119017 x119018 x119019 x119020 x119021)
def corebankref25_Great.l0 : Nat → Int → List (S97) → List (S86) → List (S62) → Int → Int → Int → Int → Int → Int → Int → Int → Int → Int → Int → Int → Int → Int → List (S79) → List (S90) → List (S84) → List (S119) → List (S180) → Option (Bool)
 | 0, _, _, _, _, _, _, _, _, _, _, _, _, _, _, _, _, _, _, _, _, _, _, _ => none
 | k + 1, x3, x119000, x119001, x119002, x119003, x119004, x119005, x119006, x119007, x119008, x119009, x119010, x119011, x119012, x119013, x119014, x119015, x119016, x119017, x119018, x119019, x119020, x119021 => if x3 < (x119017.length : Int) then (if 0 ≤ x3 then ((corebankref16_Great.f k ((rd_T79 x119017 x3).f0) ((rd_T79 x119017 x3).f1) ((rd_T79 x119017 x3).f2) ((rd_T79 x119017 x3).f3) ((rd_T79 x119017 x3).f4) ((rd_T79 x119017 x3).f5) ((rd_T79 x119017 x3).f6) ((rd_T79 x119017 x3).f7.f0) ((rd_T79 x119017 x3).f7.f1) ((rd_T79 x119017 x3).f7.f2) ((rd_T79 x119017 x3).f7.f3) ((rd_T79 x119017 x3).f7.f4) ((rd_T79 x119017 x3).f8.f0) ((rd_T79 x119017 x3).f8.f1) ((rd_T79 x119017 x3).f8.f2) ((rd_T79 x119017 x3).f8.f3) ((rd_T79 x119017 x3).f8.f4) ((rd_T79 x119017 x3).f9) ((rd_T79 x119017 x3).f10)).bind fun t121 => (if t121 = true then (some true) else (corebankref25_Great.l0 k (wrap64 (x3 + 1)) x119000 x119001 x119002 x119003 x119004 x119005 x119006 x119007 x119008 x119009 x119010 x119011 x119012 x119013 x119014 x119015 x119016 x119017 x119018 x119019 x119020 x119021))) else (none)) else (corebankref25_Great.l1 k 0 x119000 x119001 x119002 x119003 x119004 x119005 x119006 x119007 x119008 x119009 x119010 x119011 x119012 x119013 x119014 x119015 x119016 x119017 x119018 x119019 x119020 x119021)
def corebankref25_Great.l1 : Nat → Int → List (S97) → List (S86) → List (S62) → Int → Int → Int → Int → Int → Int → Int → Int → Int → Int → Int → Int → Int → Int → List (S79) → List (S90) → List (S84) → List (S119) → List (S180) → Option (Bool)
 | 0, _, _, _, _, _, _, _, _, _, _, _, _, _, _, _, _, _, _, _, _, _, _, _ => none
 | k + 1, x4, x119000, x119001, x119002, x119003, x119004, x119005, x119006, x119007, x119008, x119009, x119010, x119011, x119012, x119013, x119014, x119015, x119016, x119017, x119018, x119019, x119020, x119021 => if x4 < (x119019.length : Int) then (if 0 ≤ x4 then ((corebankref19_Great.f k ((rd_T84 x119019 x4).f0) ((rd_T84 x119019 x4).f1) ((rd_T84 x119019 x4).f2) ((rd_T84 x119019 x4).f3) ((rd_T84 x119019 x4).f4) ((rd_T84 x119019 x4).f5) ((rd_T84 x119019 x4).f6) ((rd_T84 x119019 x4).f7) ((rd_T84 x119019 x4).f8) ((rd_T84 x119019 x4).f9)).bind fun t123 => (if t123 = true then (some true) else (corebankref25_Great.l1 k (wrap64 (x4 + 1)) x119000 x119001 x119002 x119003 x119004 x119005 x119006 x119007 x119008 x119009 x119010 x119011 x119012 x119013 x119014 x119015 x119016 x119017 x119018 x119019 x119020 x119021))) else (none)) else (corebankref25_Great.l2 k 0 x119000 x119001 x119002 x119003 x119004 x119005 x119006 x119007 x119008 x119009 x119010 x119011 x119012 x119013 x119014 x119015 x119016 x119017 x119018 x119019 x119020 x119021)
def corebankref25_Great.l2 : Nat → Int → List (S97) → List (S86) → List (S62) → Int → Int → Int → Int → Int → Int → Int → Int → Int → Int → Int → Int → Int → Int → List (S79) → List (S90) → List (S84) → List (S119) → List (S180) → Option (Bool)
 | 0, _, _, _, _, _, _, _, _, _, _, _, _, _, _, _, _, _, _, _, _, _, _, _ => none
 | k + 1, x5, x119000, x119001, x119002, x119003, x119004, x119005, x119006, x119007, x119008, x119009, x119010, x119011, x119012, x119013, x119014, x119015, x119016, x119017, x119018, x119019, x119020, x119021 => if x5 < (x119001.length : Int) then (if 0 ≤ x5 then (if (((rd_T86 x119001 x5).f2).length : Int) > 400 then (some true) else (if (((rd_T86 x119001 x5).f1).length : Int) > 20 then (some true) else (corebankref25_Great.l2 k (wrap64 (x5 + 1)) x119000 x119001 x119002 x119003 x119004 x119005 x119006 x119007 x119008 x119009 x119010 x119011 x119012 x119013 x119014 x119015 x119016 x119017 x119018 x119019 x119020 x119021))) else (none)) else (some false)
end
def corebankref25_Great.f (k : Nat) (l0_0 : List (S97)) (l0_1 : List (S86)) (l0_2 : List (S62)) (a0_3 : Int) (a0_4 : Int) (a0_5 : Int) (a0_6 : Int) (a0_7 : Int) (a0_8 : Int) (a0_9 : Int) (a0_10 : Int) (a0_11 : Int) (a0_12 : Int) (a0_13 : Int) (a0_14 : Int) (a0_15 : Int) (a0_16 : Int) (l0_17 : List (S79)) (l0_18 : List (S90)) (l0_19 : List (S84)) (l0_20 : List (S119)) (l0_21 : List (S180)) : Option (Bool) := if (l0_0.length : Int) > 20 then (corebankref25_Great.j0 k true l0_0 l0_1 l0_2 a0_3 a0_4 a0_5 a0_6 a0_7 a0_8 a0_9 a0_10 a0_11 a0_12 a0_13 a0_14 a0_15 a0_16 l0_17 l0_18 l0_19 l0_20 l0_21) else (if (l0_1.length : Int) > 10 then (corebankref25_Great.j0 k true l0_0 l0_1 l0_2 a0_3 a0_4 a0_5 a0_6 a0_7 a0_8 a0_9 a0_10 a0_11 a0_12 a0_13 a0_14 a0_15 a0_16 l0_17 l0_18 l0_19 l0_20 l0_21) else (if (l0_2.length : Int) > 60 then (corebankref25_Great.j0 k true l0_0 l0_1 l0_2 a0_3 a0_4 a0_5 a0_6 a0_7 a0_8 a0_9 a0_10 a0_11 a0_12 a0_13 a0_14 a0_15 a0_16 l0_17 l0_18 l0_19 l0_20 l0_21) else (if (l0_17.length : Int) > 20 then (corebankref25_Great.j0 k true l0_0 l0_1 l0_2 a0_3 a0_4 a0_5 a0_6 a0_7 a0_8 a0_9 a0_10 a0_11 a0_12 a0_13 a0_14 a0_15 a0_16 l0_17 l0_18 l0_19 l0_20 l0_21) else (if (l0_18.length : Int) > 40 then (corebankref25_Great.j0 k true l0_0 l0_1 l0_2 a0_3 a0_4 a0_5 a0_6 a0_7 a0_8 a0_9 a0_10 a0_11 a0_12 a0_13 a0_14 a0_15 a0_16 l0_17 l0_18 l0_19 l0_20 l0_21) else (if (l0_19.length : Int) > 150 then (corebankref25_Great.j0 k true l0_0 l0_1 l0_2 a0_3 a0_4 a0_5 a0_6 a0_7 a0_8 a0_9 a0_10 a0_11 a0_12 a0_13 a0_14 a0_15 a0_16 l0_17 l0_18 l0_19 l0_20 l0_21) else ((corebankref22_Great.f k l0_20).bind fun t119 => (if t119 = true then (corebankref25_Great.j0 k true l0_0 l0_1 l0_2 a0_3 a0_4 a0_5 a0_6 a0_7 a0_8 a0_9 a0_10 a0_11 a0_12 a0_13 a0_14 a0_15 a0_16 l0_17 l0_18 l0_19 l0_20 l0_21) else (corebankref25_Great.j0 k (decide ((l0_21.length : Int) > 100)) l0_0 l0_1 l0_2 a0_3 a0_4 a0_5 a0_6 a0_7 a0_8 a0_9 a0_10 a0_11 a0_12 a0_13 a0_14 a0_15 a0_16 l0_17 l0_18 l0_19 l0_20 l0_21))))))))
set_option maxHeartbeats 8000000 in
set_option maxRecDepth 100000 in
theorem corebankref25_Great.calls (k : Nat) (A0_0 : Option Addr) (c0_0 : Nat) (l0_0 : List (S97)) (A0_1 : Option Addr) (c0_1 : Nat) (l0_1 : List (S86)) (A0_2 : Option Addr) (c0_2 : Nat) (l0_2 : List (S62)) (a0_3 : Int) (a0_4 : Int) (a0_5 : Int) (a0_6 : Int) (a0_7 : Int) (a0_8 : Int) (a0_9 : Int) (a0_10 : Int) (a0_11 : Int) (a0_12 : Int) (a0_13 : Int) (a0_14 : Int) (a0_15 : Int) (a0_16 : Int) (A0_17 : Option Addr) (c0_17 : Nat) (l0_17 : List (S79)) (A0_18 : Option Addr) (c0_18 : Nat) (l0_18 : List (S90)) (A0_19 : Option Addr) (c0_19 : Nat) (l0_19 : List (S84)) (A0_20 : Option Addr) (c0_20 : Nat) (l0_20 : List (S119)) (A0_21 : Option Addr) (c0_21 : Nat) (l0_21 : List (S180)) (r : Bool) (w : World) (hr0_0 : Kd.C k97 w A0_0 l0_0.length l0_0) (hc0_0 : l0_0.length ≤ c0_0) (hr0_1 : Kd.C k86 w A0_1 l0_1.length l0_1) (hc0_1 : l0_1.length ≤ c0_1) (hr0_2 : Kd.C k62 w A0_2 l0_2.length l0_2) (hc0_2 : l0_2.length ≤ c0_2) (hr0_17 : Kd.C k79 w A0_17 l0_17.length l0_17) (hc0_17 : l0_17.length ≤ c0_17) (hr0_18 : Kd.C k90 w A0_18 l0_18.length l0_18) (hc0_18 : l0_18.length ≤ c0_18) (hr0_19 : Kd.C k84 w A0_19 l0_19.length l0_19) (hc0_19 : l0_19.length ≤ c0_19) (hr0_20 : Kd.C k119 w A0_20 l0_20.length l0_20) (hc0_20 : l0_20.length ≤ c0_20) (hr0_21 : Kd.C k180 w A0_21 l0_21.length l0_21) (hc0_21 : l0_21.length ≤ c0_21) (h : corebankref25_Great.f k l0_0 l0_1 l0_2 a0_3 a0_4 a0_5 a0_6 a0_7 a0_8 a0_9 a0_10 a0_11 a0_12 a0_13 a0_14 a0_15 a0_16 l0_17 l0_18 l0_19 l0_20 l0_21 = some r) :
  Calls Try.prog 13 #[.agg #[.slice A0_0 l0_0.length c0_0, .slice A0_1 l0_1.length c0_1, .slice A0_2 l0_2.length c0_2, .int .i64 a0_3, .int .i64 a0_4, .int .i64 a0_5, .int .i64 a0_6, .int .i64 a0_7, .int .i64 a0_8, .int .i64 a0_9, .int .i64 a0_10, .int .i64 a0_11, .int .i64 a0_12, .int .i64 a0_13, .int .i64 a0_14, .int .i64 a0_15, .int .i64 a0_16, .slice A0_17 l0_17.length c0_17, .slice A0_18 l0_18.length c0_18, .slice A0_19 l0_19.length c0_19, .slice A0_20 l0_20.length c0_20, .slice A0_21 l0_21.length c0_21]] w fun e w' => e = .returned (.bool r) ∧ Below w.heap.size w w' := by
 clear hr0_0 hc0_0
 have HR0_1 := Aside0.mk hr0_1
 clear hr0_1 hc0_1
 clear hr0_2 hc0_2
 have HR0_17 := Aside0.mk hr0_17
 clear hr0_17 hc0_17
 clear hr0_18 hc0_18
 have HR0_19 := Aside0.mk hr0_19
 clear hr0_19 hc0_19
 have HR0_20 := Aside0.mk hr0_20
 have HC0_20 := Aside0.mk hc0_20
 clear hr0_20 hc0_20
 clear hr0_21 hc0_21
 have HB := Aside0.mk (Below.refl w.heap.size w)
 have H : (if (l0_0.length : Int) > 20 then (corebankref25_Great.j0 k true l0_0 l0_1 l0_2 a0_3 a0_4 a0_5 a0_6 a0_7 a0_8 a0_9 a0_10 a0_11 a0_12 a0_13 a0_14 a0_15 a0_16 l0_17 l0_18 l0_19 l0_20 l0_21) else (if (l0_1.length : Int) > 10 then (corebankref25_Great.j0 k true l0_0 l0_1 l0_2 a0_3 a0_4 a0_5 a0_6 a0_7 a0_8 a0_9 a0_10 a0_11 a0_12 a0_13 a0_14 a0_15 a0_16 l0_17 l0_18 l0_19 l0_20 l0_21) else (if (l0_2.length : Int) > 60 then (corebankref25_Great.j0 k true l0_0 l0_1 l0_2 a0_3 a0_4 a0_5 a0_6 a0_7 a0_8 a0_9 a0_10 a0_11 a0_12 a0_13 a0_14 a0_15 a0_16 l0_17 l0_18 l0_19 l0_20 l0_21) else (if (l0_17.length : Int) > 20 then (corebankref25_Great.j0 k true l0_0 l0_1 l0_2 a0_3 a0_4 a0_5 a0_6 a0_7 a0_8 a0_9 a0_10 a0_11 a0_12 a0_13 a0_14 a0_15 a0_16 l0_17 l0_18 l0_19 l0_20 l0_21) else (if (l0_18.length : Int) > 40 then (corebankref25_Great.j0 k true l0_0 l0_1 l0_2 a0_3 a0_4 a0_5 a0_6 a0_7 a0_8 a0_9 a0_10 a0_11 a0_12 a0_13 a0_14 a0_15 a0_16 l0_17 l0_18 l0_19 l0_20 l0_21) else (if (l0_19.length : Int) > 150 then (corebankref25_Great.j0 k true l0_0 l0_1 l0_2 a0_3 a0_4 a0_5 a0_6 a0_7 a0_8 a0_9 a0_10 a0_11 a0_12 a0_13 a0_14 a0_15 a0_16 l0_17 l0_18 l0_19 l0_20 l0_21) else ((corebankref22_Great.f k l0_20).bind fun t119 => (if t119 = true then (corebankref25_Great.j0 k true l0_0 l0_1 l0_2 a0_3 a0_4 a0_5 a0_6 a0_7 a0_8 a0_9 a0_10 a0_11 a0_12 a0_13 a0_14 a0_15 a0_16 l0_17 l0_18 l0_19 l0_20 l0_21) else (corebankref25_Great.j0 k (decide ((l0_21.length : Int) > 100)) l0_0 l0_1 l0_2 a0_3 a0_4 a0_5 a0_6 a0_7 a0_8 a0_9 a0_10 a0_11 a0_12 a0_13 a0_14 a0_15 a0_16 l0_17 l0_18 l0_19 l0_20 l0_21))))))))) = some r := h
 clear h
 have HC2 := Aside0.mk H
 clear H
 go_enter Try.func13, Try.ntmps13
 go_upto_region 1 with (first | ((with_reducible refine gate_dst (N := 1) rfl ?_); (try (refine gate_guard (by rfl) ?_; dsimp only)); refine box_event ?hg (N := 1) ?hd (cs := #[.slice A0_0 l0_0.length c0_0, .slice A0_1 l0_1.length c0_1, .slice A0_2 l0_2.length c0_2, .int .i64 a0_3, .int .i64 a0_4, .int .i64 a0_5, .int .i64 a0_6, .int .i64 a0_7, .int .i64 a0_8, .int .i64 a0_9, .int .i64 a0_10, .int .i64 a0_11, .int .i64 a0_12, .int .i64 a0_13, .int .i64 a0_14, .int .i64 a0_15, .int .i64 a0_16, .slice A0_17 l0_17.length c0_17, .slice A0_18 l0_18.length c0_18, .slice A0_19 l0_19.length c0_19, .slice A0_20 l0_20.length c0_20, .slice A0_21 l0_21.length c0_21]) (t := 33) ?hr ?_; (case hd => rfl); (case hg => rfl); (case hr => (go_simp; done)); intro gb118 hg w3 hbox hb; have n0_ := Aside0.mk (below_step HB.out hb); have n1_ := Aside0.mk (hbox); have n2_ := Aside0.mk ((by rw [hg]; exact (below_size HB.out) : w.heap.size ≤ gb118)); have n3_ := n2_; clear HB; have HB := n0_; have BK118 := n1_; clear n0_ n1_ n2_ n3_; clear hb hbox hg))
 go_cut [50] (fun v50 wc => ∃ (kq : Nat) (x50_1 : Bool), v50 = .bool x50_1 ∧ Aside0 (corebankref25_Great.j0 kq x50_1 l0_0 l0_1 l0_2 a0_3 a0_4 a0_5 a0_6 a0_7 a0_8 a0_9 a0_10 a0_11 a0_12 a0_13 a0_14 a0_15 a0_16 l0_17 l0_18 l0_19 l0_20 l0_21 = some r) ∧ Aside0 (kq ≤ k) ∧ Aside0 (wc.heap[gb118]? = some (.cells #[(.slice A0_0 l0_0.length c0_0), (.slice A0_1 l0_1.length c0_1), (.slice A0_2 l0_2.length c0_2), .int .i64 a0_3, .int .i64 a0_4, .int .i64 a0_5, .int .i64 a0_6, .int .i64 a0_7, .int .i64 a0_8, .int .i64 a0_9, .int .i64 a0_10, .int .i64 a0_11, .int .i64 a0_12, .int .i64 a0_13, .int .i64 a0_14, .int .i64 a0_15, .int .i64 a0_16, (.slice A0_17 l0_17.length c0_17), (.slice A0_18 l0_18.length c0_18), (.slice A0_19 l0_19.length c0_19), (.slice A0_20 l0_20.length c0_20), (.slice A0_21 l0_21.length c0_21)] 33 (0, 0))) ∧ Aside0 (Below w.heap.size w wc))
 case first =>
  have H := HC2.out
  clear HC2
  by_cases c4 : (l0_0.length : Int) > 20
  ·rw [if_pos c4] at H
   have c4b0 : decide (20 < (l0_0.length : Int)) = true := decide_eq_true c4
   clear c4
   have H' := Aside0.mk H
   clear H
   have hcz5_0 : w3.cell? ⟨gb118, 0, none⟩ = some (.slice A0_0 l0_0.length c0_0) := (blk_cell BK118.out 0).trans rfl
   go_wp2
   go_meet
   case rel => exact ⟨_, (true), (by rfl), H', ⟨by (omega)⟩, ⟨BK118.out⟩, ⟨HB.out⟩⟩
  ·rw [if_neg c4] at H
   have c4b0 : decide (20 < (l0_0.length : Int)) = false := decide_eq_false c4
   clear c4
   by_cases c6 : (l0_1.length : Int) > 10
   ·rw [if_pos c6] at H
    have c6b0 : decide (10 < (l0_1.length : Int)) = true := decide_eq_true c6
    clear c6
    have H' := Aside0.mk H
    clear H
    have hcz7_0 : w3.cell? ⟨gb118, 0, none⟩ = some (.slice A0_0 l0_0.length c0_0) := (blk_cell BK118.out 0).trans rfl
    have hcz7_1 : w3.cell? ⟨gb118, 1, none⟩ = some (.slice A0_1 l0_1.length c0_1) := (blk_cell BK118.out 1).trans rfl
    go_wp2
    go_meet
    case rel => exact ⟨_, (true), (by rfl), H', ⟨by (omega)⟩, ⟨BK118.out⟩, ⟨HB.out⟩⟩
   ·rw [if_neg c6] at H
    have c6b0 : decide (10 < (l0_1.length : Int)) = false := decide_eq_false c6
    clear c6
    by_cases c8 : (l0_2.length : Int) > 60
    ·rw [if_pos c8] at H
     have c8b0 : decide (60 < (l0_2.length : Int)) = true := decide_eq_true c8
     clear c8
     have H' := Aside0.mk H
     clear H
     have hcz9_0 : w3.cell? ⟨gb118, 0, none⟩ = some (.slice A0_0 l0_0.length c0_0) := (blk_cell BK118.out 0).trans rfl
     have hcz9_1 : w3.cell? ⟨gb118, 1, none⟩ = some (.slice A0_1 l0_1.length c0_1) := (blk_cell BK118.out 1).trans rfl
     have hcz9_2 : w3.cell? ⟨gb118, 2, none⟩ = some (.slice A0_2 l0_2.length c0_2) := (blk_cell BK118.out 2).trans rfl
     go_wp2
     go_meet
     case rel => exact ⟨_, (true), (by rfl), H', ⟨by (omega)⟩, ⟨BK118.out⟩, ⟨HB.out⟩⟩
    ·rw [if_neg c8] at H
     have c8b0 : decide (60 < (l0_2.length : Int)) = false := decide_eq_false c8
     clear c8
     by_cases c10 : (l0_17.length : Int) > 20
     ·rw [if_pos c10] at H
      have c10b0 : decide (20 < (l0_17.length : Int)) = true := decide_eq_true c10
      clear c10
      have H' := Aside0.mk H
      clear H
      have hcz11_0 : w3.cell? ⟨gb118, 0, none⟩ = some (.slice A0_0 l0_0.length c0_0) := (blk_cell BK118.out 0).trans rfl
      have hcz11_1 : w3.cell? ⟨gb118, 1, none⟩ = some (.slice A0_1 l0_1.length c0_1) := (blk_cell BK118.out 1).trans rfl
      have hcz11_2 : w3.cell? ⟨gb118, 2, none⟩ = some (.slice A0_2 l0_2.length c0_2) := (blk_cell BK118.out 2).trans rfl
      have hcz11_17 : w3.cell? ⟨gb118, 17, none⟩ = some (.slice A0_17 l0_17.length c0_17) := (blk_cell BK118.out 17).trans rfl
      go_wp2
      go_meet
      case rel => exact ⟨_, (true), (by rfl), H', ⟨by (omega)⟩, ⟨BK118.out⟩, ⟨HB.out⟩⟩
     ·rw [if_neg c10] at H
      have c10b0 : decide (20 < (l0_17.length : Int)) = false := decide_eq_false c10
      clear c10
      by_cases c12 : (l0_18.length : Int) > 40
      ·rw [if_pos c12] at H
       have c12b0 : decide (40 < (l0_18.length : Int)) = true := decide_eq_true c12
       clear c12
       have H' := Aside0.mk H
       clear H
       have hcz13_0 : w3.cell? ⟨gb118, 0, none⟩ = some (.slice A0_0 l0_0.length c0_0) := (blk_cell BK118.out 0).trans rfl
       have hcz13_1 : w3.cell? ⟨gb118, 1, none⟩ = some (.slice A0_1 l0_1.length c0_1) := (blk_cell BK118.out 1).trans rfl
       have hcz13_2 : w3.cell? ⟨gb118, 2, none⟩ = some (.slice A0_2 l0_2.length c0_2) := (blk_cell BK118.out 2).trans rfl
       have hcz13_17 : w3.cell? ⟨gb118, 17, none⟩ = some (.slice A0_17 l0_17.length c0_17) := (blk_cell BK118.out 17).trans rfl
       have hcz13_18 : w3.cell? ⟨gb118, 18, none⟩ = some (.slice A0_18 l0_18.length c0_18) := (blk_cell BK118.out 18).trans rfl
       go_wp2
       go_meet
       case rel => exact ⟨_, (true), (by rfl), H', ⟨by (omega)⟩, ⟨BK118.out⟩, ⟨HB.out⟩⟩
      ·rw [if_neg c12] at H
       have c12b0 : decide (40 < (l0_18.length : Int)) = false := decide_eq_false c12
       clear c12
       by_cases c14 : (l0_19.length : Int) > 150
       ·rw [if_pos c14] at H
        have c14b0 : decide (150 < (l0_19.length : Int)) = true := decide_eq_true c14
        clear c14
        have H' := Aside0.mk H
        clear H
        have hcz15_0 : w3.cell? ⟨gb118, 0, none⟩ = some (.slice A0_0 l0_0.length c0_0) := (blk_cell BK118.out 0).trans rfl
        have hcz15_1 : w3.cell? ⟨gb118, 1, none⟩ = some (.slice A0_1 l0_1.length c0_1) := (blk_cell BK118.out 1).trans rfl
        have hcz15_2 : w3.cell? ⟨gb118, 2, none⟩ = some (.slice A0_2 l0_2.length c0_2) := (blk_cell BK118.out 2).trans rfl
        have hcz15_17 : w3.cell? ⟨gb118, 17, none⟩ = some (.slice A0_17 l0_17.length c0_17) := (blk_cell BK118.out 17).trans rfl
        have hcz15_18 : w3.cell? ⟨gb118, 18, none⟩ = some (.slice A0_18 l0_18.length c0_18) := (blk_cell BK118.out 18).trans rfl
        have hcz15_19 : w3.cell? ⟨gb118, 19, none⟩ = some (.slice A0_19 l0_19.length c0_19) := (blk_cell BK118.out 19).trans rfl
        go_wp2
        go_meet
        case rel => exact ⟨_, (true), (by rfl), H', ⟨by (omega)⟩, ⟨BK118.out⟩, ⟨HB.out⟩⟩
       ·rw [if_neg c14] at H
        have c14b0 : decide (150 < (l0_19.length : Int)) = false := decide_eq_false c14
        clear c14
        replace H := Option.bind_eq_some_iff.mp H
        obtain ⟨t119, A160, H⟩ := H
        replace H : (if t119 = true then (corebankref25_Great.j0 k true l0_0 l0_1 l0_2 a0_3 a0_4 a0_5 a0_6 a0_7 a0_8 a0_9 a0_10 a0_11 a0_12 a0_13 a0_14 a0_15 a0_16 l0_17 l0_18 l0_19 l0_20 l0_21) else (corebankref25_Great.j0 k (decide ((l0_21.length : Int) > 100)) l0_0 l0_1 l0_2 a0_3 a0_4 a0_5 a0_6 a0_7 a0_8 a0_9 a0_10 a0_11 a0_12 a0_13 a0_14 a0_15 a0_16 l0_17 l0_18 l0_19 l0_20 l0_21)) = some r := H
        have A16 := Aside0.mk A160
        clear A160
        by_cases c17 : t119 = true
        ·subst c17
         have H1 : (corebankref25_Great.j0 k true l0_0 l0_1 l0_2 a0_3 a0_4 a0_5 a0_6 a0_7 a0_8 a0_9 a0_10 a0_11 a0_12 a0_13 a0_14 a0_15 a0_16 l0_17 l0_18 l0_19 l0_20 l0_21) = some r := by rw [if_pos rfl] at H; exact H
         clear H
         have H := H1
         clear H1
         have H' := Aside0.mk H
         clear H
         have hcz18_0 : w3.cell? ⟨gb118, 0, none⟩ = some (.slice A0_0 l0_0.length c0_0) := (blk_cell BK118.out 0).trans rfl
         have hcz18_1 : w3.cell? ⟨gb118, 1, none⟩ = some (.slice A0_1 l0_1.length c0_1) := (blk_cell BK118.out 1).trans rfl
         have hcz18_2 : w3.cell? ⟨gb118, 2, none⟩ = some (.slice A0_2 l0_2.length c0_2) := (blk_cell BK118.out 2).trans rfl
         have hcz18_17 : w3.cell? ⟨gb118, 17, none⟩ = some (.slice A0_17 l0_17.length c0_17) := (blk_cell BK118.out 17).trans rfl
         have hcz18_18 : w3.cell? ⟨gb118, 18, none⟩ = some (.slice A0_18 l0_18.length c0_18) := (blk_cell BK118.out 18).trans rfl
         have hcz18_19 : w3.cell? ⟨gb118, 19, none⟩ = some (.slice A0_19 l0_19.length c0_19) := (blk_cell BK118.out 19).trans rfl
         have hcz18_20 : w3.cell? ⟨gb118, 20, none⟩ = some (.slice A0_20 l0_20.length c0_20) := (blk_cell BK118.out 20).trans rfl
         go_wp2_with ((go_at_call 45; (with_reducible refine (corebankref22_Great.calls k _ _ l0_20 true _ ?side1 ?side2 A16.out).mono ?_); (case side1 => exact (Kd.C_below HR0_20.out HB.out)); (case side2 => exact HC0_20.out); rintro e w' ⟨rfl, ⟨nd, rfl⟩⟩))
         go_meet
         case rel => exact ⟨_, (true), (by rfl), H', ⟨by (omega)⟩, ⟨by (with_reducible repeat (refine blk_drewN ?_ _)); exact BK118.out⟩, ⟨by repeat ((with_reducible first | exact HB.out | apply pw_below_drewN))⟩⟩
        ·replace c17 := Bool.eq_false_iff.mpr c17
         subst c17
         have H1 : (corebankref25_Great.j0 k (decide ((l0_21.length : Int) > 100)) l0_0 l0_1 l0_2 a0_3 a0_4 a0_5 a0_6 a0_7 a0_8 a0_9 a0_10 a0_11 a0_12 a0_13 a0_14 a0_15 a0_16 l0_17 l0_18 l0_19 l0_20 l0_21) = some r := by rw [if_neg (show ¬ (false = true) by decide)] at H; exact H
         clear H
         have H := H1
         clear H1
         have H' := Aside0.mk H
         clear H
         have hcz19_0 : w3.cell? ⟨gb118, 0, none⟩ = some (.slice A0_0 l0_0.length c0_0) := (blk_cell BK118.out 0).trans rfl
         have hcz19_1 : w3.cell? ⟨gb118, 1, none⟩ = some (.slice A0_1 l0_1.length c0_1) := (blk_cell BK118.out 1).trans rfl
         have hcz19_2 : w3.cell? ⟨gb118, 2, none⟩ = some (.slice A0_2 l0_2.length c0_2) := (blk_cell BK118.out 2).trans rfl
         have hcz19_17 : w3.cell? ⟨gb118, 17, none⟩ = some (.slice A0_17 l0_17.length c0_17) := (blk_cell BK118.out 17).trans rfl
         have hcz19_18 : w3.cell? ⟨gb118, 18, none⟩ = some (.slice A0_18 l0_18.length c0_18) := (blk_cell BK118.out 18).trans rfl
         have hcz19_19 : w3.cell? ⟨gb118, 19, none⟩ = some (.slice A0_19 l0_19.length c0_19) := (blk_cell BK118.out 19).trans rfl
         have hcz19_20 : w3.cell? ⟨gb118, 20, none⟩ = some (.slice A0_20 l0_20.length c0_20) := (blk_cell BK118.out 20).trans rfl
         have hcz19_21 : w3.cell? ⟨gb118, 21, none⟩ = some (.slice A0_21 l0_21.length c0_21) := (blk_cell BK118.out 21).trans rfl
         go_wp2_with ((go_at_call 45; (with_reducible refine (corebankref22_Great.calls k _ _ l0_20 false _ ?side1 ?side2 A16.out).mono ?_); (case side1 => exact (Kd.C_below HR0_20.out HB.out)); (case side2 => exact HC0_20.out); rintro e w' ⟨rfl, ⟨nd, rfl⟩⟩))
         go_meet
         case rel => exact ⟨_, (decide ((l0_21.length : Int) > 100)), (by rfl), H', ⟨by (omega)⟩, ⟨by (with_reducible repeat (refine blk_drewN ?_ _)); exact BK118.out⟩, ⟨by repeat ((with_reducible first | exact HB.out | apply pw_below_drewN))⟩⟩
 case rest =>
  clear HC2
  obtain ⟨kq, x50_1, rfl, HA, HJ1, BK118, HB⟩ := hcut
  cases kq with
  | zero => exact absurd HA.out (by simp [corebankref25_Great.j0])
  | succ kj1 =>
   have H := HA.out
   clear HA
   simp only [corebankref25_Great.j0] at H
   by_cases c20 : x50_1 = true
   ·subst c20
    have H1 : (some true) = some r := by rw [if_pos rfl] at H; exact H
    clear H
    have H := H1
    clear H1
    obtain rfl := Option.some.inj H
    go_wp2
    go_ret
    exact ⟨by (rfl), HB.out⟩
   ·replace c20 := Bool.eq_false_iff.mpr c20
    subst c20
    have H1 : (corebankref25_Great.l0 kj1 0 l0_0 l0_1 l0_2 a0_3 a0_4 a0_5 a0_6 a0_7 a0_8 a0_9 a0_10 a0_11 a0_12 a0_13 a0_14 a0_15 a0_16 l0_17 l0_18 l0_19 l0_20 l0_21) = some r := by rw [if_neg (show ¬ (false = true) by decide)] at H; exact H
    clear H
    have H := H1
    clear H1
    have H' := Aside0.mk H
    clear H
    go_wp2
    go_loopg [3] kj1 (fun kq v3 w' => ∃ (x3_2 : Int), v3 = .int .i64 x3_2 ∧ Aside0 (corebankref25_Great.l0 kq x3_2 l0_0 l0_1 l0_2 a0_3 a0_4 a0_5 a0_6 a0_7 a0_8 a0_9 a0_10 a0_11 a0_12 a0_13 a0_14 a0_15 a0_16 l0_17 l0_18 l0_19 l0_20 l0_21 = some r) ∧ Aside0 (kq ≤ kj1) ∧ Aside0 (w'.heap[gb118]? = some (.cells #[(.slice A0_0 l0_0.length c0_0), (.slice A0_1 l0_1.length c0_1), (.slice A0_2 l0_2.length c0_2), .int .i64 a0_3, .int .i64 a0_4, .int .i64 a0_5, .int .i64 a0_6, .int .i64 a0_7, .int .i64 a0_8, .int .i64 a0_9, .int .i64 a0_10, .int .i64 a0_11, .int .i64 a0_12, .int .i64 a0_13, .int .i64 a0_14, .int .i64 a0_15, .int .i64 a0_16, (.slice A0_17 l0_17.length c0_17), (.slice A0_18 l0_18.length c0_18), (.slice A0_19 l0_19.length c0_19), (.slice A0_20 l0_20.length c0_20), (.slice A0_21 l0_21.length c0_21)] 33 (0, 0))) ∧ Aside0 (Below w.heap.size w w'))
    case atStart => exact ⟨(0), (by rfl), H', ⟨Nat.le_refl _⟩, ⟨BK118.out⟩, ⟨HB.out⟩⟩
    case round =>
     clear H'
     obtain ⟨x3_2, rfl, HA, HK2, BK118, HB⟩ := hrel
     cases gk with
     | zero => exact absurd HA.out (by simp [corebankref25_Great.l0])
     | succ k2 =>
      have H := HA.out
      clear HA
      simp only [corebankref25_Great.l0] at H
      by_cases c21 : x3_2 < (l0_17.length : Int)
      ·rw [if_pos c21] at H
       have c21b0 : decide (x3_2 < (l0_17.length : Int)) = true := decide_eq_true c21
       clear c21
       by_cases c22 : 0 ≤ x3_2
       ·rw [if_pos c22] at H
        have c22b0 : decide (0 ≤ x3_2) = true := decide_eq_true c22
        clear c22
        replace H := Option.bind_eq_some_iff.mp H
        obtain ⟨t121, A230, H⟩ := H
        replace H : (if t121 = true then (some true) else (corebankref25_Great.l0 k2 (wrap64 (x3_2 + 1)) l0_0 l0_1 l0_2 a0_3 a0_4 a0_5 a0_6 a0_7 a0_8 a0_9 a0_10 a0_11 a0_12 a0_13 a0_14 a0_15 a0_16 l0_17 l0_18 l0_19 l0_20 l0_21)) = some r := H
        have A23 := Aside0.mk A230
        clear A230
        by_cases c24 : t121 = true
        ·subst c24
         have H1 : (some true) = some r := by rw [if_pos rfl] at H; exact H
         clear H
         have H := H1
         clear H1
         obtain rfl := Option.some.inj H
         have hcz25_17 : wr.cell? ⟨gb118, 17, none⟩ = some (.slice A0_17 l0_17.length c0_17) := (blk_cell BK118.out 17).trans rfl
         have p120 : 0 ≤ (x3_2 : Int) := of_decide_eq_true (by (with_reducible assumption))
         have q120 : x3_2 < (l0_17.length : Int) := of_decide_eq_true (by (with_reducible assumption))
         obtain ⟨ad120, A120_7, c120_7, A120_12, c120_12, A120_17, c120_17, A120_18, c120_18, e120, hx120_0, hx120_1, hx120_2, hx120_3, hx120_4, hx120_5, hx120_6, hx120_7, hx120_8, hx120_9, hx120_10, hx120_11, hx120_12, hx120_13, hx120_14, hx120_15, hx120_16, hx120_17, hx120_18, hl120_7, hi120_7, hl120_12, hi120_12, hl120_17, hi120_17, hl120_18, hi120_18⟩ := at_T79 HR0_17.out x3_2 p120 q120
         cases e120
         replace hx120_0 := (HB.out.cell (World.block_lt_of_cell? w _ hx120_0)).trans hx120_0
         replace hx120_1 := (HB.out.cell (World.block_lt_of_cell? w _ hx120_1)).trans hx120_1
         replace hx120_2 := (HB.out.cell (World.block_lt_of_cell? w _ hx120_2)).trans hx120_2
         replace hx120_3 := (HB.out.cell (World.block_lt_of_cell? w _ hx120_3)).trans hx120_3
         replace hx120_4 := (HB.out.cell (World.block_lt_of_cell? w _ hx120_4)).trans hx120_4
         replace hx120_5 := (HB.out.cell (World.block_lt_of_cell? w _ hx120_5)).trans hx120_5
         replace hx120_6 := (HB.out.cell (World.block_lt_of_cell? w _ hx120_6)).trans hx120_6
         replace hx120_7 := (HB.out.cell (World.block_lt_of_cell? w _ hx120_7)).trans hx120_7
         replace hx120_8 := (HB.out.cell (World.block_lt_of_cell? w _ hx120_8)).trans hx120_8
         replace hx120_9 := (HB.out.cell (World.block_lt_of_cell? w _ hx120_9)).trans hx120_9
         replace hx120_10 := (HB.out.cell (World.block_lt_of_cell? w _ hx120_10)).trans hx120_10
         replace hx120_11 := (HB.out.cell (World.block_lt_of_cell? w _ hx120_11)).trans hx120_11
         replace hx120_12 := (HB.out.cell (World.block_lt_of_cell? w _ hx120_12)).trans hx120_12
         replace hx120_13 := (HB.out.cell (World.block_lt_of_cell? w _ hx120_13)).trans hx120_13
         replace hx120_14 := (HB.out.cell (World.block_lt_of_cell? w _ hx120_14)).trans hx120_14
         replace hx120_15 := (HB.out.cell (World.block_lt_of_cell? w _ hx120_15)).trans hx120_15
         replace hx120_16 := (HB.out.cell (World.block_lt_of_cell? w _ hx120_16)).trans hx120_16
         replace hx120_17 := (HB.out.cell (World.block_lt_of_cell? w _ hx120_17)).trans hx120_17
         replace hx120_18 := (HB.out.cell (World.block_lt_of_cell? w _ hx120_18)).trans hx120_18
         have HE120 := Aside0.mk (show ElemAt _ (ad120.add ((x3_2).toNat * 19)) [.string (rd_T79 l0_17 x3_2).f0, .string (rd_T79 l0_17 x3_2).f1, .string (rd_T79 l0_17 x3_2).f2, .int .i64 (rd_T79 l0_17 x3_2).f3, .int .i64 (rd_T79 l0_17 x3_2).f4, .int .i64 (rd_T79 l0_17 x3_2).f5, .int .i64 (rd_T79 l0_17 x3_2).f6, .slice A120_7 (rd_T79 l0_17 x3_2).f7.f0.length c120_7, .bool (rd_T79 l0_17 x3_2).f7.f1, .int .i64 (rd_T79 l0_17 x3_2).f7.f2, .int .i64 (rd_T79 l0_17 x3_2).f7.f3, .bool (rd_T79 l0_17 x3_2).f7.f4, .slice A120_12 (rd_T79 l0_17 x3_2).f8.f0.length c120_12, .bool (rd_T79 l0_17 x3_2).f8.f1, .int .i64 (rd_T79 l0_17 x3_2).f8.f2, .int .i64 (rd_T79 l0_17 x3_2).f8.f3, .bool (rd_T79 l0_17 x3_2).f8.f4, .slice A120_17 (rd_T79 l0_17 x3_2).f9.length c120_17, .slice A120_18 (rd_T79 l0_17 x3_2).f10.length c120_18] from ⟨hx120_0, hx120_1, hx120_2, hx120_3, hx120_4, hx120_5, hx120_6, hx120_7, hx120_8, hx120_9, hx120_10, hx120_11, hx120_12, hx120_13, hx120_14, hx120_15, hx120_16, hx120_17, hx120_18, trivial⟩)
         clear hx120_0 hx120_1 hx120_2 hx120_3 hx120_4 hx120_5 hx120_6 hx120_7 hx120_8 hx120_9 hx120_10 hx120_11 hx120_12 hx120_13 hx120_14 hx120_15 hx120_16 hx120_17 hx120_18
         have HR120_7 := Aside0.mk hi120_7
         have HC120_7 := Aside0.mk hl120_7
         clear hi120_7 hl120_7
         have HR120_12 := Aside0.mk hi120_12
         have HC120_12 := Aside0.mk hl120_12
         clear hi120_12 hl120_12
         have HR120_17 := Aside0.mk hi120_17
         have HC120_17 := Aside0.mk hl120_17
         clear hi120_17 hl120_17
         have HR120_18 := Aside0.mk hi120_18
         have HC120_18 := Aside0.mk hl120_18
         clear hi120_18 hl120_18
         replace p120 := eq_true p120
         replace q120 := eq_true q120
         go_wp2_with (first | ((with_reducible refine gate_dst (N := 62) rfl ?_); refine wpList_load_elem rfl 79 (.tmp 61) rfl (ad120.add ((x3_2).toNat * 19)) rfl #[.string (rd_T79 l0_17 x3_2).f0, .string (rd_T79 l0_17 x3_2).f1, .string (rd_T79 l0_17 x3_2).f2, .int .i64 (rd_T79 l0_17 x3_2).f3, .int .i64 (rd_T79 l0_17 x3_2).f4, .int .i64 (rd_T79 l0_17 x3_2).f5, .int .i64 (rd_T79 l0_17 x3_2).f6, .slice A120_7 (rd_T79 l0_17 x3_2).f7.f0.length c120_7, .bool (rd_T79 l0_17 x3_2).f7.f1, .int .i64 (rd_T79 l0_17 x3_2).f7.f2, .int .i64 (rd_T79 l0_17 x3_2).f7.f3, .bool (rd_T79 l0_17 x3_2).f7.f4, .slice A120_12 (rd_T79 l0_17 x3_2).f8.f0.length c120_12, .bool (rd_T79 l0_17 x3_2).f8.f1, .int .i64 (rd_T79 l0_17 x3_2).f8.f2, .int .i64 (rd_T79 l0_17 x3_2).f8.f3, .bool (rd_T79 l0_17 x3_2).f8.f4, .slice A120_17 (rd_T79 l0_17 x3_2).f9.length c120_17, .slice A120_18 (rd_T79 l0_17 x3_2).f10.length c120_18] HE120.out Try.underlying79 rfl (by kernel_rfl) ?_) | ((with_reducible refine gate_callee (f := 46) rfl ?_); refine goesL_ (some 63) rfl rfl Try.func46 (by kernel_rfl) rfl #[.agg #[.string ((rd_T79 l0_17 x3_2).f0), .string ((rd_T79 l0_17 x3_2).f1), .string ((rd_T79 l0_17 x3_2).f2), .int .i64 ((rd_T79 l0_17 x3_2).f3), .int .i64 ((rd_T79 l0_17 x3_2).f4), .int .i64 ((rd_T79 l0_17 x3_2).f5), .int .i64 ((rd_T79 l0_17 x3_2).f6), .slice A120_7 ((rd_T79 l0_17 x3_2).f7.f0).length c120_7, .bool ((rd_T79 l0_17 x3_2).f7.f1), .int .i64 ((rd_T79 l0_17 x3_2).f7.f2), .int .i64 ((rd_T79 l0_17 x3_2).f7.f3), .bool ((rd_T79 l0_17 x3_2).f7.f4), .slice A120_12 ((rd_T79 l0_17 x3_2).f8.f0).length c120_12, .bool ((rd_T79 l0_17 x3_2).f8.f1), .int .i64 ((rd_T79 l0_17 x3_2).f8.f2), .int .i64 ((rd_T79 l0_17 x3_2).f8.f3), .bool ((rd_T79 l0_17 x3_2).f8.f4), .slice A120_17 ((rd_T79 l0_17 x3_2).f9).length c120_17, .slice A120_18 ((rd_T79 l0_17 x3_2).f10).length c120_18]] rfl (by (try simp only [List.map_toArray, List.map_cons, List.map_nil]); (rfl)) ?_; (with_reducible refine (corebankref16_Great.calls k2 ((rd_T79 l0_17 x3_2).f0) ((rd_T79 l0_17 x3_2).f1) ((rd_T79 l0_17 x3_2).f2) ((rd_T79 l0_17 x3_2).f3) ((rd_T79 l0_17 x3_2).f4) ((rd_T79 l0_17 x3_2).f5) ((rd_T79 l0_17 x3_2).f6) _ _ ((rd_T79 l0_17 x3_2).f7.f0) ((rd_T79 l0_17 x3_2).f7.f1) ((rd_T79 l0_17 x3_2).f7.f2) ((rd_T79 l0_17 x3_2).f7.f3) ((rd_T79 l0_17 x3_2).f7.f4) _ _ ((rd_T79 l0_17 x3_2).f8.f0) ((rd_T79 l0_17 x3_2).f8.f1) ((rd_T79 l0_17 x3_2).f8.f2) ((rd_T79 l0_17 x3_2).f8.f3) ((rd_T79 l0_17 x3_2).f8.f4) _ _ ((rd_T79 l0_17 x3_2).f9) _ _ ((rd_T79 l0_17 x3_2).f10) true _ ?side1 ?side2 ?side3 ?side4 ?side5 ?side6 ?side7 ?side8 A23.out).mono ?_); (case side1 => exact (Kd.C_below HR120_7.out HB.out)); (case side2 => exact HC120_7.out); (case side3 => exact (Kd.C_below HR120_12.out HB.out)); (case side4 => exact HC120_12.out); (case side5 => exact (Kd.C_below HR120_17.out HB.out)); (case side6 => exact HC120_17.out); (case side7 => exact (Kd.C_below HR120_18.out HB.out)); (case side8 => exact HC120_18.out); rintro e w26 ⟨rfl, hb⟩; refine ⟨_, rfl, ?_⟩; have n0_ := Aside0.mk (blk_below BK118.out hb); have n1_ := Aside0.mk (below_step HB.out hb); clear BK118; clear HB; have BK118 := n0_; have HB := n1_; clear n0_ n1_; (try clear hb)))
         go_ret
         exact ⟨by (rfl), HB.out⟩
        ·replace c24 := Bool.eq_false_iff.mpr c24
         subst c24
         have H1 : (corebankref25_Great.l0 k2 (wrap64 (x3_2 + 1)) l0_0 l0_1 l0_2 a0_3 a0_4 a0_5 a0_6 a0_7 a0_8 a0_9 a0_10 a0_11 a0_12 a0_13 a0_14 a0_15 a0_16 l0_17 l0_18 l0_19 l0_20 l0_21) = some r := by rw [if_neg (show ¬ (false = true) by decide)] at H; exact H
         clear H
         have H := H1
         clear H1
         have H' := Aside0.mk H
         clear H
         have hcz27_17 : wr.cell? ⟨gb118, 17, none⟩ = some (.slice A0_17 l0_17.length c0_17) := (blk_cell BK118.out 17).trans rfl
         have p120 : 0 ≤ (x3_2 : Int) := of_decide_eq_true (by (with_reducible assumption))
         have q120 : x3_2 < (l0_17.length : Int) := of_decide_eq_true (by (with_reducible assumption))
         obtain ⟨ad120, A120_7, c120_7, A120_12, c120_12, A120_17, c120_17, A120_18, c120_18, e120, hx120_0, hx120_1, hx120_2, hx120_3, hx120_4, hx120_5, hx120_6, hx120_7, hx120_8, hx120_9, hx120_10, hx120_11, hx120_12, hx120_13, hx120_14, hx120_15, hx120_16, hx120_17, hx120_18, hl120_7, hi120_7, hl120_12, hi120_12, hl120_17, hi120_17, hl120_18, hi120_18⟩ := at_T79 HR0_17.out x3_2 p120 q120
         cases e120
         replace hx120_0 := (HB.out.cell (World.block_lt_of_cell? w _ hx120_0)).trans hx120_0
         replace hx120_1 := (HB.out.cell (World.block_lt_of_cell? w _ hx120_1)).trans hx120_1
         replace hx120_2 := (HB.out.cell (World.block_lt_of_cell? w _ hx120_2)).trans hx120_2
         replace hx120_3 := (HB.out.cell (World.block_lt_of_cell? w _ hx120_3)).trans hx120_3
         replace hx120_4 := (HB.out.cell (World.block_lt_of_cell? w _ hx120_4)).trans hx120_4
         replace hx120_5 := (HB.out.cell (World.block_lt_of_cell? w _ hx120_5)).trans hx120_5
         replace hx120_6 := (HB.out.cell (World.block_lt_of_cell? w _ hx120_6)).trans hx120_6
         replace hx120_7 := (HB.out.cell (World.block_lt_of_cell? w _ hx120_7)).trans hx120_7
         replace hx120_8 := (HB.out.cell (World.block_lt_of_cell? w _ hx120_8)).trans hx120_8
         replace hx120_9 := (HB.out.cell (World.block_lt_of_cell? w _ hx120_9)).trans hx120_9
         replace hx120_10 := (HB.out.cell (World.block_lt_of_cell? w _ hx120_10)).trans hx120_10
         replace hx120_11 := (HB.out.cell (World.block_lt_of_cell? w _ hx120_11)).trans hx120_11
         replace hx120_12 := (HB.out.cell (World.block_lt_of_cell? w _ hx120_12)).trans hx120_12
         replace hx120_13 := (HB.out.cell (World.block_lt_of_cell? w _ hx120_13)).trans hx120_13
         replace hx120_14 := (HB.out.cell (World.block_lt_of_cell? w _ hx120_14)).trans hx120_14
         replace hx120_15 := (HB.out.cell (World.block_lt_of_cell? w _ hx120_15)).trans hx120_15
         replace hx120_16 := (HB.out.cell (World.block_lt_of_cell? w _ hx120_16)).trans hx120_16
         replace hx120_17 := (HB.out.cell (World.block_lt_of_cell? w _ hx120_17)).trans hx120_17
         replace hx120_18 := (HB.out.cell (World.block_lt_of_cell? w _ hx120_18)).trans hx120_18
         have HE120 := Aside0.mk (show ElemAt _ (ad120.add ((x3_2).toNat * 19)) [.string (rd_T79 l0_17 x3_2).f0, .string (rd_T79 l0_17 x3_2).f1, .string (rd_T79 l0_17 x3_2).f2, .int .i64 (rd_T79 l0_17 x3_2).f3, .int .i64 (rd_T79 l0_17 x3_2).f4, .int .i64 (rd_T79 l0_17 x3_2).f5, .int .i64 (rd_T79 l0_17 x3_2).f6, .slice A120_7 (rd_T79 l0_17 x3_2).f7.f0.length c120_7, .bool (rd_T79 l0_17 x3_2).f7.f1, .int .i64 (rd_T79 l0_17 x3_2).f7.f2, .int .i64 (rd_T79 l0_17 x3_2).f7.f3, .bool (rd_T79 l0_17 x3_2).f7.f4, .slice A120_12 (rd_T79 l0_17 x3_2).f8.f0.length c120_12, .bool (rd_T79 l0_17 x3_2).f8.f1, .int .i64 (rd_T79 l0_17 x3_2).f8.f2, .int .i64 (rd_T79 l0_17 x3_2).f8.f3, .bool (rd_T79 l0_17 x3_2).f8.f4, .slice A120_17 (rd_T79 l0_17 x3_2).f9.length c120_17, .slice A120_18 (rd_T79 l0_17 x3_2).f10.length c120_18] from ⟨hx120_0, hx120_1, hx120_2, hx120_3, hx120_4, hx120_5, hx120_6, hx120_7, hx120_8, hx120_9, hx120_10, hx120_11, hx120_12, hx120_13, hx120_14, hx120_15, hx120_16, hx120_17, hx120_18, trivial⟩)
         clear hx120_0 hx120_1 hx120_2 hx120_3 hx120_4 hx120_5 hx120_6 hx120_7 hx120_8 hx120_9 hx120_10 hx120_11 hx120_12 hx120_13 hx120_14 hx120_15 hx120_16 hx120_17 hx120_18
         have HR120_7 := Aside0.mk hi120_7
         have HC120_7 := Aside0.mk hl120_7
         clear hi120_7 hl120_7
         have HR120_12 := Aside0.mk hi120_12
         have HC120_12 := Aside0.mk hl120_12
         clear hi120_12 hl120_12
         have HR120_17 := Aside0.mk hi120_17
         have HC120_17 := Aside0.mk hl120_17
         clear hi120_17 hl120_17
         have HR120_18 := Aside0.mk hi120_18
         have HC120_18 := Aside0.mk hl120_18
         clear hi120_18 hl120_18
         replace p120 := eq_true p120
         replace q120 := eq_true q120
         go_wp2_with (first | ((with_reducible refine gate_dst (N := 62) rfl ?_); refine wpList_load_elem rfl 79 (.tmp 61) rfl (ad120.add ((x3_2).toNat * 19)) rfl #[.string (rd_T79 l0_17 x3_2).f0, .string (rd_T79 l0_17 x3_2).f1, .string (rd_T79 l0_17 x3_2).f2, .int .i64 (rd_T79 l0_17 x3_2).f3, .int .i64 (rd_T79 l0_17 x3_2).f4, .int .i64 (rd_T79 l0_17 x3_2).f5, .int .i64 (rd_T79 l0_17 x3_2).f6, .slice A120_7 (rd_T79 l0_17 x3_2).f7.f0.length c120_7, .bool (rd_T79 l0_17 x3_2).f7.f1, .int .i64 (rd_T79 l0_17 x3_2).f7.f2, .int .i64 (rd_T79 l0_17 x3_2).f7.f3, .bool (rd_T79 l0_17 x3_2).f7.f4, .slice A120_12 (rd_T79 l0_17 x3_2).f8.f0.length c120_12, .bool (rd_T79 l0_17 x3_2).f8.f1, .int .i64 (rd_T79 l0_17 x3_2).f8.f2, .int .i64 (rd_T79 l0_17 x3_2).f8.f3, .bool (rd_T79 l0_17 x3_2).f8.f4, .slice A120_17 (rd_T79 l0_17 x3_2).f9.length c120_17, .slice A120_18 (rd_T79 l0_17 x3_2).f10.length c120_18] HE120.out Try.underlying79 rfl (by kernel_rfl) ?_) | ((with_reducible refine gate_callee (f := 46) rfl ?_); refine goesL_ (some 63) rfl rfl Try.func46 (by kernel_rfl) rfl #[.agg #[.string ((rd_T79 l0_17 x3_2).f0), .string ((rd_T79 l0_17 x3_2).f1), .string ((rd_T79 l0_17 x3_2).f2), .int .i64 ((rd_T79 l0_17 x3_2).f3), .int .i64 ((rd_T79 l0_17 x3_2).f4), .int .i64 ((rd_T79 l0_17 x3_2).f5), .int .i64 ((rd_T79 l0_17 x3_2).f6), .slice A120_7 ((rd_T79 l0_17 x3_2).f7.f0).length c120_7, .bool ((rd_T79 l0_17 x3_2).f7.f1), .int .i64 ((rd_T79 l0_17 x3_2).f7.f2), .int .i64 ((rd_T79 l0_17 x3_2).f7.f3), .bool ((rd_T79 l0_17 x3_2).f7.f4), .slice A120_12 ((rd_T79 l0_17 x3_2).f8.f0).length c120_12, .bool ((rd_T79 l0_17 x3_2).f8.f1), .int .i64 ((rd_T79 l0_17 x3_2).f8.f2), .int .i64 ((rd_T79 l0_17 x3_2).f8.f3), .bool ((rd_T79 l0_17 x3_2).f8.f4), .slice A120_17 ((rd_T79 l0_17 x3_2).f9).length c120_17, .slice A120_18 ((rd_T79 l0_17 x3_2).f10).length c120_18]] rfl (by (try simp only [List.map_toArray, List.map_cons, List.map_nil]); (rfl)) ?_; (with_reducible refine (corebankref16_Great.calls k2 ((rd_T79 l0_17 x3_2).f0) ((rd_T79 l0_17 x3_2).f1) ((rd_T79 l0_17 x3_2).f2) ((rd_T79 l0_17 x3_2).f3) ((rd_T79 l0_17 x3_2).f4) ((rd_T79 l0_17 x3_2).f5) ((rd_T79 l0_17 x3_2).f6) _ _ ((rd_T79 l0_17 x3_2).f7.f0) ((rd_T79 l0_17 x3_2).f7.f1) ((rd_T79 l0_17 x3_2).f7.f2) ((rd_T79 l0_17 x3_2).f7.f3) ((rd_T79 l0_17 x3_2).f7.f4) _ _ ((rd_T79 l0_17 x3_2).f8.f0) ((rd_T79 l0_17 x3_2).f8.f1) ((rd_T79 l0_17 x3_2).f8.f2) ((rd_T79 l0_17 x3_2).f8.f3) ((rd_T79 l0_17 x3_2).f8.f4) _ _ ((rd_T79 l0_17 x3_2).f9) _ _ ((rd_T79 l0_17 x3_2).f10) false _ ?side1 ?side2 ?side3 ?side4 ?side5 ?side6 ?side7 ?side8 A23.out).mono ?_); (case side1 => exact (Kd.C_below HR120_7.out HB.out)); (case side2 => exact HC120_7.out); (case side3 => exact (Kd.C_below HR120_12.out HB.out)); (case side4 => exact HC120_12.out); (case side5 => exact (Kd.C_below HR120_17.out HB.out)); (case side6 => exact HC120_17.out); (case side7 => exact (Kd.C_below HR120_18.out HB.out)); (case side8 => exact HC120_18.out); rintro e w28 ⟨rfl, hb⟩; refine ⟨_, rfl, ?_⟩; have n0_ := Aside0.mk (blk_below BK118.out hb); have n1_ := Aside0.mk (below_step HB.out hb); clear BK118; clear HB; have BK118 := n0_; have HB := n1_; clear n0_ n1_; (try clear hb)))
         go_roundg k2
         case measure => have := HJ1.out; have := HK2.out; omega
         case rel => exact ⟨(wrap64 (x3_2 + 1)), (by rfl), H', ⟨by have := HJ1.out; have := HK2.out; omega⟩, ⟨BK118.out⟩, ⟨HB.out⟩⟩
       ·rw [if_neg c22] at H
        exact absurd H (by simp)
      ·rw [if_neg c21] at H
       have c21b0 : decide (x3_2 < (l0_17.length : Int)) = false := decide_eq_false c21
       clear c21
       have H' := Aside0.mk H
       clear H
       have hcz29_17 : wr.cell? ⟨gb118, 17, none⟩ = some (.slice A0_17 l0_17.length c0_17) := (blk_cell BK118.out 17).trans rfl
       go_wp2
       go_loopg [4] k2 (fun kq v4 w' => ∃ (x4_3 : Int), v4 = .int .i64 x4_3 ∧ Aside0 (corebankref25_Great.l1 kq x4_3 l0_0 l0_1 l0_2 a0_3 a0_4 a0_5 a0_6 a0_7 a0_8 a0_9 a0_10 a0_11 a0_12 a0_13 a0_14 a0_15 a0_16 l0_17 l0_18 l0_19 l0_20 l0_21 = some r) ∧ Aside0 (kq ≤ k2) ∧ Aside0 (w'.heap[gb118]? = some (.cells #[(.slice A0_0 l0_0.length c0_0), (.slice A0_1 l0_1.length c0_1), (.slice A0_2 l0_2.length c0_2), .int .i64 a0_3, .int .i64 a0_4, .int .i64 a0_5, .int .i64 a0_6, .int .i64 a0_7, .int .i64 a0_8, .int .i64 a0_9, .int .i64 a0_10, .int .i64 a0_11, .int .i64 a0_12, .int .i64 a0_13, .int .i64 a0_14, .int .i64 a0_15, .int .i64 a0_16, (.slice A0_17 l0_17.length c0_17), (.slice A0_18 l0_18.length c0_18), (.slice A0_19 l0_19.length c0_19), (.slice A0_20 l0_20.length c0_20), (.slice A0_21 l0_21.length c0_21)] 33 (0, 0))) ∧ Aside0 (Below w.heap.size w w'))
       case atStart => exact ⟨(0), (by rfl), H', ⟨Nat.le_refl _⟩, ⟨BK118.out⟩, ⟨HB.out⟩⟩
       case round =>
        clear H'
        try clear c21b0
        try clear hcz29_17
        obtain ⟨x4_3, rfl, HA, HK3, BK118, HB⟩ := hrel
        cases gk with
        | zero => exact absurd HA.out (by simp [corebankref25_Great.l1])
        | succ k3 =>
         have H := HA.out
         clear HA
         simp only [corebankref25_Great.l1] at H
         by_cases c30 : x4_3 < (l0_19.length : Int)
         ·rw [if_pos c30] at H
          have c30b0 : decide (x4_3 < (l0_19.length : Int)) = true := decide_eq_true c30
          clear c30
          by_cases c31 : 0 ≤ x4_3
          ·rw [if_pos c31] at H
           have c31b0 : decide (0 ≤ x4_3) = true := decide_eq_true c31
           clear c31
           replace H := Option.bind_eq_some_iff.mp H
           obtain ⟨t123, A320, H⟩ := H
           replace H : (if t123 = true then (some true) else (corebankref25_Great.l1 k3 (wrap64 (x4_3 + 1)) l0_0 l0_1 l0_2 a0_3 a0_4 a0_5 a0_6 a0_7 a0_8 a0_9 a0_10 a0_11 a0_12 a0_13 a0_14 a0_15 a0_16 l0_17 l0_18 l0_19 l0_20 l0_21)) = some r := H
           have A32 := Aside0.mk A320
           clear A320
           by_cases c33 : t123 = true
           ·subst c33
            have H1 : (some true) = some r := by rw [if_pos rfl] at H; exact H
            clear H
            have H := H1
            clear H1
            obtain rfl := Option.some.inj H
            have hcz34_19 : wr.cell? ⟨gb118, 19, none⟩ = some (.slice A0_19 l0_19.length c0_19) := (blk_cell BK118.out 19).trans rfl
            have p122 : 0 ≤ (x4_3 : Int) := of_decide_eq_true (by (with_reducible assumption))
            have q122 : x4_3 < (l0_19.length : Int) := of_decide_eq_true (by (with_reducible assumption))
            obtain ⟨ad122, A122_8, c122_8, e122, hx122_0, hx122_1, hx122_2, hx122_3, hx122_4, hx122_5, hx122_6, hx122_7, hx122_8, hx122_9, hl122_8, hi122_8⟩ := at_T84 HR0_19.out x4_3 p122 q122
            cases e122
            replace hx122_0 := (HB.out.cell (World.block_lt_of_cell? w _ hx122_0)).trans hx122_0
            replace hx122_1 := (HB.out.cell (World.block_lt_of_cell? w _ hx122_1)).trans hx122_1
            replace hx122_2 := (HB.out.cell (World.block_lt_of_cell? w _ hx122_2)).trans hx122_2
            replace hx122_3 := (HB.out.cell (World.block_lt_of_cell? w _ hx122_3)).trans hx122_3
            replace hx122_4 := (HB.out.cell (World.block_lt_of_cell? w _ hx122_4)).trans hx122_4
            replace hx122_5 := (HB.out.cell (World.block_lt_of_cell? w _ hx122_5)).trans hx122_5
            replace hx122_6 := (HB.out.cell (World.block_lt_of_cell? w _ hx122_6)).trans hx122_6
            replace hx122_7 := (HB.out.cell (World.block_lt_of_cell? w _ hx122_7)).trans hx122_7
            replace hx122_8 := (HB.out.cell (World.block_lt_of_cell? w _ hx122_8)).trans hx122_8
            replace hx122_9 := (HB.out.cell (World.block_lt_of_cell? w _ hx122_9)).trans hx122_9
            have HR122_8 := Aside0.mk hi122_8
            have HC122_8 := Aside0.mk hl122_8
            clear hi122_8 hl122_8
            replace p122 := eq_true p122
            replace q122 := eq_true q122
            go_wp2_with (((with_reducible refine gate_callee (f := 47) rfl ?_); refine goesL_ (some 76) rfl rfl Try.func47 (by kernel_rfl) rfl #[.agg #[.int .i64 ((rd_T84 l0_19 x4_3).f0), .int .i64 ((rd_T84 l0_19 x4_3).f1), .int .i64 ((rd_T84 l0_19 x4_3).f2), .int .i64 ((rd_T84 l0_19 x4_3).f3), .int .i64 ((rd_T84 l0_19 x4_3).f4), .int .i64 ((rd_T84 l0_19 x4_3).f5), .string ((rd_T84 l0_19 x4_3).f6), .string ((rd_T84 l0_19 x4_3).f7), .slice A122_8 ((rd_T84 l0_19 x4_3).f8).length c122_8, .int .u64 ((rd_T84 l0_19 x4_3).f9)]] rfl (by (try simp only [List.map_toArray, List.map_cons, List.map_nil]); (rfl)) ?_; (with_reducible refine (corebankref19_Great.calls k3 ((rd_T84 l0_19 x4_3).f0) ((rd_T84 l0_19 x4_3).f1) ((rd_T84 l0_19 x4_3).f2) ((rd_T84 l0_19 x4_3).f3) ((rd_T84 l0_19 x4_3).f4) ((rd_T84 l0_19 x4_3).f5) ((rd_T84 l0_19 x4_3).f6) ((rd_T84 l0_19 x4_3).f7) _ _ ((rd_T84 l0_19 x4_3).f8) ((rd_T84 l0_19 x4_3).f9) true _ ?side1 ?side2 A32.out).mono ?_); (case side1 => exact (Kd.C_below HR122_8.out HB.out)); (case side2 => exact HC122_8.out); rintro e w35 ⟨rfl, hb⟩; refine ⟨_, rfl, ?_⟩; have n0_ := Aside0.mk (blk_below BK118.out hb); have n1_ := Aside0.mk (below_step HB.out hb); clear BK118; clear HB; have BK118 := n0_; have HB := n1_; clear n0_ n1_; (try clear hb)))
            go_ret
            exact ⟨by (rfl), HB.out⟩
           ·replace c33 := Bool.eq_false_iff.mpr c33
            subst c33
            have H1 : (corebankref25_Great.l1 k3 (wrap64 (x4_3 + 1)) l0_0 l0_1 l0_2 a0_3 a0_4 a0_5 a0_6 a0_7 a0_8 a0_9 a0_10 a0_11 a0_12 a0_13 a0_14 a0_15 a0_16 l0_17 l0_18 l0_19 l0_20 l0_21) = some r := by rw [if_neg (show ¬ (false = true) by decide)] at H; exact H
            clear H
            have H := H1
            clear H1
            have H' := Aside0.mk H
            clear H
            have hcz36_19 : wr.cell? ⟨gb118, 19, none⟩ = some (.slice A0_19 l0_19.length c0_19) := (blk_cell BK118.out 19).trans rfl
            have p122 : 0 ≤ (x4_3 : Int) := of_decide_eq_true (by (with_reducible assumption))
            have q122 : x4_3 < (l0_19.length : Int) := of_decide_eq_true (by (with_reducible assumption))
            obtain ⟨ad122, A122_8, c122_8, e122, hx122_0, hx122_1, hx122_2, hx122_3, hx122_4, hx122_5, hx122_6, hx122_7, hx122_8, hx122_9, hl122_8, hi122_8⟩ := at_T84 HR0_19.out x4_3 p122 q122
            cases e122
            replace hx122_0 := (HB.out.cell (World.block_lt_of_cell? w _ hx122_0)).trans hx122_0
            replace hx122_1 := (HB.out.cell (World.block_lt_of_cell? w _ hx122_1)).trans hx122_1
            replace hx122_2 := (HB.out.cell (World.block_lt_of_cell? w _ hx122_2)).trans hx122_2
            replace hx122_3 := (HB.out.cell (World.block_lt_of_cell? w _ hx122_3)).trans hx122_3
            replace hx122_4 := (HB.out.cell (World.block_lt_of_cell? w _ hx122_4)).trans hx122_4
            replace hx122_5 := (HB.out.cell (World.block_lt_of_cell? w _ hx122_5)).trans hx122_5
            replace hx122_6 := (HB.out.cell (World.block_lt_of_cell? w _ hx122_6)).trans hx122_6
            replace hx122_7 := (HB.out.cell (World.block_lt_of_cell? w _ hx122_7)).trans hx122_7
            replace hx122_8 := (HB.out.cell (World.block_lt_of_cell? w _ hx122_8)).trans hx122_8
            replace hx122_9 := (HB.out.cell (World.block_lt_of_cell? w _ hx122_9)).trans hx122_9
            have HR122_8 := Aside0.mk hi122_8
            have HC122_8 := Aside0.mk hl122_8
            clear hi122_8 hl122_8
            replace p122 := eq_true p122
            replace q122 := eq_true q122
            go_wp2_with (((with_reducible refine gate_callee (f := 47) rfl ?_); refine goesL_ (some 76) rfl rfl Try.func47 (by kernel_rfl) rfl #[.agg #[.int .i64 ((rd_T84 l0_19 x4_3).f0), .int .i64 ((rd_T84 l0_19 x4_3).f1), .int .i64 ((rd_T84 l0_19 x4_3).f2), .int .i64 ((rd_T84 l0_19 x4_3).f3), .int .i64 ((rd_T84 l0_19 x4_3).f4), .int .i64 ((rd_T84 l0_19 x4_3).f5), .string ((rd_T84 l0_19 x4_3).f6), .string ((rd_T84 l0_19 x4_3).f7), .slice A122_8 ((rd_T84 l0_19 x4_3).f8).length c122_8, .int .u64 ((rd_T84 l0_19 x4_3).f9)]] rfl (by (try simp only [List.map_toArray, List.map_cons, List.map_nil]); (rfl)) ?_; (with_reducible refine (corebankref19_Great.calls k3 ((rd_T84 l0_19 x4_3).f0) ((rd_T84 l0_19 x4_3).f1) ((rd_T84 l0_19 x4_3).f2) ((rd_T84 l0_19 x4_3).f3) ((rd_T84 l0_19 x4_3).f4) ((rd_T84 l0_19 x4_3).f5) ((rd_T84 l0_19 x4_3).f6) ((rd_T84 l0_19 x4_3).f7) _ _ ((rd_T84 l0_19 x4_3).f8) ((rd_T84 l0_19 x4_3).f9) false _ ?side1 ?side2 A32.out).mono ?_); (case side1 => exact (Kd.C_below HR122_8.out HB.out)); (case side2 => exact HC122_8.out); rintro e w37 ⟨rfl, hb⟩; refine ⟨_, rfl, ?_⟩; have n0_ := Aside0.mk (blk_below BK118.out hb); have n1_ := Aside0.mk (below_step HB.out hb); clear BK118; clear HB; have BK118 := n0_; have HB := n1_; clear n0_ n1_; (try clear hb)))
            go_roundg k3
            case measure => have := HJ1.out; have := HK2.out; have := HK3.out; omega
            case rel => exact ⟨(wrap64 (x4_3 + 1)), (by rfl), H', ⟨by have := HJ1.out; have := HK2.out; have := HK3.out; omega⟩, ⟨BK118.out⟩, ⟨HB.out⟩⟩
          ·rw [if_neg c31] at H
           exact absurd H (by simp)
         ·rw [if_neg c30] at H
          have c30b0 : decide (x4_3 < (l0_19.length : Int)) = false := decide_eq_false c30
          clear c30
          have H' := Aside0.mk H
          clear H
          have hcz38_19 : wr.cell? ⟨gb118, 19, none⟩ = some (.slice A0_19 l0_19.length c0_19) := (blk_cell BK118.out 19).trans rfl
          go_wp2
          go_loopg [5] k3 (fun kq v5 w' => ∃ (x5_4 : Int), v5 = .int .i64 x5_4 ∧ Aside0 (corebankref25_Great.l2 kq x5_4 l0_0 l0_1 l0_2 a0_3 a0_4 a0_5 a0_6 a0_7 a0_8 a0_9 a0_10 a0_11 a0_12 a0_13 a0_14 a0_15 a0_16 l0_17 l0_18 l0_19 l0_20 l0_21 = some r) ∧ Aside0 (kq ≤ k3) ∧ Aside0 (w'.heap[gb118]? = some (.cells #[(.slice A0_0 l0_0.length c0_0), (.slice A0_1 l0_1.length c0_1), (.slice A0_2 l0_2.length c0_2), .int .i64 a0_3, .int .i64 a0_4, .int .i64 a0_5, .int .i64 a0_6, .int .i64 a0_7, .int .i64 a0_8, .int .i64 a0_9, .int .i64 a0_10, .int .i64 a0_11, .int .i64 a0_12, .int .i64 a0_13, .int .i64 a0_14, .int .i64 a0_15, .int .i64 a0_16, (.slice A0_17 l0_17.length c0_17), (.slice A0_18 l0_18.length c0_18), (.slice A0_19 l0_19.length c0_19), (.slice A0_20 l0_20.length c0_20), (.slice A0_21 l0_21.length c0_21)] 33 (0, 0))) ∧ Aside0 (Below w.heap.size w w'))
          case atStart => exact ⟨(0), (by rfl), H', ⟨Nat.le_refl _⟩, ⟨BK118.out⟩, ⟨HB.out⟩⟩
          case round =>
           clear H'
           try clear c30b0
           try clear hcz38_19
           obtain ⟨x5_4, rfl, HA, HK4, BK118, HB⟩ := hrel
           cases gk with
           | zero => exact absurd HA.out (by simp [corebankref25_Great.l2])
           | succ k4 =>
            have H := HA.out
            clear HA
            simp only [corebankref25_Great.l2] at H
            by_cases c39 : x5_4 < (l0_1.length : Int)
            ·rw [if_pos c39] at H
             have c39b0 : decide (x5_4 < (l0_1.length : Int)) = true := decide_eq_true c39
             clear c39
             by_cases c40 : 0 ≤ x5_4
             ·rw [if_pos c40] at H
              have c40b0 : decide (0 ≤ x5_4) = true := decide_eq_true c40
              clear c40
              by_cases c41 : (((rd_T86 l0_1 x5_4).f2).length : Int) > 400
              ·rw [if_pos c41] at H
               have c41b0 : decide (400 < (((rd_T86 l0_1 x5_4).f2).length : Int)) = true := decide_eq_true c41
               clear c41
               obtain rfl := Option.some.inj H
               have hcz42_1 : wr.cell? ⟨gb118, 1, none⟩ = some (.slice A0_1 l0_1.length c0_1) := (blk_cell BK118.out 1).trans rfl
               have p124 : 0 ≤ (x5_4 : Int) := of_decide_eq_true (by (with_reducible assumption))
               have q124 : x5_4 < (l0_1.length : Int) := of_decide_eq_true (by (with_reducible assumption))
               obtain ⟨ad124, A124_1, c124_1, A124_2, c124_2, e124, hx124_0, hx124_1, hx124_2, hl124_1, hi124_1, hl124_2, hi124_2⟩ := at_T86 HR0_1.out x5_4 p124 q124
               cases e124
               replace hx124_1 := (HB.out.cell (World.block_lt_of_cell? w _ hx124_1)).trans hx124_1
               replace hx124_2 := (HB.out.cell (World.block_lt_of_cell? w _ hx124_2)).trans hx124_2
               clear hi124_1 hl124_1
               clear hi124_2 hl124_2
               replace p124 := eq_true p124
               replace q124 := eq_true q124
               go_wp2
               go_ret
               exact ⟨by (rfl), HB.out⟩
              ·rw [if_neg c41] at H
               have c41b0 : decide (400 < (((rd_T86 l0_1 x5_4).f2).length : Int)) = false := decide_eq_false c41
               clear c41
               by_cases c43 : (((rd_T86 l0_1 x5_4).f1).length : Int) > 20
               ·rw [if_pos c43] at H
                have c43b0 : decide (20 < (((rd_T86 l0_1 x5_4).f1).length : Int)) = true := decide_eq_true c43
                clear c43
                obtain rfl := Option.some.inj H
                have hcz44_1 : wr.cell? ⟨gb118, 1, none⟩ = some (.slice A0_1 l0_1.length c0_1) := (blk_cell BK118.out 1).trans rfl
                have p124 : 0 ≤ (x5_4 : Int) := of_decide_eq_true (by (with_reducible assumption))
                have q124 : x5_4 < (l0_1.length : Int) := of_decide_eq_true (by (with_reducible assumption))
                obtain ⟨ad124, A124_1, c124_1, A124_2, c124_2, e124, hx124_0, hx124_1, hx124_2, hl124_1, hi124_1, hl124_2, hi124_2⟩ := at_T86 HR0_1.out x5_4 p124 q124
                cases e124
                replace hx124_1 := (HB.out.cell (World.block_lt_of_cell? w _ hx124_1)).trans hx124_1
                replace hx124_2 := (HB.out.cell (World.block_lt_of_cell? w _ hx124_2)).trans hx124_2
                clear hi124_1 hl124_1
                clear hi124_2 hl124_2
                replace p124 := eq_true p124
                replace q124 := eq_true q124
                have p125 : 0 ≤ (x5_4 : Int) := of_decide_eq_true (by (with_reducible assumption))
                have q125 : x5_4 < (l0_1.length : Int) := of_decide_eq_true (by (with_reducible assumption))
                obtain ⟨ad125, A125_1, c125_1, A125_2, c125_2, e125, hx125_0, hx125_1, hx125_2, hl125_1, hi125_1, hl125_2, hi125_2⟩ := at_T86 HR0_1.out x5_4 p125 q125
                obtain rfl : ad124 = ad125 := (by injection e125)
                replace hx125_1 := (HB.out.cell (World.block_lt_of_cell? w _ hx125_1)).trans hx125_1
                replace hx125_2 := (HB.out.cell (World.block_lt_of_cell? w _ hx125_2)).trans hx125_2
                have HR125_1 := Aside0.mk hi125_1
                have HC125_1 := Aside0.mk hl125_1
                clear hi125_1 hl125_1
                have HR125_2 := Aside0.mk hi125_2
                have HC125_2 := Aside0.mk hl125_2
                clear hi125_2 hl125_2
                replace p125 := eq_true p125
                replace q125 := eq_true q125
                have ea_ := Option.some.inj (hx124_1.symm.trans hx125_1)
                injection ea_ with ea_ en_ ec_
                subst ea_
                subst ec_
                clear en_
                have ea_ := Option.some.inj (hx124_2.symm.trans hx125_2)
                injection ea_ with ea_ en_ ec_
                subst ea_
                subst ec_
                clear en_
                go_wp2
                go_ret
                exact ⟨by (rfl), HB.out⟩
               ·rw [if_neg c43] at H
                have c43b0 : decide (20 < (((rd_T86 l0_1 x5_4).f1).length : Int)) = false := decide_eq_false c43
                clear c43
                have H' := Aside0.mk H
                clear H
                have hcz45_1 : wr.cell? ⟨gb118, 1, none⟩ = some (.slice A0_1 l0_1.length c0_1) := (blk_cell BK118.out 1).trans rfl
                have p124 : 0 ≤ (x5_4 : Int) := of_decide_eq_true (by (with_reducible assumption))
                have q124 : x5_4 < (l0_1.length : Int) := of_decide_eq_true (by (with_reducible assumption))
                obtain ⟨ad124, A124_1, c124_1, A124_2, c124_2, e124, hx124_0, hx124_1, hx124_2, hl124_1, hi124_1, hl124_2, hi124_2⟩ := at_T86 HR0_1.out x5_4 p124 q124
                cases e124
                replace hx124_1 := (HB.out.cell (World.block_lt_of_cell? w _ hx124_1)).trans hx124_1
                replace hx124_2 := (HB.out.cell (World.block_lt_of_cell? w _ hx124_2)).trans hx124_2
                clear hi124_1 hl124_1
                clear hi124_2 hl124_2
                replace p124 := eq_true p124
                replace q124 := eq_true q124
                have p125 : 0 ≤ (x5_4 : Int) := of_decide_eq_true (by (with_reducible assumption))
                have q125 : x5_4 < (l0_1.length : Int) := of_decide_eq_true (by (with_reducible assumption))
                obtain ⟨ad125, A125_1, c125_1, A125_2, c125_2, e125, hx125_0, hx125_1, hx125_2, hl125_1, hi125_1, hl125_2, hi125_2⟩ := at_T86 HR0_1.out x5_4 p125 q125
                obtain rfl : ad124 = ad125 := (by injection e125)
                replace hx125_1 := (HB.out.cell (World.block_lt_of_cell? w _ hx125_1)).trans hx125_1
                replace hx125_2 := (HB.out.cell (World.block_lt_of_cell? w _ hx125_2)).trans hx125_2
                have HR125_1 := Aside0.mk hi125_1
                have HC125_1 := Aside0.mk hl125_1
                clear hi125_1 hl125_1
                have HR125_2 := Aside0.mk hi125_2
                have HC125_2 := Aside0.mk hl125_2
                clear hi125_2 hl125_2
                replace p125 := eq_true p125
                replace q125 := eq_true q125
                have ea_ := Option.some.inj (hx124_1.symm.trans hx125_1)
                injection ea_ with ea_ en_ ec_
                subst ea_
                subst ec_
                clear en_
                have ea_ := Option.some.inj (hx124_2.symm.trans hx125_2)
                injection ea_ with ea_ en_ ec_
                subst ea_
                subst ec_
                clear en_
                go_wp2
                go_roundg k4
                case measure => have := HJ1.out; have := HK2.out; have := HK3.out; have := HK4.out; omega
                case rel => exact ⟨(wrap64 (x5_4 + 1)), (by rfl), H', ⟨by have := HJ1.out; have := HK2.out; have := HK3.out; have := HK4.out; omega⟩, ⟨BK118.out⟩, ⟨HB.out⟩⟩
             ·rw [if_neg c40] at H
              exact absurd H (by simp)
            ·rw [if_neg c39] at H
             have c39b0 : decide (x5_4 < (l0_1.length : Int)) = false := decide_eq_false c39
             clear c39
             obtain rfl := Option.some.inj H
             have hcz46_1 : wr.cell? ⟨gb118, 1, none⟩ = some (.slice A0_1 l0_1.length c0_1) := (blk_cell BK118.out 1).trans rfl
             go_wp2
             go_ret
             exact ⟨by (rfl), HB.out⟩
end Go.Proofs.Ytcmaifjmnpfmbaa.R
