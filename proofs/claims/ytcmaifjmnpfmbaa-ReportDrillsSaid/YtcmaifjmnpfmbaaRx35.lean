-- Made by wip/tools/ext.py (this project's) over the kit's print, with external functions' contracts by hand. Not trusted: Lean checks it.
import Derived.Test.YtcmaifjmnpfmbaaRx0
import Derived.Test.YtcmaifjmnpfmbaaRx5
import Derived.Test.YtcmaifjmnpfmbaaRx6
import Derived.Test.YtcmaifjmnpfmbaaRx18
import Derived.Test.YtcmaifjmnpfmbaaRx20
import Derived.Test.YtcmaifjmnpfmbaaRx22
import Derived.Test.YtcmaifjmnpfmbaaRx24
import Derived.Test.YtcmaifjmnpfmbaaRx34
namespace Go.Proofs.Ytcmaifjmnpfmbaa.R
open Go.RowKit Go.Proofs.YtcmaifjmnpfmbaaW.PrintWords Go.Proofs.YtcmaifjmnpfmbaaW.PrintLast Go.Proofs.YtcmaifjmnpfmbaaW.PrintMore
attribute [local go_sem] max2_int min2_int max_two min_two max_three min_three max_four min_four   -- for this text's walks alone
set_option linter.unusedVariables false
set_option linter.unusedSimpArgs false
/-! ### corebanklaw49_ReportDrills: function 6 -/
mutual
def corebanklaw49_ReportDrills.j0 : Nat → List (S48) → Int → Bool → List (S97) → List (S86) → List (S62) → Int → Int → Int → Int → Int → Int → Int → Int → Int → Int → Int → Int → Int → Int → List (S79) → List (S90) → List (S84) → List (S119) → List (S180) → Option (Bool)
 | 0, _, _, _, _, _, _, _, _, _, _, _, _, _, _, _, _, _, _, _, _, _, _, _, _, _ => none
 | k + 1, x1, x2, x32, x384000, x384001, x384002, x384003, x384004, x384005, x384006, x384007, x384008, x384009, x384010, x384011, x384012, x384013, x384014, x384015, x384016, x384017, x384018, x384019, x384020, x384021 => if x32 = true then (some true) else ((report_Make.f k x384000 x384001 x384002 x384003 x384004 x384005 x384006 x384007 x384008 x384009 x384010 x384011 x384012 x384013 x384014 x384015 x384016 x384017 x384018 x384019 x384020 x384021 x1 x2).bind fun bt387 => (if bt387.2 = 0 then (if (bt387.1.length : Int) = (wrap64 ((x1.length : Int) * (x384000.length : Int))) then (corebanklaw49_ReportDrills.l0 k x1 x2 bt387.1 0 x384000 x384001 x384002 x384003 x384004 x384005 x384006 x384007 x384008 x384009 x384010 x384011 x384012 x384013 x384014 x384015 x384016 x384017 x384018 x384019 x384020 x384021) else (some false)) else (if (bt387.1.length : Int) = 0 then ((corebanklaw49_Live.f k).bind fun t391 => (some t391)) else (some false))))
def corebanklaw49_ReportDrills.l0 : Nat → List (S48) → Int → List (S58) → Int → List (S97) → List (S86) → List (S62) → Int → Int → Int → Int → Int → Int → Int → Int → Int → Int → Int → Int → Int → Int → List (S79) → List (S90) → List (S84) → List (S119) → List (S180) → Option (Bool)
 | 0, _, _, _, _, _, _, _, _, _, _, _, _, _, _, _, _, _, _, _, _, _, _, _, _, _, _ => none
 | k + 1, x1, x2, x7, x9, x384000, x384001, x384002, x384003, x384004, x384005, x384006, x384007, x384008, x384009, x384010, x384011, x384012, x384013, x384014, x384015, x384016, x384017, x384018, x384019, x384020, x384021 => if x9 < (x7.length : Int) then (if (x384000.length : Int) = 0 then (none) else (if 0 ≤ (wrap64 (Int.tdiv x9 (x384000.length : Int))) then (if (wrap64 (Int.tdiv x9 (x384000.length : Int))) < (x1.length : Int) then (if 0 ≤ x9 then ((report_Drill.f k x384000 x384001 x384002 x384003 x384004 x384005 x384006 x384007 x384008 x384009 x384010 x384011 x384012 x384013 x384014 x384015 x384016 x384017 x384018 x384019 x384020 x384021 ((rd_T48 x1 (wrap64 (Int.tdiv x9 (x384000.length : Int)))).f0) ((rd_T48 x1 (wrap64 (Int.tdiv x9 (x384000.length : Int)))).f1) ((rd_T48 x1 (wrap64 (Int.tdiv x9 (x384000.length : Int)))).f2) ((rd_T58 x7 x9).f1) x2).bind fun bt396 => (if bt396.2 = 0 then (corebanklaw49_ReportDrills.j2 k x1 x2 x7 x9 bt396.1 (((rd_T58 x7 x9).f0).toList != ((rd_T48 x1 (wrap64 (Int.tdiv x9 (x384000.length : Int)))).f0).toList) x384000 x384001 x384002 x384003 x384004 x384005 x384006 x384007 x384008 x384009 x384010 x384011 x384012 x384013 x384014 x384015 x384016 x384017 x384018 x384019 x384020 x384021 ((rd_T48 x1 (wrap64 (Int.tdiv x9 (x384000.length : Int)))).f0) ((rd_T48 x1 (wrap64 (Int.tdiv x9 (x384000.length : Int)))).f1) ((rd_T48 x1 (wrap64 (Int.tdiv x9 (x384000.length : Int)))).f2)) else (corebanklaw49_ReportDrills.j2 k x1 x2 x7 x9 bt396.1 true x384000 x384001 x384002 x384003 x384004 x384005 x384006 x384007 x384008 x384009 x384010 x384011 x384012 x384013 x384014 x384015 x384016 x384017 x384018 x384019 x384020 x384021 ((rd_T48 x1 (wrap64 (Int.tdiv x9 (x384000.length : Int)))).f0) ((rd_T48 x1 (wrap64 (Int.tdiv x9 (x384000.length : Int)))).f1) ((rd_T48 x1 (wrap64 (Int.tdiv x9 (x384000.length : Int)))).f2)))) else (none)) else (none)) else (none))) else ((corebanklaw49_Live.f k).bind fun t392 => (some t392))
def corebanklaw49_ReportDrills.j2 : Nat → List (S48) → Int → List (S58) → Int → List Int → Bool → List (S97) → List (S86) → List (S62) → Int → Int → Int → Int → Int → Int → Int → Int → Int → Int → Int → Int → Int → Int → List (S79) → List (S90) → List (S84) → List (S119) → List (S180) → ByteArray → Int → List Int → Option (Bool)
 | 0, _, _, _, _, _, _, _, _, _, _, _, _, _, _, _, _, _, _, _, _, _, _, _, _, _, _, _, _, _, _, _ => none
 | k + 1, x1, x2, x7, x9, x11, x94, x384000, x384001, x384002, x384003, x384004, x384005, x384006, x384007, x384008, x384009, x384010, x384011, x384012, x384013, x384014, x384015, x384016, x384017, x384018, x384019, x384020, x384021, x395000, x395001, x395002 => if x94 = true then (some false) else (corebanklaw49_ReportDrills.l1 k x1 x2 x7 x9 x11 0 0 x384000 x384001 x384002 x384003 x384004 x384005 x384006 x384007 x384008 x384009 x384010 x384011 x384012 x384013 x384014 x384015 x384016 x384017 x384018 x384019 x384020 x384021 x395000 x395001 x395002)
def corebanklaw49_ReportDrills.l1 : Nat → List (S48) → Int → List (S58) → Int → List Int → Int → Int → List (S97) → List (S86) → List (S62) → Int → Int → Int → Int → Int → Int → Int → Int → Int → Int → Int → Int → Int → Int → List (S79) → List (S90) → List (S84) → List (S119) → List (S180) → ByteArray → Int → List Int → Option (Bool)
 | 0, _, _, _, _, _, _, _, _, _, _, _, _, _, _, _, _, _, _, _, _, _, _, _, _, _, _, _, _, _, _, _, _ => none
 | k + 1, x1, x2, x7, x9, x11, x13, x14, x384000, x384001, x384002, x384003, x384004, x384005, x384006, x384007, x384008, x384009, x384010, x384011, x384012, x384013, x384014, x384015, x384016, x384017, x384018, x384019, x384020, x384021, x395000, x395001, x395002 => if x14 < (x11.length : Int) then (if 0 ≤ x9 then (if x9 < (x7.length : Int) then (if 0 ≤ x14 then ((report_Amount.f k x384000 x384001 x384002 x384003 x384004 x384005 x384006 x384007 x384008 x384009 x384010 x384011 x384012 x384013 x384014 x384015 x384016 x384017 x384018 x384019 x384020 x384021 x395000 x395001 x395002 ((rd_T58 x7 x9).f1) (rd x11 x14)).bind fun t403 => (if t403 = 0 then (some false) else (corebanklaw49_ReportDrills.l1 k x1 x2 x7 x9 x11 (wrap64 (x13 + t403)) (wrap64 (x14 + 1)) x384000 x384001 x384002 x384003 x384004 x384005 x384006 x384007 x384008 x384009 x384010 x384011 x384012 x384013 x384014 x384015 x384016 x384017 x384018 x384019 x384020 x384021 x395000 x395001 x395002))) else (none)) else (none)) else (none)) else (if 0 ≤ x9 then (if x9 < (x7.length : Int) then (if x13 = ((rd_T58 x7 x9).f2) then (corebanklaw49_ReportDrills.l0 k x1 x2 x7 (wrap64 (x9 + 1)) x384000 x384001 x384002 x384003 x384004 x384005 x384006 x384007 x384008 x384009 x384010 x384011 x384012 x384013 x384014 x384015 x384016 x384017 x384018 x384019 x384020 x384021) else (some false)) else (none)) else (none))
end
def corebanklaw49_ReportDrills.f (k : Nat) (l0_0 : List (S97)) (l0_1 : List (S86)) (l0_2 : List (S62)) (a0_3 : Int) (a0_4 : Int) (a0_5 : Int) (a0_6 : Int) (a0_7 : Int) (a0_8 : Int) (a0_9 : Int) (a0_10 : Int) (a0_11 : Int) (a0_12 : Int) (a0_13 : Int) (a0_14 : Int) (a0_15 : Int) (a0_16 : Int) (l0_17 : List (S79)) (l0_18 : List (S90)) (l0_19 : List (S84)) (l0_20 : List (S119)) (l0_21 : List (S180)) (l1 : List (S48)) (a2 : Int) : Option (Bool) := (corebankref25_Great.f k l0_0 l0_1 l0_2 a0_3 a0_4 a0_5 a0_6 a0_7 a0_8 a0_9 a0_10 a0_11 a0_12 a0_13 a0_14 a0_15 a0_16 l0_17 l0_18 l0_19 l0_20 l0_21).bind fun t384 => (if t384 = true then (corebanklaw49_ReportDrills.j0 k l1 a2 true l0_0 l0_1 l0_2 a0_3 a0_4 a0_5 a0_6 a0_7 a0_8 a0_9 a0_10 a0_11 a0_12 a0_13 a0_14 a0_15 a0_16 l0_17 l0_18 l0_19 l0_20 l0_21) else ((corebankref49_Great.f k l1).bind fun t385 => (if t385 = true then (corebanklaw49_ReportDrills.j0 k l1 a2 true l0_0 l0_1 l0_2 a0_3 a0_4 a0_5 a0_6 a0_7 a0_8 a0_9 a0_10 a0_11 a0_12 a0_13 a0_14 a0_15 a0_16 l0_17 l0_18 l0_19 l0_20 l0_21) else (if (l1.length : Int) > 10 then (corebanklaw49_ReportDrills.j0 k l1 a2 true l0_0 l0_1 l0_2 a0_3 a0_4 a0_5 a0_6 a0_7 a0_8 a0_9 a0_10 a0_11 a0_12 a0_13 a0_14 a0_15 a0_16 l0_17 l0_18 l0_19 l0_20 l0_21) else ((corebanklaw49_different.f k l0_19).bind fun t386 => (corebanklaw49_ReportDrills.j0 k l1 a2 (!t386) l0_0 l0_1 l0_2 a0_3 a0_4 a0_5 a0_6 a0_7 a0_8 a0_9 a0_10 a0_11 a0_12 a0_13 a0_14 a0_15 a0_16 l0_17 l0_18 l0_19 l0_20 l0_21))))))
def corebanklaw49_ReportDrills.T12 : Bool × List (List Nat × List Nat) := (true, [([], []), ([], []), ([], []), ([], []), ([2, 3], [2, 3]), ([4], [4]), ([5], [5]), ([], []), ([0, 1, 6, 7], [0, 1, 6, 7]), ([8], [8]), ([9], [9]), ([9], [9]), ([10, 8, 0, 1, 2, 3, 4, 5, 6, 7, 8, 9, 10], [10]), ([11, 12, 0, 1, 2, 3, 4, 5, 6, 7, 8, 9, 10, 11, 12], [11])])
def corebanklaw49_ReportDrills.B12 : List Nat := [0, 0, 0, 0, 12, 28, 60, 0, 255, 511, 1023, 1023, 2047, 8191]
theorem corebanklaw49_ReportDrills.tab12 : rtab .any (opsOf Try.f6 12) = corebanklaw49_ReportDrills.T12 := by kernel_rfl
theorem corebanklaw49_ReportDrills.bits12 : waitsOk corebanklaw49_ReportDrills.T12.2 corebanklaw49_ReportDrills.B12 = true := by kernel_rfl
def corebanklaw49_ReportDrills.T13 : Bool × List (List Nat × List Nat) := (true, [([], []), ([0], [0]), ([1], [1]), ([2], [2]), ([2], [2]), ([3, 4, 2], [2, 3, 4]), ([5, 2], [2, 5]), ([6, 2], [2, 6]), ([2], [2]), ([8, 2], [2, 8]), ([7, 9, 2], [2, 7, 9]), ([2, 10], [2, 10])])
def corebanklaw49_ReportDrills.B13 : List Nat := [0, 1, 3, 7, 7, 31, 63, 127, 7, 263, 1023, 2047]
theorem corebanklaw49_ReportDrills.tab13 : rtab .any (opsOf Try.f6 13) = corebanklaw49_ReportDrills.T13 := by kernel_rfl
theorem corebanklaw49_ReportDrills.bits13 : waitsOk corebanklaw49_ReportDrills.T13.2 corebanklaw49_ReportDrills.B13 = true := by kernel_rfl
def corebanklaw49_ReportDrills.T19 : Bool × List (List Nat × List Nat) := (true, [([], []), ([], []), ([], []), ([], []), ([2, 3], [2, 3]), ([4], [4]), ([5], [5]), ([], []), ([], []), ([7, 8], [7, 8]), ([9], [9]), ([0, 1, 6, 10], [0, 1, 6, 10]), ([11, 11, 0, 1, 2, 3, 4, 5, 6, 7, 8, 9, 10, 11], [11])])
def corebanklaw49_ReportDrills.B19 : List Nat := [0, 0, 0, 0, 12, 28, 60, 0, 0, 384, 896, 2047, 4095]
theorem corebanklaw49_ReportDrills.tab19 : rtab .any (opsOf Try.f6 19) = corebanklaw49_ReportDrills.T19 := by kernel_rfl
theorem corebanklaw49_ReportDrills.bits19 : waitsOk corebanklaw49_ReportDrills.T19.2 corebanklaw49_ReportDrills.B19 = true := by kernel_rfl
set_option maxHeartbeats 8000000 in
set_option maxRecDepth 100000 in
theorem corebanklaw49_ReportDrills.calls (k : Nat) (A0_0 : Option Addr) (c0_0 : Nat) (l0_0 : List (S97)) (A0_1 : Option Addr) (c0_1 : Nat) (l0_1 : List (S86)) (A0_2 : Option Addr) (c0_2 : Nat) (l0_2 : List (S62)) (a0_3 : Int) (a0_4 : Int) (a0_5 : Int) (a0_6 : Int) (a0_7 : Int) (a0_8 : Int) (a0_9 : Int) (a0_10 : Int) (a0_11 : Int) (a0_12 : Int) (a0_13 : Int) (a0_14 : Int) (a0_15 : Int) (a0_16 : Int) (A0_17 : Option Addr) (c0_17 : Nat) (l0_17 : List (S79)) (A0_18 : Option Addr) (c0_18 : Nat) (l0_18 : List (S90)) (A0_19 : Option Addr) (c0_19 : Nat) (l0_19 : List (S84)) (A0_20 : Option Addr) (c0_20 : Nat) (l0_20 : List (S119)) (A0_21 : Option Addr) (c0_21 : Nat) (l0_21 : List (S180)) (A1 : Option Addr) (c1 : Nat) (l1 : List (S48)) (a2 : Int) (r : Bool) (w : World) (hr0_0 : Kd.C k97 w A0_0 l0_0.length l0_0) (hc0_0 : l0_0.length ≤ c0_0) (hr0_1 : Kd.C k86 w A0_1 l0_1.length l0_1) (hc0_1 : l0_1.length ≤ c0_1) (hr0_2 : Kd.C k62 w A0_2 l0_2.length l0_2) (hc0_2 : l0_2.length ≤ c0_2) (hr0_17 : Kd.C k79 w A0_17 l0_17.length l0_17) (hc0_17 : l0_17.length ≤ c0_17) (hr0_18 : Kd.C k90 w A0_18 l0_18.length l0_18) (hc0_18 : l0_18.length ≤ c0_18) (hr0_19 : Kd.C k84 w A0_19 l0_19.length l0_19) (hc0_19 : l0_19.length ≤ c0_19) (hr0_20 : Kd.C k119 w A0_20 l0_20.length l0_20) (hc0_20 : l0_20.length ≤ c0_20) (hr0_21 : Kd.C k180 w A0_21 l0_21.length l0_21) (hc0_21 : l0_21.length ≤ c0_21) (hr1 : Kd.C k48 w A1 l1.length l1) (hc1 : l1.length ≤ c1) (h : corebanklaw49_ReportDrills.f k l0_0 l0_1 l0_2 a0_3 a0_4 a0_5 a0_6 a0_7 a0_8 a0_9 a0_10 a0_11 a0_12 a0_13 a0_14 a0_15 a0_16 l0_17 l0_18 l0_19 l0_20 l0_21 l1 a2 = some r) :
  Calls Try.prog 6 #[.agg #[.slice A0_0 l0_0.length c0_0, .slice A0_1 l0_1.length c0_1, .slice A0_2 l0_2.length c0_2, .int .i64 a0_3, .int .i64 a0_4, .int .i64 a0_5, .int .i64 a0_6, .int .i64 a0_7, .int .i64 a0_8, .int .i64 a0_9, .int .i64 a0_10, .int .i64 a0_11, .int .i64 a0_12, .int .i64 a0_13, .int .i64 a0_14, .int .i64 a0_15, .int .i64 a0_16, .slice A0_17 l0_17.length c0_17, .slice A0_18 l0_18.length c0_18, .slice A0_19 l0_19.length c0_19, .slice A0_20 l0_20.length c0_20, .slice A0_21 l0_21.length c0_21], .slice A1 l1.length c1, .int .i64 a2] w fun e w' => e = .returned (.bool r) ∧ Below w.heap.size w w' := by
 have HR0_0 := Aside0.mk hr0_0
 have HC0_0 := Aside0.mk hc0_0
 clear hr0_0 hc0_0
 have HR0_1 := Aside0.mk hr0_1
 have HC0_1 := Aside0.mk hc0_1
 clear hr0_1 hc0_1
 have HR0_2 := Aside0.mk hr0_2
 have HC0_2 := Aside0.mk hc0_2
 clear hr0_2 hc0_2
 have HR0_17 := Aside0.mk hr0_17
 have HC0_17 := Aside0.mk hc0_17
 clear hr0_17 hc0_17
 have HR0_18 := Aside0.mk hr0_18
 have HC0_18 := Aside0.mk hc0_18
 clear hr0_18 hc0_18
 have HR0_19 := Aside0.mk hr0_19
 have HC0_19 := Aside0.mk hc0_19
 clear hr0_19 hc0_19
 have HR0_20 := Aside0.mk hr0_20
 have HC0_20 := Aside0.mk hc0_20
 clear hr0_20 hc0_20
 have HR0_21 := Aside0.mk hr0_21
 have HC0_21 := Aside0.mk hc0_21
 clear hr0_21 hc0_21
 have HR1 := Aside0.mk hr1
 have HC1 := Aside0.mk hc1
 clear hr1 hc1
 have HB := Aside0.mk (Below.refl w.heap.size w)
 have H : ((corebankref25_Great.f k l0_0 l0_1 l0_2 a0_3 a0_4 a0_5 a0_6 a0_7 a0_8 a0_9 a0_10 a0_11 a0_12 a0_13 a0_14 a0_15 a0_16 l0_17 l0_18 l0_19 l0_20 l0_21).bind fun t384 => (if t384 = true then (corebanklaw49_ReportDrills.j0 k l1 a2 true l0_0 l0_1 l0_2 a0_3 a0_4 a0_5 a0_6 a0_7 a0_8 a0_9 a0_10 a0_11 a0_12 a0_13 a0_14 a0_15 a0_16 l0_17 l0_18 l0_19 l0_20 l0_21) else ((corebankref49_Great.f k l1).bind fun t385 => (if t385 = true then (corebanklaw49_ReportDrills.j0 k l1 a2 true l0_0 l0_1 l0_2 a0_3 a0_4 a0_5 a0_6 a0_7 a0_8 a0_9 a0_10 a0_11 a0_12 a0_13 a0_14 a0_15 a0_16 l0_17 l0_18 l0_19 l0_20 l0_21) else (if (l1.length : Int) > 10 then (corebanklaw49_ReportDrills.j0 k l1 a2 true l0_0 l0_1 l0_2 a0_3 a0_4 a0_5 a0_6 a0_7 a0_8 a0_9 a0_10 a0_11 a0_12 a0_13 a0_14 a0_15 a0_16 l0_17 l0_18 l0_19 l0_20 l0_21) else ((corebanklaw49_different.f k l0_19).bind fun t386 => (corebanklaw49_ReportDrills.j0 k l1 a2 (!t386) l0_0 l0_1 l0_2 a0_3 a0_4 a0_5 a0_6 a0_7 a0_8 a0_9 a0_10 a0_11 a0_12 a0_13 a0_14 a0_15 a0_16 l0_17 l0_18 l0_19 l0_20 l0_21))))))) = some r := h
 clear h
 have HC4 := Aside0.mk H
 clear H
 go_enter Try.func6, Try.ntmps6
 go_upto_region 1 with (((with_reducible refine gate_dst (N := 3) rfl ?_); (try (refine gate_guard (by rfl) ?_; dsimp only)); refine box_event ?hg (N := 3) ?hd (cs := #[.slice A0_0 l0_0.length c0_0, .slice A0_1 l0_1.length c0_1, .slice A0_2 l0_2.length c0_2, .int .i64 a0_3, .int .i64 a0_4, .int .i64 a0_5, .int .i64 a0_6, .int .i64 a0_7, .int .i64 a0_8, .int .i64 a0_9, .int .i64 a0_10, .int .i64 a0_11, .int .i64 a0_12, .int .i64 a0_13, .int .i64 a0_14, .int .i64 a0_15, .int .i64 a0_16, .slice A0_17 l0_17.length c0_17, .slice A0_18 l0_18.length c0_18, .slice A0_19 l0_19.length c0_19, .slice A0_20 l0_20.length c0_20, .slice A0_21 l0_21.length c0_21]) (t := 33) ?hr ?_; (case hd => rfl); (case hg => rfl); (case hr => (go_simp; done)); intro gb383 hg w5 hbox hb; have n0_ := Aside0.mk (below_step HB.out hb); have n1_ := Aside0.mk (hbox); have n2_ := Aside0.mk ((by rw [hg]; exact (below_size HB.out) : w.heap.size ≤ gb383)); have n3_ := n2_; clear HB; have HB := n0_; have BK383 := n1_; clear n0_ n1_ n2_ n3_; clear hb hbox hg))
 go_cut [32] (fun v32 wc => ∃ (kq : Nat) (x32_3 : Bool), v32 = .bool x32_3 ∧ Aside0 (corebanklaw49_ReportDrills.j0 kq l1 a2 x32_3 l0_0 l0_1 l0_2 a0_3 a0_4 a0_5 a0_6 a0_7 a0_8 a0_9 a0_10 a0_11 a0_12 a0_13 a0_14 a0_15 a0_16 l0_17 l0_18 l0_19 l0_20 l0_21 = some r) ∧ Aside0 (kq ≤ k) ∧ Aside0 (wc.heap[gb383]? = some (.cells #[(.slice A0_0 l0_0.length c0_0), (.slice A0_1 l0_1.length c0_1), (.slice A0_2 l0_2.length c0_2), .int .i64 a0_3, .int .i64 a0_4, .int .i64 a0_5, .int .i64 a0_6, .int .i64 a0_7, .int .i64 a0_8, .int .i64 a0_9, .int .i64 a0_10, .int .i64 a0_11, .int .i64 a0_12, .int .i64 a0_13, .int .i64 a0_14, .int .i64 a0_15, .int .i64 a0_16, (.slice A0_17 l0_17.length c0_17), (.slice A0_18 l0_18.length c0_18), (.slice A0_19 l0_19.length c0_19), (.slice A0_20 l0_20.length c0_20), (.slice A0_21 l0_21.length c0_21)] 33 (0, 0))) ∧ Aside0 (Below w.heap.size w wc))
 case first =>
  have H := HC4.out
  clear HC4
  replace H := Option.bind_eq_some_iff.mp H
  obtain ⟨t384, A60, H⟩ := H
  replace H : (if t384 = true then (corebanklaw49_ReportDrills.j0 k l1 a2 true l0_0 l0_1 l0_2 a0_3 a0_4 a0_5 a0_6 a0_7 a0_8 a0_9 a0_10 a0_11 a0_12 a0_13 a0_14 a0_15 a0_16 l0_17 l0_18 l0_19 l0_20 l0_21) else ((corebankref49_Great.f k l1).bind fun t385 => (if t385 = true then (corebanklaw49_ReportDrills.j0 k l1 a2 true l0_0 l0_1 l0_2 a0_3 a0_4 a0_5 a0_6 a0_7 a0_8 a0_9 a0_10 a0_11 a0_12 a0_13 a0_14 a0_15 a0_16 l0_17 l0_18 l0_19 l0_20 l0_21) else (if (l1.length : Int) > 10 then (corebanklaw49_ReportDrills.j0 k l1 a2 true l0_0 l0_1 l0_2 a0_3 a0_4 a0_5 a0_6 a0_7 a0_8 a0_9 a0_10 a0_11 a0_12 a0_13 a0_14 a0_15 a0_16 l0_17 l0_18 l0_19 l0_20 l0_21) else ((corebanklaw49_different.f k l0_19).bind fun t386 => (corebanklaw49_ReportDrills.j0 k l1 a2 (!t386) l0_0 l0_1 l0_2 a0_3 a0_4 a0_5 a0_6 a0_7 a0_8 a0_9 a0_10 a0_11 a0_12 a0_13 a0_14 a0_15 a0_16 l0_17 l0_18 l0_19 l0_20 l0_21)))))) = some r := H
  have A6 := Aside0.mk A60
  clear A60
  by_cases c7 : t384 = true
  ·subst c7
   have H1 : (corebanklaw49_ReportDrills.j0 k l1 a2 true l0_0 l0_1 l0_2 a0_3 a0_4 a0_5 a0_6 a0_7 a0_8 a0_9 a0_10 a0_11 a0_12 a0_13 a0_14 a0_15 a0_16 l0_17 l0_18 l0_19 l0_20 l0_21) = some r := by rw [if_pos rfl] at H; exact H
   clear H
   have H := H1
   clear H1
   have H' := Aside0.mk H
   clear H
   go_wp2_with (first | ((with_reducible refine gate_dst (N := 16) rfl ?_); refine wpList_load_row rfl 33 (.tmp 3) rfl gb383 rfl 33 _ (0, 0) _ BK383.out Try.underlying33 rfl (by kernel_rfl) ?_) | ((with_reducible refine gate_callee (f := 13) rfl ?_); refine goesL_ (some 17) rfl rfl Try.func13 (by kernel_rfl) rfl #[.agg #[.slice A0_0 l0_0.length c0_0, .slice A0_1 l0_1.length c0_1, .slice A0_2 l0_2.length c0_2, .int .i64 a0_3, .int .i64 a0_4, .int .i64 a0_5, .int .i64 a0_6, .int .i64 a0_7, .int .i64 a0_8, .int .i64 a0_9, .int .i64 a0_10, .int .i64 a0_11, .int .i64 a0_12, .int .i64 a0_13, .int .i64 a0_14, .int .i64 a0_15, .int .i64 a0_16, .slice A0_17 l0_17.length c0_17, .slice A0_18 l0_18.length c0_18, .slice A0_19 l0_19.length c0_19, .slice A0_20 l0_20.length c0_20, .slice A0_21 l0_21.length c0_21]] rfl (by (try simp only [List.map_toArray, List.map_cons, List.map_nil]); (rfl)) ?_; (with_reducible refine (corebankref25_Great.calls k _ _ l0_0 _ _ l0_1 _ _ l0_2 a0_3 a0_4 a0_5 a0_6 a0_7 a0_8 a0_9 a0_10 a0_11 a0_12 a0_13 a0_14 a0_15 a0_16 _ _ l0_17 _ _ l0_18 _ _ l0_19 _ _ l0_20 _ _ l0_21 true _ ?side1 ?side2 ?side3 ?side4 ?side5 ?side6 ?side7 ?side8 ?side9 ?side10 ?side11 ?side12 ?side13 ?side14 ?side15 ?side16 A6.out).mono ?_); (case side1 => exact (Kd.C_below HR0_0.out HB.out)); (case side2 => exact HC0_0.out); (case side3 => exact (Kd.C_below HR0_1.out HB.out)); (case side4 => exact HC0_1.out); (case side5 => exact (Kd.C_below HR0_2.out HB.out)); (case side6 => exact HC0_2.out); (case side7 => exact (Kd.C_below HR0_17.out HB.out)); (case side8 => exact HC0_17.out); (case side9 => exact (Kd.C_below HR0_18.out HB.out)); (case side10 => exact HC0_18.out); (case side11 => exact (Kd.C_below HR0_19.out HB.out)); (case side12 => exact HC0_19.out); (case side13 => exact (Kd.C_below HR0_20.out HB.out)); (case side14 => exact HC0_20.out); (case side15 => exact (Kd.C_below HR0_21.out HB.out)); (case side16 => exact HC0_21.out); rintro e w9 ⟨rfl, hb⟩; refine ⟨_, rfl, ?_⟩; have n0_ := Aside0.mk (blk_below BK383.out hb); have n1_ := Aside0.mk (below_step HB.out hb); clear BK383; clear HB; have BK383 := n0_; have HB := n1_; clear n0_ n1_; (try clear hb)))
   go_meet
   case rel => exact ⟨_, (true), (by rfl), H', ⟨by (omega)⟩, ⟨BK383.out⟩, ⟨HB.out⟩⟩
  ·replace c7 := Bool.eq_false_iff.mpr c7
   subst c7
   have H1 : ((corebankref49_Great.f k l1).bind fun t385 => (if t385 = true then (corebanklaw49_ReportDrills.j0 k l1 a2 true l0_0 l0_1 l0_2 a0_3 a0_4 a0_5 a0_6 a0_7 a0_8 a0_9 a0_10 a0_11 a0_12 a0_13 a0_14 a0_15 a0_16 l0_17 l0_18 l0_19 l0_20 l0_21) else (if (l1.length : Int) > 10 then (corebanklaw49_ReportDrills.j0 k l1 a2 true l0_0 l0_1 l0_2 a0_3 a0_4 a0_5 a0_6 a0_7 a0_8 a0_9 a0_10 a0_11 a0_12 a0_13 a0_14 a0_15 a0_16 l0_17 l0_18 l0_19 l0_20 l0_21) else ((corebanklaw49_different.f k l0_19).bind fun t386 => (corebanklaw49_ReportDrills.j0 k l1 a2 (!t386) l0_0 l0_1 l0_2 a0_3 a0_4 a0_5 a0_6 a0_7 a0_8 a0_9 a0_10 a0_11 a0_12 a0_13 a0_14 a0_15 a0_16 l0_17 l0_18 l0_19 l0_20 l0_21))))) = some r := by rw [if_neg (show ¬ (false = true) by decide)] at H; exact H
   clear H
   have H := H1
   clear H1
   replace H := Option.bind_eq_some_iff.mp H
   obtain ⟨t385, A100, H⟩ := H
   replace H : (if t385 = true then (corebanklaw49_ReportDrills.j0 k l1 a2 true l0_0 l0_1 l0_2 a0_3 a0_4 a0_5 a0_6 a0_7 a0_8 a0_9 a0_10 a0_11 a0_12 a0_13 a0_14 a0_15 a0_16 l0_17 l0_18 l0_19 l0_20 l0_21) else (if (l1.length : Int) > 10 then (corebanklaw49_ReportDrills.j0 k l1 a2 true l0_0 l0_1 l0_2 a0_3 a0_4 a0_5 a0_6 a0_7 a0_8 a0_9 a0_10 a0_11 a0_12 a0_13 a0_14 a0_15 a0_16 l0_17 l0_18 l0_19 l0_20 l0_21) else ((corebanklaw49_different.f k l0_19).bind fun t386 => (corebanklaw49_ReportDrills.j0 k l1 a2 (!t386) l0_0 l0_1 l0_2 a0_3 a0_4 a0_5 a0_6 a0_7 a0_8 a0_9 a0_10 a0_11 a0_12 a0_13 a0_14 a0_15 a0_16 l0_17 l0_18 l0_19 l0_20 l0_21)))) = some r := H
   have A10 := Aside0.mk A100
   clear A100
   by_cases c11 : t385 = true
   ·subst c11
    have H1 : (corebanklaw49_ReportDrills.j0 k l1 a2 true l0_0 l0_1 l0_2 a0_3 a0_4 a0_5 a0_6 a0_7 a0_8 a0_9 a0_10 a0_11 a0_12 a0_13 a0_14 a0_15 a0_16 l0_17 l0_18 l0_19 l0_20 l0_21) = some r := by rw [if_pos rfl] at H; exact H
    clear H
    have H := H1
    clear H1
    have H' := Aside0.mk H
    clear H
    go_wp2_with (first | ((with_reducible refine gate_dst (N := 16) rfl ?_); refine wpList_load_row rfl 33 (.tmp 3) rfl gb383 rfl 33 _ (0, 0) _ BK383.out Try.underlying33 rfl (by kernel_rfl) ?_) | ((with_reducible refine gate_callee (f := 13) rfl ?_); refine goesL_ (some 17) rfl rfl Try.func13 (by kernel_rfl) rfl #[.agg #[.slice A0_0 l0_0.length c0_0, .slice A0_1 l0_1.length c0_1, .slice A0_2 l0_2.length c0_2, .int .i64 a0_3, .int .i64 a0_4, .int .i64 a0_5, .int .i64 a0_6, .int .i64 a0_7, .int .i64 a0_8, .int .i64 a0_9, .int .i64 a0_10, .int .i64 a0_11, .int .i64 a0_12, .int .i64 a0_13, .int .i64 a0_14, .int .i64 a0_15, .int .i64 a0_16, .slice A0_17 l0_17.length c0_17, .slice A0_18 l0_18.length c0_18, .slice A0_19 l0_19.length c0_19, .slice A0_20 l0_20.length c0_20, .slice A0_21 l0_21.length c0_21]] rfl (by (try simp only [List.map_toArray, List.map_cons, List.map_nil]); (rfl)) ?_; (with_reducible refine (corebankref25_Great.calls k _ _ l0_0 _ _ l0_1 _ _ l0_2 a0_3 a0_4 a0_5 a0_6 a0_7 a0_8 a0_9 a0_10 a0_11 a0_12 a0_13 a0_14 a0_15 a0_16 _ _ l0_17 _ _ l0_18 _ _ l0_19 _ _ l0_20 _ _ l0_21 false _ ?side1 ?side2 ?side3 ?side4 ?side5 ?side6 ?side7 ?side8 ?side9 ?side10 ?side11 ?side12 ?side13 ?side14 ?side15 ?side16 A6.out).mono ?_); (case side1 => exact (Kd.C_below HR0_0.out HB.out)); (case side2 => exact HC0_0.out); (case side3 => exact (Kd.C_below HR0_1.out HB.out)); (case side4 => exact HC0_1.out); (case side5 => exact (Kd.C_below HR0_2.out HB.out)); (case side6 => exact HC0_2.out); (case side7 => exact (Kd.C_below HR0_17.out HB.out)); (case side8 => exact HC0_17.out); (case side9 => exact (Kd.C_below HR0_18.out HB.out)); (case side10 => exact HC0_18.out); (case side11 => exact (Kd.C_below HR0_19.out HB.out)); (case side12 => exact HC0_19.out); (case side13 => exact (Kd.C_below HR0_20.out HB.out)); (case side14 => exact HC0_20.out); (case side15 => exact (Kd.C_below HR0_21.out HB.out)); (case side16 => exact HC0_21.out); rintro e w13 ⟨rfl, hb⟩; refine ⟨_, rfl, ?_⟩; have n0_ := Aside0.mk (blk_below BK383.out hb); have n1_ := Aside0.mk (below_step HB.out hb); clear BK383; clear HB; have BK383 := n0_; have HB := n1_; clear n0_ n1_; (try clear hb)) | (go_at_call 14; (with_reducible refine (corebankref49_Great.calls k _ _ l1 true _ ?side1 ?side2 A10.out).mono ?_); (case side1 => exact (Kd.C_below HR1.out HB.out)); (case side2 => exact HC1.out); rintro e w' ⟨rfl, ⟨nd, rfl⟩⟩))
    go_meet
    case rel => exact ⟨_, (true), (by rfl), H', ⟨by (omega)⟩, ⟨by (with_reducible repeat (refine blk_drewN ?_ _)); exact BK383.out⟩, ⟨by repeat ((with_reducible first | exact HB.out | apply pw_below_drewN))⟩⟩
   ·replace c11 := Bool.eq_false_iff.mpr c11
    subst c11
    have H1 : (if (l1.length : Int) > 10 then (corebanklaw49_ReportDrills.j0 k l1 a2 true l0_0 l0_1 l0_2 a0_3 a0_4 a0_5 a0_6 a0_7 a0_8 a0_9 a0_10 a0_11 a0_12 a0_13 a0_14 a0_15 a0_16 l0_17 l0_18 l0_19 l0_20 l0_21) else ((corebanklaw49_different.f k l0_19).bind fun t386 => (corebanklaw49_ReportDrills.j0 k l1 a2 (!t386) l0_0 l0_1 l0_2 a0_3 a0_4 a0_5 a0_6 a0_7 a0_8 a0_9 a0_10 a0_11 a0_12 a0_13 a0_14 a0_15 a0_16 l0_17 l0_18 l0_19 l0_20 l0_21))) = some r := by rw [if_neg (show ¬ (false = true) by decide)] at H; exact H
    clear H
    have H := H1
    clear H1
    by_cases c14 : (l1.length : Int) > 10
    ·rw [if_pos c14] at H
     have c14b0 : decide (10 < (l1.length : Int)) = true := decide_eq_true c14
     clear c14
     have H' := Aside0.mk H
     clear H
     go_wp2_with (first | ((with_reducible refine gate_dst (N := 16) rfl ?_); refine wpList_load_row rfl 33 (.tmp 3) rfl gb383 rfl 33 _ (0, 0) _ BK383.out Try.underlying33 rfl (by kernel_rfl) ?_) | ((with_reducible refine gate_callee (f := 13) rfl ?_); refine goesL_ (some 17) rfl rfl Try.func13 (by kernel_rfl) rfl #[.agg #[.slice A0_0 l0_0.length c0_0, .slice A0_1 l0_1.length c0_1, .slice A0_2 l0_2.length c0_2, .int .i64 a0_3, .int .i64 a0_4, .int .i64 a0_5, .int .i64 a0_6, .int .i64 a0_7, .int .i64 a0_8, .int .i64 a0_9, .int .i64 a0_10, .int .i64 a0_11, .int .i64 a0_12, .int .i64 a0_13, .int .i64 a0_14, .int .i64 a0_15, .int .i64 a0_16, .slice A0_17 l0_17.length c0_17, .slice A0_18 l0_18.length c0_18, .slice A0_19 l0_19.length c0_19, .slice A0_20 l0_20.length c0_20, .slice A0_21 l0_21.length c0_21]] rfl (by (try simp only [List.map_toArray, List.map_cons, List.map_nil]); (rfl)) ?_; (with_reducible refine (corebankref25_Great.calls k _ _ l0_0 _ _ l0_1 _ _ l0_2 a0_3 a0_4 a0_5 a0_6 a0_7 a0_8 a0_9 a0_10 a0_11 a0_12 a0_13 a0_14 a0_15 a0_16 _ _ l0_17 _ _ l0_18 _ _ l0_19 _ _ l0_20 _ _ l0_21 false _ ?side1 ?side2 ?side3 ?side4 ?side5 ?side6 ?side7 ?side8 ?side9 ?side10 ?side11 ?side12 ?side13 ?side14 ?side15 ?side16 A6.out).mono ?_); (case side1 => exact (Kd.C_below HR0_0.out HB.out)); (case side2 => exact HC0_0.out); (case side3 => exact (Kd.C_below HR0_1.out HB.out)); (case side4 => exact HC0_1.out); (case side5 => exact (Kd.C_below HR0_2.out HB.out)); (case side6 => exact HC0_2.out); (case side7 => exact (Kd.C_below HR0_17.out HB.out)); (case side8 => exact HC0_17.out); (case side9 => exact (Kd.C_below HR0_18.out HB.out)); (case side10 => exact HC0_18.out); (case side11 => exact (Kd.C_below HR0_19.out HB.out)); (case side12 => exact HC0_19.out); (case side13 => exact (Kd.C_below HR0_20.out HB.out)); (case side14 => exact HC0_20.out); (case side15 => exact (Kd.C_below HR0_21.out HB.out)); (case side16 => exact HC0_21.out); rintro e w16 ⟨rfl, hb⟩; refine ⟨_, rfl, ?_⟩; have n0_ := Aside0.mk (blk_below BK383.out hb); have n1_ := Aside0.mk (below_step HB.out hb); clear BK383; clear HB; have BK383 := n0_; have HB := n1_; clear n0_ n1_; (try clear hb)) | (go_at_call 14; (with_reducible refine (corebankref49_Great.calls k _ _ l1 false _ ?side1 ?side2 A10.out).mono ?_); (case side1 => exact (Kd.C_below HR1.out HB.out)); (case side2 => exact HC1.out); rintro e w' ⟨rfl, ⟨nd, rfl⟩⟩))
     go_meet
     case rel => exact ⟨_, (true), (by rfl), H', ⟨by (omega)⟩, ⟨by (with_reducible repeat (refine blk_drewN ?_ _)); exact BK383.out⟩, ⟨by repeat ((with_reducible first | exact HB.out | apply pw_below_drewN))⟩⟩
    ·rw [if_neg c14] at H
     have c14b0 : decide (10 < (l1.length : Int)) = false := decide_eq_false c14
     clear c14
     replace H := Option.bind_eq_some_iff.mp H
     obtain ⟨t386, A170, H⟩ := H
     replace H : (corebanklaw49_ReportDrills.j0 k l1 a2 (!t386) l0_0 l0_1 l0_2 a0_3 a0_4 a0_5 a0_6 a0_7 a0_8 a0_9 a0_10 a0_11 a0_12 a0_13 a0_14 a0_15 a0_16 l0_17 l0_18 l0_19 l0_20 l0_21) = some r := H
     have A17 := Aside0.mk A170
     clear A170
     have H' := Aside0.mk H
     clear H
     go_wp2_with (first | ((with_reducible refine gate_dst (N := 16) rfl ?_); refine wpList_load_row rfl 33 (.tmp 3) rfl gb383 rfl 33 _ (0, 0) _ BK383.out Try.underlying33 rfl (by kernel_rfl) ?_) | ((with_reducible refine gate_callee (f := 13) rfl ?_); refine goesL_ (some 17) rfl rfl Try.func13 (by kernel_rfl) rfl #[.agg #[.slice A0_0 l0_0.length c0_0, .slice A0_1 l0_1.length c0_1, .slice A0_2 l0_2.length c0_2, .int .i64 a0_3, .int .i64 a0_4, .int .i64 a0_5, .int .i64 a0_6, .int .i64 a0_7, .int .i64 a0_8, .int .i64 a0_9, .int .i64 a0_10, .int .i64 a0_11, .int .i64 a0_12, .int .i64 a0_13, .int .i64 a0_14, .int .i64 a0_15, .int .i64 a0_16, .slice A0_17 l0_17.length c0_17, .slice A0_18 l0_18.length c0_18, .slice A0_19 l0_19.length c0_19, .slice A0_20 l0_20.length c0_20, .slice A0_21 l0_21.length c0_21]] rfl (by (try simp only [List.map_toArray, List.map_cons, List.map_nil]); (rfl)) ?_; (with_reducible refine (corebankref25_Great.calls k _ _ l0_0 _ _ l0_1 _ _ l0_2 a0_3 a0_4 a0_5 a0_6 a0_7 a0_8 a0_9 a0_10 a0_11 a0_12 a0_13 a0_14 a0_15 a0_16 _ _ l0_17 _ _ l0_18 _ _ l0_19 _ _ l0_20 _ _ l0_21 false _ ?side1 ?side2 ?side3 ?side4 ?side5 ?side6 ?side7 ?side8 ?side9 ?side10 ?side11 ?side12 ?side13 ?side14 ?side15 ?side16 A6.out).mono ?_); (case side1 => exact (Kd.C_below HR0_0.out HB.out)); (case side2 => exact HC0_0.out); (case side3 => exact (Kd.C_below HR0_1.out HB.out)); (case side4 => exact HC0_1.out); (case side5 => exact (Kd.C_below HR0_2.out HB.out)); (case side6 => exact HC0_2.out); (case side7 => exact (Kd.C_below HR0_17.out HB.out)); (case side8 => exact HC0_17.out); (case side9 => exact (Kd.C_below HR0_18.out HB.out)); (case side10 => exact HC0_18.out); (case side11 => exact (Kd.C_below HR0_19.out HB.out)); (case side12 => exact HC0_19.out); (case side13 => exact (Kd.C_below HR0_20.out HB.out)); (case side14 => exact HC0_20.out); (case side15 => exact (Kd.C_below HR0_21.out HB.out)); (case side16 => exact HC0_21.out); rintro e w19 ⟨rfl, hb⟩; refine ⟨_, rfl, ?_⟩; have n0_ := Aside0.mk (blk_below BK383.out hb); have n1_ := Aside0.mk (below_step HB.out hb); clear BK383; clear HB; have BK383 := n0_; have HB := n1_; clear n0_ n1_; (try clear hb)) | (go_at_call 14; (with_reducible refine (corebankref49_Great.calls k _ _ l1 false _ ?side1 ?side2 A10.out).mono ?_); (case side1 => exact (Kd.C_below HR1.out HB.out)); (case side2 => exact HC1.out); rintro e w' ⟨rfl, ⟨nd, rfl⟩⟩; have hcz20_19 : w19.cell? ⟨gb383, 19, none⟩ = some (.slice A0_19 l0_19.length c0_19) := (blk_cell BK383.out 19).trans rfl) | (go_at_call 28; (with_reducible refine (corebanklaw49_different.calls k _ _ l0_19 t386 _ ?side1 ?side2 A17.out).mono ?_); (case side1 => repeat (exact (Kd.C_below HR0_19.out (by repeat ((with_reducible first | exact HB.out | apply pw_below_drewN)))))); (case side2 => exact HC0_19.out); rintro e w' ⟨rfl, ⟨nd, rfl⟩⟩))
     go_meet
     case rel => exact ⟨_, (!t386), (by rfl), H', ⟨by (omega)⟩, ⟨by (with_reducible repeat (refine blk_drewN ?_ _)); exact BK383.out⟩, ⟨by repeat ((with_reducible first | exact HB.out | apply pw_below_drewN))⟩⟩
 case rest =>
  clear HC4
  obtain ⟨kq, x32_3, rfl, HA, HJ3, BK383, HB⟩ := hcut
  cases kq with
  | zero => exact absurd HA.out (by simp [corebanklaw49_ReportDrills.j0])
  | succ kj3 =>
   have H := HA.out
   clear HA
   simp only [corebanklaw49_ReportDrills.j0] at H
   by_cases c21 : x32_3 = true
   ·subst c21
    have H1 : (some true) = some r := by rw [if_pos rfl] at H; exact H
    clear H
    have H := H1
    clear H1
    obtain rfl := Option.some.inj H
    go_wp2_with (fail)
    go_ret
    exact ⟨by (rfl), HB.out⟩
   ·replace c21 := Bool.eq_false_iff.mpr c21
    subst c21
    have H1 : ((report_Make.f kj3 l0_0 l0_1 l0_2 a0_3 a0_4 a0_5 a0_6 a0_7 a0_8 a0_9 a0_10 a0_11 a0_12 a0_13 a0_14 a0_15 a0_16 l0_17 l0_18 l0_19 l0_20 l0_21 l1 a2).bind fun bt387 => (if bt387.2 = 0 then (if (bt387.1.length : Int) = (wrap64 ((l1.length : Int) * (l0_0.length : Int))) then (corebanklaw49_ReportDrills.l0 kj3 l1 a2 bt387.1 0 l0_0 l0_1 l0_2 a0_3 a0_4 a0_5 a0_6 a0_7 a0_8 a0_9 a0_10 a0_11 a0_12 a0_13 a0_14 a0_15 a0_16 l0_17 l0_18 l0_19 l0_20 l0_21) else (some false)) else (if (bt387.1.length : Int) = 0 then ((corebanklaw49_Live.f kj3).bind fun t391 => (some t391)) else (some false)))) = some r := by rw [if_neg (show ¬ (false = true) by decide)] at H; exact H
    clear H
    have H := H1
    clear H1
    replace H := Option.bind_eq_some_iff.mp H
    obtain ⟨⟨t387, t390⟩, A220, H⟩ := H
    replace H : (if t390 = 0 then (if (t387.length : Int) = (wrap64 ((l1.length : Int) * (l0_0.length : Int))) then (corebanklaw49_ReportDrills.l0 kj3 l1 a2 t387 0 l0_0 l0_1 l0_2 a0_3 a0_4 a0_5 a0_6 a0_7 a0_8 a0_9 a0_10 a0_11 a0_12 a0_13 a0_14 a0_15 a0_16 l0_17 l0_18 l0_19 l0_20 l0_21) else (some false)) else (if (t387.length : Int) = 0 then ((corebanklaw49_Live.f kj3).bind fun t391 => (some t391)) else (some false))) = some r := H
    have A22 := Aside0.mk A220
    clear A220
    by_cases c23 : t390 = 0
    ·rw [if_pos c23] at H
     have c23b1 : (t390 != 0) = false := bne_eq_false_iff_eq.mpr c23
     clear c23
     by_cases c24 : (t387.length : Int) = (wrap64 ((l1.length : Int) * (l0_0.length : Int)))
     ·rw [if_pos c24] at H
      have c24b1 : ((t387.length : Int) != (wrap64 ((l1.length : Int) * (l0_0.length : Int)))) = false := bne_eq_false_iff_eq.mpr c24
      clear c24
      have H' := Aside0.mk H
      clear H
      go_wp2_with (first | ((with_reducible refine gate_dst (N := 34) rfl ?_); refine wpList_load_row rfl 33 (.tmp 3) rfl gb383 rfl 33 _ (0, 0) _ BK383.out Try.underlying33 rfl (by kernel_rfl) ?_) | ((with_reducible refine gate_callee (f := 20) rfl ?_); refine goesL_ (some 37) rfl rfl Try.func20 (by kernel_rfl) rfl #[.agg #[.slice A0_0 l0_0.length c0_0, .slice A0_1 l0_1.length c0_1, .slice A0_2 l0_2.length c0_2, .int .i64 a0_3, .int .i64 a0_4, .int .i64 a0_5, .int .i64 a0_6, .int .i64 a0_7, .int .i64 a0_8, .int .i64 a0_9, .int .i64 a0_10, .int .i64 a0_11, .int .i64 a0_12, .int .i64 a0_13, .int .i64 a0_14, .int .i64 a0_15, .int .i64 a0_16, .slice A0_17 l0_17.length c0_17, .slice A0_18 l0_18.length c0_18, .slice A0_19 l0_19.length c0_19, .slice A0_20 l0_20.length c0_20, .slice A0_21 l0_21.length c0_21], .slice A1 l1.length c1, .int .i64 a2] rfl (by (try simp only [List.map_toArray, List.map_cons, List.map_nil]); (rfl)) ?_; (with_reducible refine (report_Make.calls kj3 _ _ l0_0 _ _ l0_1 _ _ l0_2 a0_3 a0_4 a0_5 a0_6 a0_7 a0_8 a0_9 a0_10 a0_11 a0_12 a0_13 a0_14 a0_15 a0_16 _ _ l0_17 _ _ l0_18 _ _ l0_19 _ _ l0_20 _ _ l0_21 _ _ l1 a2 t387 t390 _ ?side1 ?side2 ?side3 ?side4 ?side5 ?side6 ?side7 ?side8 ?side9 ?side10 ?side11 ?side12 ?side13 ?side14 ?side15 ?side16 ?side17 ?side18 A22.out).mono ?_); (case side1 => exact (Kd.C_below HR0_0.out HB.out)); (case side2 => exact HC0_0.out); (case side3 => exact (Kd.C_below HR0_1.out HB.out)); (case side4 => exact HC0_1.out); (case side5 => exact (Kd.C_below HR0_2.out HB.out)); (case side6 => exact HC0_2.out); (case side7 => exact (Kd.C_below HR0_17.out HB.out)); (case side8 => exact HC0_17.out); (case side9 => exact (Kd.C_below HR0_18.out HB.out)); (case side10 => exact HC0_18.out); (case side11 => exact (Kd.C_below HR0_19.out HB.out)); (case side12 => exact HC0_19.out); (case side13 => exact (Kd.C_below HR0_20.out HB.out)); (case side14 => exact HC0_20.out); (case side15 => exact (Kd.C_below HR0_21.out HB.out)); (case side16 => exact HC0_21.out); (case side17 => exact (Kd.C_below HR1.out HB.out)); (case side18 => exact HC1.out); rintro e w26 ⟨v388, rfl, ho0, hb⟩; refine ⟨_, rfl, ?_⟩; have n0_ := Aside0.mk (Kd.R_lower ho0 (below_size HB.out)); have n1_ := Aside0.mk (blk_below BK383.out hb); have n2_ := Aside0.mk (below_step HB.out hb); clear BK383; clear HB; have HO389 := n0_; have BK383 := n1_; have HB := n2_; clear n0_ n1_ n2_; (try clear hb); (try clear ho0); obtain ⟨Ao27, co27, eo27⟩ := Kd.R_slice HO389.out; subst eo27; have hcz28_0 : w26.cell? ⟨gb383, 0, none⟩ = some (.slice A0_0 l0_0.length c0_0) := (blk_cell BK383.out 0).trans rfl))
      go_loopg [9] kj3 (fun kq v9 w' => ∃ (x9_2 : Int), v9 = .int .i64 x9_2 ∧ Aside0 (corebanklaw49_ReportDrills.l0 kq l1 a2 t387 x9_2 l0_0 l0_1 l0_2 a0_3 a0_4 a0_5 a0_6 a0_7 a0_8 a0_9 a0_10 a0_11 a0_12 a0_13 a0_14 a0_15 a0_16 l0_17 l0_18 l0_19 l0_20 l0_21 = some r) ∧ Aside0 (kq ≤ kj3) ∧ Aside0 (Kd.R k58 58 w' w.heap.size (fun _ => True) (.slice Ao27 t387.length co27) t387) ∧ Aside0 (w'.heap[gb383]? = some (.cells #[(.slice A0_0 l0_0.length c0_0), (.slice A0_1 l0_1.length c0_1), (.slice A0_2 l0_2.length c0_2), .int .i64 a0_3, .int .i64 a0_4, .int .i64 a0_5, .int .i64 a0_6, .int .i64 a0_7, .int .i64 a0_8, .int .i64 a0_9, .int .i64 a0_10, .int .i64 a0_11, .int .i64 a0_12, .int .i64 a0_13, .int .i64 a0_14, .int .i64 a0_15, .int .i64 a0_16, (.slice A0_17 l0_17.length c0_17), (.slice A0_18 l0_18.length c0_18), (.slice A0_19 l0_19.length c0_19), (.slice A0_20 l0_20.length c0_20), (.slice A0_21 l0_21.length c0_21)] 33 (0, 0))) ∧ Aside0 (Below w.heap.size w w'))
      case atStart => exact ⟨(0), (by rfl), H', ⟨Nat.le_refl _⟩, ⟨HO389.out⟩, ⟨BK383.out⟩, ⟨HB.out⟩⟩
      case round =>
       clear H'
       try clear c23b1
       try clear c24b1
       try clear hcz28_0
       obtain ⟨x9_2, rfl, HA, HK2, HO_7, BK383, HB⟩ := hrel
       cases gk with
       | zero => exact absurd HA.out (by simp [corebanklaw49_ReportDrills.l0])
       | succ k2 =>
        have H := HA.out
        clear HA
        simp only [corebanklaw49_ReportDrills.l0] at H
        by_cases c29 : x9_2 < (t387.length : Int)
        ·rw [if_pos c29] at H
         have c29b0 : decide (x9_2 < (t387.length : Int)) = true := decide_eq_true c29
         clear c29
         by_cases c30 : (l0_0.length : Int) = 0
         ·rw [if_pos c30] at H
          exact absurd H (by simp)
         ·rw [if_neg c30] at H
          have c30b2 : ¬ (l0_0 = []) := fun h_ => c30 (by rw [h_]; rfl)
          obtain ⟨ji31, hji31⟩ : ∃ j_ : Int, (wrap64 (Int.tdiv x9_2 (l0_0.length : Int))) = j_ := ⟨_, rfl⟩
          replace H : (if 0 ≤ (ji31) then (if (ji31) < (l1.length : Int) then (if 0 ≤ x9_2 then ((report_Drill.f k2 l0_0 l0_1 l0_2 a0_3 a0_4 a0_5 a0_6 a0_7 a0_8 a0_9 a0_10 a0_11 a0_12 a0_13 a0_14 a0_15 a0_16 l0_17 l0_18 l0_19 l0_20 l0_21 ((rd_T48 l1 (ji31)).f0) ((rd_T48 l1 (ji31)).f1) ((rd_T48 l1 (ji31)).f2) ((rd_T58 t387 x9_2).f1) a2).bind fun bt396 => (if bt396.2 = 0 then (corebanklaw49_ReportDrills.j2 k2 l1 a2 t387 x9_2 bt396.1 (((rd_T58 t387 x9_2).f0).toList != ((rd_T48 l1 (ji31)).f0).toList) l0_0 l0_1 l0_2 a0_3 a0_4 a0_5 a0_6 a0_7 a0_8 a0_9 a0_10 a0_11 a0_12 a0_13 a0_14 a0_15 a0_16 l0_17 l0_18 l0_19 l0_20 l0_21 ((rd_T48 l1 (ji31)).f0) ((rd_T48 l1 (ji31)).f1) ((rd_T48 l1 (ji31)).f2)) else (corebanklaw49_ReportDrills.j2 k2 l1 a2 t387 x9_2 bt396.1 true l0_0 l0_1 l0_2 a0_3 a0_4 a0_5 a0_6 a0_7 a0_8 a0_9 a0_10 a0_11 a0_12 a0_13 a0_14 a0_15 a0_16 l0_17 l0_18 l0_19 l0_20 l0_21 ((rd_T48 l1 (ji31)).f0) ((rd_T48 l1 (ji31)).f1) ((rd_T48 l1 (ji31)).f2)))) else (none)) else (none)) else (none)) = some r := by (rw [hji31] at H; exact H)
          have hji31w : (IntKind.i64.wrap (Int.tdiv x9_2 (l0_0.length : Int))) = ji31 := (i64_w _).trans hji31
          by_cases c32 : 0 ≤ (ji31)
          ·rw [if_pos c32] at H
           have c32b0 : decide (0 ≤ (ji31)) = true := decide_eq_true c32
           clear c32
           by_cases c33 : (ji31) < (l1.length : Int)
           ·rw [if_pos c33] at H
            have c33b0 : decide ((ji31) < (l1.length : Int)) = true := decide_eq_true c33
            clear c33
            by_cases c34 : 0 ≤ x9_2
            ·rw [if_pos c34] at H
             have c34b0 : decide (0 ≤ x9_2) = true := decide_eq_true c34
             clear c34
             replace H := Option.bind_eq_some_iff.mp H
             obtain ⟨⟨t396, t399⟩, A350, H⟩ := H
             replace H : (if t399 = 0 then (corebanklaw49_ReportDrills.j2 k2 l1 a2 t387 x9_2 t396 (((rd_T58 t387 x9_2).f0).toList != ((rd_T48 l1 (ji31)).f0).toList) l0_0 l0_1 l0_2 a0_3 a0_4 a0_5 a0_6 a0_7 a0_8 a0_9 a0_10 a0_11 a0_12 a0_13 a0_14 a0_15 a0_16 l0_17 l0_18 l0_19 l0_20 l0_21 ((rd_T48 l1 (ji31)).f0) ((rd_T48 l1 (ji31)).f1) ((rd_T48 l1 (ji31)).f2)) else (corebanklaw49_ReportDrills.j2 k2 l1 a2 t387 x9_2 t396 true l0_0 l0_1 l0_2 a0_3 a0_4 a0_5 a0_6 a0_7 a0_8 a0_9 a0_10 a0_11 a0_12 a0_13 a0_14 a0_15 a0_16 l0_17 l0_18 l0_19 l0_20 l0_21 ((rd_T48 l1 (ji31)).f0) ((rd_T48 l1 (ji31)).f1) ((rd_T48 l1 (ji31)).f2))) = some r := H
             have A35 := Aside0.mk A350
             clear A350
             have HC36 := Aside0.mk H
             clear H
             have hcz37_0 : wr.cell? ⟨gb383, 0, none⟩ = some (.slice A0_0 l0_0.length c0_0) := (blk_cell BK383.out 0).trans rfl
             have p393 : 0 ≤ ((ji31) : Int) := of_decide_eq_true (by (with_reducible assumption))
             have q393 : (ji31) < (l1.length : Int) := of_decide_eq_true (by (with_reducible assumption))
             obtain ⟨ad393, A393_2, c393_2, e393, hx393_0, hx393_1, hx393_2, hl393_2, hi393_2⟩ := at_T48 HR1.out (ji31) p393 q393
             cases e393
             replace hx393_0 := (HB.out.cell (World.block_lt_of_cell? w _ hx393_0)).trans hx393_0
             replace hx393_1 := (HB.out.cell (World.block_lt_of_cell? w _ hx393_1)).trans hx393_1
             replace hx393_2 := (HB.out.cell (World.block_lt_of_cell? w _ hx393_2)).trans hx393_2
             have HR393_2 := Aside0.mk hi393_2
             have HC393_2 := Aside0.mk hl393_2
             clear hi393_2 hl393_2
             replace p393 := eq_true p393
             replace q393 := eq_true q393
             try go_wp2_with (((with_reducible refine gate_dst (N := 10) rfl ?_); (try (refine gate_guard (by rfl) ?_; dsimp only)); refine box_event ?hg (N := 10) ?hd (cs := #[.string (⟨#[]⟩ : ByteArray), .int .i64 0, .slice none 0 0]) (t := 48) ?hr ?_; (case hd => rfl); (case hg => rfl); (case hr => (go_simp; done)); intro gb394 hg w38 hbox hb; have n0_ := Aside0.mk (Kd.R_below HO_7.out hb); have n1_ := Aside0.mk (blk_below BK383.out hb); have n2_ := Aside0.mk (below_step HB.out hb); have n3_ := Aside0.mk (hbox); have n4_ := Aside0.mk ((by rw [hg]; exact (below_size HB.out) : w.heap.size ≤ gb394)); have n5_ := n4_; have n6_ := Aside0.mk ((by rw [hg]; exact Nat.ne_of_lt (blk_lt BK383.out) : gb383 ≠ gb394)); have n7_ := Aside0.mk ((by rw [hg]; exact Nat.ne_of_gt (blk_lt BK383.out) : gb394 ≠ gb383)); clear HO_7; clear BK383; clear HB; have HO_7 := n0_; have BK383 := n1_; have HB := n2_; have BK394 := n3_; have GE394 := n5_; have NB383_394 := n6_; have NB394_383 := n7_; clear n0_ n1_ n2_ n3_ n4_ n5_ n6_ n7_; clear hb hbox hg; have hcz40_0 : w38.cell? ⟨gb394, 0, none⟩ = some (.string (⟨#[]⟩ : ByteArray)) := (blk_cell BK394.out 0).trans rfl; have hcz40_1 : w38.cell? ⟨gb394, 1, none⟩ = some (.int .i64 0) := (blk_cell BK394.out 1).trans rfl; have hcz40_2 : w38.cell? ⟨gb394, 2, none⟩ = some (.slice none 0 0) := (blk_cell BK394.out 2).trans rfl; have hfz40_0 := blk_frozen BK394.out 0; have hfz40_1 := blk_frozen BK394.out 1; have hfz40_2 := blk_frozen BK394.out 2))
             have n0_ : Aside0 (Kd.R k58 58 (((w38.setCell ⟨gb394, 0, none⟩ (.string ((rd_T48 l1 (ji31)).f0))).setCell ⟨gb394, 1, none⟩ (.int .i64 ((rd_T48 l1 (ji31)).f1))).setCell ⟨gb394, 2, none⟩ (.slice A393_2 ((rd_T48 l1 (ji31)).f2).length c393_2)) w.heap.size (fun _ => True) (.slice Ao27 t387.length co27) t387) := ⟨by exact Kd.R_mono (Kd.R_far (p := ⟨gb394, 2, none⟩) (Kd.R_far (p := ⟨gb394, 1, none⟩) (Kd.R_far (p := ⟨gb394, 0, none⟩) (Kd.R_types HO_7.out BK394.out (by decide)) (fun _ hk => hk.2) (.string ((rd_T48 l1 (ji31)).f0))) (fun _ hk => hk.2) (.int .i64 ((rd_T48 l1 (ji31)).f1))) (fun _ hk => hk.2) (.slice A393_2 ((rd_T48 l1 (ji31)).f2).length c393_2)) (fun _ hk => trivial)⟩
             have n1_ : Aside0 ((((w38.setCell ⟨gb394, 0, none⟩ (.string ((rd_T48 l1 (ji31)).f0))).setCell ⟨gb394, 1, none⟩ (.int .i64 ((rd_T48 l1 (ji31)).f1))).setCell ⟨gb394, 2, none⟩ (.slice A393_2 ((rd_T48 l1 (ji31)).f2).length c393_2)).heap[gb383]? = some (.cells #[.slice A0_0 l0_0.length c0_0, .slice A0_1 l0_1.length c0_1, .slice A0_2 l0_2.length c0_2, .int .i64 a0_3, .int .i64 a0_4, .int .i64 a0_5, .int .i64 a0_6, .int .i64 a0_7, .int .i64 a0_8, .int .i64 a0_9, .int .i64 a0_10, .int .i64 a0_11, .int .i64 a0_12, .int .i64 a0_13, .int .i64 a0_14, .int .i64 a0_15, .int .i64 a0_16, .slice A0_17 l0_17.length c0_17, .slice A0_18 l0_18.length c0_18, .slice A0_19 l0_19.length c0_19, .slice A0_20 l0_20.length c0_20, .slice A0_21 l0_21.length c0_21] 33 (0, 0))) := ⟨by refine blk_far ?_ NB383_394.out _; refine blk_far ?_ NB383_394.out _; refine blk_far ?_ NB383_394.out _; exact BK383.out⟩
             have n2_ : Aside0 ((((w38.setCell ⟨gb394, 0, none⟩ (.string ((rd_T48 l1 (ji31)).f0))).setCell ⟨gb394, 1, none⟩ (.int .i64 ((rd_T48 l1 (ji31)).f1))).setCell ⟨gb394, 2, none⟩ (.slice A393_2 ((rd_T48 l1 (ji31)).f2).length c393_2)).heap[gb394]? = some (.cells #[.string ((rd_T48 l1 (ji31)).f0), .int .i64 ((rd_T48 l1 (ji31)).f1), .slice A393_2 ((rd_T48 l1 (ji31)).f2).length c393_2] 48 (0, 0))) := ⟨by refine blk_put (cs := #[.string ((rd_T48 l1 (ji31)).f0), .int .i64 ((rd_T48 l1 (ji31)).f1), .slice none 0 0]) ?_ 2 _ rfl; refine blk_put (cs := #[.string ((rd_T48 l1 (ji31)).f0), .int .i64 0, .slice none 0 0]) ?_ 1 _ rfl; refine blk_put (cs := #[.string (⟨#[]⟩ : ByteArray), .int .i64 0, .slice none 0 0]) ?_ 0 _ rfl; exact BK394.out⟩
             have n3_ : Aside0 (Below w.heap.size w (((w38.setCell ⟨gb394, 0, none⟩ (.string ((rd_T48 l1 (ji31)).f0))).setCell ⟨gb394, 1, none⟩ (.int .i64 ((rd_T48 l1 (ji31)).f1))).setCell ⟨gb394, 2, none⟩ (.slice A393_2 ((rd_T48 l1 (ji31)).f2).length c393_2))) := ⟨by repeat ((with_reducible first | exact HB.out | refine below_set ?_ GE394.out))⟩
             (try clear HO_7)
             (try clear BK383)
             (try clear BK394)
             (try clear HB)
             generalize (((w38.setCell ⟨gb394, 0, none⟩ (.string ((rd_T48 l1 (ji31)).f0))).setCell ⟨gb394, 1, none⟩ (.int .i64 ((rd_T48 l1 (ji31)).f1))).setCell ⟨gb394, 2, none⟩ (.slice A393_2 ((rd_T48 l1 (ji31)).f2).length c393_2)) = w41 at n0_ n1_ n2_ n3_ ⊢
             have HO_7 := n0_
             have BK383 := n1_
             have BK394 := n2_
             have HB := n3_
             clear n0_ n1_ n2_ n3_
             have n0_ := Aside0.mk (Kd.R_drew HO_7.out)
             have n1_ := Aside0.mk (blk_drew BK383.out)
             have n2_ := Aside0.mk (blk_drew BK394.out)
             have n3_ := Aside0.mk (below_drew1 HB.out)
             clear HO_7
             clear BK383
             clear BK394
             clear HB
             have HO_7 := n0_
             have BK383 := n1_
             have BK394 := n2_
             have HB := n3_
             clear n0_ n1_ n2_ n3_
             have p395 : 0 ≤ (x9_2 : Int) := of_decide_eq_true (by (with_reducible assumption))
             have q395 : x9_2 < (t387.length : Int) := of_decide_eq_true (by (with_reducible assumption))
             obtain ⟨ad395, e395, hx395_0, hx395_1, hx395_2⟩ := at_T58 (Kd.R_reads' HO_7.out).2.2 x9_2 p395 q395
             cases e395
             replace p395 := eq_true p395
             replace q395 := eq_true q395
             refine start_ (n := 14) (S := fun w' => w'.cell? ⟨gb383, 0, none⟩ = some (.slice A0_0 l0_0.length c0_0) ∧ w'.cell? ⟨gb383, 1, none⟩ = some (.slice A0_1 l0_1.length c0_1) ∧ w'.cell? ⟨gb383, 2, none⟩ = some (.slice A0_2 l0_2.length c0_2) ∧ w'.cell? ⟨gb383, 3, none⟩ = some (.int .i64 a0_3) ∧ w'.cell? ⟨gb383, 4, none⟩ = some (.int .i64 a0_4) ∧ w'.cell? ⟨gb383, 5, none⟩ = some (.int .i64 a0_5) ∧ w'.cell? ⟨gb383, 6, none⟩ = some (.int .i64 a0_6) ∧ w'.cell? ⟨gb383, 7, none⟩ = some (.int .i64 a0_7) ∧ w'.cell? ⟨gb383, 8, none⟩ = some (.int .i64 a0_8) ∧ w'.cell? ⟨gb383, 9, none⟩ = some (.int .i64 a0_9) ∧ w'.cell? ⟨gb383, 10, none⟩ = some (.int .i64 a0_10) ∧ w'.cell? ⟨gb383, 11, none⟩ = some (.int .i64 a0_11) ∧ w'.cell? ⟨gb383, 12, none⟩ = some (.int .i64 a0_12) ∧ w'.cell? ⟨gb383, 13, none⟩ = some (.int .i64 a0_13) ∧ w'.cell? ⟨gb383, 14, none⟩ = some (.int .i64 a0_14) ∧ w'.cell? ⟨gb383, 15, none⟩ = some (.int .i64 a0_15) ∧ w'.cell? ⟨gb383, 16, none⟩ = some (.int .i64 a0_16) ∧ w'.cell? ⟨gb383, 17, none⟩ = some (.slice A0_17 l0_17.length c0_17) ∧ w'.cell? ⟨gb383, 18, none⟩ = some (.slice A0_18 l0_18.length c0_18) ∧ w'.cell? ⟨gb383, 19, none⟩ = some (.slice A0_19 l0_19.length c0_19) ∧ w'.cell? ⟨gb383, 20, none⟩ = some (.slice A0_20 l0_20.length c0_20) ∧ w'.cell? ⟨gb383, 21, none⟩ = some (.slice A0_21 l0_21.length c0_21) ∧ w'.cell? ⟨gb394, 0, none⟩ = some (.string ((rd_T48 l1 (ji31)).f0)) ∧ w'.cell? ⟨gb394, 1, none⟩ = some (.int .i64 ((rd_T48 l1 (ji31)).f1)) ∧ w'.cell? ⟨gb394, 2, none⟩ = some (.slice A393_2 ((rd_T48 l1 (ji31)).f2).length c393_2) ∧ w'.cell? (ad395.add ((x9_2).toNat * 3)) = some (.string ((rd_T58 t387 x9_2).f0)) ∧ w'.cell? ⟨(ad395.add ((x9_2).toNat * 3)).block, (ad395.add ((x9_2).toNat * 3)).off + 1, none⟩ = some (.string ((rd_T58 t387 x9_2).f1)) ∧ w'.cell? ⟨(ad395.add ((x9_2).toNat * 3)).block, (ad395.add ((x9_2).toNat * 3)).off + 2, none⟩ = some (.int .i64 ((rd_T58 t387 x9_2).f2))) (ds := []) #[false, false, false, false, false, false, false, false, false, false, false, false, false, false] (by kernel_rfl) rfl rfl ⟨(blk_cell BK383.out 0).trans rfl, (blk_cell BK383.out 1).trans rfl, (blk_cell BK383.out 2).trans rfl, (blk_cell BK383.out 3).trans rfl, (blk_cell BK383.out 4).trans rfl, (blk_cell BK383.out 5).trans rfl, (blk_cell BK383.out 6).trans rfl, (blk_cell BK383.out 7).trans rfl, (blk_cell BK383.out 8).trans rfl, (blk_cell BK383.out 9).trans rfl, (blk_cell BK383.out 10).trans rfl, (blk_cell BK383.out 11).trans rfl, (blk_cell BK383.out 12).trans rfl, (blk_cell BK383.out 13).trans rfl, (blk_cell BK383.out 14).trans rfl, (blk_cell BK383.out 15).trans rfl, (blk_cell BK383.out 16).trans rfl, (blk_cell BK383.out 17).trans rfl, (blk_cell BK383.out 18).trans rfl, (blk_cell BK383.out 19).trans rfl, (blk_cell BK383.out 20).trans rfl, (blk_cell BK383.out 21).trans rfl, (blk_cell BK394.out 0).trans rfl, (blk_cell BK394.out 1).trans rfl, (blk_cell BK394.out 2).trans rfl, hx395_0, hx395_1, hx395_2⟩ (fun hHeld => ?_); refine with_tabW corebanklaw49_ReportDrills.tab12 corebanklaw49_ReportDrills.bits12 (fun HT_ HW_ => ?_)
             generalize w41.drew = w42 at HO_7 BK383 BK394 HB hx395_0 hx395_1 hx395_2 hHeld ⊢
             refine pure_ (i := 2) (N := some 74) (v := ?_) (a' := ?_) #[false, false, true, false, false, false, false, false, false, false, false, false, false, false] rfl rfl (any_of HT_.out (by kernel_rfl)) (fun _ _ _ h => h) (Or.inl ⟨by rfl, ?_⟩) ?_ ?_
             rotate_left
             ·intro w'
              go_simp
              with_reducible rfl
             rotate_left
             ·simp only [Act.put, List.setIfInBounds_toArray, List.set_cons_zero, List.set_cons_succ, i64_w, i32_w]
              rfl
             refine pure_ (i := 3) (N := some 75) (v := ?_) (a' := ?_) #[false, false, true, true, false, false, false, false, false, false, false, false, false, false] rfl rfl (any_of HT_.out (by kernel_rfl)) (fun _ _ _ h => h) (Or.inl ⟨by rfl, ?_⟩) ?_ ?_
             rotate_left
             ·intro w'
              go_simp
              with_reducible rfl
             rotate_left
             ·simp only [Act.put, List.setIfInBounds_toArray, List.set_cons_zero, List.set_cons_succ, i64_w, i32_w]
              rfl
             refine pure_ (i := 4) (N := some 76) (v := ?_) (a' := ?_) #[false, false, true, true, true, false, false, false, false, false, false, false, false, false] rfl rfl (any_of HT_.out (by kernel_rfl)) (fun _ _ _ h => h) (Or.inl ⟨by rfl, ?_⟩) ?_ ?_
             rotate_left
             ·intro w'
              go_simp
              with_reducible rfl
             rotate_left
             ·simp only [Act.put, List.setIfInBounds_toArray, List.set_cons_zero, List.set_cons_succ, i64_w, i32_w]
              rfl
             refine pure_ (i := 5) (N := some 77) (v := ?_) (a' := ?_) #[false, false, true, true, true, true, false, false, false, false, false, false, false, false] rfl rfl (any_of HT_.out (by kernel_rfl)) (fun _ _ _ h => h) (Or.inl ⟨by rfl, ?_⟩) ?_ ?_
             rotate_left
             ·intro w'
              go_simp
              with_reducible rfl
             rotate_left
             ·simp only [Act.put, List.setIfInBounds_toArray, List.set_cons_zero, List.set_cons_succ, i64_w, i32_w]
              rfl
             refine pure_ (i := 7) (N := some 79) (v := ?_) (a' := ?_) #[false, false, true, true, true, true, false, true, false, false, false, false, false, false] rfl rfl (any_of HT_.out (by kernel_rfl)) (fun _ _ _ h => h) (Or.inl ⟨by rfl, ?_⟩) ?_ ?_
             rotate_left
             ·intro w'
              go_simp
              with_reducible rfl
             rotate_left
             ·simp only [Act.put, List.setIfInBounds_toArray, List.set_cons_zero, List.set_cons_succ, i64_w, i32_w]
              rfl
             refine take_ (i := 0) (N := some 72) (v := ?_) (a' := ?_) #[true, false, true, true, true, true, false, true, false, false, false, false, false, false] rfl rfl (take_ofW HT_.out HW_.out (by kernel_rfl)) (fun _ _ _ h => h) (Or.inl ⟨by rfl, ?_⟩) hHeld ?_ ?_
             rotate_left
             ·rintro w' ⟨s0, s1, s2, s3, s4, s5, s6, s7, s8, s9, s10, s11, s12, s13, s14, s15, s16, s17, s18, s19, s20, s21, s22, s23, s24, s25, s26, s27⟩
              refine (run_load_wide 33 (.tmp 3) (by rfl) gb383 (by rfl) #[.slice A0_0 l0_0.length c0_0, .slice A0_1 l0_1.length c0_1, .slice A0_2 l0_2.length c0_2, .int .i64 a0_3, .int .i64 a0_4, .int .i64 a0_5, .int .i64 a0_6, .int .i64 a0_7, .int .i64 a0_8, .int .i64 a0_9, .int .i64 a0_10, .int .i64 a0_11, .int .i64 a0_12, .int .i64 a0_13, .int .i64 a0_14, .int .i64 a0_15, .int .i64 a0_16, .slice A0_17 l0_17.length c0_17, .slice A0_18 l0_18.length c0_18, .slice A0_19 l0_19.length c0_19, .slice A0_20 l0_20.length c0_20, .slice A0_21 l0_21.length c0_21] Try.underlying33 rfl (by kernel_rfl) ⟨s0, s1, s2, s3, s4, s5, s6, s7, s8, s9, s10, s11, s12, s13, s14, s15, s16, s17, s18, s19, s20, s21, trivial⟩).trans ?_
              with_reducible rfl
             rotate_left
             ·simp only [Act.put, List.setIfInBounds_toArray, List.set_cons_zero, List.set_cons_succ, i64_w, i32_w]
              rfl
             refine take_ (i := 1) (N := some 73) (v := ?_) (a' := ?_) #[true, true, true, true, true, true, false, true, false, false, false, false, false, false] rfl rfl (take_ofW HT_.out HW_.out (by kernel_rfl)) (fun _ _ _ h => h) (Or.inl ⟨by rfl, ?_⟩) hHeld ?_ ?_
             rotate_left
             ·rintro w' ⟨s0, s1, s2, s3, s4, s5, s6, s7, s8, s9, s10, s11, s12, s13, s14, s15, s16, s17, s18, s19, s20, s21, s22, s23, s24, s25, s26, s27⟩
              go_simp
              with_reducible rfl
             rotate_left
             ·simp only [Act.put, List.setIfInBounds_toArray, List.set_cons_zero, List.set_cons_succ, i64_w, i32_w]
              rfl
             refine take_ (i := 6) (N := some 78) (v := ?_) (a' := ?_) #[true, true, true, true, true, true, true, true, false, false, false, false, false, false] rfl rfl (take_ofW HT_.out HW_.out (by kernel_rfl)) (fun _ _ _ h => h) (Or.inl ⟨by rfl, ?_⟩) hHeld ?_ ?_
             rotate_left
             ·rintro w' ⟨s0, s1, s2, s3, s4, s5, s6, s7, s8, s9, s10, s11, s12, s13, s14, s15, s16, s17, s18, s19, s20, s21, s22, s23, s24, s25, s26, s27⟩
              go_simp
              with_reducible rfl
             rotate_left
             ·simp only [Act.put, List.setIfInBounds_toArray, List.set_cons_zero, List.set_cons_succ, i64_w, i32_w]
              rfl
             refine one_ (i := 8) (N := some 80) #[true, true, true, true, true, true, true, true, true, false, false, false, false, false] rfl rfl (one_of HT_.out (by kernel_rfl)) (by decide) (fun K hK => ?_)
             refine goes_ Try.func23 (by kernel_rfl) rfl #[.agg #[.slice A0_0 l0_0.length c0_0, .slice A0_1 l0_1.length c0_1, .slice A0_2 l0_2.length c0_2, .int .i64 a0_3, .int .i64 a0_4, .int .i64 a0_5, .int .i64 a0_6, .int .i64 a0_7, .int .i64 a0_8, .int .i64 a0_9, .int .i64 a0_10, .int .i64 a0_11, .int .i64 a0_12, .int .i64 a0_13, .int .i64 a0_14, .int .i64 a0_15, .int .i64 a0_16, .slice A0_17 l0_17.length c0_17, .slice A0_18 l0_18.length c0_18, .slice A0_19 l0_19.length c0_19, .slice A0_20 l0_20.length c0_20, .slice A0_21 l0_21.length c0_21], .agg #[.string ((rd_T48 l1 (ji31)).f0), .int .i64 ((rd_T48 l1 (ji31)).f1), .slice A393_2 ((rd_T48 l1 (ji31)).f2).length c393_2], .string ((rd_T58 t387 x9_2).f1), .int .i64 a2] (by rfl) rfl rfl (by (try simp only [List.map_toArray, List.map_cons, List.map_nil]); (rfl)) ?_
             with_reducible refine (report_Drill.calls k2 _ _ l0_0 _ _ l0_1 _ _ l0_2 a0_3 a0_4 a0_5 a0_6 a0_7 a0_8 a0_9 a0_10 a0_11 a0_12 a0_13 a0_14 a0_15 a0_16 _ _ l0_17 _ _ l0_18 _ _ l0_19 _ _ l0_20 _ _ l0_21 ((rd_T48 l1 (ji31)).f0) ((rd_T48 l1 (ji31)).f1) _ _ ((rd_T48 l1 (ji31)).f2) ((rd_T58 t387 x9_2).f1) a2 t396 t399 _ ?side1 ?side2 ?side3 ?side4 ?side5 ?side6 ?side7 ?side8 ?side9 ?side10 ?side11 ?side12 ?side13 ?side14 ?side15 ?side16 ?side17 ?side18 A35.out).mono ?_
             (case side1 => exact (Kd.C_below HR0_0.out HB.out))
             (case side2 => exact HC0_0.out)
             (case side3 => exact (Kd.C_below HR0_1.out HB.out))
             (case side4 => exact HC0_1.out)
             (case side5 => exact (Kd.C_below HR0_2.out HB.out))
             (case side6 => exact HC0_2.out)
             (case side7 => exact (Kd.C_below HR0_17.out HB.out))
             (case side8 => exact HC0_17.out)
             (case side9 => exact (Kd.C_below HR0_18.out HB.out))
             (case side10 => exact HC0_18.out)
             (case side11 => exact (Kd.C_below HR0_19.out HB.out))
             (case side12 => exact HC0_19.out)
             (case side13 => exact (Kd.C_below HR0_20.out HB.out))
             (case side14 => exact HC0_20.out)
             (case side15 => exact (Kd.C_below HR0_21.out HB.out))
             (case side16 => exact HC0_21.out)
             (case side17 => exact (Kd.C_below HR393_2.out HB.out))
             (case side18 => exact HC393_2.out)
             rintro e w43 ⟨v397, rfl, ho0, hb⟩
             have HS25_ := (hb.cell (World.block_lt_of_cell? _ _ (hHeld.2.2.2.2.2.2.2.2.2.2.2.2.2.2.2.2.2.2.2.2.2.2.2.2.2.1))).trans (hHeld.2.2.2.2.2.2.2.2.2.2.2.2.2.2.2.2.2.2.2.2.2.2.2.2.2.1)
             have HS26_ := (hb.cell (World.block_lt_of_cell? _ _ (hHeld.2.2.2.2.2.2.2.2.2.2.2.2.2.2.2.2.2.2.2.2.2.2.2.2.2.2.1))).trans (hHeld.2.2.2.2.2.2.2.2.2.2.2.2.2.2.2.2.2.2.2.2.2.2.2.2.2.2.1)
             have HS27_ := (hb.cell (World.block_lt_of_cell? _ _ (hHeld.2.2.2.2.2.2.2.2.2.2.2.2.2.2.2.2.2.2.2.2.2.2.2.2.2.2.2))).trans (hHeld.2.2.2.2.2.2.2.2.2.2.2.2.2.2.2.2.2.2.2.2.2.2.2.2.2.2.2)
             refine ⟨_, rfl, ?_⟩
             have n0_ := Aside0.mk (Kd.R_below HO_7.out hb)
             have n1_ := Aside0.mk (Kd.R_lower ho0 (below_size HB.out))
             have n2_ := Aside0.mk (blk_below BK383.out hb)
             have n3_ := Aside0.mk (blk_below BK394.out hb)
             have n4_ := Aside0.mk (below_step HB.out hb)
             clear HO_7
             clear BK383
             clear BK394
             clear HB
             have HO_7 := n0_
             have HO398 := n1_
             have BK383 := n2_
             have BK394 := n3_
             have HB := n4_
             clear n0_ n1_ n2_ n3_ n4_
             (try clear hb)
             (try clear ho0)
             refine hK.out _ _ ⟨(blk_cell BK383.out 0).trans rfl, (blk_cell BK383.out 1).trans rfl, (blk_cell BK383.out 2).trans rfl, (blk_cell BK383.out 3).trans rfl, (blk_cell BK383.out 4).trans rfl, (blk_cell BK383.out 5).trans rfl, (blk_cell BK383.out 6).trans rfl, (blk_cell BK383.out 7).trans rfl, (blk_cell BK383.out 8).trans rfl, (blk_cell BK383.out 9).trans rfl, (blk_cell BK383.out 10).trans rfl, (blk_cell BK383.out 11).trans rfl, (blk_cell BK383.out 12).trans rfl, (blk_cell BK383.out 13).trans rfl, (blk_cell BK383.out 14).trans rfl, (blk_cell BK383.out 15).trans rfl, (blk_cell BK383.out 16).trans rfl, (blk_cell BK383.out 17).trans rfl, (blk_cell BK383.out 18).trans rfl, (blk_cell BK383.out 19).trans rfl, (blk_cell BK383.out 20).trans rfl, (blk_cell BK383.out 21).trans rfl, (blk_cell BK394.out 0).trans rfl, (blk_cell BK394.out 1).trans rfl, (blk_cell BK394.out 2).trans rfl, HS25_, HS26_, HS27_⟩ (fun hHeld => ?_)
             clear hK K
             refine norm_ (a' := ?_) ?_ ?_
             rotate_left
             ·show Act.put _ (some 80) _ = _
              simp only [Act.put, List.setIfInBounds_toArray, List.set_cons_zero, List.set_cons_succ, i64_w, i32_w]
              rfl
             refine pure_ (i := 9) (N := some 71) (v := ?_) (a' := ?_) #[true, true, true, true, true, true, true, true, true, true, false, false, false, false] rfl rfl (any_of HT_.out (by kernel_rfl)) (fun _ _ _ h => h) (Or.inl ⟨by rfl, ?_⟩) ?_ ?_
             rotate_left
             ·intro w'
              go_simp
              with_reducible rfl
             rotate_left
             ·simp only [Act.put, List.setIfInBounds_toArray, List.set_cons_zero, List.set_cons_succ, i64_w, i32_w]
              rfl
             refine pure_ (i := 10) (N := some 81) (v := ?_) (a' := ?_) #[true, true, true, true, true, true, true, true, true, true, true, false, false, false] rfl rfl (any_of HT_.out (by kernel_rfl)) (fun _ _ _ h => h) (Or.inl ⟨by rfl, ?_⟩) ?_ ?_
             rotate_left
             ·intro w'
              go_simp
              with_reducible rfl
             rotate_left
             ·simp only [Act.put, List.setIfInBounds_toArray, List.set_cons_zero, List.set_cons_succ, i64_w, i32_w]
              rfl
             refine pure_ (i := 11) (N := some 82) (v := ?_) (a' := ?_) #[true, true, true, true, true, true, true, true, true, true, true, true, false, false] rfl rfl (any_of HT_.out (by kernel_rfl)) (fun _ _ _ h => h) (Or.inl ⟨by rfl, ?_⟩) ?_ ?_
             rotate_left
             ·intro w'
              go_simp
              with_reducible rfl
             rotate_left
             ·simp only [Act.put, List.setIfInBounds_toArray, List.set_cons_zero, List.set_cons_succ, i64_w, i32_w]
              rfl
             refine pure_ (i := 12) (N := some 11) (v := ?_) (a' := ?_) #[true, true, true, true, true, true, true, true, true, true, true, true, true, false] rfl rfl (any_of HT_.out (by kernel_rfl)) (fun _ _ _ h => h) (Or.inl ⟨by rfl, ?_⟩) ?_ ?_
             rotate_left
             ·intro w'
              go_simp
              with_reducible rfl
             rotate_left
             ·simp only [Act.put, List.setIfInBounds_toArray, List.set_cons_zero, List.set_cons_succ, i64_w, i32_w]
              rfl
             refine pure_ (i := 13) (N := some 12) (v := ?_) (a' := ?_) #[true, true, true, true, true, true, true, true, true, true, true, true, true, true] rfl rfl (any_of HT_.out (by kernel_rfl)) (fun _ _ _ h => h) (Or.inl ⟨by rfl, ?_⟩) ?_ ?_
             rotate_left
             ·intro w'
              go_simp
              with_reducible rfl
             rotate_left
             ·simp only [Act.put, List.setIfInBounds_toArray, List.set_cons_zero, List.set_cons_succ, i64_w, i32_w]
              rfl
             refine done_ (done_of HT_.out (by kernel_rfl)) ?_
             go_upto_region 13 with (fail)
             go_cut [94] (fun v94 wc => ∃ (kq : Nat) (x94_35 : Bool), v94 = .bool x94_35 ∧ Aside0 (corebanklaw49_ReportDrills.j2 kq l1 a2 t387 x9_2 t396 x94_35 l0_0 l0_1 l0_2 a0_3 a0_4 a0_5 a0_6 a0_7 a0_8 a0_9 a0_10 a0_11 a0_12 a0_13 a0_14 a0_15 a0_16 l0_17 l0_18 l0_19 l0_20 l0_21 ((rd_T48 l1 (ji31)).f0) ((rd_T48 l1 (ji31)).f1) ((rd_T48 l1 (ji31)).f2) = some r) ∧ Aside0 (kq ≤ k2) ∧ Aside0 (Kd.R k58 58 wc w.heap.size (fun _ => True) (.slice (some ad395) t387.length co27) t387) ∧ Aside0 (Kd.R (Kd.int .i64) 3 wc w.heap.size (fun _ => True) v397 t396) ∧ Aside0 (wc.heap[gb383]? = some (.cells #[(.slice A0_0 l0_0.length c0_0), (.slice A0_1 l0_1.length c0_1), (.slice A0_2 l0_2.length c0_2), .int .i64 a0_3, .int .i64 a0_4, .int .i64 a0_5, .int .i64 a0_6, .int .i64 a0_7, .int .i64 a0_8, .int .i64 a0_9, .int .i64 a0_10, .int .i64 a0_11, .int .i64 a0_12, .int .i64 a0_13, .int .i64 a0_14, .int .i64 a0_15, .int .i64 a0_16, (.slice A0_17 l0_17.length c0_17), (.slice A0_18 l0_18.length c0_18), (.slice A0_19 l0_19.length c0_19), (.slice A0_20 l0_20.length c0_20), (.slice A0_21 l0_21.length c0_21)] 33 (0, 0))) ∧ Aside0 (wc.heap[gb394]? = some (.cells #[.string ((rd_T48 l1 (ji31)).f0), .int .i64 ((rd_T48 l1 (ji31)).f1), (.slice A393_2 ((rd_T48 l1 (ji31)).f2).length c393_2)] 48 (0, 0))) ∧ Aside0 (Below w.heap.size w wc))
             case first =>
              have H := HC36.out
              clear HC36
              by_cases c44 : t399 = 0
              ·rw [if_pos c44] at H
               have c44b1 : (t399 != 0) = false := bne_eq_false_iff_eq.mpr c44
               clear c44
               have H' := Aside0.mk H
               clear H
               try go_wp2_with (fail)
               have n0_ := Aside0.mk (Kd.R_drew HO_7.out)
               have n1_ := Aside0.mk (Kd.R_drew HO398.out)
               have n2_ := Aside0.mk (blk_drew BK383.out)
               have n3_ := Aside0.mk (blk_drew BK394.out)
               have n4_ := Aside0.mk (below_drew1 HB.out)
               clear HO_7
               clear HO398
               clear BK383
               clear BK394
               clear HB
               have HO_7 := n0_
               have HO398 := n1_
               have BK383 := n2_
               have BK394 := n3_
               have HB := n4_
               clear n0_ n1_ n2_ n3_ n4_
               have p400 : 0 ≤ (x9_2 : Int) := of_decide_eq_true (by (with_reducible assumption))
               have q400 : x9_2 < (t387.length : Int) := of_decide_eq_true (by (with_reducible assumption))
               obtain ⟨ad400, e400, hx400_0, hx400_1, hx400_2⟩ := at_T58 (Kd.R_reads' HO_7.out).2.2 x9_2 p400 q400
               obtain rfl : ad395 = ad400 := (by injection e400)
               replace p400 := eq_true p400
               replace q400 := eq_true q400
               refine start_ (n := 12) (S := fun w' => w'.cell? ⟨gb394, 0, none⟩ = some (.string ((rd_T48 l1 (ji31)).f0)) ∧ w'.cell? ⟨gb394, 1, none⟩ = some (.int .i64 ((rd_T48 l1 (ji31)).f1)) ∧ w'.cell? ⟨gb394, 2, none⟩ = some (.slice A393_2 ((rd_T48 l1 (ji31)).f2).length c393_2) ∧ w'.cell? (ad395.add ((x9_2).toNat * 3)) = some (.string ((rd_T58 t387 x9_2).f0)) ∧ w'.cell? ⟨(ad395.add ((x9_2).toNat * 3)).block, (ad395.add ((x9_2).toNat * 3)).off + 1, none⟩ = some (.string ((rd_T58 t387 x9_2).f1)) ∧ w'.cell? ⟨(ad395.add ((x9_2).toNat * 3)).block, (ad395.add ((x9_2).toNat * 3)).off + 2, none⟩ = some (.int .i64 ((rd_T58 t387 x9_2).f2))) (ds := []) #[false, false, false, false, false, false, false, false, false, false, false, false] (by kernel_rfl) rfl rfl ⟨(blk_cell BK394.out 0).trans rfl, (blk_cell BK394.out 1).trans rfl, (blk_cell BK394.out 2).trans rfl, hx400_0, hx400_1, hx400_2⟩ (fun hHeld => ?_); refine with_tabW corebanklaw49_ReportDrills.tab13 corebanklaw49_ReportDrills.bits13 (fun HT_ HW_ => ?_)
               generalize w43.drew = w45 at HO_7 HO398 BK383 BK394 HB hx400_0 hx400_1 hx400_2 hHeld ⊢
               refine pure_ (i := 0) (N := some 83) (v := ?_) (a' := ?_) #[true, false, false, false, false, false, false, false, false, false, false, false] rfl rfl (any_of HT_.out (by kernel_rfl)) (fun _ _ _ h => h) (Or.inl ⟨by rfl, ?_⟩) ?_ ?_
               rotate_left
               ·intro w'
                go_simp
                with_reducible rfl
               rotate_left
               ·simp only [Act.put, List.setIfInBounds_toArray, List.set_cons_zero, List.set_cons_succ, i64_w, i32_w]
                rfl
               refine pure_ (i := 1) (N := some 84) (v := ?_) (a' := ?_) #[true, true, false, false, false, false, false, false, false, false, false, false] rfl rfl (any_of HT_.out (by kernel_rfl)) (fun _ _ _ h => h) (Or.inl ⟨by rfl, ?_⟩) ?_ ?_
               rotate_left
               ·intro w'
                go_simp
                with_reducible rfl
               rotate_left
               ·simp only [Act.put, List.setIfInBounds_toArray, List.set_cons_zero, List.set_cons_succ, i64_w, i32_w]
                rfl
               refine pure_ (i := 2) (N := some 85) (v := ?_) (a' := ?_) #[true, true, true, false, false, false, false, false, false, false, false, false] rfl rfl (any_of HT_.out (by kernel_rfl)) (fun _ _ _ h => h) (Or.inl ⟨by rfl, ?_⟩) ?_ ?_
               rotate_left
               ·intro w'
                go_simp
                with_reducible rfl
               rotate_left
               ·simp only [Act.put, List.setIfInBounds_toArray, List.set_cons_zero, List.set_cons_succ, i64_w, i32_w]
                rfl
               refine pure_ (i := 3) (N := some 86) (v := ?_) (a' := ?_) #[true, true, true, true, false, false, false, false, false, false, false, false] rfl rfl (any_of HT_.out (by kernel_rfl)) (fun _ _ _ h => h) (Or.inl ⟨by rfl, ?_⟩) ?_ ?_
               rotate_left
               ·intro w'
                go_simp
                with_reducible rfl
               rotate_left
               ·simp only [Act.put, List.setIfInBounds_toArray, List.set_cons_zero, List.set_cons_succ, i64_w, i32_w]
                rfl
               refine pure_ (i := 4) (N := some 87) (v := ?_) (a' := ?_) #[true, true, true, true, true, false, false, false, false, false, false, false] rfl rfl (any_of HT_.out (by kernel_rfl)) (fun _ _ _ h => h) (Or.inl ⟨by rfl, ?_⟩) ?_ ?_
               rotate_left
               ·intro w'
                go_simp
                with_reducible rfl
               rotate_left
               ·simp only [Act.put, List.setIfInBounds_toArray, List.set_cons_zero, List.set_cons_succ, i64_w, i32_w]
                rfl
               refine pure_ (i := 5) (N := some 88) (v := ?_) (a' := ?_) #[true, true, true, true, true, true, false, false, false, false, false, false] rfl rfl (any_of HT_.out (by kernel_rfl)) (fun _ _ _ h => h) (Or.inl ⟨by rfl, ?_⟩) ?_ ?_
               rotate_left
               ·intro w'
                go_simp
                with_reducible rfl
               rotate_left
               ·simp only [Act.put, List.setIfInBounds_toArray, List.set_cons_zero, List.set_cons_succ, i64_w, i32_w]
                rfl
               refine pure_ (i := 6) (N := some 89) (v := ?_) (a' := ?_) #[true, true, true, true, true, true, true, false, false, false, false, false] rfl rfl (any_of HT_.out (by kernel_rfl)) (fun _ _ _ h => h) (Or.inl ⟨by rfl, ?_⟩) ?_ ?_
               rotate_left
               ·intro w'
                go_simp
                with_reducible rfl
               rotate_left
               ·simp only [Act.put, List.setIfInBounds_toArray, List.set_cons_zero, List.set_cons_succ, i64_w, i32_w]
                rfl
               refine pure_ (i := 8) (N := some 91) (v := ?_) (a' := ?_) #[true, true, true, true, true, true, true, false, true, false, false, false] rfl rfl (any_of HT_.out (by kernel_rfl)) (fun _ _ _ h => h) (Or.inl ⟨by rfl, ?_⟩) ?_ ?_
               rotate_left
               ·intro w'
                go_simp
                with_reducible rfl
               rotate_left
               ·simp only [Act.put, List.setIfInBounds_toArray, List.set_cons_zero, List.set_cons_succ, i64_w, i32_w]
                rfl
               refine take_ (i := 7) (N := some 90) (v := ?_) (a' := ?_) #[true, true, true, true, true, true, true, true, true, false, false, false] rfl rfl (take_ofW HT_.out HW_.out (by kernel_rfl)) (fun _ _ _ h => h) (Or.inl ⟨by rfl, ?_⟩) hHeld ?_ ?_
               rotate_left
               ·rintro w' ⟨s0, s1, s2, s3, s4, s5⟩
                go_simp
                with_reducible rfl
               rotate_left
               ·simp only [Act.put, List.setIfInBounds_toArray, List.set_cons_zero, List.set_cons_succ, i64_w, i32_w]
                rfl
               refine take_ (i := 9) (N := some 92) (v := ?_) (a' := ?_) #[true, true, true, true, true, true, true, true, true, true, false, false] rfl rfl (take_ofW HT_.out HW_.out (by kernel_rfl)) (fun _ _ _ h => h) (Or.inl ⟨by rfl, ?_⟩) hHeld ?_ ?_
               rotate_left
               ·rintro w' ⟨s0, s1, s2, s3, s4, s5⟩
                go_simp
                with_reducible rfl
               rotate_left
               ·simp only [Act.put, List.setIfInBounds_toArray, List.set_cons_zero, List.set_cons_succ, i64_w, i32_w]
                rfl
               refine pure_ (i := 10) (N := some 93) (v := ?_) (a' := ?_) #[true, true, true, true, true, true, true, true, true, true, true, false] rfl rfl (any_of HT_.out (by kernel_rfl)) (fun _ _ _ h => h) (Or.inl ⟨by rfl, ?_⟩) ?_ ?_
               rotate_left
               ·intro w'
                go_simp
                with_reducible rfl
               rotate_left
               ·simp only [Act.put, List.setIfInBounds_toArray, List.set_cons_zero, List.set_cons_succ, i64_w, i32_w]
                rfl
               refine pure_ (i := 11) (N := some 94) (v := ?_) (a' := ?_) #[true, true, true, true, true, true, true, true, true, true, true, true] rfl rfl (any_of HT_.out (by kernel_rfl)) (fun _ _ _ h => h) (Or.inl ⟨by rfl, ?_⟩) ?_ ?_
               rotate_left
               ·intro w'
                go_simp
                with_reducible rfl
               rotate_left
               ·simp only [Act.put, List.setIfInBounds_toArray, List.set_cons_zero, List.set_cons_succ, i64_w, i32_w]
                rfl
               refine done_ (done_of HT_.out (by kernel_rfl)) ?_
               try go_wp2_with (fail)
               go_meet
               case rel => exact ⟨_, ((((rd_T58 t387 x9_2).f0).toList != ((rd_T48 l1 (ji31)).f0).toList)), (by rfl), H', ⟨by have := HJ3.out; have := HK2.out; (omega)⟩, ⟨HO_7.out⟩, ⟨HO398.out⟩, ⟨BK383.out⟩, ⟨BK394.out⟩, ⟨HB.out⟩⟩
              ·rw [if_neg c44] at H
               have c44b1 : (t399 != 0) = true := bne_iff_ne.mpr c44
               have H' := Aside0.mk H
               clear H
               try go_wp2_with (fail)
               have n0_ := Aside0.mk (Kd.R_drew HO_7.out)
               have n1_ := Aside0.mk (Kd.R_drew HO398.out)
               have n2_ := Aside0.mk (blk_drew BK383.out)
               have n3_ := Aside0.mk (blk_drew BK394.out)
               have n4_ := Aside0.mk (below_drew1 HB.out)
               clear HO_7
               clear HO398
               clear BK383
               clear BK394
               clear HB
               have HO_7 := n0_
               have HO398 := n1_
               have BK383 := n2_
               have BK394 := n3_
               have HB := n4_
               clear n0_ n1_ n2_ n3_ n4_
               refine start_ (n := 12) (S := fun w' => True) (ds := []) #[false, false, false, false, false, false, false, false, false, false, false, false] (by kernel_rfl) rfl rfl trivial (fun hHeld => ?_); refine with_tabW corebanklaw49_ReportDrills.tab13 corebanklaw49_ReportDrills.bits13 (fun HT_ HW_ => ?_)
               generalize w43.drew = w46 at HO_7 HO398 BK383 BK394 HB hHeld ⊢
               refine pure_ (i := 0) (N := some 83) (v := ?_) (a' := ?_) #[true, false, false, false, false, false, false, false, false, false, false, false] rfl rfl (any_of HT_.out (by kernel_rfl)) (fun _ _ _ h => h) (Or.inl ⟨by rfl, ?_⟩) ?_ ?_
               rotate_left
               ·intro w'
                go_simp
                with_reducible rfl
               rotate_left
               ·simp only [Act.put, List.setIfInBounds_toArray, List.set_cons_zero, List.set_cons_succ, i64_w, i32_w]
                rfl
               refine pure_ (i := 1) (N := some 84) (v := ?_) (a' := ?_) #[true, true, false, false, false, false, false, false, false, false, false, false] rfl rfl (any_of HT_.out (by kernel_rfl)) (fun _ _ _ h => h) (Or.inl ⟨by rfl, ?_⟩) ?_ ?_
               rotate_left
               ·intro w'
                go_simp
                with_reducible rfl
               rotate_left
               ·simp only [Act.put, List.setIfInBounds_toArray, List.set_cons_zero, List.set_cons_succ, i64_w, i32_w]
                rfl
               refine pure_ (i := 2) (N := some 85) (v := ?_) (a' := ?_) #[true, true, true, false, false, false, false, false, false, false, false, false] rfl rfl (any_of HT_.out (by kernel_rfl)) (fun _ _ _ h => h) (Or.inl ⟨by rfl, ?_⟩) ?_ ?_
               rotate_left
               ·intro w'
                go_simp
                with_reducible rfl
               rotate_left
               ·simp only [Act.put, List.setIfInBounds_toArray, List.set_cons_zero, List.set_cons_succ, i64_w, i32_w]
                rfl
               refine pure_ (i := 3) (N := some 86) (v := undef) (a' := ?_) #[true, true, true, true, false, false, false, false, false, false, false, false] rfl rfl (any_of HT_.out (by kernel_rfl)) (fun _ _ _ h => h) (Or.inr ⟨by rfl, rfl⟩) ?_ ?_
               rotate_left
               ·simp only [Act.put, List.setIfInBounds_toArray, List.set_cons_zero, List.set_cons_succ, i64_w, i32_w]
                rfl
               refine pure_ (i := 4) (N := some 87) (v := undef) (a' := ?_) #[true, true, true, true, true, false, false, false, false, false, false, false] rfl rfl (any_of HT_.out (by kernel_rfl)) (fun _ _ _ h => h) (Or.inr ⟨by rfl, rfl⟩) ?_ ?_
               rotate_left
               ·simp only [Act.put, List.setIfInBounds_toArray, List.set_cons_zero, List.set_cons_succ, i64_w, i32_w]
                rfl
               refine pure_ (i := 5) (N := some 88) (v := undef) (a' := ?_) #[true, true, true, true, true, true, false, false, false, false, false, false] rfl rfl (any_of HT_.out (by kernel_rfl)) (fun _ _ _ h => h) (Or.inr ⟨by rfl, rfl⟩) ?_ ?_
               rotate_left
               ·simp only [Act.put, List.setIfInBounds_toArray, List.set_cons_zero, List.set_cons_succ, i64_w, i32_w]
                rfl
               refine pure_ (i := 6) (N := some 89) (v := undef) (a' := ?_) #[true, true, true, true, true, true, true, false, false, false, false, false] rfl rfl (any_of HT_.out (by kernel_rfl)) (fun _ _ _ h => h) (Or.inr ⟨by rfl, rfl⟩) ?_ ?_
               rotate_left
               ·simp only [Act.put, List.setIfInBounds_toArray, List.set_cons_zero, List.set_cons_succ, i64_w, i32_w]
                rfl
               refine pure_ (i := 7) (N := some 90) (v := undef) (a' := ?_) #[true, true, true, true, true, true, true, true, false, false, false, false] rfl rfl (any_of HT_.out (by kernel_rfl)) (fun _ _ _ h => h) (Or.inr ⟨by rfl, rfl⟩) ?_ ?_
               rotate_left
               ·simp only [Act.put, List.setIfInBounds_toArray, List.set_cons_zero, List.set_cons_succ, i64_w, i32_w]
                rfl
               refine pure_ (i := 8) (N := some 91) (v := undef) (a' := ?_) #[true, true, true, true, true, true, true, true, true, false, false, false] rfl rfl (any_of HT_.out (by kernel_rfl)) (fun _ _ _ h => h) (Or.inr ⟨by rfl, rfl⟩) ?_ ?_
               rotate_left
               ·simp only [Act.put, List.setIfInBounds_toArray, List.set_cons_zero, List.set_cons_succ, i64_w, i32_w]
                rfl
               refine pure_ (i := 9) (N := some 92) (v := undef) (a' := ?_) #[true, true, true, true, true, true, true, true, true, true, false, false] rfl rfl (any_of HT_.out (by kernel_rfl)) (fun _ _ _ h => h) (Or.inr ⟨by rfl, rfl⟩) ?_ ?_
               rotate_left
               ·simp only [Act.put, List.setIfInBounds_toArray, List.set_cons_zero, List.set_cons_succ, i64_w, i32_w]
                rfl
               refine pure_ (i := 10) (N := some 93) (v := undef) (a' := ?_) #[true, true, true, true, true, true, true, true, true, true, true, false] rfl rfl (any_of HT_.out (by kernel_rfl)) (fun _ _ _ h => h) (Or.inr ⟨by rfl, rfl⟩) ?_ ?_
               rotate_left
               ·simp only [Act.put, List.setIfInBounds_toArray, List.set_cons_zero, List.set_cons_succ, i64_w, i32_w]
                rfl
               refine pure_ (i := 11) (N := some 94) (v := ?_) (a' := ?_) #[true, true, true, true, true, true, true, true, true, true, true, true] rfl rfl (any_of HT_.out (by kernel_rfl)) (fun _ _ _ h => h) (Or.inl ⟨by rfl, ?_⟩) ?_ ?_
               rotate_left
               ·intro w'
                go_simp
                with_reducible rfl
               rotate_left
               ·simp only [Act.put, List.setIfInBounds_toArray, List.set_cons_zero, List.set_cons_succ, i64_w, i32_w]
                rfl
               refine done_ (done_of HT_.out (by kernel_rfl)) ?_
               try go_wp2_with (fail)
               go_meet
               case rel => exact ⟨_, (true), (by rfl), H', ⟨by have := HJ3.out; have := HK2.out; (omega)⟩, ⟨HO_7.out⟩, ⟨HO398.out⟩, ⟨BK383.out⟩, ⟨BK394.out⟩, ⟨HB.out⟩⟩
             case rest =>
              clear HC36
              try clear c29b0
              try clear c30
              try clear c30b2
              try clear c32b0
              try clear c33b0
              try clear c34b0
              try clear hcz37_0
              try clear hcz40_0
              try clear hcz40_1
              try clear hcz40_2
              try clear hfz40_0
              try clear hfz40_1
              try clear hfz40_2
              try clear hx393_0
              try clear hx393_1
              try clear hx393_2
              try clear hx395_0
              try clear hx395_1
              try clear hx395_2
              try clear p393
              try clear p395
              try clear q393
              try clear q395
              obtain ⟨kq, x94_35, rfl, HA, HJ35, HO_7, HO_11, BK383, BK394, HB⟩ := hcut
              cases kq with
              | zero => exact absurd HA.out (by simp [corebanklaw49_ReportDrills.j2])
              | succ kj35 =>
               have H := HA.out
               clear HA
               simp only [corebanklaw49_ReportDrills.j2] at H
               by_cases c47 : x94_35 = true
               ·subst c47
                have H1 : (some false) = some r := by rw [if_pos rfl] at H; exact H
                clear H
                have H := H1
                clear H1
                obtain rfl := Option.some.inj H
                go_wp2_with (fail)
                go_ret
                exact ⟨by (rfl), HB.out⟩
               ·replace c47 := Bool.eq_false_iff.mpr c47
                subst c47
                have H1 : (corebanklaw49_ReportDrills.l1 kj35 l1 a2 t387 x9_2 t396 0 0 l0_0 l0_1 l0_2 a0_3 a0_4 a0_5 a0_6 a0_7 a0_8 a0_9 a0_10 a0_11 a0_12 a0_13 a0_14 a0_15 a0_16 l0_17 l0_18 l0_19 l0_20 l0_21 ((rd_T48 l1 (ji31)).f0) ((rd_T48 l1 (ji31)).f1) ((rd_T48 l1 (ji31)).f2)) = some r := by rw [if_neg (show ¬ (false = true) by decide)] at H; exact H
                clear H
                have H := H1
                clear H1
                have H' := Aside0.mk H
                clear H
                go_wp2_with (fail)
                go_loopg [13, 14] kj35 (fun kq v13 v14 w' => ∃ (x13_4 : Int) (x14_4 : Int), v13 = .int .i64 x13_4 ∧ v14 = .int .i64 x14_4 ∧ Aside0 (corebanklaw49_ReportDrills.l1 kq l1 a2 t387 x9_2 t396 x13_4 x14_4 l0_0 l0_1 l0_2 a0_3 a0_4 a0_5 a0_6 a0_7 a0_8 a0_9 a0_10 a0_11 a0_12 a0_13 a0_14 a0_15 a0_16 l0_17 l0_18 l0_19 l0_20 l0_21 ((rd_T48 l1 (ji31)).f0) ((rd_T48 l1 (ji31)).f1) ((rd_T48 l1 (ji31)).f2) = some r) ∧ Aside0 (kq ≤ kj35) ∧ Aside0 (Kd.R k58 58 w' w.heap.size (fun _ => True) (.slice (some ad395) t387.length co27) t387) ∧ Aside0 (Kd.R (Kd.int .i64) 3 w' w.heap.size (fun _ => True) v397 t396) ∧ Aside0 (w'.heap[gb383]? = some (.cells #[(.slice A0_0 l0_0.length c0_0), (.slice A0_1 l0_1.length c0_1), (.slice A0_2 l0_2.length c0_2), .int .i64 a0_3, .int .i64 a0_4, .int .i64 a0_5, .int .i64 a0_6, .int .i64 a0_7, .int .i64 a0_8, .int .i64 a0_9, .int .i64 a0_10, .int .i64 a0_11, .int .i64 a0_12, .int .i64 a0_13, .int .i64 a0_14, .int .i64 a0_15, .int .i64 a0_16, (.slice A0_17 l0_17.length c0_17), (.slice A0_18 l0_18.length c0_18), (.slice A0_19 l0_19.length c0_19), (.slice A0_20 l0_20.length c0_20), (.slice A0_21 l0_21.length c0_21)] 33 (0, 0))) ∧ Aside0 (w'.heap[gb394]? = some (.cells #[.string ((rd_T48 l1 (ji31)).f0), .int .i64 ((rd_T48 l1 (ji31)).f1), (.slice A393_2 ((rd_T48 l1 (ji31)).f2).length c393_2)] 48 (0, 0))) ∧ Aside0 (Below w.heap.size w w'))
                case atStart => exact ⟨(0), (0), (by rfl), (by rfl), H', ⟨Nat.le_refl _⟩, ⟨HO_7.out⟩, ⟨HO_11.out⟩, ⟨BK383.out⟩, ⟨BK394.out⟩, ⟨HB.out⟩⟩
                case round =>
                 clear H'
                 obtain ⟨x13_4, x14_4, rfl, rfl, HA, HK4, HO_7, HO_11, BK383, BK394, HB⟩ := hrel
                 cases gk with
                 | zero => exact absurd HA.out (by simp [corebanklaw49_ReportDrills.l1])
                 | succ k4 =>
                  have H := HA.out
                  clear HA
                  simp only [corebanklaw49_ReportDrills.l1] at H
                  by_cases c48 : x14_4 < (t396.length : Int)
                  ·rw [if_pos c48] at H
                   have c48b0 : decide (x14_4 < (t396.length : Int)) = true := decide_eq_true c48
                   clear c48
                   by_cases c49 : 0 ≤ x9_2
                   ·rw [if_pos c49] at H
                    have c49b0 : decide (0 ≤ x9_2) = true := decide_eq_true c49
                    clear c49
                    by_cases c50 : x9_2 < (t387.length : Int)
                    ·rw [if_pos c50] at H
                     have c50b0 : decide (x9_2 < (t387.length : Int)) = true := decide_eq_true c50
                     clear c50
                     by_cases c51 : 0 ≤ x14_4
                     ·rw [if_pos c51] at H
                      have c51b0 : decide (0 ≤ x14_4) = true := decide_eq_true c51
                      clear c51
                      replace H := Option.bind_eq_some_iff.mp H
                      obtain ⟨t403, A520, H⟩ := H
                      replace H : (if t403 = 0 then (some false) else (corebanklaw49_ReportDrills.l1 k4 l1 a2 t387 x9_2 t396 (wrap64 (x13_4 + t403)) (wrap64 (x14_4 + 1)) l0_0 l0_1 l0_2 a0_3 a0_4 a0_5 a0_6 a0_7 a0_8 a0_9 a0_10 a0_11 a0_12 a0_13 a0_14 a0_15 a0_16 l0_17 l0_18 l0_19 l0_20 l0_21 ((rd_T48 l1 (ji31)).f0) ((rd_T48 l1 (ji31)).f1) ((rd_T48 l1 (ji31)).f2))) = some r := H
                      have A52 := Aside0.mk A520
                      clear A520
                      by_cases c53 : t403 = 0
                      ·rw [if_pos c53] at H
                       have c53b0 : (t403 == 0) = true := beq_iff_eq.mpr c53
                       clear c53
                       obtain rfl := Option.some.inj H
                       obtain ⟨Ao54, co54, eo54⟩ := Kd.R_slice HO_11.out
                       subst eo54
                       try go_wp2_with (fail)
                       have n0_ := Aside0.mk (Kd.R_drew HO_7.out)
                       have n1_ := Aside0.mk (Kd.R_drew HO_11.out)
                       have n2_ := Aside0.mk (blk_drew BK383.out)
                       have n3_ := Aside0.mk (blk_drew BK394.out)
                       have n4_ := Aside0.mk (below_drew1 HB.out)
                       clear HO_7
                       clear HO_11
                       clear BK383
                       clear BK394
                       clear HB
                       have HO_7 := n0_
                       have HO_11 := n1_
                       have BK383 := n2_
                       have BK394 := n3_
                       have HB := n4_
                       clear n0_ n1_ n2_ n3_ n4_
                       have p401 : 0 ≤ (x9_2 : Int) := of_decide_eq_true (by (with_reducible assumption))
                       have q401 : x9_2 < (t387.length : Int) := of_decide_eq_true (by (with_reducible assumption))
                       obtain ⟨ad401, e401, hx401_0, hx401_1, hx401_2⟩ := at_T58 (Kd.R_reads' HO_7.out).2.2 x9_2 p401 q401
                       obtain rfl : ad395 = ad401 := (by injection e401)
                       replace p401 := eq_true p401
                       replace q401 := eq_true q401
                       have p402 : 0 ≤ (x14_4 : Int) := of_decide_eq_true (by (with_reducible assumption))
                       have q402 : x14_4 < (t396.length : Int) := of_decide_eq_true (by (with_reducible assumption))
                       obtain ⟨ad402, e402, hx402_0⟩ := Kd.at_int (Kd.R_reads' HO_11.out).2.2 x14_4 p402 q402
                       cases e402
                       replace p402 := eq_true p402
                       replace q402 := eq_true q402
                       refine start_ (n := 13) (S := fun w' => w'.cell? ⟨gb383, 0, none⟩ = some (.slice A0_0 l0_0.length c0_0) ∧ w'.cell? ⟨gb383, 1, none⟩ = some (.slice A0_1 l0_1.length c0_1) ∧ w'.cell? ⟨gb383, 2, none⟩ = some (.slice A0_2 l0_2.length c0_2) ∧ w'.cell? ⟨gb383, 3, none⟩ = some (.int .i64 a0_3) ∧ w'.cell? ⟨gb383, 4, none⟩ = some (.int .i64 a0_4) ∧ w'.cell? ⟨gb383, 5, none⟩ = some (.int .i64 a0_5) ∧ w'.cell? ⟨gb383, 6, none⟩ = some (.int .i64 a0_6) ∧ w'.cell? ⟨gb383, 7, none⟩ = some (.int .i64 a0_7) ∧ w'.cell? ⟨gb383, 8, none⟩ = some (.int .i64 a0_8) ∧ w'.cell? ⟨gb383, 9, none⟩ = some (.int .i64 a0_9) ∧ w'.cell? ⟨gb383, 10, none⟩ = some (.int .i64 a0_10) ∧ w'.cell? ⟨gb383, 11, none⟩ = some (.int .i64 a0_11) ∧ w'.cell? ⟨gb383, 12, none⟩ = some (.int .i64 a0_12) ∧ w'.cell? ⟨gb383, 13, none⟩ = some (.int .i64 a0_13) ∧ w'.cell? ⟨gb383, 14, none⟩ = some (.int .i64 a0_14) ∧ w'.cell? ⟨gb383, 15, none⟩ = some (.int .i64 a0_15) ∧ w'.cell? ⟨gb383, 16, none⟩ = some (.int .i64 a0_16) ∧ w'.cell? ⟨gb383, 17, none⟩ = some (.slice A0_17 l0_17.length c0_17) ∧ w'.cell? ⟨gb383, 18, none⟩ = some (.slice A0_18 l0_18.length c0_18) ∧ w'.cell? ⟨gb383, 19, none⟩ = some (.slice A0_19 l0_19.length c0_19) ∧ w'.cell? ⟨gb383, 20, none⟩ = some (.slice A0_20 l0_20.length c0_20) ∧ w'.cell? ⟨gb383, 21, none⟩ = some (.slice A0_21 l0_21.length c0_21) ∧ w'.cell? ⟨gb394, 0, none⟩ = some (.string ((rd_T48 l1 (ji31)).f0)) ∧ w'.cell? ⟨gb394, 1, none⟩ = some (.int .i64 ((rd_T48 l1 (ji31)).f1)) ∧ w'.cell? ⟨gb394, 2, none⟩ = some (.slice A393_2 ((rd_T48 l1 (ji31)).f2).length c393_2) ∧ w'.cell? (ad395.add ((x9_2).toNat * 3)) = some (.string ((rd_T58 t387 x9_2).f0)) ∧ w'.cell? ⟨(ad395.add ((x9_2).toNat * 3)).block, (ad395.add ((x9_2).toNat * 3)).off + 1, none⟩ = some (.string ((rd_T58 t387 x9_2).f1)) ∧ w'.cell? ⟨(ad395.add ((x9_2).toNat * 3)).block, (ad395.add ((x9_2).toNat * 3)).off + 2, none⟩ = some (.int .i64 ((rd_T58 t387 x9_2).f2)) ∧ w'.cell? (ad402.add (x14_4).toNat) = some (.int .i64 (rd t396 x14_4))) (ds := []) #[false, false, false, false, false, false, false, false, false, false, false, false, false] (by kernel_rfl) rfl rfl ⟨(blk_cell BK383.out 0).trans rfl, (blk_cell BK383.out 1).trans rfl, (blk_cell BK383.out 2).trans rfl, (blk_cell BK383.out 3).trans rfl, (blk_cell BK383.out 4).trans rfl, (blk_cell BK383.out 5).trans rfl, (blk_cell BK383.out 6).trans rfl, (blk_cell BK383.out 7).trans rfl, (blk_cell BK383.out 8).trans rfl, (blk_cell BK383.out 9).trans rfl, (blk_cell BK383.out 10).trans rfl, (blk_cell BK383.out 11).trans rfl, (blk_cell BK383.out 12).trans rfl, (blk_cell BK383.out 13).trans rfl, (blk_cell BK383.out 14).trans rfl, (blk_cell BK383.out 15).trans rfl, (blk_cell BK383.out 16).trans rfl, (blk_cell BK383.out 17).trans rfl, (blk_cell BK383.out 18).trans rfl, (blk_cell BK383.out 19).trans rfl, (blk_cell BK383.out 20).trans rfl, (blk_cell BK383.out 21).trans rfl, (blk_cell BK394.out 0).trans rfl, (blk_cell BK394.out 1).trans rfl, (blk_cell BK394.out 2).trans rfl, hx401_0, hx401_1, hx401_2, hx402_0⟩ (fun hHeld => ?_); refine with_tabW corebanklaw49_ReportDrills.tab19 corebanklaw49_ReportDrills.bits19 (fun HT_ HW_ => ?_)
                       generalize wr.drew = w55 at HO_7 HO_11 BK383 BK394 HB hx401_0 hx401_1 hx401_2 hx402_0 hHeld ⊢
                       refine pure_ (i := 2) (N := some 103) (v := ?_) (a' := ?_) #[false, false, true, false, false, false, false, false, false, false, false, false, false] rfl rfl (any_of HT_.out (by kernel_rfl)) (fun _ _ _ h => h) (Or.inl ⟨by rfl, ?_⟩) ?_ ?_
                       rotate_left
                       ·intro w'
                        go_simp
                        with_reducible rfl
                       rotate_left
                       ·simp only [Act.put, List.setIfInBounds_toArray, List.set_cons_zero, List.set_cons_succ, i64_w, i32_w]
                        rfl
                       refine pure_ (i := 3) (N := some 104) (v := ?_) (a' := ?_) #[false, false, true, true, false, false, false, false, false, false, false, false, false] rfl rfl (any_of HT_.out (by kernel_rfl)) (fun _ _ _ h => h) (Or.inl ⟨by rfl, ?_⟩) ?_ ?_
                       rotate_left
                       ·intro w'
                        go_simp
                        with_reducible rfl
                       rotate_left
                       ·simp only [Act.put, List.setIfInBounds_toArray, List.set_cons_zero, List.set_cons_succ, i64_w, i32_w]
                        rfl
                       refine pure_ (i := 4) (N := some 105) (v := ?_) (a' := ?_) #[false, false, true, true, true, false, false, false, false, false, false, false, false] rfl rfl (any_of HT_.out (by kernel_rfl)) (fun _ _ _ h => h) (Or.inl ⟨by rfl, ?_⟩) ?_ ?_
                       rotate_left
                       ·intro w'
                        go_simp
                        with_reducible rfl
                       rotate_left
                       ·simp only [Act.put, List.setIfInBounds_toArray, List.set_cons_zero, List.set_cons_succ, i64_w, i32_w]
                        rfl
                       refine pure_ (i := 5) (N := some 106) (v := ?_) (a' := ?_) #[false, false, true, true, true, true, false, false, false, false, false, false, false] rfl rfl (any_of HT_.out (by kernel_rfl)) (fun _ _ _ h => h) (Or.inl ⟨by rfl, ?_⟩) ?_ ?_
                       rotate_left
                       ·intro w'
                        go_simp
                        with_reducible rfl
                       rotate_left
                       ·simp only [Act.put, List.setIfInBounds_toArray, List.set_cons_zero, List.set_cons_succ, i64_w, i32_w]
                        rfl
                       refine pure_ (i := 7) (N := some 108) (v := ?_) (a' := ?_) #[false, false, true, true, true, true, false, true, false, false, false, false, false] rfl rfl (any_of HT_.out (by kernel_rfl)) (fun _ _ _ h => h) (Or.inl ⟨by rfl, ?_⟩) ?_ ?_
                       rotate_left
                       ·intro w'
                        go_simp
                        with_reducible rfl
                       rotate_left
                       ·simp only [Act.put, List.setIfInBounds_toArray, List.set_cons_zero, List.set_cons_succ, i64_w, i32_w]
                        rfl
                       refine pure_ (i := 8) (N := some 109) (v := ?_) (a' := ?_) #[false, false, true, true, true, true, false, true, true, false, false, false, false] rfl rfl (any_of HT_.out (by kernel_rfl)) (fun _ _ _ h => h) (Or.inl ⟨by rfl, ?_⟩) ?_ ?_
                       rotate_left
                       ·intro w'
                        go_simp
                        with_reducible rfl
                       rotate_left
                       ·simp only [Act.put, List.setIfInBounds_toArray, List.set_cons_zero, List.set_cons_succ, i64_w, i32_w]
                        rfl
                       refine pure_ (i := 9) (N := some 110) (v := ?_) (a' := ?_) #[false, false, true, true, true, true, false, true, true, true, false, false, false] rfl rfl (any_of HT_.out (by kernel_rfl)) (fun _ _ _ h => h) (Or.inl ⟨by rfl, ?_⟩) ?_ ?_
                       rotate_left
                       ·intro w'
                        go_simp
                        with_reducible rfl
                       rotate_left
                       ·simp only [Act.put, List.setIfInBounds_toArray, List.set_cons_zero, List.set_cons_succ, i64_w, i32_w]
                        rfl
                       refine take_ (i := 0) (N := some 101) (v := ?_) (a' := ?_) #[true, false, true, true, true, true, false, true, true, true, false, false, false] rfl rfl (take_ofW HT_.out HW_.out (by kernel_rfl)) (fun _ _ _ h => h) (Or.inl ⟨by rfl, ?_⟩) hHeld ?_ ?_
                       rotate_left
                       ·rintro w' ⟨s0, s1, s2, s3, s4, s5, s6, s7, s8, s9, s10, s11, s12, s13, s14, s15, s16, s17, s18, s19, s20, s21, s22, s23, s24, s25, s26, s27, s28⟩
                        refine (run_load_wide 33 (.tmp 3) (by rfl) gb383 (by rfl) #[.slice A0_0 l0_0.length c0_0, .slice A0_1 l0_1.length c0_1, .slice A0_2 l0_2.length c0_2, .int .i64 a0_3, .int .i64 a0_4, .int .i64 a0_5, .int .i64 a0_6, .int .i64 a0_7, .int .i64 a0_8, .int .i64 a0_9, .int .i64 a0_10, .int .i64 a0_11, .int .i64 a0_12, .int .i64 a0_13, .int .i64 a0_14, .int .i64 a0_15, .int .i64 a0_16, .slice A0_17 l0_17.length c0_17, .slice A0_18 l0_18.length c0_18, .slice A0_19 l0_19.length c0_19, .slice A0_20 l0_20.length c0_20, .slice A0_21 l0_21.length c0_21] Try.underlying33 rfl (by kernel_rfl) ⟨s0, s1, s2, s3, s4, s5, s6, s7, s8, s9, s10, s11, s12, s13, s14, s15, s16, s17, s18, s19, s20, s21, trivial⟩).trans ?_
                        with_reducible rfl
                       rotate_left
                       ·simp only [Act.put, List.setIfInBounds_toArray, List.set_cons_zero, List.set_cons_succ, i64_w, i32_w]
                        rfl
                       refine take_ (i := 1) (N := some 102) (v := ?_) (a' := ?_) #[true, true, true, true, true, true, false, true, true, true, false, false, false] rfl rfl (take_ofW HT_.out HW_.out (by kernel_rfl)) (fun _ _ _ h => h) (Or.inl ⟨by rfl, ?_⟩) hHeld ?_ ?_
                       rotate_left
                       ·rintro w' ⟨s0, s1, s2, s3, s4, s5, s6, s7, s8, s9, s10, s11, s12, s13, s14, s15, s16, s17, s18, s19, s20, s21, s22, s23, s24, s25, s26, s27, s28⟩
                        go_simp
                        with_reducible rfl
                       rotate_left
                       ·simp only [Act.put, List.setIfInBounds_toArray, List.set_cons_zero, List.set_cons_succ, i64_w, i32_w]
                        rfl
                       refine take_ (i := 6) (N := some 107) (v := ?_) (a' := ?_) #[true, true, true, true, true, true, true, true, true, true, false, false, false] rfl rfl (take_ofW HT_.out HW_.out (by kernel_rfl)) (fun _ _ _ h => h) (Or.inl ⟨by rfl, ?_⟩) hHeld ?_ ?_
                       rotate_left
                       ·rintro w' ⟨s0, s1, s2, s3, s4, s5, s6, s7, s8, s9, s10, s11, s12, s13, s14, s15, s16, s17, s18, s19, s20, s21, s22, s23, s24, s25, s26, s27, s28⟩
                        go_simp
                        with_reducible rfl
                       rotate_left
                       ·simp only [Act.put, List.setIfInBounds_toArray, List.set_cons_zero, List.set_cons_succ, i64_w, i32_w]
                        rfl
                       refine take_ (i := 10) (N := some 111) (v := ?_) (a' := ?_) #[true, true, true, true, true, true, true, true, true, true, true, false, false] rfl rfl (take_ofW HT_.out HW_.out (by kernel_rfl)) (fun _ _ _ h => h) (Or.inl ⟨by rfl, ?_⟩) hHeld ?_ ?_
                       rotate_left
                       ·rintro w' ⟨s0, s1, s2, s3, s4, s5, s6, s7, s8, s9, s10, s11, s12, s13, s14, s15, s16, s17, s18, s19, s20, s21, s22, s23, s24, s25, s26, s27, s28⟩
                        go_simp
                        with_reducible rfl
                       rotate_left
                       ·simp only [Act.put, List.setIfInBounds_toArray, List.set_cons_zero, List.set_cons_succ, i64_w, i32_w]
                        rfl
                       refine one_ (i := 11) (N := some 112) #[true, true, true, true, true, true, true, true, true, true, true, true, false] rfl rfl (one_of HT_.out (by kernel_rfl)) (by decide) (fun K hK => ?_)
                       refine goes_ Try.func26 (by kernel_rfl) rfl #[.agg #[.slice A0_0 l0_0.length c0_0, .slice A0_1 l0_1.length c0_1, .slice A0_2 l0_2.length c0_2, .int .i64 a0_3, .int .i64 a0_4, .int .i64 a0_5, .int .i64 a0_6, .int .i64 a0_7, .int .i64 a0_8, .int .i64 a0_9, .int .i64 a0_10, .int .i64 a0_11, .int .i64 a0_12, .int .i64 a0_13, .int .i64 a0_14, .int .i64 a0_15, .int .i64 a0_16, .slice A0_17 l0_17.length c0_17, .slice A0_18 l0_18.length c0_18, .slice A0_19 l0_19.length c0_19, .slice A0_20 l0_20.length c0_20, .slice A0_21 l0_21.length c0_21], .agg #[.string ((rd_T48 l1 (ji31)).f0), .int .i64 ((rd_T48 l1 (ji31)).f1), .slice A393_2 ((rd_T48 l1 (ji31)).f2).length c393_2], .string ((rd_T58 t387 x9_2).f1), .int .i64 (rd t396 x14_4)] (by rfl) rfl rfl (by (try simp only [List.map_toArray, List.map_cons, List.map_nil]); (rfl)) ?_
                       with_reducible refine (report_Amount.calls k4 _ _ l0_0 _ _ l0_1 _ _ l0_2 a0_3 a0_4 a0_5 a0_6 a0_7 a0_8 a0_9 a0_10 a0_11 a0_12 a0_13 a0_14 a0_15 a0_16 _ _ l0_17 _ _ l0_18 _ _ l0_19 _ _ l0_20 _ _ l0_21 ((rd_T48 l1 (ji31)).f0) ((rd_T48 l1 (ji31)).f1) _ _ ((rd_T48 l1 (ji31)).f2) ((rd_T58 t387 x9_2).f1) (rd t396 x14_4) t403 _ ?side1 ?side2 ?side3 ?side4 ?side5 ?side6 ?side7 ?side8 ?side9 ?side10 ?side11 ?side12 ?side13 ?side14 ?side15 ?side16 ?side17 ?side18 A52.out).mono ?_
                       (case side1 => exact (Kd.C_below HR0_0.out HB.out))
                       (case side2 => exact HC0_0.out)
                       (case side3 => exact (Kd.C_below HR0_1.out HB.out))
                       (case side4 => exact HC0_1.out)
                       (case side5 => exact (Kd.C_below HR0_2.out HB.out))
                       (case side6 => exact HC0_2.out)
                       (case side7 => exact (Kd.C_below HR0_17.out HB.out))
                       (case side8 => exact HC0_17.out)
                       (case side9 => exact (Kd.C_below HR0_18.out HB.out))
                       (case side10 => exact HC0_18.out)
                       (case side11 => exact (Kd.C_below HR0_19.out HB.out))
                       (case side12 => exact HC0_19.out)
                       (case side13 => exact (Kd.C_below HR0_20.out HB.out))
                       (case side14 => exact HC0_20.out)
                       (case side15 => exact (Kd.C_below HR0_21.out HB.out))
                       (case side16 => exact HC0_21.out)
                       (case side17 => exact (Kd.C_below HR393_2.out HB.out))
                       (case side18 => exact HC393_2.out)
                       rintro e w56 ⟨rfl, hb⟩
                       have HS25_ := (hb.cell (World.block_lt_of_cell? _ _ (hHeld.2.2.2.2.2.2.2.2.2.2.2.2.2.2.2.2.2.2.2.2.2.2.2.2.2.1))).trans (hHeld.2.2.2.2.2.2.2.2.2.2.2.2.2.2.2.2.2.2.2.2.2.2.2.2.2.1)
                       have HS26_ := (hb.cell (World.block_lt_of_cell? _ _ (hHeld.2.2.2.2.2.2.2.2.2.2.2.2.2.2.2.2.2.2.2.2.2.2.2.2.2.2.1))).trans (hHeld.2.2.2.2.2.2.2.2.2.2.2.2.2.2.2.2.2.2.2.2.2.2.2.2.2.2.1)
                       have HS27_ := (hb.cell (World.block_lt_of_cell? _ _ (hHeld.2.2.2.2.2.2.2.2.2.2.2.2.2.2.2.2.2.2.2.2.2.2.2.2.2.2.2.1))).trans (hHeld.2.2.2.2.2.2.2.2.2.2.2.2.2.2.2.2.2.2.2.2.2.2.2.2.2.2.2.1)
                       have HS28_ := (hb.cell (World.block_lt_of_cell? _ _ (hHeld.2.2.2.2.2.2.2.2.2.2.2.2.2.2.2.2.2.2.2.2.2.2.2.2.2.2.2.2))).trans (hHeld.2.2.2.2.2.2.2.2.2.2.2.2.2.2.2.2.2.2.2.2.2.2.2.2.2.2.2.2)
                       refine ⟨_, rfl, ?_⟩
                       have n0_ := Aside0.mk (Kd.R_below HO_7.out hb)
                       have n1_ := Aside0.mk (Kd.R_below HO_11.out hb)
                       have n2_ := Aside0.mk (blk_below BK383.out hb)
                       have n3_ := Aside0.mk (blk_below BK394.out hb)
                       have n4_ := Aside0.mk (below_step HB.out hb)
                       clear HO_7
                       clear HO_11
                       clear BK383
                       clear BK394
                       clear HB
                       have HO_7 := n0_
                       have HO_11 := n1_
                       have BK383 := n2_
                       have BK394 := n3_
                       have HB := n4_
                       clear n0_ n1_ n2_ n3_ n4_
                       (try clear hb)
                       refine hK.out _ _ ⟨(blk_cell BK383.out 0).trans rfl, (blk_cell BK383.out 1).trans rfl, (blk_cell BK383.out 2).trans rfl, (blk_cell BK383.out 3).trans rfl, (blk_cell BK383.out 4).trans rfl, (blk_cell BK383.out 5).trans rfl, (blk_cell BK383.out 6).trans rfl, (blk_cell BK383.out 7).trans rfl, (blk_cell BK383.out 8).trans rfl, (blk_cell BK383.out 9).trans rfl, (blk_cell BK383.out 10).trans rfl, (blk_cell BK383.out 11).trans rfl, (blk_cell BK383.out 12).trans rfl, (blk_cell BK383.out 13).trans rfl, (blk_cell BK383.out 14).trans rfl, (blk_cell BK383.out 15).trans rfl, (blk_cell BK383.out 16).trans rfl, (blk_cell BK383.out 17).trans rfl, (blk_cell BK383.out 18).trans rfl, (blk_cell BK383.out 19).trans rfl, (blk_cell BK383.out 20).trans rfl, (blk_cell BK383.out 21).trans rfl, (blk_cell BK394.out 0).trans rfl, (blk_cell BK394.out 1).trans rfl, (blk_cell BK394.out 2).trans rfl, HS25_, HS26_, HS27_, HS28_⟩ (fun hHeld => ?_)
                       clear hK K
                       refine norm_ (a' := ?_) ?_ ?_
                       rotate_left
                       ·show Act.put _ (some 112) _ = _
                        simp only [Act.put, List.setIfInBounds_toArray, List.set_cons_zero, List.set_cons_succ, i64_w, i32_w]
                        rfl
                       refine pure_ (i := 12) (N := some 15) (v := ?_) (a' := ?_) #[true, true, true, true, true, true, true, true, true, true, true, true, true] rfl rfl (any_of HT_.out (by kernel_rfl)) (fun _ _ _ h => h) (Or.inl ⟨by rfl, ?_⟩) ?_ ?_
                       rotate_left
                       ·intro w'
                        go_simp
                        with_reducible rfl
                       rotate_left
                       ·simp only [Act.put, List.setIfInBounds_toArray, List.set_cons_zero, List.set_cons_succ, i64_w, i32_w]
                        rfl
                       refine done_ (done_of HT_.out (by kernel_rfl)) ?_
                       try go_wp2_with (fail)
                       go_ret
                       exact ⟨by (rfl), HB.out⟩
                      ·rw [if_neg c53] at H
                       have c53b0 : (t403 == 0) = false := beq_eq_false_iff_ne.mpr c53
                       have H' := Aside0.mk H
                       clear H
                       obtain ⟨Ao57, co57, eo57⟩ := Kd.R_slice HO_11.out
                       subst eo57
                       try go_wp2_with (fail)
                       have n0_ := Aside0.mk (Kd.R_drew HO_7.out)
                       have n1_ := Aside0.mk (Kd.R_drew HO_11.out)
                       have n2_ := Aside0.mk (blk_drew BK383.out)
                       have n3_ := Aside0.mk (blk_drew BK394.out)
                       have n4_ := Aside0.mk (below_drew1 HB.out)
                       clear HO_7
                       clear HO_11
                       clear BK383
                       clear BK394
                       clear HB
                       have HO_7 := n0_
                       have HO_11 := n1_
                       have BK383 := n2_
                       have BK394 := n3_
                       have HB := n4_
                       clear n0_ n1_ n2_ n3_ n4_
                       have p401 : 0 ≤ (x9_2 : Int) := of_decide_eq_true (by (with_reducible assumption))
                       have q401 : x9_2 < (t387.length : Int) := of_decide_eq_true (by (with_reducible assumption))
                       obtain ⟨ad401, e401, hx401_0, hx401_1, hx401_2⟩ := at_T58 (Kd.R_reads' HO_7.out).2.2 x9_2 p401 q401
                       obtain rfl : ad395 = ad401 := (by injection e401)
                       replace p401 := eq_true p401
                       replace q401 := eq_true q401
                       have p402 : 0 ≤ (x14_4 : Int) := of_decide_eq_true (by (with_reducible assumption))
                       have q402 : x14_4 < (t396.length : Int) := of_decide_eq_true (by (with_reducible assumption))
                       obtain ⟨ad402, e402, hx402_0⟩ := Kd.at_int (Kd.R_reads' HO_11.out).2.2 x14_4 p402 q402
                       cases e402
                       replace p402 := eq_true p402
                       replace q402 := eq_true q402
                       refine start_ (n := 13) (S := fun w' => w'.cell? ⟨gb383, 0, none⟩ = some (.slice A0_0 l0_0.length c0_0) ∧ w'.cell? ⟨gb383, 1, none⟩ = some (.slice A0_1 l0_1.length c0_1) ∧ w'.cell? ⟨gb383, 2, none⟩ = some (.slice A0_2 l0_2.length c0_2) ∧ w'.cell? ⟨gb383, 3, none⟩ = some (.int .i64 a0_3) ∧ w'.cell? ⟨gb383, 4, none⟩ = some (.int .i64 a0_4) ∧ w'.cell? ⟨gb383, 5, none⟩ = some (.int .i64 a0_5) ∧ w'.cell? ⟨gb383, 6, none⟩ = some (.int .i64 a0_6) ∧ w'.cell? ⟨gb383, 7, none⟩ = some (.int .i64 a0_7) ∧ w'.cell? ⟨gb383, 8, none⟩ = some (.int .i64 a0_8) ∧ w'.cell? ⟨gb383, 9, none⟩ = some (.int .i64 a0_9) ∧ w'.cell? ⟨gb383, 10, none⟩ = some (.int .i64 a0_10) ∧ w'.cell? ⟨gb383, 11, none⟩ = some (.int .i64 a0_11) ∧ w'.cell? ⟨gb383, 12, none⟩ = some (.int .i64 a0_12) ∧ w'.cell? ⟨gb383, 13, none⟩ = some (.int .i64 a0_13) ∧ w'.cell? ⟨gb383, 14, none⟩ = some (.int .i64 a0_14) ∧ w'.cell? ⟨gb383, 15, none⟩ = some (.int .i64 a0_15) ∧ w'.cell? ⟨gb383, 16, none⟩ = some (.int .i64 a0_16) ∧ w'.cell? ⟨gb383, 17, none⟩ = some (.slice A0_17 l0_17.length c0_17) ∧ w'.cell? ⟨gb383, 18, none⟩ = some (.slice A0_18 l0_18.length c0_18) ∧ w'.cell? ⟨gb383, 19, none⟩ = some (.slice A0_19 l0_19.length c0_19) ∧ w'.cell? ⟨gb383, 20, none⟩ = some (.slice A0_20 l0_20.length c0_20) ∧ w'.cell? ⟨gb383, 21, none⟩ = some (.slice A0_21 l0_21.length c0_21) ∧ w'.cell? ⟨gb394, 0, none⟩ = some (.string ((rd_T48 l1 (ji31)).f0)) ∧ w'.cell? ⟨gb394, 1, none⟩ = some (.int .i64 ((rd_T48 l1 (ji31)).f1)) ∧ w'.cell? ⟨gb394, 2, none⟩ = some (.slice A393_2 ((rd_T48 l1 (ji31)).f2).length c393_2) ∧ w'.cell? (ad395.add ((x9_2).toNat * 3)) = some (.string ((rd_T58 t387 x9_2).f0)) ∧ w'.cell? ⟨(ad395.add ((x9_2).toNat * 3)).block, (ad395.add ((x9_2).toNat * 3)).off + 1, none⟩ = some (.string ((rd_T58 t387 x9_2).f1)) ∧ w'.cell? ⟨(ad395.add ((x9_2).toNat * 3)).block, (ad395.add ((x9_2).toNat * 3)).off + 2, none⟩ = some (.int .i64 ((rd_T58 t387 x9_2).f2)) ∧ w'.cell? (ad402.add (x14_4).toNat) = some (.int .i64 (rd t396 x14_4))) (ds := []) #[false, false, false, false, false, false, false, false, false, false, false, false, false] (by kernel_rfl) rfl rfl ⟨(blk_cell BK383.out 0).trans rfl, (blk_cell BK383.out 1).trans rfl, (blk_cell BK383.out 2).trans rfl, (blk_cell BK383.out 3).trans rfl, (blk_cell BK383.out 4).trans rfl, (blk_cell BK383.out 5).trans rfl, (blk_cell BK383.out 6).trans rfl, (blk_cell BK383.out 7).trans rfl, (blk_cell BK383.out 8).trans rfl, (blk_cell BK383.out 9).trans rfl, (blk_cell BK383.out 10).trans rfl, (blk_cell BK383.out 11).trans rfl, (blk_cell BK383.out 12).trans rfl, (blk_cell BK383.out 13).trans rfl, (blk_cell BK383.out 14).trans rfl, (blk_cell BK383.out 15).trans rfl, (blk_cell BK383.out 16).trans rfl, (blk_cell BK383.out 17).trans rfl, (blk_cell BK383.out 18).trans rfl, (blk_cell BK383.out 19).trans rfl, (blk_cell BK383.out 20).trans rfl, (blk_cell BK383.out 21).trans rfl, (blk_cell BK394.out 0).trans rfl, (blk_cell BK394.out 1).trans rfl, (blk_cell BK394.out 2).trans rfl, hx401_0, hx401_1, hx401_2, hx402_0⟩ (fun hHeld => ?_); refine with_tabW corebanklaw49_ReportDrills.tab19 corebanklaw49_ReportDrills.bits19 (fun HT_ HW_ => ?_)
                       generalize wr.drew = w58 at HO_7 HO_11 BK383 BK394 HB hx401_0 hx401_1 hx401_2 hx402_0 hHeld ⊢
                       refine pure_ (i := 2) (N := some 103) (v := ?_) (a' := ?_) #[false, false, true, false, false, false, false, false, false, false, false, false, false] rfl rfl (any_of HT_.out (by kernel_rfl)) (fun _ _ _ h => h) (Or.inl ⟨by rfl, ?_⟩) ?_ ?_
                       rotate_left
                       ·intro w'
                        go_simp
                        with_reducible rfl
                       rotate_left
                       ·simp only [Act.put, List.setIfInBounds_toArray, List.set_cons_zero, List.set_cons_succ, i64_w, i32_w]
                        rfl
                       refine pure_ (i := 3) (N := some 104) (v := ?_) (a' := ?_) #[false, false, true, true, false, false, false, false, false, false, false, false, false] rfl rfl (any_of HT_.out (by kernel_rfl)) (fun _ _ _ h => h) (Or.inl ⟨by rfl, ?_⟩) ?_ ?_
                       rotate_left
                       ·intro w'
                        go_simp
                        with_reducible rfl
                       rotate_left
                       ·simp only [Act.put, List.setIfInBounds_toArray, List.set_cons_zero, List.set_cons_succ, i64_w, i32_w]
                        rfl
                       refine pure_ (i := 4) (N := some 105) (v := ?_) (a' := ?_) #[false, false, true, true, true, false, false, false, false, false, false, false, false] rfl rfl (any_of HT_.out (by kernel_rfl)) (fun _ _ _ h => h) (Or.inl ⟨by rfl, ?_⟩) ?_ ?_
                       rotate_left
                       ·intro w'
                        go_simp
                        with_reducible rfl
                       rotate_left
                       ·simp only [Act.put, List.setIfInBounds_toArray, List.set_cons_zero, List.set_cons_succ, i64_w, i32_w]
                        rfl
                       refine pure_ (i := 5) (N := some 106) (v := ?_) (a' := ?_) #[false, false, true, true, true, true, false, false, false, false, false, false, false] rfl rfl (any_of HT_.out (by kernel_rfl)) (fun _ _ _ h => h) (Or.inl ⟨by rfl, ?_⟩) ?_ ?_
                       rotate_left
                       ·intro w'
                        go_simp
                        with_reducible rfl
                       rotate_left
                       ·simp only [Act.put, List.setIfInBounds_toArray, List.set_cons_zero, List.set_cons_succ, i64_w, i32_w]
                        rfl
                       refine pure_ (i := 7) (N := some 108) (v := ?_) (a' := ?_) #[false, false, true, true, true, true, false, true, false, false, false, false, false] rfl rfl (any_of HT_.out (by kernel_rfl)) (fun _ _ _ h => h) (Or.inl ⟨by rfl, ?_⟩) ?_ ?_
                       rotate_left
                       ·intro w'
                        go_simp
                        with_reducible rfl
                       rotate_left
                       ·simp only [Act.put, List.setIfInBounds_toArray, List.set_cons_zero, List.set_cons_succ, i64_w, i32_w]
                        rfl
                       refine pure_ (i := 8) (N := some 109) (v := ?_) (a' := ?_) #[false, false, true, true, true, true, false, true, true, false, false, false, false] rfl rfl (any_of HT_.out (by kernel_rfl)) (fun _ _ _ h => h) (Or.inl ⟨by rfl, ?_⟩) ?_ ?_
                       rotate_left
                       ·intro w'
                        go_simp
                        with_reducible rfl
                       rotate_left
                       ·simp only [Act.put, List.setIfInBounds_toArray, List.set_cons_zero, List.set_cons_succ, i64_w, i32_w]
                        rfl
                       refine pure_ (i := 9) (N := some 110) (v := ?_) (a' := ?_) #[false, false, true, true, true, true, false, true, true, true, false, false, false] rfl rfl (any_of HT_.out (by kernel_rfl)) (fun _ _ _ h => h) (Or.inl ⟨by rfl, ?_⟩) ?_ ?_
                       rotate_left
                       ·intro w'
                        go_simp
                        with_reducible rfl
                       rotate_left
                       ·simp only [Act.put, List.setIfInBounds_toArray, List.set_cons_zero, List.set_cons_succ, i64_w, i32_w]
                        rfl
                       refine take_ (i := 0) (N := some 101) (v := ?_) (a' := ?_) #[true, false, true, true, true, true, false, true, true, true, false, false, false] rfl rfl (take_ofW HT_.out HW_.out (by kernel_rfl)) (fun _ _ _ h => h) (Or.inl ⟨by rfl, ?_⟩) hHeld ?_ ?_
                       rotate_left
                       ·rintro w' ⟨s0, s1, s2, s3, s4, s5, s6, s7, s8, s9, s10, s11, s12, s13, s14, s15, s16, s17, s18, s19, s20, s21, s22, s23, s24, s25, s26, s27, s28⟩
                        refine (run_load_wide 33 (.tmp 3) (by rfl) gb383 (by rfl) #[.slice A0_0 l0_0.length c0_0, .slice A0_1 l0_1.length c0_1, .slice A0_2 l0_2.length c0_2, .int .i64 a0_3, .int .i64 a0_4, .int .i64 a0_5, .int .i64 a0_6, .int .i64 a0_7, .int .i64 a0_8, .int .i64 a0_9, .int .i64 a0_10, .int .i64 a0_11, .int .i64 a0_12, .int .i64 a0_13, .int .i64 a0_14, .int .i64 a0_15, .int .i64 a0_16, .slice A0_17 l0_17.length c0_17, .slice A0_18 l0_18.length c0_18, .slice A0_19 l0_19.length c0_19, .slice A0_20 l0_20.length c0_20, .slice A0_21 l0_21.length c0_21] Try.underlying33 rfl (by kernel_rfl) ⟨s0, s1, s2, s3, s4, s5, s6, s7, s8, s9, s10, s11, s12, s13, s14, s15, s16, s17, s18, s19, s20, s21, trivial⟩).trans ?_
                        with_reducible rfl
                       rotate_left
                       ·simp only [Act.put, List.setIfInBounds_toArray, List.set_cons_zero, List.set_cons_succ, i64_w, i32_w]
                        rfl
                       refine take_ (i := 1) (N := some 102) (v := ?_) (a' := ?_) #[true, true, true, true, true, true, false, true, true, true, false, false, false] rfl rfl (take_ofW HT_.out HW_.out (by kernel_rfl)) (fun _ _ _ h => h) (Or.inl ⟨by rfl, ?_⟩) hHeld ?_ ?_
                       rotate_left
                       ·rintro w' ⟨s0, s1, s2, s3, s4, s5, s6, s7, s8, s9, s10, s11, s12, s13, s14, s15, s16, s17, s18, s19, s20, s21, s22, s23, s24, s25, s26, s27, s28⟩
                        go_simp
                        with_reducible rfl
                       rotate_left
                       ·simp only [Act.put, List.setIfInBounds_toArray, List.set_cons_zero, List.set_cons_succ, i64_w, i32_w]
                        rfl
                       refine take_ (i := 6) (N := some 107) (v := ?_) (a' := ?_) #[true, true, true, true, true, true, true, true, true, true, false, false, false] rfl rfl (take_ofW HT_.out HW_.out (by kernel_rfl)) (fun _ _ _ h => h) (Or.inl ⟨by rfl, ?_⟩) hHeld ?_ ?_
                       rotate_left
                       ·rintro w' ⟨s0, s1, s2, s3, s4, s5, s6, s7, s8, s9, s10, s11, s12, s13, s14, s15, s16, s17, s18, s19, s20, s21, s22, s23, s24, s25, s26, s27, s28⟩
                        go_simp
                        with_reducible rfl
                       rotate_left
                       ·simp only [Act.put, List.setIfInBounds_toArray, List.set_cons_zero, List.set_cons_succ, i64_w, i32_w]
                        rfl
                       refine take_ (i := 10) (N := some 111) (v := ?_) (a' := ?_) #[true, true, true, true, true, true, true, true, true, true, true, false, false] rfl rfl (take_ofW HT_.out HW_.out (by kernel_rfl)) (fun _ _ _ h => h) (Or.inl ⟨by rfl, ?_⟩) hHeld ?_ ?_
                       rotate_left
                       ·rintro w' ⟨s0, s1, s2, s3, s4, s5, s6, s7, s8, s9, s10, s11, s12, s13, s14, s15, s16, s17, s18, s19, s20, s21, s22, s23, s24, s25, s26, s27, s28⟩
                        go_simp
                        with_reducible rfl
                       rotate_left
                       ·simp only [Act.put, List.setIfInBounds_toArray, List.set_cons_zero, List.set_cons_succ, i64_w, i32_w]
                        rfl
                       refine one_ (i := 11) (N := some 112) #[true, true, true, true, true, true, true, true, true, true, true, true, false] rfl rfl (one_of HT_.out (by kernel_rfl)) (by decide) (fun K hK => ?_)
                       refine goes_ Try.func26 (by kernel_rfl) rfl #[.agg #[.slice A0_0 l0_0.length c0_0, .slice A0_1 l0_1.length c0_1, .slice A0_2 l0_2.length c0_2, .int .i64 a0_3, .int .i64 a0_4, .int .i64 a0_5, .int .i64 a0_6, .int .i64 a0_7, .int .i64 a0_8, .int .i64 a0_9, .int .i64 a0_10, .int .i64 a0_11, .int .i64 a0_12, .int .i64 a0_13, .int .i64 a0_14, .int .i64 a0_15, .int .i64 a0_16, .slice A0_17 l0_17.length c0_17, .slice A0_18 l0_18.length c0_18, .slice A0_19 l0_19.length c0_19, .slice A0_20 l0_20.length c0_20, .slice A0_21 l0_21.length c0_21], .agg #[.string ((rd_T48 l1 (ji31)).f0), .int .i64 ((rd_T48 l1 (ji31)).f1), .slice A393_2 ((rd_T48 l1 (ji31)).f2).length c393_2], .string ((rd_T58 t387 x9_2).f1), .int .i64 (rd t396 x14_4)] (by rfl) rfl rfl (by (try simp only [List.map_toArray, List.map_cons, List.map_nil]); (rfl)) ?_
                       with_reducible refine (report_Amount.calls k4 _ _ l0_0 _ _ l0_1 _ _ l0_2 a0_3 a0_4 a0_5 a0_6 a0_7 a0_8 a0_9 a0_10 a0_11 a0_12 a0_13 a0_14 a0_15 a0_16 _ _ l0_17 _ _ l0_18 _ _ l0_19 _ _ l0_20 _ _ l0_21 ((rd_T48 l1 (ji31)).f0) ((rd_T48 l1 (ji31)).f1) _ _ ((rd_T48 l1 (ji31)).f2) ((rd_T58 t387 x9_2).f1) (rd t396 x14_4) t403 _ ?side1 ?side2 ?side3 ?side4 ?side5 ?side6 ?side7 ?side8 ?side9 ?side10 ?side11 ?side12 ?side13 ?side14 ?side15 ?side16 ?side17 ?side18 A52.out).mono ?_
                       (case side1 => exact (Kd.C_below HR0_0.out HB.out))
                       (case side2 => exact HC0_0.out)
                       (case side3 => exact (Kd.C_below HR0_1.out HB.out))
                       (case side4 => exact HC0_1.out)
                       (case side5 => exact (Kd.C_below HR0_2.out HB.out))
                       (case side6 => exact HC0_2.out)
                       (case side7 => exact (Kd.C_below HR0_17.out HB.out))
                       (case side8 => exact HC0_17.out)
                       (case side9 => exact (Kd.C_below HR0_18.out HB.out))
                       (case side10 => exact HC0_18.out)
                       (case side11 => exact (Kd.C_below HR0_19.out HB.out))
                       (case side12 => exact HC0_19.out)
                       (case side13 => exact (Kd.C_below HR0_20.out HB.out))
                       (case side14 => exact HC0_20.out)
                       (case side15 => exact (Kd.C_below HR0_21.out HB.out))
                       (case side16 => exact HC0_21.out)
                       (case side17 => exact (Kd.C_below HR393_2.out HB.out))
                       (case side18 => exact HC393_2.out)
                       rintro e w59 ⟨rfl, hb⟩
                       have HS25_ := (hb.cell (World.block_lt_of_cell? _ _ (hHeld.2.2.2.2.2.2.2.2.2.2.2.2.2.2.2.2.2.2.2.2.2.2.2.2.2.1))).trans (hHeld.2.2.2.2.2.2.2.2.2.2.2.2.2.2.2.2.2.2.2.2.2.2.2.2.2.1)
                       have HS26_ := (hb.cell (World.block_lt_of_cell? _ _ (hHeld.2.2.2.2.2.2.2.2.2.2.2.2.2.2.2.2.2.2.2.2.2.2.2.2.2.2.1))).trans (hHeld.2.2.2.2.2.2.2.2.2.2.2.2.2.2.2.2.2.2.2.2.2.2.2.2.2.2.1)
                       have HS27_ := (hb.cell (World.block_lt_of_cell? _ _ (hHeld.2.2.2.2.2.2.2.2.2.2.2.2.2.2.2.2.2.2.2.2.2.2.2.2.2.2.2.1))).trans (hHeld.2.2.2.2.2.2.2.2.2.2.2.2.2.2.2.2.2.2.2.2.2.2.2.2.2.2.2.1)
                       have HS28_ := (hb.cell (World.block_lt_of_cell? _ _ (hHeld.2.2.2.2.2.2.2.2.2.2.2.2.2.2.2.2.2.2.2.2.2.2.2.2.2.2.2.2))).trans (hHeld.2.2.2.2.2.2.2.2.2.2.2.2.2.2.2.2.2.2.2.2.2.2.2.2.2.2.2.2)
                       refine ⟨_, rfl, ?_⟩
                       have n0_ := Aside0.mk (Kd.R_below HO_7.out hb)
                       have n1_ := Aside0.mk (Kd.R_below HO_11.out hb)
                       have n2_ := Aside0.mk (blk_below BK383.out hb)
                       have n3_ := Aside0.mk (blk_below BK394.out hb)
                       have n4_ := Aside0.mk (below_step HB.out hb)
                       clear HO_7
                       clear HO_11
                       clear BK383
                       clear BK394
                       clear HB
                       have HO_7 := n0_
                       have HO_11 := n1_
                       have BK383 := n2_
                       have BK394 := n3_
                       have HB := n4_
                       clear n0_ n1_ n2_ n3_ n4_
                       (try clear hb)
                       refine hK.out _ _ ⟨(blk_cell BK383.out 0).trans rfl, (blk_cell BK383.out 1).trans rfl, (blk_cell BK383.out 2).trans rfl, (blk_cell BK383.out 3).trans rfl, (blk_cell BK383.out 4).trans rfl, (blk_cell BK383.out 5).trans rfl, (blk_cell BK383.out 6).trans rfl, (blk_cell BK383.out 7).trans rfl, (blk_cell BK383.out 8).trans rfl, (blk_cell BK383.out 9).trans rfl, (blk_cell BK383.out 10).trans rfl, (blk_cell BK383.out 11).trans rfl, (blk_cell BK383.out 12).trans rfl, (blk_cell BK383.out 13).trans rfl, (blk_cell BK383.out 14).trans rfl, (blk_cell BK383.out 15).trans rfl, (blk_cell BK383.out 16).trans rfl, (blk_cell BK383.out 17).trans rfl, (blk_cell BK383.out 18).trans rfl, (blk_cell BK383.out 19).trans rfl, (blk_cell BK383.out 20).trans rfl, (blk_cell BK383.out 21).trans rfl, (blk_cell BK394.out 0).trans rfl, (blk_cell BK394.out 1).trans rfl, (blk_cell BK394.out 2).trans rfl, HS25_, HS26_, HS27_, HS28_⟩ (fun hHeld => ?_)
                       clear hK K
                       refine norm_ (a' := ?_) ?_ ?_
                       rotate_left
                       ·show Act.put _ (some 112) _ = _
                        simp only [Act.put, List.setIfInBounds_toArray, List.set_cons_zero, List.set_cons_succ, i64_w, i32_w]
                        rfl
                       refine pure_ (i := 12) (N := some 15) (v := ?_) (a' := ?_) #[true, true, true, true, true, true, true, true, true, true, true, true, true] rfl rfl (any_of HT_.out (by kernel_rfl)) (fun _ _ _ h => h) (Or.inl ⟨by rfl, ?_⟩) ?_ ?_
                       rotate_left
                       ·intro w'
                        go_simp
                        with_reducible rfl
                       rotate_left
                       ·simp only [Act.put, List.setIfInBounds_toArray, List.set_cons_zero, List.set_cons_succ, i64_w, i32_w]
                        rfl
                       refine done_ (done_of HT_.out (by kernel_rfl)) ?_
                       try go_wp2_with (fail)
                       go_roundg k4
                       case measure => have := HJ3.out; have := HK2.out; have := HJ35.out; have := HK4.out; omega
                       case rel => exact ⟨(wrap64 (x13_4 + t403)), (wrap64 (x14_4 + 1)), (by rfl), (by rfl), H', ⟨by have := HJ3.out; have := HK2.out; have := HJ35.out; have := HK4.out; omega⟩, ⟨HO_7.out⟩, ⟨HO_11.out⟩, ⟨BK383.out⟩, ⟨BK394.out⟩, ⟨HB.out⟩⟩
                     ·rw [if_neg c51] at H
                      exact absurd H (by simp)
                    ·rw [if_neg c50] at H
                     exact absurd H (by simp)
                   ·rw [if_neg c49] at H
                    exact absurd H (by simp)
                  ·rw [if_neg c48] at H
                   have c48b0 : decide (x14_4 < (t396.length : Int)) = false := decide_eq_false c48
                   clear c48
                   by_cases c60 : 0 ≤ x9_2
                   ·rw [if_pos c60] at H
                    have c60b0 : decide (0 ≤ x9_2) = true := decide_eq_true c60
                    clear c60
                    by_cases c61 : x9_2 < (t387.length : Int)
                    ·rw [if_pos c61] at H
                     have c61b0 : decide (x9_2 < (t387.length : Int)) = true := decide_eq_true c61
                     clear c61
                     by_cases c62 : x13_4 = ((rd_T58 t387 x9_2).f2)
                     ·rw [if_pos c62] at H
                      have c62b1 : (x13_4 != ((rd_T58 t387 x9_2).f2)) = false := bne_eq_false_iff_eq.mpr c62
                      clear c62
                      have H' := Aside0.mk H
                      clear H
                      obtain ⟨Ao63, co63, eo63⟩ := Kd.R_slice HO_11.out
                      subst eo63
                      have p404 : 0 ≤ (x9_2 : Int) := of_decide_eq_true (by (with_reducible assumption))
                      have q404 : x9_2 < (t387.length : Int) := of_decide_eq_true (by (with_reducible assumption))
                      obtain ⟨ad404, e404, hx404_0, hx404_1, hx404_2⟩ := at_T58 (Kd.R_reads' HO_7.out).2.2 x9_2 p404 q404
                      obtain rfl : ad395 = ad404 := (by injection e404)
                      replace p404 := eq_true p404
                      replace q404 := eq_true q404
                      go_wp2_with (fail)
                      go_roundg k4
                      case measure => have := HJ3.out; have := HK2.out; have := HJ35.out; have := HK4.out; omega
                      case rel => exact ⟨(wrap64 (x9_2 + 1)), (by rfl), H', ⟨by have := HJ3.out; have := HK2.out; have := HJ35.out; have := HK4.out; omega⟩, ⟨HO_7.out⟩, ⟨BK383.out⟩, ⟨HB.out⟩⟩
                     ·rw [if_neg c62] at H
                      have c62b1 : (x13_4 != ((rd_T58 t387 x9_2).f2)) = true := bne_iff_ne.mpr c62
                      obtain rfl := Option.some.inj H
                      obtain ⟨Ao64, co64, eo64⟩ := Kd.R_slice HO_11.out
                      subst eo64
                      have p404 : 0 ≤ (x9_2 : Int) := of_decide_eq_true (by (with_reducible assumption))
                      have q404 : x9_2 < (t387.length : Int) := of_decide_eq_true (by (with_reducible assumption))
                      obtain ⟨ad404, e404, hx404_0, hx404_1, hx404_2⟩ := at_T58 (Kd.R_reads' HO_7.out).2.2 x9_2 p404 q404
                      obtain rfl : ad395 = ad404 := (by injection e404)
                      replace p404 := eq_true p404
                      replace q404 := eq_true q404
                      go_wp2_with (fail)
                      go_ret
                      exact ⟨by (rfl), HB.out⟩
                    ·rw [if_neg c61] at H
                     exact absurd H (by simp)
                   ·rw [if_neg c60] at H
                    exact absurd H (by simp)
            ·rw [if_neg c34] at H
             exact absurd H (by simp)
           ·rw [if_neg c33] at H
            exact absurd H (by simp)
          ·rw [if_neg c32] at H
           exact absurd H (by simp)
        ·rw [if_neg c29] at H
         have c29b0 : decide (x9_2 < (t387.length : Int)) = false := decide_eq_false c29
         clear c29
         replace H := Option.bind_eq_some_iff.mp H
         obtain ⟨t392, A650, H⟩ := H
         replace H : (some t392) = some r := H
         have A65 := Aside0.mk A650
         clear A650
         obtain rfl := Option.some.inj H
         go_wp2_with (((with_reducible refine gate_callee (f := 19) rfl ?_); refine goesL_ (some 125) rfl rfl Try.func19 (by kernel_rfl) rfl #[] rfl (by (try simp only [List.map_toArray, List.map_cons, List.map_nil]); (done)) ?_; (with_reducible refine (corebanklaw49_Live.calls k2  t392 _ A65.out).mono ?_); rintro e w66 ⟨rfl, hb⟩; refine ⟨_, rfl, ?_⟩; have n0_ := Aside0.mk (Kd.R_below HO_7.out hb); have n1_ := Aside0.mk (blk_below BK383.out hb); have n2_ := Aside0.mk (below_step HB.out hb); clear HO_7; clear BK383; clear HB; have HO_7 := n0_; have BK383 := n1_; have HB := n2_; clear n0_ n1_ n2_; (try clear hb)))
         go_ret
         exact ⟨by (rfl), HB.out⟩
     ·rw [if_neg c24] at H
      have c24b1 : ((t387.length : Int) != (wrap64 ((l1.length : Int) * (l0_0.length : Int)))) = true := bne_iff_ne.mpr c24
      obtain rfl := Option.some.inj H
      go_wp2_with (first | ((with_reducible refine gate_dst (N := 34) rfl ?_); refine wpList_load_row rfl 33 (.tmp 3) rfl gb383 rfl 33 _ (0, 0) _ BK383.out Try.underlying33 rfl (by kernel_rfl) ?_) | ((with_reducible refine gate_callee (f := 20) rfl ?_); refine goesL_ (some 37) rfl rfl Try.func20 (by kernel_rfl) rfl #[.agg #[.slice A0_0 l0_0.length c0_0, .slice A0_1 l0_1.length c0_1, .slice A0_2 l0_2.length c0_2, .int .i64 a0_3, .int .i64 a0_4, .int .i64 a0_5, .int .i64 a0_6, .int .i64 a0_7, .int .i64 a0_8, .int .i64 a0_9, .int .i64 a0_10, .int .i64 a0_11, .int .i64 a0_12, .int .i64 a0_13, .int .i64 a0_14, .int .i64 a0_15, .int .i64 a0_16, .slice A0_17 l0_17.length c0_17, .slice A0_18 l0_18.length c0_18, .slice A0_19 l0_19.length c0_19, .slice A0_20 l0_20.length c0_20, .slice A0_21 l0_21.length c0_21], .slice A1 l1.length c1, .int .i64 a2] rfl (by (try simp only [List.map_toArray, List.map_cons, List.map_nil]); (rfl)) ?_; (with_reducible refine (report_Make.calls kj3 _ _ l0_0 _ _ l0_1 _ _ l0_2 a0_3 a0_4 a0_5 a0_6 a0_7 a0_8 a0_9 a0_10 a0_11 a0_12 a0_13 a0_14 a0_15 a0_16 _ _ l0_17 _ _ l0_18 _ _ l0_19 _ _ l0_20 _ _ l0_21 _ _ l1 a2 t387 t390 _ ?side1 ?side2 ?side3 ?side4 ?side5 ?side6 ?side7 ?side8 ?side9 ?side10 ?side11 ?side12 ?side13 ?side14 ?side15 ?side16 ?side17 ?side18 A22.out).mono ?_); (case side1 => exact (Kd.C_below HR0_0.out HB.out)); (case side2 => exact HC0_0.out); (case side3 => exact (Kd.C_below HR0_1.out HB.out)); (case side4 => exact HC0_1.out); (case side5 => exact (Kd.C_below HR0_2.out HB.out)); (case side6 => exact HC0_2.out); (case side7 => exact (Kd.C_below HR0_17.out HB.out)); (case side8 => exact HC0_17.out); (case side9 => exact (Kd.C_below HR0_18.out HB.out)); (case side10 => exact HC0_18.out); (case side11 => exact (Kd.C_below HR0_19.out HB.out)); (case side12 => exact HC0_19.out); (case side13 => exact (Kd.C_below HR0_20.out HB.out)); (case side14 => exact HC0_20.out); (case side15 => exact (Kd.C_below HR0_21.out HB.out)); (case side16 => exact HC0_21.out); (case side17 => exact (Kd.C_below HR1.out HB.out)); (case side18 => exact HC1.out); rintro e w68 ⟨v388, rfl, ho0, hb⟩; refine ⟨_, rfl, ?_⟩; have n0_ := Aside0.mk (Kd.R_lower ho0 (below_size HB.out)); have n1_ := Aside0.mk (blk_below BK383.out hb); have n2_ := Aside0.mk (below_step HB.out hb); clear BK383; clear HB; have HO389 := n0_; have BK383 := n1_; have HB := n2_; clear n0_ n1_ n2_; (try clear hb); (try clear ho0); obtain ⟨Ao69, co69, eo69⟩ := Kd.R_slice HO389.out; subst eo69; have hcz70_0 : w68.cell? ⟨gb383, 0, none⟩ = some (.slice A0_0 l0_0.length c0_0) := (blk_cell BK383.out 0).trans rfl))
      go_ret
      exact ⟨by (rfl), HB.out⟩
    ·rw [if_neg c23] at H
     have c23b1 : (t390 != 0) = true := bne_iff_ne.mpr c23
     by_cases c71 : (t387.length : Int) = 0
     ·rw [if_pos c71] at H
      have c71b0 : ((t387.length : Int) == 0) = true := beq_iff_eq.mpr c71
      clear c71
      replace H := Option.bind_eq_some_iff.mp H
      obtain ⟨t391, A720, H⟩ := H
      replace H : (some t391) = some r := H
      have A72 := Aside0.mk A720
      clear A720
      obtain rfl := Option.some.inj H
      go_wp2_with (first | ((with_reducible refine gate_dst (N := 34) rfl ?_); refine wpList_load_row rfl 33 (.tmp 3) rfl gb383 rfl 33 _ (0, 0) _ BK383.out Try.underlying33 rfl (by kernel_rfl) ?_) | ((with_reducible refine gate_callee (f := 20) rfl ?_); refine goesL_ (some 37) rfl rfl Try.func20 (by kernel_rfl) rfl #[.agg #[.slice A0_0 l0_0.length c0_0, .slice A0_1 l0_1.length c0_1, .slice A0_2 l0_2.length c0_2, .int .i64 a0_3, .int .i64 a0_4, .int .i64 a0_5, .int .i64 a0_6, .int .i64 a0_7, .int .i64 a0_8, .int .i64 a0_9, .int .i64 a0_10, .int .i64 a0_11, .int .i64 a0_12, .int .i64 a0_13, .int .i64 a0_14, .int .i64 a0_15, .int .i64 a0_16, .slice A0_17 l0_17.length c0_17, .slice A0_18 l0_18.length c0_18, .slice A0_19 l0_19.length c0_19, .slice A0_20 l0_20.length c0_20, .slice A0_21 l0_21.length c0_21], .slice A1 l1.length c1, .int .i64 a2] rfl (by (try simp only [List.map_toArray, List.map_cons, List.map_nil]); (rfl)) ?_; (with_reducible refine (report_Make.calls kj3 _ _ l0_0 _ _ l0_1 _ _ l0_2 a0_3 a0_4 a0_5 a0_6 a0_7 a0_8 a0_9 a0_10 a0_11 a0_12 a0_13 a0_14 a0_15 a0_16 _ _ l0_17 _ _ l0_18 _ _ l0_19 _ _ l0_20 _ _ l0_21 _ _ l1 a2 t387 t390 _ ?side1 ?side2 ?side3 ?side4 ?side5 ?side6 ?side7 ?side8 ?side9 ?side10 ?side11 ?side12 ?side13 ?side14 ?side15 ?side16 ?side17 ?side18 A22.out).mono ?_); (case side1 => exact (Kd.C_below HR0_0.out HB.out)); (case side2 => exact HC0_0.out); (case side3 => exact (Kd.C_below HR0_1.out HB.out)); (case side4 => exact HC0_1.out); (case side5 => exact (Kd.C_below HR0_2.out HB.out)); (case side6 => exact HC0_2.out); (case side7 => exact (Kd.C_below HR0_17.out HB.out)); (case side8 => exact HC0_17.out); (case side9 => exact (Kd.C_below HR0_18.out HB.out)); (case side10 => exact HC0_18.out); (case side11 => exact (Kd.C_below HR0_19.out HB.out)); (case side12 => exact HC0_19.out); (case side13 => exact (Kd.C_below HR0_20.out HB.out)); (case side14 => exact HC0_20.out); (case side15 => exact (Kd.C_below HR0_21.out HB.out)); (case side16 => exact HC0_21.out); (case side17 => exact (Kd.C_below HR1.out HB.out)); (case side18 => exact HC1.out); rintro e w74 ⟨v388, rfl, ho0, hb⟩; refine ⟨_, rfl, ?_⟩; have n0_ := Aside0.mk (Kd.R_lower ho0 (below_size HB.out)); have n1_ := Aside0.mk (blk_below BK383.out hb); have n2_ := Aside0.mk (below_step HB.out hb); clear BK383; clear HB; have HO389 := n0_; have BK383 := n1_; have HB := n2_; clear n0_ n1_ n2_; (try clear hb); (try clear ho0); obtain ⟨Ao75, co75, eo75⟩ := Kd.R_slice HO389.out; subst eo75) | (go_at_call 19; (with_reducible refine (corebanklaw49_Live.calls kj3  t391 _ A72.out).mono ?_); rintro e w76 ⟨rfl, hb⟩; have n0_ := Aside0.mk (Kd.R_below HO389.out hb); have n1_ := Aside0.mk (blk_below BK383.out hb); have n2_ := Aside0.mk (below_step HB.out hb); clear HO389; clear BK383; clear HB; have HO389 := n0_; have BK383 := n1_; have HB := n2_; clear n0_ n1_ n2_; (try clear hb)))
      go_ret
      exact ⟨by (rfl), HB.out⟩
     ·rw [if_neg c71] at H
      have c71b0 : ((t387.length : Int) == 0) = false := beq_eq_false_iff_ne.mpr c71
      obtain rfl := Option.some.inj H
      go_wp2_with (first | ((with_reducible refine gate_dst (N := 34) rfl ?_); refine wpList_load_row rfl 33 (.tmp 3) rfl gb383 rfl 33 _ (0, 0) _ BK383.out Try.underlying33 rfl (by kernel_rfl) ?_) | ((with_reducible refine gate_callee (f := 20) rfl ?_); refine goesL_ (some 37) rfl rfl Try.func20 (by kernel_rfl) rfl #[.agg #[.slice A0_0 l0_0.length c0_0, .slice A0_1 l0_1.length c0_1, .slice A0_2 l0_2.length c0_2, .int .i64 a0_3, .int .i64 a0_4, .int .i64 a0_5, .int .i64 a0_6, .int .i64 a0_7, .int .i64 a0_8, .int .i64 a0_9, .int .i64 a0_10, .int .i64 a0_11, .int .i64 a0_12, .int .i64 a0_13, .int .i64 a0_14, .int .i64 a0_15, .int .i64 a0_16, .slice A0_17 l0_17.length c0_17, .slice A0_18 l0_18.length c0_18, .slice A0_19 l0_19.length c0_19, .slice A0_20 l0_20.length c0_20, .slice A0_21 l0_21.length c0_21], .slice A1 l1.length c1, .int .i64 a2] rfl (by (try simp only [List.map_toArray, List.map_cons, List.map_nil]); (rfl)) ?_; (with_reducible refine (report_Make.calls kj3 _ _ l0_0 _ _ l0_1 _ _ l0_2 a0_3 a0_4 a0_5 a0_6 a0_7 a0_8 a0_9 a0_10 a0_11 a0_12 a0_13 a0_14 a0_15 a0_16 _ _ l0_17 _ _ l0_18 _ _ l0_19 _ _ l0_20 _ _ l0_21 _ _ l1 a2 t387 t390 _ ?side1 ?side2 ?side3 ?side4 ?side5 ?side6 ?side7 ?side8 ?side9 ?side10 ?side11 ?side12 ?side13 ?side14 ?side15 ?side16 ?side17 ?side18 A22.out).mono ?_); (case side1 => exact (Kd.C_below HR0_0.out HB.out)); (case side2 => exact HC0_0.out); (case side3 => exact (Kd.C_below HR0_1.out HB.out)); (case side4 => exact HC0_1.out); (case side5 => exact (Kd.C_below HR0_2.out HB.out)); (case side6 => exact HC0_2.out); (case side7 => exact (Kd.C_below HR0_17.out HB.out)); (case side8 => exact HC0_17.out); (case side9 => exact (Kd.C_below HR0_18.out HB.out)); (case side10 => exact HC0_18.out); (case side11 => exact (Kd.C_below HR0_19.out HB.out)); (case side12 => exact HC0_19.out); (case side13 => exact (Kd.C_below HR0_20.out HB.out)); (case side14 => exact HC0_20.out); (case side15 => exact (Kd.C_below HR0_21.out HB.out)); (case side16 => exact HC0_21.out); (case side17 => exact (Kd.C_below HR1.out HB.out)); (case side18 => exact HC1.out); rintro e w78 ⟨v388, rfl, ho0, hb⟩; refine ⟨_, rfl, ?_⟩; have n0_ := Aside0.mk (Kd.R_lower ho0 (below_size HB.out)); have n1_ := Aside0.mk (blk_below BK383.out hb); have n2_ := Aside0.mk (below_step HB.out hb); clear BK383; clear HB; have HO389 := n0_; have BK383 := n1_; have HB := n2_; clear n0_ n1_ n2_; (try clear hb); (try clear ho0); obtain ⟨Ao79, co79, eo79⟩ := Kd.R_slice HO389.out; subst eo79))
      go_ret
      exact ⟨by (rfl), HB.out⟩
end Go.Proofs.Ytcmaifjmnpfmbaa.R
