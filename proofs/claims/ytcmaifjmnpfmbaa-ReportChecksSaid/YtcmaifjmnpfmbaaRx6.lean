-- Made by wip/tools/ext.py (this project's) over the kit's print, with external functions' contracts by hand. Not trusted: Lean checks it.
import Derived.Test.YtcmaifjmnpfmbaaRx0
namespace Go.Proofs.Ytcmaifjmnpfmbaa.R
open Go.RowKit Go.Proofs.YtcmaifjmnpfmbaaW.PrintWords Go.Proofs.YtcmaifjmnpfmbaaW.PrintLast Go.Proofs.YtcmaifjmnpfmbaaW.PrintMore
attribute [local go_sem] max2_int min2_int max_two min_two max_three min_three max_four min_four   -- for this text's walks alone
set_option linter.unusedVariables false
set_option linter.unusedSimpArgs false
/-! ### corebankref49_Great: function 14 -/
def corebankref49_Great.l0:Nat→List (S48)→Int→Option (Bool)
  | 0,_,_=>none
  | k + 1,x0,x3=>if x3 < (x0.length:Int) then (if 0≤x3 then (if (((rd_T48 x0 x3).f2).length:Int) > 20 then (some true) else (if (((rd_T48 x0 x3).f0).size:Int) > 200 then (some true) else (corebankref49_Great.l0 k x0 (wrap64 (x3 + 1))))) else (none)) else (some false)
def corebankref49_Great.f (k:Nat) (l0:List (S48)):Option (Bool):=if (l0.length:Int) > 100 then (some true) else (corebankref49_Great.l0 k l0 0)
set_option maxHeartbeats 8000000 in
set_option maxRecDepth 100000 in
theorem corebankref49_Great.calls (k:Nat) (A0:Option Addr) (c0:Nat) (l0:List (S48)) (r:Bool) (w:World) (hr0:Kd.C k48 w A0 l0.length l0) (hc0:l0.length≤c0) (h:corebankref49_Great.f k l0=some r) :
    Calls Try.prog 14 #[.slice A0 l0.length c0] w fun e w'=>e=.returned (.bool r)∧Drawn0 w w':=by
  have HR0:=aM hr0;clear hr0 hc0;have H:(if (l0.length:Int) > 100 then (some true) else (corebankref49_Great.l0 k l0 0))=some r:=h;clear h;by_cases c2:(l0.length:Int) > 100
  · rw [if_pos c2] at H;have oB:decide (100 < (l0.length:Int))=true:=decide_eq_true c2;clear c2;obtain rfl:=Option.some.inj H;(go_enter Try.func14,Try.ntmps14);go_wp2;go_ret;exact ⟨by (rfl),by repeat (exact Drawn0.refl _)⟩
  · rw [if_neg c2] at H;have oB:decide (100 < (l0.length:Int))=false:=decide_eq_false c2;clear c2;have H':=aM H;clear H;(go_enter Try.func14,Try.ntmps14);go_wp2;(go_loopg [3] k (fun kq v3 w'=>∃ (bA:Int),v3=.int .i64 bA∧Aside0 (corebankref49_Great.l0 kq l0 bA=some r)∧Aside0 (kq≤k)∧Drawn0 w w'));case atStart=>exact ⟨(0),(by rfl),H',⟨Nat.le_refl _⟩,by repeat (exact Drawn0.refl _)⟩
    case round=>
      clear H';(try clear oB);obtain ⟨bA,rfl,HA,HK1,⟨m1,rfl⟩⟩:=hrel
      cases gk with
      | zero=>exact absurd HA.out (by simp [corebankref49_Great.l0])
      | succ k1=>
        have H:=HA.out;clear HA;simp only [corebankref49_Great.l0] at H;by_cases c3:bA < (l0.length:Int)
        · rw [if_pos c3] at H;have pB:decide (bA < (l0.length:Int))=true:=decide_eq_true c3;clear c3;by_cases c4:0≤bA
          · rw [if_pos c4] at H;have qB:decide (0≤bA)=true:=decide_eq_true c4;clear c4;by_cases c5:(((rd_T48 l0 bA).f2).length:Int) > 20
            · rw [if_pos c5] at H;have cC:decide (20 < (((rd_T48 l0 bA).f2).length:Int))=true:=decide_eq_true c5;clear c5;obtain rfl:=Option.some.inj H;have p126:0≤(bA:Int):=oD (by assumption);have q126:bA < (l0.length:Int):=oD (by assumption);obtain ⟨jB,vB,wB,e126,mB,nB,dB,pA,qA⟩:=at_T48 HR0.out bA p126 q126;cases e126;clear qA pA;replace p126:=eq_true p126;replace q126:=eq_true q126;go_wp2;go_ret;exact ⟨by (rfl),by repeat (first | exact Drawn0.refl _ | apply Drawn0.step)⟩
            · rw [if_neg c5] at H;have cC:decide (20 < (((rd_T48 l0 bA).f2).length:Int))=false:=decide_eq_false c5;clear c5;by_cases c6:(((rd_T48 l0 bA).f0).size:Int) > 200
              · rw [if_pos c6] at H;have lB:decide (200 < (((rd_T48 l0 bA).f0).size:Int))=true:=decide_eq_true c6;clear c6;obtain rfl:=Option.some.inj H;have p126:0≤(bA:Int):=oD (by assumption);have q126:bA < (l0.length:Int):=oD (by assumption);obtain ⟨jB,vB,wB,e126,mB,nB,dB,pA,qA⟩:=at_T48 HR0.out bA p126 q126;cases e126;clear qA pA;replace p126:=eq_true p126;replace q126:=eq_true q126;have p127:0≤(bA:Int):=oD (by assumption);have q127:bA < (l0.length:Int):=oD (by assumption);obtain ⟨rB,mC,nC,e127,iC,jC,eB,rA,tA⟩:=at_T48 HR0.out bA p127 q127;obtain rfl:jB=rB:=(by injection e127);have kC:=aM tA;have lC:=aM rA;clear tA rA;replace p127:=eq_true p127;replace q127:=eq_true q127;have ea_:=Option.some.inj (dB.symm.trans eB);(injection ea_ with ea_ en_ ec_);subst ea_;subst ec_;clear en_;go_wp2;go_ret;exact ⟨by (rfl),by repeat (first | exact Drawn0.refl _ | apply Drawn0.step)⟩
              · rw [if_neg c6] at H;have lB:decide (200 < (((rd_T48 l0 bA).f0).size:Int))=false:=decide_eq_false c6;clear c6;have H':=aM H;clear H;have p126:0≤(bA:Int):=oD (by assumption);have q126:bA < (l0.length:Int):=oD (by assumption);obtain ⟨jB,vB,wB,e126,mB,nB,dB,pA,qA⟩:=at_T48 HR0.out bA p126 q126;cases e126;clear qA pA;replace p126:=eq_true p126;replace q126:=eq_true q126;have p127:0≤(bA:Int):=oD (by assumption);have q127:bA < (l0.length:Int):=oD (by assumption);obtain ⟨rB,mC,nC,e127,iC,jC,eB,rA,tA⟩:=at_T48 HR0.out bA p127 q127;obtain rfl:jB=rB:=(by injection e127);have kC:=aM tA;have lC:=aM rA;clear tA rA;replace p127:=eq_true p127;replace q127:=eq_true q127;have ea_:=Option.some.inj (dB.symm.trans eB);(injection ea_ with ea_ en_ ec_);subst ea_;subst ec_;clear en_;go_wp2;(go_roundg k1);(case measure=>have:=HK1.out;omega);case rel=>exact ⟨(wrap64 (bA + 1)),(by rfl),H',⟨by have:=HK1.out;omega⟩,by repeat (first | exact Drawn0.refl _ | apply Drawn0.step)⟩
          · rw [if_neg c4] at H;exact absurd H (by simp)
        · rw [if_neg c3] at H;have pB:decide (bA < (l0.length:Int))=false:=decide_eq_false c3;clear c3;obtain rfl:=Option.some.inj H;go_wp2;go_ret;exact ⟨by (rfl),by repeat (first | exact Drawn0.refl _ | apply Drawn0.step)⟩
/-! ### report_name: function 48 -/
def report_name.l0:Nat→ByteArray→Int→Int→Option (Bool)
  | 0,_,_,_=>none
  | k + 1,x0,x7,x8=>if x8 < x7 then (if 0≤x8 then (if x8 < (x0.size:Int) then (if (bt x0 x8) ≥ 97 then (if ((bt x0 x8)≤122) then (report_name.l0 k x0 x7 (wrap64 (x8 + 1))) else (if x8=0 then (some false) else (if (bt x0 x8)=95 then (report_name.l0 k x0 x7 (wrap64 (x8 + 1))) else (if (bt x0 x8) < 48 then (some false) else (if (bt x0 x8) > 57 then (some false) else (report_name.l0 k x0 x7 (wrap64 (x8 + 1)))))))) else (if x8=0 then (some false) else (if (bt x0 x8)=95 then (report_name.l0 k x0 x7 (wrap64 (x8 + 1))) else (if (bt x0 x8) < 48 then (some false) else (if (bt x0 x8) > 57 then (some false) else (report_name.l0 k x0 x7 (wrap64 (x8 + 1)))))))) else (none)) else (none)) else (if (x0.size:Int) ≥ 1 then (some (decide ((x0.size:Int)≤16))) else (some false))
def report_name.f (k:Nat) (a0:ByteArray):Option (Bool):=report_name.l0 k a0 (a0.size:Int) 0
theorem report_name.mono_l:∀ k,(∀ y0 y1 y2,LeO (report_name.l0 k y0 y1 y2) (report_name.l0 (k + 1) y0 y1 y2))
  | 0=>fun _ _ _ r h=>by simp [report_name.l0] at h
  | k + 1=>by
    have ih0:=report_name.mono_l k
    · intro y0 y1 y2;unfold report_name.l0
      repeat' first
      | (with_reducible exact ih0 _ _ _)
      | (with_reducible exact LeO.refl _)
      | (with_reducible refine LeO.ite ?_ ?_)
theorem report_name.mono:∀ a0 k,LeO (report_name.f k a0) (report_name.f (k + 1) a0):=by
  intro a0 k;have ih0:=report_name.mono_l k;unfold report_name.f;repeat' (with_reducible exact ih0 _ _ _)
set_option maxHeartbeats 8000000 in
set_option maxRecDepth 100000 in
theorem report_name.calls (k:Nat) (a0:ByteArray) (r:Bool) (w:World) (h:report_name.f k a0=some r) :
    Calls Try.prog 48 #[.string a0] w fun e w'=>e=.returned (.bool r)∧Drawn0 w w':=by
  have H:(report_name.l0 k a0 (a0.size:Int) 0)=some r:=h;clear h;have H':=aM H;clear H;(go_enter Try.func48,Try.ntmps48);go_wp2;(go_loopg [8] k (fun kq v8 w'=>∃ (aA:Int),v8=.int .i64 aA∧Aside0 (report_name.l0 kq a0 (a0.size:Int) aA=some r)∧Aside0 (kq≤k)∧Drawn0 w w'));case atStart=>exact ⟨(0),(by rfl),H',⟨Nat.le_refl _⟩,by repeat (exact Drawn0.refl _)⟩
  case round=>
    clear H';obtain ⟨aA,rfl,HA,HK1,⟨m1,rfl⟩⟩:=hrel
    cases gk with
    | zero=>exact absurd HA.out (by simp [report_name.l0])
    | succ k1=>
      have H:=HA.out;clear HA;simp only [report_name.l0] at H;by_cases c2:aA < (a0.size:Int)
      · rw [if_pos c2] at H;have oB:decide (aA < (a0.size:Int))=true:=decide_eq_true c2;clear c2;by_cases c3:0≤aA
        · rw [if_pos c3] at H;have pB:decide (0≤aA)=true:=decide_eq_true c3;clear c3;by_cases c4:aA < (a0.size:Int)
          · rw [if_pos c4] at H;have qB:decide (aA < (a0.size:Int))=true:=decide_eq_true c4;clear c4;by_cases c6:(bt a0 aA) ≥ 97
            · rw [if_pos c6] at H;have lB:decide (97≤(bt a0 aA))=true:=decide_eq_true c6;clear c6;by_cases c7:((bt a0 aA)≤122)
              · rw [if_pos c7] at H;have tB:decide ((bt a0 aA)≤122)=true:=decide_eq_true c7;clear c7;have H':=aM H;clear H;have p5:0≤(aA:Int):=oD (by assumption);have q5:aA < (a0.size:Int):=oD (by assumption);have hx5:=bt_at a0 aA;replace p5:=eq_true p5;replace q5:=eq_true q5;go_wp2;(go_roundg k1);(case measure=>have:=HK1.out;omega);case rel=>exact ⟨(wrap64 (aA + 1)),(by rfl),H',⟨by have:=HK1.out;omega⟩,by repeat (first | exact Drawn0.refl _ | apply Drawn0.step)⟩
              · rw [if_neg c7] at H;have tB:decide ((bt a0 aA)≤122)=false:=decide_eq_false c7;clear c7;by_cases c8:aA=0
                · rw [if_pos c8] at H;have gD:(aA == 0)=true:=beq_iff_eq.mpr c8;clear c8;obtain rfl:=Option.some.inj H;have p5:0≤(aA:Int):=oD (by assumption);have q5:aA < (a0.size:Int):=oD (by assumption);have hx5:=bt_at a0 aA;replace p5:=eq_true p5;replace q5:=eq_true q5;go_wp2;go_ret;exact ⟨by (rfl),by repeat (first | exact Drawn0.refl _ | apply Drawn0.step)⟩
                · rw [if_neg c8] at H;have gD:(aA == 0)=false:=beq_eq_false_iff_ne.mpr c8;by_cases c9:(bt a0 aA)=95
                  · rw [if_pos c9] at H;have hD:((bt a0 aA) != 95)=false:=bne_eq_false_iff_eq.mpr c9;clear c9;have H':=aM H;clear H;have p5:0≤(aA:Int):=oD (by assumption);have q5:aA < (a0.size:Int):=oD (by assumption);have hx5:=bt_at a0 aA;replace p5:=eq_true p5;replace q5:=eq_true q5;go_wp2;(go_roundg k1);(case measure=>have:=HK1.out;omega);case rel=>exact ⟨(wrap64 (aA + 1)),(by rfl),H',⟨by have:=HK1.out;omega⟩,by repeat (first | exact Drawn0.refl _ | apply Drawn0.step)⟩
                  · rw [if_neg c9] at H;have hD:((bt a0 aA) != 95)=true:=bne_iff_ne.mpr c9;by_cases c10:(bt a0 aA) < 48
                    · rw [if_pos c10] at H;have pC:decide ((bt a0 aA) < 48)=true:=decide_eq_true c10;clear c10;obtain rfl:=Option.some.inj H;have p5:0≤(aA:Int):=oD (by assumption);have q5:aA < (a0.size:Int):=oD (by assumption);have hx5:=bt_at a0 aA;replace p5:=eq_true p5;replace q5:=eq_true q5;go_wp2;go_ret;exact ⟨by (rfl),by repeat (first | exact Drawn0.refl _ | apply Drawn0.step)⟩
                    · rw [if_neg c10] at H;have pC:decide ((bt a0 aA) < 48)=false:=decide_eq_false c10;clear c10;by_cases c11:(bt a0 aA) > 57
                      · rw [if_pos c11] at H;have qC:decide (57 < (bt a0 aA))=true:=decide_eq_true c11;clear c11;obtain rfl:=Option.some.inj H;have p5:0≤(aA:Int):=oD (by assumption);have q5:aA < (a0.size:Int):=oD (by assumption);have hx5:=bt_at a0 aA;replace p5:=eq_true p5;replace q5:=eq_true q5;go_wp2;go_ret;exact ⟨by (rfl),by repeat (first | exact Drawn0.refl _ | apply Drawn0.step)⟩
                      · rw [if_neg c11] at H;have qC:decide (57 < (bt a0 aA))=false:=decide_eq_false c11;clear c11;have H':=aM H;clear H;have p5:0≤(aA:Int):=oD (by assumption);have q5:aA < (a0.size:Int):=oD (by assumption);have hx5:=bt_at a0 aA;replace p5:=eq_true p5;replace q5:=eq_true q5;go_wp2;(go_roundg k1);(case measure=>have:=HK1.out;omega);case rel=>exact ⟨(wrap64 (aA + 1)),(by rfl),H',⟨by have:=HK1.out;omega⟩,by repeat (first | exact Drawn0.refl _ | apply Drawn0.step)⟩
            · rw [if_neg c6] at H;have lB:decide (97≤(bt a0 aA))=false:=decide_eq_false c6;clear c6;by_cases c12:aA=0
              · rw [if_pos c12] at H;have rC:(aA == 0)=true:=beq_iff_eq.mpr c12;clear c12;obtain rfl:=Option.some.inj H;have p5:0≤(aA:Int):=oD (by assumption);have q5:aA < (a0.size:Int):=oD (by assumption);have hx5:=bt_at a0 aA;replace p5:=eq_true p5;replace q5:=eq_true q5;go_wp2;go_ret;exact ⟨by (rfl),by repeat (first | exact Drawn0.refl _ | apply Drawn0.step)⟩
              · rw [if_neg c12] at H;have rC:(aA == 0)=false:=beq_eq_false_iff_ne.mpr c12;by_cases c13:(bt a0 aA)=95
                · rw [if_pos c13] at H;have tC:((bt a0 aA) != 95)=false:=bne_eq_false_iff_eq.mpr c13;clear c13;have H':=aM H;clear H;have p5:0≤(aA:Int):=oD (by assumption);have q5:aA < (a0.size:Int):=oD (by assumption);have hx5:=bt_at a0 aA;replace p5:=eq_true p5;replace q5:=eq_true q5;go_wp2;(go_roundg k1);(case measure=>have:=HK1.out;omega);case rel=>exact ⟨(wrap64 (aA + 1)),(by rfl),H',⟨by have:=HK1.out;omega⟩,by repeat (first | exact Drawn0.refl _ | apply Drawn0.step)⟩
                · rw [if_neg c13] at H;have tC:((bt a0 aA) != 95)=true:=bne_iff_ne.mpr c13;by_cases c14:(bt a0 aA) < 48
                  · rw [if_pos c14] at H;have uC:decide ((bt a0 aA) < 48)=true:=decide_eq_true c14;clear c14;obtain rfl:=Option.some.inj H;have p5:0≤(aA:Int):=oD (by assumption);have q5:aA < (a0.size:Int):=oD (by assumption);have hx5:=bt_at a0 aA;replace p5:=eq_true p5;replace q5:=eq_true q5;go_wp2;go_ret;exact ⟨by (rfl),by repeat (first | exact Drawn0.refl _ | apply Drawn0.step)⟩
                  · rw [if_neg c14] at H;have uC:decide ((bt a0 aA) < 48)=false:=decide_eq_false c14;clear c14;by_cases c15:(bt a0 aA) > 57
                    · rw [if_pos c15] at H;have vC:decide (57 < (bt a0 aA))=true:=decide_eq_true c15;clear c15;obtain rfl:=Option.some.inj H;have p5:0≤(aA:Int):=oD (by assumption);have q5:aA < (a0.size:Int):=oD (by assumption);have hx5:=bt_at a0 aA;replace p5:=eq_true p5;replace q5:=eq_true q5;go_wp2;go_ret;exact ⟨by (rfl),by repeat (first | exact Drawn0.refl _ | apply Drawn0.step)⟩
                    · rw [if_neg c15] at H;have vC:decide (57 < (bt a0 aA))=false:=decide_eq_false c15;clear c15;have H':=aM H;clear H;have p5:0≤(aA:Int):=oD (by assumption);have q5:aA < (a0.size:Int):=oD (by assumption);have hx5:=bt_at a0 aA;replace p5:=eq_true p5;replace q5:=eq_true q5;go_wp2;(go_roundg k1);(case measure=>have:=HK1.out;omega);case rel=>exact ⟨(wrap64 (aA + 1)),(by rfl),H',⟨by have:=HK1.out;omega⟩,by repeat (first | exact Drawn0.refl _ | apply Drawn0.step)⟩
          · rw [if_neg c4] at H;exact absurd H (by simp)
        · rw [if_neg c3] at H;exact absurd H (by simp)
      · rw [if_neg c2] at H;have oB:decide (aA < (a0.size:Int))=false:=decide_eq_false c2;clear c2;by_cases c16:(a0.size:Int) ≥ 1
        · rw [if_pos c16] at H;have wC:decide (1≤(a0.size:Int))=true:=decide_eq_true c16;clear c16;obtain rfl:=Option.some.inj H;go_wp2;go_ret;exact ⟨by (rfl),by repeat (first | exact Drawn0.refl _ | apply Drawn0.step)⟩
        · rw [if_neg c16] at H;have wC:decide (1≤(a0.size:Int))=false:=decide_eq_false c16;clear c16;obtain rfl:=Option.some.inj H;go_wp2;go_ret;exact ⟨by (rfl),by repeat (first | exact Drawn0.refl _ | apply Drawn0.step)⟩
/-! ### chart_Find: function 32 -/
def chart_Find.l0:Nat→Int→List (S62)→Int→Int→Option (Int × Int × Int × ByteArray × Bool)
 | 0,_,_,_,_=>none
 | k + 1,x1,x8,x9,x10=>if x10 < x9 then (if 0≤x10 then (if x10 < (x8.length:Int) then (if ((rd_T62 x8 x10).f0)=x1 then (some ((rd_T62 x8 x10).f0,(rd_T62 x8 x10).f1,(rd_T62 x8 x10).f2,(rd_T62 x8 x10).f3,true)) else (chart_Find.l0 k x1 x8 x9 (wrap64 (x10 + 1)))) else (none)) else (none)) else (some (0,0,0,(⟨#[]⟩:ByteArray),false))
def chart_Find.f (k:Nat) (l0:List (S62)) (a1:Int):Option (Int × Int × Int × ByteArray × Bool):=chart_Find.l0 k a1 l0 (l0.length:Int) 0
theorem chart_Find.mono_l:∀ k,(∀ y0 y1 y2 y3,LeO (chart_Find.l0 k y0 y1 y2 y3) (chart_Find.l0 (k + 1) y0 y1 y2 y3))
 | 0=>fun _ _ _ _ r h=>by simp [chart_Find.l0] at h
 | k + 1=>by
  have ih0:=chart_Find.mono_l k
  ·intro y0 y1 y2 y3;unfold chart_Find.l0
   repeat' first
   | (with_reducible exact ih0 _ _ _ _)
   | (with_reducible exact LeO.refl _)
   | (with_reducible refine LeO.ite ?_ ?_)
theorem chart_Find.mono:∀ a0 a1 k,LeO (chart_Find.f k a0 a1) (chart_Find.f (k + 1) a0 a1):=by
 intro a0 a1 k;have ih0:=chart_Find.mono_l k;unfold chart_Find.f;repeat' (with_reducible exact ih0 _ _ _ _)
set_option maxHeartbeats 8000000 in
set_option maxRecDepth 100000 in
theorem chart_Find.calls (k:Nat) (A0:Option Addr) (c0:Nat) (l0:List (S62)) (a1:Int) (r1:Int) (r2:Int) (r3:Int) (r4:ByteArray) (r5:Bool) (w:World) (hr0:Kd.C k62 w A0 l0.length l0) (hc0:l0.length≤c0) (h:chart_Find.f k l0 a1=some (r1,r2,r3,r4,r5)) :
  Calls Try.prog 32 #[.slice A0 l0.length c0,.int .i64 a1] w fun e w'=>e=.returned (.tuple #[.agg #[.int .i64 r1,.int .i64 r2,.int .i64 r3,.string r4],.bool r5])∧Below w.heap.size w w':=by
 have HR0:=aM hr0;clear hr0 hc0;have HB:=aM (Below.refl w.heap.size w);have H:(chart_Find.l0 k a1 l0 (l0.length:Int) 0)=some (r1,r2,r3,r4,r5):=h;clear h;have H':=aM H;clear H;(go_enter Try.func32,Try.ntmps32);(go_wp2_with (first | ((with_reducible refine gate_dst (N:=4) rfl ?_);refine box_event ?hg (N:=4) ?hd (cs:=#[.int .i64 0,.int .i64 0,.int .i64 0,.string (⟨#[]⟩:ByteArray)]) (t:=62) ?hr ?_;(case hd=>rfl);(case hg=>rfl);(case hr=>(go_simp;done));intro kA hg w3 hbox hb;have yA:=aM (bS HB.out hb);have zA:=aM (hbox);have aB:=aM ((by rw [hg];exact (below_size HB.out):w.heap.size≤kA));have iB:=aB;clear HB;have HB:=yA;have cA:=zA;have gC:=iB;clear yA zA aB iB;clear hb hbox hg)));(go_loopg [10] k (fun kq v10 w'=>∃ (dA:Int) (nA:Int) (iA:Int) (fA:Int) (eA:ByteArray),v10=.int .i64 dA∧Aside0 (chart_Find.l0 kq a1 l0 (l0.length:Int) dA=some (r1,r2,r3,r4,r5))∧Aside0 (kq≤k)∧Aside0 (w'.heap[kA]?=some (.cells #[.int .i64 nA,.int .i64 iA,.int .i64 fA,.string eA] 62 (0,0)))∧Aside0 (Below w.heap.size w w')));case atStart=>exact ⟨(0),(0),(0),(0),((⟨#[]⟩:ByteArray)),(by rfl),H',⟨Nat.le_refl _⟩,⟨cA.out⟩,⟨HB.out⟩⟩
 case round=>
  clear H';obtain ⟨dA,nA,iA,fA,eA,rfl,HA,HK1,cA,HB⟩:=hrel
  cases gk with
  | zero=>exact absurd HA.out (by simp [chart_Find.l0])
  | succ k1=>
   have H:=HA.out;clear HA;simp only [chart_Find.l0] at H;by_cases c4:dA < (l0.length:Int)
   ·rw [if_pos c4] at H;have qB:decide (dA < (l0.length:Int))=true:=decide_eq_true c4;clear c4;by_cases c5:0≤dA
    ·rw [if_pos c5] at H;have cC:decide (0≤dA)=true:=decide_eq_true c5;clear c5;by_cases c6:dA < (l0.length:Int)
     ·rw [if_pos c6] at H;have lB:decide (dA < (l0.length:Int))=true:=decide_eq_true c6;clear c6;by_cases c7:((rd_T62 l0 dA).f0)=a1
      ·rw [if_pos c7] at H;have tB:(((rd_T62 l0 dA).f0) == a1)=true:=beq_iff_eq.mpr c7;clear c7;simp only [Option.some.injEq,Prod.mk.injEq] at H;obtain ⟨rfl,rfl,rfl,rfl,rfl⟩:=H;have p129:0≤(dA:Int):=oD (by assumption);have q129:dA < (l0.length:Int):=oD (by assumption);obtain ⟨xC,e129,uA,vA,wA,xA⟩:=at_T62 HR0.out dA p129 q129;cases e129;replace uA:=cB HB.out uA;replace vA:=cB HB.out vA;replace wA:=cB HB.out wA;replace xA:=cB HB.out xA;replace p129:=eq_true p129;replace q129:=eq_true q129;(go_wp2_with (first | ((with_reducible refine gate_dst (N:=7) rfl ?_);refine box_event ?hg (N:=7) ?hd (cs:=#[.int .i64 0,.int .i64 0,.int .i64 0,.string (⟨#[]⟩:ByteArray)]) (t:=62) ?hr ?_;(case hd=>rfl);(case hg=>rfl);(case hr=>(go_simp;done));intro lA hg w8 hbox hb;have yA:=aM (bB cA.out hb);have zA:=aM (bS HB.out hb);have aB:=aM (hbox);have iB:=aM ((by rw [hg];exact (below_size HB.out):w.heap.size≤lA));have xB:=iB;have yB:=aM ((by rw [hg];exact Nat.ne_of_lt (blk_lt cA.out):kA ≠ lA));have zB:=aM ((by rw [hg];exact Nat.ne_of_gt (blk_lt cA.out):lA ≠ kA));clear cA;clear HB;have cA:=yA;have HB:=zA;have jA:=aB;have uB:=xB;have hA:=yB;have aC:=zB;clear yA zA aB iB xB yB zB;clear hb hbox hg;have hnc9:=hA.out;have iD:w8.cell? ⟨lA,0,none⟩=some (.int .i64 0):=bC jA.out 0 rfl;have jD:w8.cell? ⟨lA,1,none⟩=some (.int .i64 0):=bC jA.out 1 rfl;have kD:w8.cell? ⟨lA,2,none⟩=some (.int .i64 0):=bC jA.out 2 rfl;have lD:w8.cell? ⟨lA,3,none⟩=some (.string (⟨#[]⟩:ByteArray)):=bC jA.out 3 rfl;have mD:=bF jA.out 0;have nD:=bF jA.out 1;have pD:=bF jA.out 2;have qD:=bF jA.out 3;have rD:w8.cell? ⟨kA,0,none⟩=some (.int .i64 nA):=bC cA.out 0 rfl;have sD:w8.cell? ⟨kA,1,none⟩=some (.int .i64 iA):=bC cA.out 1 rfl;have tD:w8.cell? ⟨kA,2,none⟩=some (.int .i64 fA):=bC cA.out 2 rfl;have uD:w8.cell? ⟨kA,3,none⟩=some (.string eA):=bC cA.out 3 rfl;have vD:=bF cA.out 0;have wD:=bF cA.out 1;have xD:=bF cA.out 2;have yD:=bF cA.out 3)));refine bodyPost_ret (results_ct rfl _ _ kA 62 #[.int .i64 ((rd_T62 l0 dA).f0),.int .i64 ((rd_T62 l0 dA).f1),.int .i64 ((rd_T62 l0 dA).f2),.string ((rd_T62 l0 dA).f3)] (0,0) _ rfl (by refine blk_put (cs:=#[.int .i64 ((rd_T62 l0 dA).f0),.int .i64 ((rd_T62 l0 dA).f1),.int .i64 ((rd_T62 l0 dA).f2),.string eA]) ?_ 3 _ rfl;refine blk_put (cs:=#[.int .i64 ((rd_T62 l0 dA).f0),.int .i64 ((rd_T62 l0 dA).f1),.int .i64 fA,.string eA]) ?_ 2 _ rfl;refine blk_put (cs:=#[.int .i64 ((rd_T62 l0 dA).f0),.int .i64 iA,.int .i64 fA,.string eA]) ?_ 1 _ rfl;refine blk_put (cs:=#[.int .i64 nA,.int .i64 iA,.int .i64 fA,.string eA]) ?_ 0 _ rfl;refine blk_far ?_ hA.out _;refine blk_far ?_ hA.out _;refine blk_far ?_ hA.out _;refine blk_far ?_ hA.out _;exact cA.out) Try.underlying62 rfl (by kernel_rfl)) rfl ?_;exact ⟨by (rfl),by repeat ((with_reducible first | exact HB.out | refine below_set ?_ gC.out | refine below_set ?_ uB.out))⟩
      ·rw [if_neg c7] at H;have tB:(((rd_T62 l0 dA).f0) == a1)=false:=beq_eq_false_iff_ne.mpr c7;have H':=aM H;clear H;have p129:0≤(dA:Int):=oD (by assumption);have q129:dA < (l0.length:Int):=oD (by assumption);obtain ⟨xC,e129,uA,vA,wA,xA⟩:=at_T62 HR0.out dA p129 q129;cases e129;replace uA:=cB HB.out uA;replace vA:=cB HB.out vA;replace wA:=cB HB.out wA;replace xA:=cB HB.out xA;replace p129:=eq_true p129;replace q129:=eq_true q129;(go_wp2_with (first | ((with_reducible refine gate_dst (N:=7) rfl ?_);refine box_event ?hg (N:=7) ?hd (cs:=#[.int .i64 0,.int .i64 0,.int .i64 0,.string (⟨#[]⟩:ByteArray)]) (t:=62) ?hr ?_;(case hd=>rfl);(case hg=>rfl);(case hr=>(go_simp;done));intro lA hg w12 hbox hb;have yA:=aM (bB cA.out hb);have zA:=aM (bS HB.out hb);have aB:=aM (hbox);have iB:=aM ((by rw [hg];exact (below_size HB.out):w.heap.size≤lA));have xB:=iB;have yB:=aM ((by rw [hg];exact Nat.ne_of_lt (blk_lt cA.out):kA ≠ lA));have zB:=aM ((by rw [hg];exact Nat.ne_of_gt (blk_lt cA.out):lA ≠ kA));clear cA;clear HB;have cA:=yA;have HB:=zA;have jA:=aB;have uB:=xB;have hA:=yB;have aC:=zB;clear yA zA aB iB xB yB zB;clear hb hbox hg;have zD:w12.cell? ⟨lA,0,none⟩=some (.int .i64 0):=bC jA.out 0 rfl;have aE:w12.cell? ⟨lA,1,none⟩=some (.int .i64 0):=bC jA.out 1 rfl;have bE:w12.cell? ⟨lA,2,none⟩=some (.int .i64 0):=bC jA.out 2 rfl;have cE:w12.cell? ⟨lA,3,none⟩=some (.string (⟨#[]⟩:ByteArray)):=bC jA.out 3 rfl;have dE:=bF jA.out 0;have eE:=bF jA.out 1;have fE:=bF jA.out 2;have gE:=bF jA.out 3)));(go_roundg k1);(case measure=>have:=HK1.out;omega);case rel=>exact ⟨(wrap64 (dA + 1)),(nA),(iA),(fA),(eA),(by rfl),H',⟨by have:=HK1.out;omega⟩,⟨by refine blk_far ?_ hA.out _;refine blk_far ?_ hA.out _;refine blk_far ?_ hA.out _;refine blk_far ?_ hA.out _;exact cA.out⟩,⟨by repeat ((with_reducible first | exact HB.out | refine below_set ?_ uB.out))⟩⟩
     ·rw [if_neg c6] at H;exact absurd H (by simp)
    ·rw [if_neg c5] at H;exact absurd H (by simp)
   ·rw [if_neg c4] at H;have qB:decide (dA < (l0.length:Int))=false:=decide_eq_false c4;clear c4;simp only [Option.some.injEq,Prod.mk.injEq] at H;obtain ⟨rfl,rfl,rfl,rfl,rfl⟩:=H;have hE:wr.cell? ⟨kA,0,none⟩=some (.int .i64 nA):=bC cA.out 0 rfl;have iE:wr.cell? ⟨kA,1,none⟩=some (.int .i64 iA):=bC cA.out 1 rfl;have jE:wr.cell? ⟨kA,2,none⟩=some (.int .i64 fA):=bC cA.out 2 rfl;have kE:wr.cell? ⟨kA,3,none⟩=some (.string eA):=bC cA.out 3 rfl;have lE:=bF cA.out 0;have mE:=bF cA.out 1;have nE:=bF cA.out 2;have oE:=bF cA.out 3;go_wp2;refine bodyPost_ret (results_ct rfl _ _ kA 62 #[.int .i64 0,.int .i64 0,.int .i64 0,.string (⟨#[]⟩:ByteArray)] (0,0) _ rfl (by refine blk_put (cs:=#[.int .i64 0,.int .i64 0,.int .i64 0,.string eA]) ?_ 3 _ rfl;refine blk_put (cs:=#[.int .i64 0,.int .i64 0,.int .i64 fA,.string eA]) ?_ 2 _ rfl;refine blk_put (cs:=#[.int .i64 0,.int .i64 iA,.int .i64 fA,.string eA]) ?_ 1 _ rfl;refine blk_put (cs:=#[.int .i64 nA,.int .i64 iA,.int .i64 fA,.string eA]) ?_ 0 _ rfl;exact cA.out) Try.underlying62 rfl (by kernel_rfl)) rfl ?_;exact ⟨by (rfl),by repeat ((with_reducible first | exact HB.out | refine below_set ?_ gC.out))⟩
/-! ### slices_Reverse_int_int: function 66 -/
def slices_Reverse_int_int.l0:Nat→List Int→Int→Int→Option (List Int)
 | 0,_,_,_=>none
 | k + 1,x0,x2,x3=>if x2 < x3 then (if 0≤x3 then (if x3 < (x0.length:Int) then (if 0≤x2 then (if x2 < (x0.length:Int) then (slices_Reverse_int_int.l0 k ((x0.set (x2:Int).toNat (rd x0 x3)).set (x3:Int).toNat (rd x0 x2)) (wrap64 (x2 + 1)) (wrap64 (x3 - 1))) else (none)) else (none)) else (none)) else (none)) else (some x0)
def slices_Reverse_int_int.f (k:Nat) (l0:List Int):Option (List Int):=slices_Reverse_int_int.l0 k l0 0 (wrap64 ((l0.length:Int) - 1))
theorem slices_Reverse_int_int.mono_l:∀ k,(∀ y0 y1 y2,LeO (slices_Reverse_int_int.l0 k y0 y1 y2) (slices_Reverse_int_int.l0 (k + 1) y0 y1 y2))
 | 0=>fun _ _ _ r h=>by simp [slices_Reverse_int_int.l0] at h
 | k + 1=>by
  have ih0:=slices_Reverse_int_int.mono_l k
  ·intro y0 y1 y2;unfold slices_Reverse_int_int.l0
   repeat' first
   | (with_reducible exact ih0 _ _ _)
   | (with_reducible exact LeO.refl _)
   | (with_reducible refine LeO.ite ?_ ?_)
theorem slices_Reverse_int_int.mono:∀ a0 k,LeO (slices_Reverse_int_int.f k a0) (slices_Reverse_int_int.f (k + 1) a0):=by
 intro a0 k;have ih0:=slices_Reverse_int_int.mono_l k;unfold slices_Reverse_int_int.f;repeat' (with_reducible exact ih0 _ _ _)
def slices_Reverse_int_int.T3:Bool × List (List Nat × List Nat):=(true,[([],[]),([],[]),([],[]),([],[]),([],[]),([],[]),([4,5],[4,5]),([6],[6]),([],[]),([],[]),([8,9],[8,9]),([10],[10]),([0,1,0,1,4,5,6,7,11],[0,1]),([12,7,0,1,4,5,6,7,11],[7,12]),([2,3,0,1,2,3,4,5,6,7,8,9,10,11,12,13],[2,3]),([14,11,13,0,1,2,3,4,5,6,7,8,9,10,11,12,13],[11,14])])
def slices_Reverse_int_int.B3:List Nat:=[0,0,0,0,0,0,48,112,0,0,768,1792,4083,8179,16383,32767]
theorem slices_Reverse_int_int.tab3:rtab .any (opsOf Try.f66 3)=slices_Reverse_int_int.T3:=by kernel_rfl
theorem slices_Reverse_int_int.bits3:waitsOk slices_Reverse_int_int.T3.2 slices_Reverse_int_int.B3=true:=by kernel_rfl
set_option maxHeartbeats 8000000 in
set_option maxRecDepth 100000 in
theorem slices_Reverse_int_int.calls (k:Nat) (P0_:Nat→Prop) (u9000_:Value) (l0:List Int) (r:List Int) (w0 w:World) (hB:Below w0.heap.size w0 w) (ho0:Kd.R (Kd.int .i64) 3 w w0.heap.size P0_ u9000_ l0) (h:slices_Reverse_int_int.f k l0=some r) :
  Calls Try.prog 66 #[u9000_] w fun e w'=>e=.returned (.tuple #[])∧Kd.R (Kd.int .i64) 3 w' w0.heap.size (fun k_=>(P0_ k_ ∨ w.heap.size≤k_)) u9000_ r∧Below w0.heap.size w0 w'∧Kept w w' (fun k_=>P0_ k_):=by
 have eD:=aM (show Kd.R (Kd.int .i64) 3 w w0.heap.size (fun k_=>(P0_ k_ ∨ w.heap.size≤k_)) u9000_ l0 from Kd.R_mono ho0 (fun k_ hk=>(.inl hk)));have HK:=aM (Kept.refl w (fun k_=>P0_ k_));have HB:=aM hB;clear hB;have H:(slices_Reverse_int_int.l0 k l0 0 (wrap64 ((l0.length:Int) - 1)))=some r:=h;clear h;have H':=aM H;clear H;obtain ⟨Ao2,co2,eo2⟩:=Kd.R_slice eD.out;subst eo2;(go_enter Try.func66,Try.ntmps66);go_wp2;(go_loopg [2,3] k (fun kq v2 v3 w'=>∃ (mA:List Int) (gA:Int) (bA:Int),v2=.int .i64 gA∧v3=.int .i64 bA∧Aside0 (slices_Reverse_int_int.l0 kq mA gA bA=some r)∧Aside0 (kq≤k)∧Aside0 (Kd.R (Kd.int .i64) 3 w' w0.heap.size (fun k_=>(P0_ k_ ∨ w.heap.size≤k_)) (.slice Ao2 l0.length co2) mA)∧Aside0 (Kept w w' (fun k_=>P0_ k_))∧Aside0 (Below w0.heap.size w0 w')));case atStart=>exact ⟨(l0),(0),(wrap64 ((l0.length:Int) - 1)),(by rfl),(by rfl),H',⟨Nat.le_refl _⟩,⟨eD.out⟩,⟨HK.out⟩,⟨HB.out⟩⟩
 case round=>
  clear H';obtain ⟨mA,gA,bA,rfl,rfl,HA,HK1,oA,HK,HB⟩:=hrel;have kB:=(Kd.R_reads' oA.out).1;rw [kB] at oA;(try simp only [kB])
  cases gk with
  | zero=>exact absurd HA.out (by simp [slices_Reverse_int_int.l0])
  | succ k1=>
   have H:=HA.out;clear HA;simp only [slices_Reverse_int_int.l0] at H;by_cases c3:gA < bA
   ·rw [if_pos c3] at H;have pB:decide (gA < bA)=true:=decide_eq_true c3;clear c3;by_cases c4:0≤bA
    ·rw [if_pos c4] at H;have qB:decide (0≤bA)=true:=decide_eq_true c4;clear c4;by_cases c5:bA < (mA.length:Int)
     ·rw [if_pos c5] at H;have cC:decide (bA < (mA.length:Int))=true:=decide_eq_true c5;clear c5;by_cases c6:0≤gA
      ·rw [if_pos c6] at H;have lB:decide (0≤gA)=true:=decide_eq_true c6;clear c6;by_cases c7:gA < (mA.length:Int)
       ·rw [if_pos c7] at H;have tB:decide (gA < (mA.length:Int))=true:=decide_eq_true c7;clear c7;obtain ⟨y133,hy133⟩:∃ y_:List Int,y_=(mA.set (gA:Int).toNat (rd mA bA)):=⟨_,rfl⟩;(replace H:(slices_Reverse_int_int.l0 k1 (y133.set (bA:Int).toNat (rd mA gA)) (wrap64 (gA + 1)) (wrap64 (bA - 1)))=some r:=by (rw [hy133];with_reducible exact H));have Ny133:=aM hy133;clear hy133;obtain ⟨y134,hy134⟩:∃ y_:List Int,y_=(y133.set (bA:Int).toNat (rd mA gA)):=⟨_,rfl⟩;(replace H:(slices_Reverse_int_int.l0 k1 y134 (wrap64 (gA + 1)) (wrap64 (bA - 1)))=some r:=by (rw [hy134];with_reducible exact H));have Ny134:=aM hy134;clear hy134;have H':=aM H;clear H;(try go_wp2);have yA:=aM (Kd.R_drew oA.out);have zA:=aM (Kept.drew HK.out);have aB:=aM (below_drew1 HB.out);clear oA;clear HK;clear HB;have oA:=yA;have HK:=zA;have HB:=aB;clear yA zA aB;have p131:0≤(bA:Int):=oD (by assumption);have q131:bA < (mA.length:Int):=oD (by assumption);obtain ⟨yC,e131,fB⟩:=Kd.at_int (Kd.R_reads' oA.out).2.2 bA p131 q131;cases e131;replace p131:=eq_true p131;replace q131:=eq_true q131;have p132:0≤(gA:Int):=oD (by assumption);have q132:gA < (mA.length:Int):=oD (by assumption);obtain ⟨zC,e132,gB⟩:=Kd.at_int (Kd.R_reads' oA.out).2.2 gA p132 q132;obtain rfl:yC=zC:=(by injection e132);replace p132:=eq_true p132;replace q132:=eq_true q132;have p8:0≤(gA:Int):=oD (by assumption);have q8:(gA:Int) < ((mA.length:Int):Int):=oD (by assumption);obtain ⟨hC,co8,eo8,fD,gl8,cl8,HG8⟩:=Kd.R_form oA.out (by omega);((cases eo8));have GB8:=aM fD;clear fD gl8 HG8;have HMgo8:=aM (show (P0_ hC ∨ w.heap.size≤hC) from (oA.out.1 _ rfl));((simp only [add_plain] at fB));((simp only [add_plain] at gB));obtain ⟨aD,bD⟩:=Kd.R_celln 0 oA.out (gA:Int) p8 q8;replace p8:=eq_true p8;replace q8:=eq_true q8;have dC:=Kd.R_putn oA.out (gA:Int) (rd mA bA);rw [← Ny133.out] at dC;have eC:=aM dC;clear dC;have p9:0≤(bA:Int):=oD (by assumption);have q9:(bA:Int) < ((mA.length:Int):Int):=oD (by assumption);obtain ⟨cD,dD⟩:=Kd.R_celln 0 eC.out (bA:Int) p9 q9;replace p9:=eq_true p9;replace q9:=eq_true q9;have fC:=Kd.R_putn eC.out (bA:Int) (rd mA gA);rw [← Ny134.out] at fC;have oC:=aM fC;clear fC;refine start_ (n:=16) (S:=fun w'=>w'.cell? ⟨hC,(bA).toNat,none⟩=some (.int .i64 (rd mA bA))∧w'.cell? ⟨hC,(gA).toNat,none⟩=some (.int .i64 (rd mA gA))) (ds:=[13,15]) #[fF,fF,fF,fF,fF,fF,fF,fF,fF,fF,fF,fF,fF,fF,fF,fF] (by kernel_rfl) rfl rfl ⟨fB,gB⟩ (fun hHeld=>?_);refine with_tabW slices_Reverse_int_int.tab3 slices_Reverse_int_int.bits3 (fun HT_ HW_=>?_);(generalize wr.drew=w10 at oA HK HB eC oC bD dD fB gB aD cD hHeld ⊢);refine pure_ (i:=0) (N:=some 14) (v:=?_) (a':=?_) #[tT,fF,fF,fF,fF,fF,fF,fF,fF,fF,fF,fF,fF,fF,fF,fF] rfl rfl (any_of HT_.out (by kernel_rfl)) (fun _ _ _ h=>h) (Or.inl ⟨by rfl,?_⟩) ?_ ?_;rotate_left
        ·intro w';go_simp;with_reducible rfl
        rotate_left
        ·simp only [Act.put,sA,sB,sC,i64_w,i32_w];rfl
        refine pure_ (i:=1) (N:=some 15) (v:=?_) (a':=?_) #[tT,tT,fF,fF,fF,fF,fF,fF,fF,fF,fF,fF,fF,fF,fF,fF] rfl rfl (any_of HT_.out (by kernel_rfl)) (fun _ _ _ h=>h) (Or.inl ⟨by rfl,?_⟩) ?_ ?_;rotate_left
        ·intro w';go_simp;with_reducible rfl
        rotate_left
        ·simp only [Act.put,sA,sB,sC,i64_w,i32_w];rfl
        refine pure_ (i:=2) (N:=some 16) (v:=?_) (a':=?_) #[tT,tT,tT,fF,fF,fF,fF,fF,fF,fF,fF,fF,fF,fF,fF,fF] rfl rfl (any_of HT_.out (by kernel_rfl)) (fun _ _ _ h=>h) (Or.inl ⟨by rfl,?_⟩) ?_ ?_;rotate_left
        ·intro w';go_simp;with_reducible rfl
        rotate_left
        ·simp only [Act.put,sA,sB,sC,i64_w,i32_w];rfl
        refine pure_ (i:=3) (N:=some 17) (v:=?_) (a':=?_) #[tT,tT,tT,tT,fF,fF,fF,fF,fF,fF,fF,fF,fF,fF,fF,fF] rfl rfl (any_of HT_.out (by kernel_rfl)) (fun _ _ _ h=>h) (Or.inl ⟨by rfl,?_⟩) ?_ ?_;rotate_left
        ·intro w';go_simp;with_reducible rfl
        rotate_left
        ·simp only [Act.put,sA,sB,sC,i64_w,i32_w];rfl
        refine pure_ (i:=4) (N:=some 18) (v:=?_) (a':=?_) #[tT,tT,tT,tT,tT,fF,fF,fF,fF,fF,fF,fF,fF,fF,fF,fF] rfl rfl (any_of HT_.out (by kernel_rfl)) (fun _ _ _ h=>h) (Or.inl ⟨by rfl,?_⟩) ?_ ?_;rotate_left
        ·intro w';go_simp;with_reducible rfl
        rotate_left
        ·simp only [Act.put,sA,sB,sC,i64_w,i32_w];rfl
        refine pure_ (i:=5) (N:=some 19) (v:=?_) (a':=?_) #[tT,tT,tT,tT,tT,tT,fF,fF,fF,fF,fF,fF,fF,fF,fF,fF] rfl rfl (any_of HT_.out (by kernel_rfl)) (fun _ _ _ h=>h) (Or.inl ⟨by rfl,?_⟩) ?_ ?_;rotate_left
        ·intro w';go_simp;with_reducible rfl
        rotate_left
        ·simp only [Act.put,sA,sB,sC,i64_w,i32_w];rfl
        refine pure_ (i:=6) (N:=some 20) (v:=?_) (a':=?_) #[tT,tT,tT,tT,tT,tT,tT,fF,fF,fF,fF,fF,fF,fF,fF,fF] rfl rfl (any_of HT_.out (by kernel_rfl)) (fun _ _ _ h=>h) (Or.inl ⟨by rfl,?_⟩) ?_ ?_;rotate_left
        ·intro w';go_simp;with_reducible rfl
        rotate_left
        ·simp only [Act.put,sA,sB,sC,i64_w,i32_w];rfl
        refine pure_ (i:=8) (N:=some 22) (v:=?_) (a':=?_) #[tT,tT,tT,tT,tT,tT,tT,fF,tT,fF,fF,fF,fF,fF,fF,fF] rfl rfl (any_of HT_.out (by kernel_rfl)) (fun _ _ _ h=>h) (Or.inl ⟨by rfl,?_⟩) ?_ ?_;rotate_left
        ·intro w';go_simp;with_reducible rfl
        rotate_left
        ·simp only [Act.put,sA,sB,sC,i64_w,i32_w];rfl
        refine pure_ (i:=9) (N:=some 23) (v:=?_) (a':=?_) #[tT,tT,tT,tT,tT,tT,tT,fF,tT,tT,fF,fF,fF,fF,fF,fF] rfl rfl (any_of HT_.out (by kernel_rfl)) (fun _ _ _ h=>h) (Or.inl ⟨by rfl,?_⟩) ?_ ?_;rotate_left
        ·intro w';go_simp;with_reducible rfl
        rotate_left
        ·simp only [Act.put,sA,sB,sC,i64_w,i32_w];rfl
        refine pure_ (i:=10) (N:=some 24) (v:=?_) (a':=?_) #[tT,tT,tT,tT,tT,tT,tT,fF,tT,tT,tT,fF,fF,fF,fF,fF] rfl rfl (any_of HT_.out (by kernel_rfl)) (fun _ _ _ h=>h) (Or.inl ⟨by rfl,?_⟩) ?_ ?_;rotate_left
        ·intro w';go_simp;with_reducible rfl
        rotate_left
        ·simp only [Act.put,sA,sB,sC,i64_w,i32_w];rfl
        refine take_ (i:=7) (N:=some 21) (v:=?_) (a':=?_) #[tT,tT,tT,tT,tT,tT,tT,tT,tT,tT,tT,fF,fF,fF,fF,fF] rfl rfl (take_ofW HT_.out HW_.out (by kernel_rfl)) (fun _ _ _ h=>h) (Or.inl ⟨by rfl,?_⟩) hHeld ?_ ?_;rotate_left
        ·rintro w' ⟨s0,s1⟩;go_simp;with_reducible rfl
        rotate_left
        ·simp only [Act.put,sA,sB,sC,i64_w,i32_w];rfl
        refine take_ (i:=11) (N:=some 25) (v:=?_) (a':=?_) #[tT,tT,tT,tT,tT,tT,tT,tT,tT,tT,tT,tT,fF,fF,fF,fF] rfl rfl (take_ofW HT_.out HW_.out (by kernel_rfl)) (fun _ _ _ h=>h) (Or.inl ⟨by rfl,?_⟩) hHeld ?_ ?_;rotate_left
        ·rintro w' ⟨s0,s1⟩;go_simp;with_reducible rfl
        rotate_left
        ·simp only [Act.put,sA,sB,sC,i64_w,i32_w];rfl
        refine pure_ (i:=12) (N:=some 26) (v:=?_) (a':=?_) #[tT,tT,tT,tT,tT,tT,tT,tT,tT,tT,tT,tT,tT,fF,fF,fF] rfl rfl (any_of HT_.out (by kernel_rfl)) (fun _ _ _ h=>h) (Or.inl ⟨by rfl,?_⟩) ?_ ?_;rotate_left
        ·intro w';go_simp;with_reducible rfl
        rotate_left
        ·simp only [Act.put,sA,sB,sC,i64_w,i32_w];rfl
        refine last_ (i:=13) (N:=none) #[tT,tT,tT,tT,tT,tT,tT,tT,tT,tT,tT,tT,tT,tT,fF,fF] rfl rfl (one_of HT_.out (by kernel_rfl)) (by decide) (fun K hK=>?_);refine skip_ (w1:=?_) (by rfl) rfl ?_ ?_;rotate_left
        ·go_simp;rfl
        refine hK.out _ _ ?_;clear hK K;refine pure_ (i:=14) (N:=some 27) (v:=?_) (a':=?_) #[tT,tT,tT,tT,tT,tT,tT,tT,tT,tT,tT,tT,tT,tT,tT,fF] rfl rfl (any_of HT_.out (by kernel_rfl)) (fun _ _ _ h=>h) (Or.inl ⟨by rfl,?_⟩) ?_ ?_;rotate_left
        ·intro w';go_simp;with_reducible rfl
        rotate_left
        ·simp only [Act.put,sA,sB,sC,i64_w,i32_w];rfl
        refine last_ (i:=15) (N:=none) #[tT,tT,tT,tT,tT,tT,tT,tT,tT,tT,tT,tT,tT,tT,tT,tT] rfl rfl (one_of HT_.out (by kernel_rfl)) (by decide) (fun K hK=>?_);refine skip_ (w1:=?_) (by rfl) rfl ?_ ?_;rotate_left
        ·go_simp;rfl
        refine hK.out _ _ ?_;clear hK K;refine done_ (done_of HT_.out (by kernel_rfl)) ?_;(try go_wp2);((try simp only [← kB]));(go_roundg k1);(case measure=>have:=HK1.out;omega);case rel=>exact ⟨(y134),(wrap64 (gA + 1)),(wrap64 (bA - 1)),(by rfl),(by rfl),H',⟨by have:=HK1.out;omega⟩,⟨by (try simp only [kB]);exact oC.out⟩,⟨by repeat ((with_reducible first | exact HK.out | refine Kept.setCell ?_ HMgo8.out _))⟩,⟨by repeat ((with_reducible first | exact HB.out | refine below_set ?_ GB8.out))⟩⟩
       ·rw [if_neg c7] at H;exact absurd H (by simp)
      ·rw [if_neg c6] at H;exact absurd H (by simp)
     ·rw [if_neg c5] at H;exact absurd H (by simp)
    ·rw [if_neg c4] at H;exact absurd H (by simp)
   ·rw [if_neg c3] at H;have pB:decide (gA < bA)=false:=decide_eq_false c3;clear c3;obtain rfl:=Option.some.inj H;go_wp2;((go_end0));exact ⟨by (rfl),oA.out,HB.out,HK.out⟩
end Go.Proofs.Ytcmaifjmnpfmbaa.R
