-- Made by wip/tools/ext.py (this project's) over the kit's print, with external functions' contracts by hand. Not trusted: Lean checks it.
import Derived.Test.YtcmaifjmnpfmbaaRx0
namespace Go.Proofs.Ytcmaifjmnpfmbaa.R
open Go.RowKit Go.Proofs.YtcmaifjmnpfmbaaW.PrintWords Go.Proofs.YtcmaifjmnpfmbaaW.PrintLast Go.Proofs.YtcmaifjmnpfmbaaW.PrintMore
attribute [local go_sem] max2_int min2_int max_two min_two max_three min_three max_four min_four   -- for this text's walks alone
set_option linter.unusedVariables false
set_option linter.unusedSimpArgs false
/-! ### corebankref22_Great: function 45 -/
def corebankref22_Great.l0:Nat→List (S119)→Int→Option (Bool)
  | 0,_,_=>none
  | k + 1,x0,x3=>if x3 < (x0.length:Int) then (if 0≤x3 then (if (((rd_T119 x0 x3).f5).size:Int) > 200 then (some true) else (corebankref22_Great.l0 k x0 (wrap64 (x3 + 1)))) else (none)) else (some false)
def corebankref22_Great.f (k:Nat) (l0:List (S119)):Option (Bool):=if (l0.length:Int) > 100 then (some true) else (corebankref22_Great.l0 k l0 0)
set_option maxHeartbeats 8000000 in
set_option maxRecDepth 100000 in
theorem corebankref22_Great.calls (k:Nat) (A0:Option Addr) (c0:Nat) (l0:List (S119)) (r:Bool) (w:World) (hr0:Kd.C k119 w A0 l0.length l0) (hc0:l0.length≤c0) (h:corebankref22_Great.f k l0=some r) :
    Calls Try.prog 45 #[.slice A0 l0.length c0] w fun e w'=>e=.returned (.bool r)∧Drawn0 w w':=by
  have HR0:=aM hr0;clear hr0 hc0;have H:(if (l0.length:Int) > 100 then (some true) else (corebankref22_Great.l0 k l0 0))=some r:=h;clear h;by_cases c2:(l0.length:Int) > 100
  · rw [if_pos c2] at H;have qB:decide (100 < (l0.length:Int))=true:=decide_eq_true c2;clear c2;obtain rfl:=Option.some.inj H;(go_enter Try.func45,Try.ntmps45);go_wp2;go_ret;exact ⟨by (rfl),by repeat (exact Drawn0.refl _)⟩
  · rw [if_neg c2] at H;have qB:decide (100 < (l0.length:Int))=false:=decide_eq_false c2;clear c2;have H':=aM H;clear H;(go_enter Try.func45,Try.ntmps45);go_wp2;(go_loopg [3] k (fun kq v3 w'=>∃ (fA:Int),v3=.int .i64 fA∧Aside0 (corebankref22_Great.l0 kq l0 fA=some r)∧Aside0 (kq≤k)∧Drawn0 w w'));case atStart=>exact ⟨(0),(by rfl),H',⟨Nat.le_refl _⟩,by repeat (exact Drawn0.refl _)⟩
    case round=>
      clear H';(try clear qB);obtain ⟨fA,rfl,HA,HK1,⟨m1,rfl⟩⟩:=hrel
      cases gk with
      | zero=>exact absurd HA.out (by simp [corebankref22_Great.l0])
      | succ k1=>
        have H:=HA.out;clear HA;simp only [corebankref22_Great.l0] at H;by_cases c3:fA < (l0.length:Int)
        · rw [if_pos c3] at H;have zB:decide (fA < (l0.length:Int))=true:=decide_eq_true c3;clear c3;by_cases c4:0≤fA
          · rw [if_pos c4] at H;have rB:decide (0≤fA)=true:=decide_eq_true c4;clear c4;by_cases c5:(((rd_T119 l0 fA).f5).size:Int) > 200
            · rw [if_pos c5] at H;have dB:decide (200 < (((rd_T119 l0 fA).f5).size:Int))=true:=decide_eq_true c5;clear c5;obtain rfl:=Option.some.inj H;have p101:0≤(fA:Int):=oD (by assumption);have q101:fA < (l0.length:Int):=oD (by assumption);obtain ⟨wB,e101,fB,gB,hB,iB,jB,kB⟩:=at_T119 HR0.out fA p101 q101;cases e101;replace p101:=eq_true p101;replace q101:=eq_true q101;go_wp2;go_ret;exact ⟨by (rfl),by repeat (first | exact Drawn0.refl _ | apply Drawn0.step)⟩
            · rw [if_neg c5] at H;have dB:decide (200 < (((rd_T119 l0 fA).f5).size:Int))=false:=decide_eq_false c5;clear c5;have H':=aM H;clear H;have p101:0≤(fA:Int):=oD (by assumption);have q101:fA < (l0.length:Int):=oD (by assumption);obtain ⟨wB,e101,fB,gB,hB,iB,jB,kB⟩:=at_T119 HR0.out fA p101 q101;cases e101;replace p101:=eq_true p101;replace q101:=eq_true q101;go_wp2;(go_roundg k1);(case measure=>have:=HK1.out;omega);case rel=>exact ⟨(wrap64 (fA + 1)),(by rfl),H',⟨by have:=HK1.out;omega⟩,by repeat (first | exact Drawn0.refl _ | apply Drawn0.step)⟩
          · rw [if_neg c4] at H;exact absurd H (by simp)
        · rw [if_neg c3] at H;have zB:decide (fA < (l0.length:Int))=false:=decide_eq_false c3;clear c3;obtain rfl:=Option.some.inj H;go_wp2;go_ret;exact ⟨by (rfl),by repeat (first | exact Drawn0.refl _ | apply Drawn0.step)⟩
/-! ### corebankref10_count: function 85 -/
mutual
def corebankref10_count.l0:Nat→Int→Int→Int→Int→Int→ByteArray→List (S122)→Option (Int)
  | 0,_,_,_,_,_,_,_=>none
  | k + 1,x1,x5,x6,lB,mB,nB,jA=>if x6 < (jA.length:Int) then (if x5≤x1 then (if 0≤x6 then ((corebankref10_count.f k ((rd_T122 jA x6).f0) ((rd_T122 jA x6).f1) ((rd_T122 jA x6).f2) ((rd_T122 jA x6).f3) (wrap64 (x1 - x5))).bind fun t104=>(corebankref10_count.l0 k x1 (wrap64 (x5 + t104)) (wrap64 (x6 + 1)) lB mB nB jA)) else (none)) else (some x5)) else (some x5)
def corebankref10_count.f:Nat→Int→Int→ByteArray→List (S122)→Int→Option (Int)
  | 0,_,_,_,_,_=>none
  | k + 1,cA,dA,eA,aA,a1=>corebankref10_count.l0 k a1 1 0 cA dA eA aA
end
set_option maxHeartbeats 8000000 in
set_option maxRecDepth 100000 in
theorem corebankref10_count.calls (k:Nat):∀ (cA:Int) (dA:Int) (eA:ByteArray) (gA:Option Addr) (hA:Nat) (aA:List (S122)) (a1:Int) (r:Int) (w:World) (oA:Kd.C k122 w gA aA.length aA) (pA:aA.length≤hA) (h:corebankref10_count.f k cA dA eA aA a1=some r),
    Calls Try.prog 85 #[.agg #[.int .i64 cA,.int .i64 dA,.string eA,.slice gA aA.length hA],.int .i64 a1] w fun e w'=>e=.returned (.int .i64 r)∧Below w.heap.size w w':=by
  induction k using Nat.strongRecOn with
  | _ k ih=>
  intro cA dA eA gA hA aA a1 r w oA pA h
  cases k with
  | zero=>exact absurd h (by simp [corebankref10_count.f])
  | succ k=>
  simp only [corebankref10_count.f] at h;have zA:=aM oA;have eB:=aM pA;clear oA pA;have HB:=aM (Below.refl w.heap.size w);have H:(corebankref10_count.l0 k a1 1 0 cA dA eA aA)=some r:=h;clear h;have H':=aM H;clear H;(go_enter Try.func85,Try.ntmps85);(go_wp2_with (first | ((with_reducible refine gate_dst (N:=2) rfl ?_);refine box_event ?hg (N:=2) ?hd (cs:=#[.int .i64 cA,.int .i64 dA,.string eA,.slice gA aA.length hA]) (t:=122) ?hr ?_;(case hd=>rfl);(case hg=>rfl);(case hr=>(go_simp;done));intro qA hg w3 hbox hb;have mA:=aM (bS HB.out hb);have nA:=aM (hbox);have aB:=aM ((by rw [hg];exact (below_size HB.out):w.heap.size≤qA));have tB:=aB;clear HB;have HB:=mA;have iA:=nA;clear mA nA aB tB;clear hb hbox hg)));(go_loopg [5,6] k (fun kq v5 v6 w'=>∃ (kA:Int) (bA:Int),v5=.int .i64 kA∧v6=.int .i64 bA∧Aside0 (corebankref10_count.l0 kq a1 kA bA cA dA eA aA=some r)∧Aside0 (kq≤k)∧Aside0 (w'.heap[qA]?=some (.cells #[.int .i64 cA,.int .i64 dA,.string eA,(.slice gA aA.length hA)] 122 (0,0)))∧Aside0 (Below w.heap.size w w')));case atStart=>exact ⟨(1),(0),(by rfl),(by rfl),H',⟨Nat.le_refl _⟩,⟨iA.out⟩,⟨HB.out⟩⟩
  case round=>
    clear H';obtain ⟨kA,bA,rfl,rfl,HA,HK1,iA,HB⟩:=hrel
    cases gk with
    | zero=>exact absurd HA.out (by simp [corebankref10_count.l0])
    | succ k1=>
      have H:=HA.out;clear HA;simp only [corebankref10_count.l0] at H;by_cases c4:bA < (aA.length:Int)
      · rw [if_pos c4] at H;have rB:decide (bA < (aA.length:Int))=true:=decide_eq_true c4;clear c4;by_cases c5:kA≤a1
        · rw [if_pos c5] at H;have dB:decide (kA≤a1)=true:=decide_eq_true c5;clear c5;by_cases c6:0≤bA
          · rw [if_pos c6] at H;have jC:decide (0≤bA)=true:=decide_eq_true c6;clear c6;replace H:=Option.bind_eq_some_iff.mp H;obtain ⟨t104,xB,H⟩:=H;replace H:(corebankref10_count.l0 k1 a1 (wrap64 (kA + t104)) (wrap64 (bA + 1)) cA dA eA aA)=some r:=H;have A7:=aM xB;clear xB;have H':=aM H;clear H;have dC:wr.cell? ⟨qA,3,none⟩=some (.slice gA aA.length hA):=bC iA.out 3 rfl;have p103:0≤(bA:Int):=oD (by assumption);have q103:bA < (aA.length:Int):=oD (by assumption);obtain ⟨iC,uB,vB,e103,tA,uA,vA,wA,xA,yA⟩:=at_T122 zA.out bA p103 q103;cases e103;replace tA:=cB HB.out tA;replace uA:=cB HB.out uA;replace vA:=cB HB.out vA;replace wA:=cB HB.out wA;have oB:=aM yA;have pB:=aM xA;clear yA xA;replace p103:=eq_true p103;replace q103:=eq_true q103;(go_wp2_with (first | ((with_reducible refine gate_callee (f:=85) rfl ?_);refine goesL_ (some 28) rfl rfl Try.func85 (by kernel_rfl) rfl #[.agg #[.int .i64 ((rd_T122 aA bA).f0),.int .i64 ((rd_T122 aA bA).f1),.string ((rd_T122 aA bA).f2),.slice uB ((rd_T122 aA bA).f3).length vB],.int .i64 (wrap64 (a1 - kA))] rfl (by (try simp only [List.map_toArray,List.map_cons,List.map_nil]);(rfl)) ?_;(with_reducible refine (ih k1 (by have:=HK1.out;omega) ((rd_T122 aA bA).f0) ((rd_T122 aA bA).f1) ((rd_T122 aA bA).f2) _ _ ((rd_T122 aA bA).f3) (wrap64 (a1 - kA)) t104 _ (Kd.C_below oB.out HB.out) pB.out A7.out).mono ?_);rintro e w9 ⟨rfl,hb⟩;refine ⟨_,rfl,?_⟩;have mA:=aM (bB iA.out hb);have nA:=aM (bS HB.out hb);clear iA;clear HB;have iA:=mA;have HB:=nA;clear mA nA;(try clear hb))));(go_roundg k1);(case measure=>have:=HK1.out;omega);case rel=>exact ⟨(wrap64 (kA + t104)),(wrap64 (bA + 1)),(by rfl),(by rfl),H',⟨by have:=HK1.out;omega⟩,⟨iA.out⟩,⟨HB.out⟩⟩
          · rw [if_neg c6] at H;exact absurd H (by simp)
        · rw [if_neg c5] at H;have dB:decide (kA≤a1)=false:=decide_eq_false c5;clear c5;obtain rfl:=Option.some.inj H;have aC:wr.cell? ⟨qA,3,none⟩=some (.slice gA aA.length hA):=bC iA.out 3 rfl;go_wp2;go_ret;exact ⟨by (rfl),HB.out⟩
      · rw [if_neg c4] at H;have rB:decide (bA < (aA.length:Int))=false:=decide_eq_false c4;clear c4;obtain rfl:=Option.some.inj H;have cC:wr.cell? ⟨qA,3,none⟩=some (.slice gA aA.length hA):=bC iA.out 3 rfl;go_wp2;go_ret;exact ⟨by (rfl),HB.out⟩
/-! ### corebankref10_Great: function 74 -/
def corebankref10_Great.f (k:Nat) (cA:Int) (dA:Int) (eA:ByteArray) (aA:List (S122)) (a1:Int):Option (Bool):=(corebankref10_count.f k cA dA eA aA a1).bind fun t106=>(some (decide (t106 > a1)))
set_option maxHeartbeats 8000000 in
set_option maxRecDepth 100000 in
theorem corebankref10_Great.calls (k:Nat) (cA:Int) (dA:Int) (eA:ByteArray) (gA:Option Addr) (hA:Nat) (aA:List (S122)) (a1:Int) (r:Bool) (w:World) (oA:Kd.C k122 w gA aA.length aA) (pA:aA.length≤hA) (h:corebankref10_Great.f k cA dA eA aA a1=some r) :
    Calls Try.prog 74 #[.agg #[.int .i64 cA,.int .i64 dA,.string eA,.slice gA aA.length hA],.int .i64 a1] w fun e w'=>e=.returned (.bool r)∧Below w.heap.size w w':=by
  have zA:=aM oA;have eB:=aM pA;clear oA pA;have HB:=aM (Below.refl w.heap.size w);have H:((corebankref10_count.f k cA dA eA aA a1).bind fun t106=>(some (decide (t106 > a1))))=some r:=h;clear h;replace H:=Option.bind_eq_some_iff.mp H;obtain ⟨t106,yB,H⟩:=H;replace H:(some (decide (t106 > a1)))=some r:=H;have A3:=aM yB;clear yB;obtain rfl:=Option.some.inj H;(go_enter Try.func74,Try.ntmps74);(go_wp2_with (first | ((with_reducible refine gate_dst (N:=2) rfl ?_);refine box_event ?hg (N:=2) ?hd (cs:=#[.int .i64 cA,.int .i64 dA,.string eA,.slice gA aA.length hA]) (t:=122) ?hr ?_;(case hd=>rfl);(case hg=>rfl);(case hr=>(go_simp;done));intro rA hg w4 hbox hb;have mA:=aM (bS HB.out hb);have nA:=aM (hbox);have aB:=aM ((by rw [hg];exact (below_size HB.out):w.heap.size≤rA));have tB:=aB;clear HB;have HB:=mA;have lA:=nA;clear mA nA aB tB;clear hb hbox hg;have eC:w4.cell? ⟨rA,0,none⟩=some (.int .i64 cA):=bC lA.out 0 rfl;have fC:w4.cell? ⟨rA,1,none⟩=some (.int .i64 dA):=bC lA.out 1 rfl;have gC:w4.cell? ⟨rA,2,none⟩=some (.string eA):=bC lA.out 2 rfl;have hC:w4.cell? ⟨rA,3,none⟩=some (.slice gA aA.length hA):=bC lA.out 3 rfl) | ((with_reducible refine gate_callee (f:=85) rfl ?_);refine goesL_ (some 7) rfl rfl Try.func85 (by kernel_rfl) rfl #[.agg #[.int .i64 cA,.int .i64 dA,.string eA,.slice gA aA.length hA],.int .i64 a1] rfl (by (try simp only [List.map_toArray,List.map_cons,List.map_nil]);(rfl)) ?_;(with_reducible refine (corebankref10_count.calls k cA dA eA _ _ aA a1 t106 _ (Kd.C_below zA.out HB.out) eB.out A3.out).mono ?_);rintro e w6 ⟨rfl,hb⟩;refine ⟨_,rfl,?_⟩;have mA:=aM (bB lA.out hb);have nA:=aM (bS HB.out hb);clear lA;clear HB;have lA:=mA;have HB:=nA;clear mA nA;(try clear hb))));go_ret;exact ⟨by (rfl),HB.out⟩
end Go.Proofs.Ytcmaifjmnpfmbaa.R
