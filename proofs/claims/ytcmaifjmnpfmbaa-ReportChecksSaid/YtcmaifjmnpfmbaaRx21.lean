-- Made by wip/tools/ext.py (this project's) over the kit's print, with external functions' contracts by hand. Not trusted: Lean checks it.
import Derived.Test.YtcmaifjmnpfmbaaRx0
import Derived.Test.YtcmaifjmnpfmbaaRx1
namespace Go.Proofs.Ytcmaifjmnpfmbaa.R
open Go.RowKit Go.Proofs.YtcmaifjmnpfmbaaW.PrintWords Go.Proofs.YtcmaifjmnpfmbaaW.PrintLast Go.Proofs.YtcmaifjmnpfmbaaW.PrintMore
attribute [local go_sem] max2_int min2_int max_two min_two max_three min_three max_four min_four   -- for this text's walks alone
set_option linter.unusedVariables false
set_option linter.unusedSimpArgs false
attribute [local go_sem high] eqA58
/-! ### corebankref49_SameCells: function 22 -/
def corebankref49_SameCells.l0:Nat→List (S58)→List (S58)→Int→Option (Bool)
  | 0,_,_,_=>none
  | k + 1,x0,x1,x5=>if x5 < (x0.length:Int) then (if 0≤x5 then (if x5 < (x1.length:Int) then (if (!((((rd_T58 x0 x5).f0).toList) == (((rd_T58 x1 x5).f0).toList)) || (!((((rd_T58 x0 x5).f1).toList) == (((rd_T58 x1 x5).f1).toList)) || (!(((rd_T58 x0 x5).f2) == ((rd_T58 x1 x5).f2)))))=true then (some false) else (corebankref49_SameCells.l0 k x0 x1 (wrap64 (x5 + 1)))) else (none)) else (none)) else (some true)
def corebankref49_SameCells.f (k:Nat) (l0:List (S58)) (l1:List (S58)):Option (Bool):=if (l0.length:Int)=(l1.length:Int) then (corebankref49_SameCells.l0 k l0 l1 0) else (some false)
theorem corebankref49_SameCells.mono_l:∀ k,(∀ y0 y1 y2,LeO (corebankref49_SameCells.l0 k y0 y1 y2) (corebankref49_SameCells.l0 (k + 1) y0 y1 y2))
  | 0=>fun _ _ _ r h=>by simp [corebankref49_SameCells.l0] at h
  | k + 1=>by
    have ih0:=corebankref49_SameCells.mono_l k
    · intro y0 y1 y2;unfold corebankref49_SameCells.l0
      repeat' first
      | (with_reducible exact ih0 _ _ _)
      | (with_reducible exact LeO.refl _)
      | (with_reducible refine LeO.ite ?_ ?_)
theorem corebankref49_SameCells.mono:∀ a0 a1 k,LeO (corebankref49_SameCells.f k a0 a1) (corebankref49_SameCells.f (k + 1) a0 a1):=by
  intro a0 a1 k;have ih0:=corebankref49_SameCells.mono_l k;unfold corebankref49_SameCells.f
  repeat' first
      | (with_reducible exact ih0 _ _ _)
      | (with_reducible exact LeO.refl _)
      | (with_reducible refine LeO.ite ?_ ?_)
set_option maxHeartbeats 8000000 in
set_option maxRecDepth 100000 in
theorem corebankref49_SameCells.calls (k:Nat) (A0:Option Addr) (c0:Nat) (l0:List (S58)) (A1:Option Addr) (c1:Nat) (l1:List (S58)) (r:Bool) (w:World) (hr0:Kd.C k58 w A0 l0.length l0) (hc0:l0.length≤c0) (hr1:Kd.C k58 w A1 l1.length l1) (hc1:l1.length≤c1) (h:corebankref49_SameCells.f k l0 l1=some r) :
    Calls Try.prog 22 #[.slice A0 l0.length c0,.slice A1 l1.length c1] w fun e w'=>e=.returned (.bool r)∧Drawn0 w w':=by
  have HR0:=aM hr0;clear hr0 hc0;have HR1:=aM hr1;clear hr1 hc1;have H:(if (l0.length:Int)=(l1.length:Int) then (corebankref49_SameCells.l0 k l0 l1 0) else (some false))=some r:=h;clear h;by_cases c3:(l0.length:Int)=(l1.length:Int)
  · rw [if_pos c3] at H;have gB:((l0.length:Int) != (l1.length:Int))=false:=bne_eq_false_iff_eq.mpr c3;clear c3;have H':=aM H;clear H;(go_enter Try.func22,Try.ntmps22);go_wp2;(repeat (go_quiet (fail);try go_wp2));(go_loopg [5] k (fun kq v5 w'=>∃ (aA:Int),v5=.int .i64 aA∧Aside0 (corebankref49_SameCells.l0 kq l0 l1 aA=some r)∧Aside0 (kq≤k)∧Drawn0 w w'));case atStart=>exact ⟨(0),(by rfl),H',⟨Nat.le_refl _⟩,by repeat (exact Drawn0.refl _)⟩
    case round=>
      clear H';(try clear gB);obtain ⟨aA,rfl,HA,HK1,⟨m1,rfl⟩⟩:=hrel
      cases gk with
      | zero=>exact absurd HA.out (by simp [corebankref49_SameCells.l0])
      | succ k1=>
        have H:=HA.out;clear HA;simp only [corebankref49_SameCells.l0] at H;by_cases c4:aA < (l0.length:Int)
        · rw [if_pos c4] at H;have vA:decide (aA < (l0.length:Int))=true:=decide_eq_true c4;clear c4;by_cases c5:0≤aA
          · rw [if_pos c5] at H;have kB:decide (0≤aA)=true:=decide_eq_true c5;clear c5;by_cases c6:aA < (l1.length:Int)
            · rw [if_pos c6] at H;have lB:decide (aA < (l1.length:Int))=true:=decide_eq_true c6;clear c6;by_cases c7:(!((((rd_T58 l0 aA).f0).toList) == (((rd_T58 l1 aA).f0).toList)) || (!((((rd_T58 l0 aA).f1).toList) == (((rd_T58 l1 aA).f1).toList)) || (!(((rd_T58 l0 aA).f2) == ((rd_T58 l1 aA).f2)))))=true
              · rw [if_pos c7] at H;have wA:(!((((rd_T58 l0 aA).f0).toList) == (((rd_T58 l1 aA).f0).toList)) || (!((((rd_T58 l0 aA).f1).toList) == (((rd_T58 l1 aA).f1).toList)) || (!(((rd_T58 l0 aA).f2) == ((rd_T58 l1 aA).f2)))))=true:=c7;clear c7;obtain rfl:=Option.some.inj H;have p259:0≤(aA:Int):=oD (by assumption);have q259:aA < (l0.length:Int):=oD (by assumption);obtain ⟨hB,e259,yA,zA,aB⟩:=at_T58 HR0.out aA p259 q259;cases e259;replace p259:=eq_true p259;replace q259:=eq_true q259;have p260:0≤(aA:Int):=oD (by assumption);have q260:aA < (l1.length:Int):=oD (by assumption);obtain ⟨iB,e260,dB,eB,fB⟩:=at_T58 HR1.out aA p260 q260;cases e260;replace p260:=eq_true p260;replace q260:=eq_true q260;go_wp2;(repeat (go_quiet (fail);try go_wp2));go_ret;exact ⟨by (rfl),by repeat (first | exact Drawn0.refl _ | apply Drawn0.step)⟩
              · rw [if_neg c7] at H;(have wA:(!((((rd_T58 l0 aA).f0).toList) == (((rd_T58 l1 aA).f0).toList)) || (!((((rd_T58 l0 aA).f1).toList) == (((rd_T58 l1 aA).f1).toList)) || (!(((rd_T58 l0 aA).f2) == ((rd_T58 l1 aA).f2)))))=false:=by simpa using c7);clear c7;have H':=aM H;clear H;have p259:0≤(aA:Int):=oD (by assumption);have q259:aA < (l0.length:Int):=oD (by assumption);obtain ⟨hB,e259,yA,zA,aB⟩:=at_T58 HR0.out aA p259 q259;cases e259;replace p259:=eq_true p259;replace q259:=eq_true q259;have p260:0≤(aA:Int):=oD (by assumption);have q260:aA < (l1.length:Int):=oD (by assumption);obtain ⟨iB,e260,dB,eB,fB⟩:=at_T58 HR1.out aA p260 q260;cases e260;replace p260:=eq_true p260;replace q260:=eq_true q260;go_wp2;(repeat (go_quiet (fail);try go_wp2));(go_roundg k1);(case measure=>have:=HK1.out;omega);case rel=>exact ⟨(wrap64 (aA + 1)),(by rfl),H',⟨by have:=HK1.out;omega⟩,by repeat (first | exact Drawn0.refl _ | apply Drawn0.step)⟩
            · rw [if_neg c6] at H;exact absurd H (by simp)
          · rw [if_neg c5] at H;exact absurd H (by simp)
        · rw [if_neg c4] at H;have vA:decide (aA < (l0.length:Int))=false:=decide_eq_false c4;clear c4;obtain rfl:=Option.some.inj H;go_wp2;(repeat (go_quiet (fail);try go_wp2));go_ret;exact ⟨by (rfl),by repeat (first | exact Drawn0.refl _ | apply Drawn0.step)⟩
  · rw [if_neg c3] at H;have gB:((l0.length:Int) != (l1.length:Int))=true:=bne_iff_ne.mpr c3;obtain rfl:=Option.some.inj H;(go_enter Try.func22,Try.ntmps22);go_wp2;(repeat (go_quiet (fail);try go_wp2));go_ret;exact ⟨by (rfl),by repeat (exact Drawn0.refl _)⟩
/-! ### money_Find: function 58 -/
def money_Find.l0:Nat→ByteArray→List (S97)→Int→Int→Option (ByteArray × Int × Bool)
  | 0,_,_,_,_=>none
  | k + 1,x1,x8,x9,x10=>if x10 < x9 then (if 0≤x10 then (if x10 < (x8.length:Int) then (if ((rd_T97 x8 x10).f0).toList=x1.toList then (some ((rd_T97 x8 x10).f0,(rd_T97 x8 x10).f1,true)) else (money_Find.l0 k x1 x8 x9 (wrap64 (x10 + 1)))) else (none)) else (none)) else (some ((⟨#[]⟩:ByteArray),0,false))
def money_Find.f (k:Nat) (l0:List (S97)) (a1:ByteArray):Option (ByteArray × Int × Bool):=money_Find.l0 k a1 l0 (l0.length:Int) 0
theorem money_Find.mono_l:∀ k,(∀ y0 y1 y2 y3,LeO (money_Find.l0 k y0 y1 y2 y3) (money_Find.l0 (k + 1) y0 y1 y2 y3))
  | 0=>fun _ _ _ _ r h=>by simp [money_Find.l0] at h
  | k + 1=>by
    have ih0:=money_Find.mono_l k
    · intro y0 y1 y2 y3;unfold money_Find.l0
      repeat' first
      | (with_reducible exact ih0 _ _ _ _)
      | (with_reducible exact LeO.refl _)
      | (with_reducible refine LeO.ite ?_ ?_)
theorem money_Find.mono:∀ a0 a1 k,LeO (money_Find.f k a0 a1) (money_Find.f (k + 1) a0 a1):=by
  intro a0 a1 k;have ih0:=money_Find.mono_l k;unfold money_Find.f;repeat' (with_reducible exact ih0 _ _ _ _)
set_option maxHeartbeats 8000000 in
set_option maxRecDepth 100000 in
theorem money_Find.calls (k:Nat) (A0:Option Addr) (c0:Nat) (l0:List (S97)) (a1:ByteArray) (r1:ByteArray) (r2:Int) (r3:Bool) (w:World) (hr0:Kd.C k97 w A0 l0.length l0) (hc0:l0.length≤c0) (h:money_Find.f k l0 a1=some (r1,r2,r3)) :
    Calls Try.prog 58 #[.slice A0 l0.length c0,.string a1] w fun e w'=>e=.returned (.tuple #[.agg #[.string r1,.int .i64 r2],.bool r3])∧Below w.heap.size w w':=by
  have HR0:=aM hr0;clear hr0 hc0;have HB:=aM (Below.refl w.heap.size w);have H:(money_Find.l0 k a1 l0 (l0.length:Int) 0)=some (r1,r2,r3):=h;clear h;have H':=aM H;clear H;(go_enter Try.func58,Try.ntmps58);(go_wp2_with (first | ((with_reducible refine gate_dst (N:=4) rfl ?_);refine box_event ?hg (N:=4) ?hd (cs:=#[.string (⟨#[]⟩:ByteArray),.int .i64 0]) (t:=97) ?hr ?_;(case hd=>rfl);(case hg=>rfl);(case hr=>(go_simp;done));intro fA hg w3 hbox hb;have lA:=aM (bS HB.out hb);have mA:=aM (hbox);have nA:=aM ((by rw [hg];exact (below_size HB.out):w.heap.size≤fA));have oA:=nA;clear HB;have HB:=lA;have bA:=mA;have xA:=oA;clear lA mA nA oA;clear hb hbox hg)));(go_loopg [10] k (fun kq v10 w'=>∃ (cA:Int) (eA:ByteArray) (dA:Int),v10=.int .i64 cA∧Aside0 (money_Find.l0 kq a1 l0 (l0.length:Int) cA=some (r1,r2,r3))∧Aside0 (kq≤k)∧Aside0 (w'.heap[fA]?=some (.cells #[.string eA,.int .i64 dA] 97 (0,0)))∧Aside0 (Below w.heap.size w w')));case atStart=>exact ⟨(0),((⟨#[]⟩:ByteArray)),(0),(by rfl),H',⟨Nat.le_refl _⟩,⟨bA.out⟩,⟨HB.out⟩⟩
  case round=>
    clear H';obtain ⟨cA,eA,dA,rfl,HA,HK1,bA,HB⟩:=hrel
    cases gk with
    | zero=>exact absurd HA.out (by simp [money_Find.l0])
    | succ k1=>
      have H:=HA.out;clear HA;simp only [money_Find.l0] at H;by_cases c4:cA < (l0.length:Int)
      · rw [if_pos c4] at H;have vA:decide (cA < (l0.length:Int))=true:=decide_eq_true c4;clear c4;by_cases c5:0≤cA
        · rw [if_pos c5] at H;have kB:decide (0≤cA)=true:=decide_eq_true c5;clear c5;by_cases c6:cA < (l0.length:Int)
          · rw [if_pos c6] at H;have lB:decide (cA < (l0.length:Int))=true:=decide_eq_true c6;clear c6;by_cases c7:((rd_T97 l0 cA).f0).toList=a1.toList
            · rw [if_pos c7] at H;have wA:(((rd_T97 l0 cA).f0).toList == a1.toList)=true:=beq_iff_eq.mpr c7;clear c7;simp only [Option.some.injEq,Prod.mk.injEq] at H;obtain ⟨rfl,rfl,rfl⟩:=H;have p262:0≤(cA:Int):=oD (by assumption);have q262:cA < (l0.length:Int):=oD (by assumption);obtain ⟨jB,e262,jA,kA⟩:=at_T97 HR0.out cA p262 q262;cases e262;replace jA:=cB HB.out jA;replace kA:=cB HB.out kA;replace p262:=eq_true p262;replace q262:=eq_true q262;(go_wp2_with (first | ((with_reducible refine gate_dst (N:=7) rfl ?_);refine box_event ?hg (N:=7) ?hd (cs:=#[.string (⟨#[]⟩:ByteArray),.int .i64 0]) (t:=97) ?hr ?_;(case hd=>rfl);(case hg=>rfl);(case hr=>(go_simp;done));intro hA hg w8 hbox hb;have lA:=aM (bB bA.out hb);have mA:=aM (bS HB.out hb);have nA:=aM (hbox);have oA:=aM ((by rw [hg];exact (below_size HB.out):w.heap.size≤hA));have qA:=oA;have rA:=aM ((by rw [hg];exact Nat.ne_of_lt (blk_lt bA.out):fA ≠ hA));have tA:=aM ((by rw [hg];exact Nat.ne_of_gt (blk_lt bA.out):hA ≠ fA));clear bA;clear HB;have bA:=lA;have HB:=mA;have iA:=nA;have pA:=qA;have gA:=rA;have uA:=tA;clear lA mA nA oA qA rA tA;clear hb hbox hg;have hnc9:=gA.out;have mB:w8.cell? ⟨hA,0,none⟩=some (.string (⟨#[]⟩:ByteArray)):=bC iA.out 0 rfl;have nB:w8.cell? ⟨hA,1,none⟩=some (.int .i64 0):=bC iA.out 1 rfl;have oB:=bF iA.out 0;have pB:=bF iA.out 1;have qB:w8.cell? ⟨fA,0,none⟩=some (.string eA):=bC bA.out 0 rfl;have rB:w8.cell? ⟨fA,1,none⟩=some (.int .i64 dA):=bC bA.out 1 rfl;have tB:=bF bA.out 0;have uB:=bF bA.out 1)));refine bodyPost_ret (results_ct rfl _ _ fA 97 #[.string ((rd_T97 l0 cA).f0),.int .i64 ((rd_T97 l0 cA).f1)] (0,0) _ rfl (by refine blk_put (cs:=#[.string ((rd_T97 l0 cA).f0),.int .i64 dA]) ?_ 1 _ rfl;refine blk_put (cs:=#[.string eA,.int .i64 dA]) ?_ 0 _ rfl;refine blk_far ?_ gA.out _;refine blk_far ?_ gA.out _;exact bA.out) Try.underlying97 rfl (by kernel_rfl)) rfl ?_;exact ⟨by (rfl),by repeat ((with_reducible first | exact HB.out | refine below_set ?_ xA.out | refine below_set ?_ pA.out))⟩
            · rw [if_neg c7] at H;have wA:(((rd_T97 l0 cA).f0).toList == a1.toList)=false:=beq_eq_false_iff_ne.mpr c7;have H':=aM H;clear H;have p262:0≤(cA:Int):=oD (by assumption);have q262:cA < (l0.length:Int):=oD (by assumption);obtain ⟨jB,e262,jA,kA⟩:=at_T97 HR0.out cA p262 q262;cases e262;replace jA:=cB HB.out jA;replace kA:=cB HB.out kA;replace p262:=eq_true p262;replace q262:=eq_true q262;(go_wp2_with (first | ((with_reducible refine gate_dst (N:=7) rfl ?_);refine box_event ?hg (N:=7) ?hd (cs:=#[.string (⟨#[]⟩:ByteArray),.int .i64 0]) (t:=97) ?hr ?_;(case hd=>rfl);(case hg=>rfl);(case hr=>(go_simp;done));intro hA hg w12 hbox hb;have lA:=aM (bB bA.out hb);have mA:=aM (bS HB.out hb);have nA:=aM (hbox);have oA:=aM ((by rw [hg];exact (below_size HB.out):w.heap.size≤hA));have qA:=oA;have rA:=aM ((by rw [hg];exact Nat.ne_of_lt (blk_lt bA.out):fA ≠ hA));have tA:=aM ((by rw [hg];exact Nat.ne_of_gt (blk_lt bA.out):hA ≠ fA));clear bA;clear HB;have bA:=lA;have HB:=mA;have iA:=nA;have pA:=qA;have gA:=rA;have uA:=tA;clear lA mA nA oA qA rA tA;clear hb hbox hg;have vB:w12.cell? ⟨hA,0,none⟩=some (.string (⟨#[]⟩:ByteArray)):=bC iA.out 0 rfl;have wB:w12.cell? ⟨hA,1,none⟩=some (.int .i64 0):=bC iA.out 1 rfl;have xB:=bF iA.out 0;have yB:=bF iA.out 1)));(go_roundg k1);(case measure=>have:=HK1.out;omega);case rel=>exact ⟨(wrap64 (cA + 1)),(eA),(dA),(by rfl),H',⟨by have:=HK1.out;omega⟩,⟨by refine blk_far ?_ gA.out _;refine blk_far ?_ gA.out _;exact bA.out⟩,⟨by repeat ((with_reducible first | exact HB.out | refine below_set ?_ pA.out))⟩⟩
          · rw [if_neg c6] at H;exact absurd H (by simp)
        · rw [if_neg c5] at H;exact absurd H (by simp)
      · rw [if_neg c4] at H;have vA:decide (cA < (l0.length:Int))=false:=decide_eq_false c4;clear c4;simp only [Option.some.injEq,Prod.mk.injEq] at H;obtain ⟨rfl,rfl,rfl⟩:=H;have zB:wr.cell? ⟨fA,0,none⟩=some (.string eA):=bC bA.out 0 rfl;have aC:wr.cell? ⟨fA,1,none⟩=some (.int .i64 dA):=bC bA.out 1 rfl;have cC:=bF bA.out 0;have dC:=bF bA.out 1;go_wp2;refine bodyPost_ret (results_ct rfl _ _ fA 97 #[.string (⟨#[]⟩:ByteArray),.int .i64 0] (0,0) _ rfl (by refine blk_put (cs:=#[.string (⟨#[]⟩:ByteArray),.int .i64 dA]) ?_ 1 _ rfl;refine blk_put (cs:=#[.string eA,.int .i64 dA]) ?_ 0 _ rfl;exact bA.out) Try.underlying97 rfl (by kernel_rfl)) rfl ?_;exact ⟨by (rfl),by repeat ((with_reducible first | exact HB.out | refine below_set ?_ xA.out))⟩
end Go.Proofs.Ytcmaifjmnpfmbaa.R
