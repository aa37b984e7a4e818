-- Made by wip/tools/ext.py (this project's) over the kit's print, with external functions' contracts by hand. Not trusted: Lean checks it.
import Derived.Test.YtcmaifjmnpfmbaaRx0
namespace Go.Proofs.Ytcmaifjmnpfmbaa.R
open Go.RowKit Go.Proofs.YtcmaifjmnpfmbaaW.PrintWords Go.Proofs.YtcmaifjmnpfmbaaW.PrintLast Go.Proofs.YtcmaifjmnpfmbaaW.PrintMore
attribute [local go_sem] max2_int min2_int max_two min_two max_three min_three max_four min_four   -- for this text's walks alone
set_option linter.unusedVariables false
set_option linter.unusedSimpArgs false
/-! ### corebankref19_Great: function 47 -/
mutual
def corebankref19_Great.j0:Nat→Bool→Int→Int→Int→Int→Int→Int→ByteArray→ByteArray→List (S129)→Int→Option (Bool)
 | 0,_,_,_,_,_,_,_,_,_,_,_=>none
 | k + 1,x19,rA,tA,uA,vA,wA,xA,yA,zA,pA,aB=>if x19=true then (some true) else (corebankref19_Great.l0 k 0 rA tA uA vA wA xA yA zA pA aB)
def corebankref19_Great.l0:Nat→Int→Int→Int→Int→Int→Int→Int→ByteArray→ByteArray→List (S129)→Int→Option (Bool)
 | 0,_,_,_,_,_,_,_,_,_,_,_=>none
 | k + 1,x3,rA,tA,uA,vA,wA,xA,yA,zA,pA,aB=>if x3 < (pA.length:Int) then (if 0≤x3 then (if (((rd_T129 pA x3).f2).size:Int) > 100 then (some true) else (corebankref19_Great.l0 k (wrap64 (x3 + 1)) rA tA uA vA wA xA yA zA pA aB)) else (none)) else (some false)
end
def corebankref19_Great.f (k:Nat) (gA:Int) (hA:Int) (iA:Int) (jA:Int) (kA:Int) (lA:Int) (bA:ByteArray) (dA:ByteArray) (aA:List (S129)) (mA:Int):Option (Bool):=if (aA.length:Int) > 30 then (corebankref19_Great.j0 k true gA hA iA jA kA lA bA dA aA mA) else (if (bA.size:Int) > 1000 then (corebankref19_Great.j0 k true gA hA iA jA kA lA bA dA aA mA) else (corebankref19_Great.j0 k (decide ((dA.size:Int) > 1000)) gA hA iA jA kA lA bA dA aA mA))
set_option maxHeartbeats 8000000 in
set_option maxRecDepth 100000 in
theorem corebankref19_Great.calls (k:Nat) (gA:Int) (hA:Int) (iA:Int) (jA:Int) (kA:Int) (lA:Int) (bA:ByteArray) (dA:ByteArray) (nA:Option Addr) (oA:Nat) (aA:List (S129)) (mA:Int) (r:Bool) (w:World) (eB:Kd.C k129 w nA aA.length aA) (iB:aA.length≤oA) (h:corebankref19_Great.f k gA hA iA jA kA lA bA dA aA mA=some r) :
  Calls Try.prog 47 #[.agg #[.int .i64 gA,.int .i64 hA,.int .i64 iA,.int .i64 jA,.int .i64 kA,.int .i64 lA,.string bA,.string dA,.slice nA aA.length oA,.int .u64 mA]] w fun e w'=>e=.returned (.bool r)∧Below w.heap.size w w':=by
 have fB:=aM eB;clear eB iB;have HB:=aM (Below.refl w.heap.size w);have H:(if (aA.length:Int) > 30 then (corebankref19_Great.j0 k true gA hA iA jA kA lA bA dA aA mA) else (if (bA.size:Int) > 1000 then (corebankref19_Great.j0 k true gA hA iA jA kA lA bA dA aA mA) else (corebankref19_Great.j0 k (decide ((dA.size:Int) > 1000)) gA hA iA jA kA lA bA dA aA mA)))=some r:=h;clear h;have HC2:=aM H;clear H;(go_enter Try.func47,Try.ntmps47);(go_upto_region 1 with (first | ((with_reducible refine gate_dst (N:=1) rfl ?_);(try (refine gate_guard (by rfl) ?_;dsimp only));refine box_event ?hg (N:=1) ?hd (cs:=#[.int .i64 gA,.int .i64 hA,.int .i64 iA,.int .i64 jA,.int .i64 kA,.int .i64 lA,.string bA,.string dA,.slice nA aA.length oA,.int .u64 mA]) (t:=84) ?hr ?_;(case hd=>rfl);(case hg=>rfl);(case hr=>(go_simp;done));intro fA hg w3 hbox hb;have mB:=aM (bS HB.out hb);have nB:=aM (hbox);have oB:=aM ((by rw [hg];exact (below_size HB.out):w.heap.size≤fA));have vB:=oB;clear HB;have HB:=mB;have cA:=nB;clear mB nB oB vB;clear hb hbox hg)));go_cut [19] (fun v19 wc=>∃ (kq:Nat) (dB:Bool),v19=.bool dB∧Aside0 (corebankref19_Great.j0 kq dB gA hA iA jA kA lA bA dA aA mA=some r)∧Aside0 (kq≤k)∧Aside0 (wc.heap[fA]?=some (.cells #[.int .i64 gA,.int .i64 hA,.int .i64 iA,.int .i64 jA,.int .i64 kA,.int .i64 lA,.string bA,.string dA,(.slice nA aA.length oA),.int .u64 mA] 84 (0,0)))∧Aside0 (Below w.heap.size w wc))
 case first=>
  have H:=HC2.out;clear HC2;by_cases c4:(aA.length:Int) > 30
  ·rw [if_pos c4] at H;have pB:decide (30 < (aA.length:Int))=true:=decide_eq_true c4;clear c4;have H':=aM H;clear H;have wB:w3.cell? ⟨fA,8,none⟩=some (.slice nA aA.length oA):=bC cA.out 8 rfl;go_wp2;(go_meet);case rel=>exact ⟨_,(true),(by rfl),H',⟨by (omega)⟩,⟨cA.out⟩,⟨HB.out⟩⟩
  ·rw [if_neg c4] at H;have pB:decide (30 < (aA.length:Int))=false:=decide_eq_false c4;clear c4;by_cases c6:(bA.size:Int) > 1000
   ·rw [if_pos c6] at H;have qB:decide (1000 < (bA.size:Int))=true:=decide_eq_true c6;clear c6;have H':=aM H;clear H;have xB:w3.cell? ⟨fA,6,none⟩=some (.string bA):=bC cA.out 6 rfl;have yB:w3.cell? ⟨fA,8,none⟩=some (.slice nA aA.length oA):=bC cA.out 8 rfl;go_wp2;(go_meet);case rel=>exact ⟨_,(true),(by rfl),H',⟨by (omega)⟩,⟨cA.out⟩,⟨HB.out⟩⟩
   ·rw [if_neg c6] at H;have qB:decide (1000 < (bA.size:Int))=false:=decide_eq_false c6;clear c6;have H':=aM H;clear H;have zB:w3.cell? ⟨fA,6,none⟩=some (.string bA):=bC cA.out 6 rfl;have aC:w3.cell? ⟨fA,7,none⟩=some (.string dA):=bC cA.out 7 rfl;have cC:w3.cell? ⟨fA,8,none⟩=some (.slice nA aA.length oA):=bC cA.out 8 rfl;go_wp2;(go_meet);case rel=>exact ⟨_,(decide ((dA.size:Int) > 1000)),(by rfl),H',⟨by (omega)⟩,⟨cA.out⟩,⟨HB.out⟩⟩
 case rest=>
  clear HC2;obtain ⟨kq,dB,rfl,HA,HJ1,cA,HB⟩:=hcut
  cases kq with
  | zero=>exact absurd HA.out (by simp [corebankref19_Great.j0])
  | succ kj1=>
   have H:=HA.out;clear HA;simp only [corebankref19_Great.j0] at H;by_cases c9:dB=true
   ·subst c9;(have H1:(some true)=some r:=by rw [if_pos rfl] at H;exact H);clear H;have H:=H1;clear H1;obtain rfl:=Option.some.inj H;go_wp2;go_ret;exact ⟨by (rfl),HB.out⟩
   ·replace c9:=Bool.eq_false_iff.mpr c9;subst c9;(have H1:(corebankref19_Great.l0 kj1 0 gA hA iA jA kA lA bA dA aA mA)=some r:=by rw [if_neg (show ¬ (false=true) by decide)] at H;exact H);clear H;have H:=H1;clear H1;have H':=aM H;clear H;go_wp2;(go_loopg [3] kj1 (fun kq v3 w'=>∃ (eA:Int),v3=.int .i64 eA∧Aside0 (corebankref19_Great.l0 kq eA gA hA iA jA kA lA bA dA aA mA=some r)∧Aside0 (kq≤kj1)∧Aside0 (w'.heap[fA]?=some (.cells #[.int .i64 gA,.int .i64 hA,.int .i64 iA,.int .i64 jA,.int .i64 kA,.int .i64 lA,.string bA,.string dA,(.slice nA aA.length oA),.int .u64 mA] 84 (0,0)))∧Aside0 (Below w.heap.size w w')));case atStart=>exact ⟨(0),(by rfl),H',⟨Nat.le_refl _⟩,⟨cA.out⟩,⟨HB.out⟩⟩
    case round=>
     clear H';obtain ⟨eA,rfl,HA,HK2,cA,HB⟩:=hrel
     cases gk with
     | zero=>exact absurd HA.out (by simp [corebankref19_Great.l0])
     | succ k2=>
      have H:=HA.out;clear HA;simp only [corebankref19_Great.l0] at H;by_cases c10:eA < (aA.length:Int)
      ·rw [if_pos c10] at H;have jB:decide (eA < (aA.length:Int))=true:=decide_eq_true c10;clear c10;by_cases c11:0≤eA
       ·rw [if_pos c11] at H;have dC:decide (0≤eA)=true:=decide_eq_true c11;clear c11;by_cases c12:(((rd_T129 aA eA).f2).size:Int) > 100
        ·rw [if_pos c12] at H;have kB:decide (100 < (((rd_T129 aA eA).f2).size:Int))=true:=decide_eq_true c12;clear c12;obtain rfl:=Option.some.inj H;have rB:wr.cell? ⟨fA,8,none⟩=some (.slice nA aA.length oA):=bC cA.out 8 rfl;have p117:0≤(eA:Int):=oD (by assumption);have q117:eA < (aA.length:Int):=oD (by assumption);obtain ⟨lB,e117,gB,hB,qA⟩:=at_T129 fB.out eA p117 q117;cases e117;replace qA:=cB HB.out qA;replace p117:=eq_true p117;replace q117:=eq_true q117;go_wp2;go_ret;exact ⟨by (rfl),HB.out⟩
        ·rw [if_neg c12] at H;have kB:decide (100 < (((rd_T129 aA eA).f2).size:Int))=false:=decide_eq_false c12;clear c12;have H':=aM H;clear H;have tB:wr.cell? ⟨fA,8,none⟩=some (.slice nA aA.length oA):=bC cA.out 8 rfl;have p117:0≤(eA:Int):=oD (by assumption);have q117:eA < (aA.length:Int):=oD (by assumption);obtain ⟨lB,e117,gB,hB,qA⟩:=at_T129 fB.out eA p117 q117;cases e117;replace qA:=cB HB.out qA;replace p117:=eq_true p117;replace q117:=eq_true q117;go_wp2;(go_roundg k2);(case measure=>have:=HJ1.out;have:=HK2.out;omega);case rel=>exact ⟨(wrap64 (eA + 1)),(by rfl),H',⟨by have:=HJ1.out;have:=HK2.out;omega⟩,⟨cA.out⟩,⟨HB.out⟩⟩
       ·rw [if_neg c11] at H;exact absurd H (by simp)
      ·rw [if_neg c10] at H;have jB:decide (eA < (aA.length:Int))=false:=decide_eq_false c10;clear c10;obtain rfl:=Option.some.inj H;have uB:wr.cell? ⟨fA,8,none⟩=some (.slice nA aA.length oA):=bC cA.out 8 rfl;go_wp2;go_ret;exact ⟨by (rfl),HB.out⟩
end Go.Proofs.Ytcmaifjmnpfmbaa.R
