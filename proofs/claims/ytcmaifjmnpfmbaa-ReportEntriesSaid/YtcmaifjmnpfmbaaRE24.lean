/- Texts of this claim, laid together by a program of this project: contracts of functions and pure laws. -/
import Derived.Test.YtcmaifjmnpfmbaaRx0
import Derived.Test.YtcmaifjmnpfmbaaRE22
import Derived.Test.YtcmaifjmnpfmbaaRE19
import Derived.Test.YtcmaifjmnpfmbaaRE17
import Derived.Test.YtcmaifjmnpfmbaaRE21
import Derived.Test.YtcmaifjmnpfmbaaRE20
import Derived.Test.YtcmaifjmnpfmbaaRE23
section
namespace Go.Proofs.Ytcmaifjmnpfmbaa.R
open Go.RowKit Go.Proofs.YtcmaifjmnpfmbaaW.PrintWords Go.Proofs.YtcmaifjmnpfmbaaW.PrintLast Go.Proofs.YtcmaifjmnpfmbaaW.PrintMore
attribute [local go_sem] max2_int min2_int max_two min_two max_three min_three max_four min_four   -- for this text's walks alone
set_option linter.unusedVariables false
set_option linter.unusedSimpArgs false
def corebankref49_belongs.l0:Nat→Int→Int→List (S97)→List (S86)→List (S62)→Int→Int→Int→Int→Int→Int→Int→Int→Int→Int→Int→Int→Int→Int→List (S79)→List (S90)→List (S84)→List (S119)→List (S180)→ByteArray→Int→List Int→Option (Bool)
 | 0,_,_,_,_,_,_,_,_,_,_,_,_,_,_,_,_,_,_,_,_,_,_,_,_,_,_,_=>none
 | k + 1,x7,x8,jC,kC,iC,lC,mC,nC,oC,pC,qC,rC,tC,uC,vC,wC,xC,yC,zC,aD,bD,cD,dD,eD,fD,gD,cC=>if x8 < (cC.length:Int) then (if x7=0 then (corebankref49_belongs.l0 k x7 (wrap64 (x8 + 1)) jC kC iC lC mC nC oC pC qC rC tC uC vC wC xC yC zC aD bD cD dD eD fD gD cC) else (if 0≤x8 then ((corebankref18_Under.f k iC x7 (rd cC x8)).bind fun t295=>(if t295=true then (some true) else (corebankref49_belongs.l0 k x7 (wrap64 (x8 + 1)) jC kC iC lC mC nC oC pC qC rC tC uC vC wC xC yC zC aD bD cD dD eD fD gD cC))) else (none))) else (some false)
def corebankref49_belongs.f (k:Nat) (tA:List (S97)) (uA:List (S86)) (kA:List (S62)) (wA:Int) (xA:Int) (yA:Int) (zA:Int) (aB:Int) (dB:Int) (eB:Int) (lA:Int) (mA:Int) (nA:Int) (oA:Int) (pA:Int) (qA:Int) (rA:Int) (fA:List (S79)) (gA:List (S90)) (hA:List (S84)) (iA:List (S119)) (jA:List (S180)) (jB:ByteArray) (kB:Int) (dA:List Int) (a2:Int):Option (Bool):=(corebankref49_Owner.f k tA uA kA wA xA yA zA aB dB eB lA mA nA oA pA qA rA fA gA hA iA jA a2).bind fun t293=>(corebankref49_belongs.l0 k t293 0 tA uA kA wA xA yA zA aB dB eB lA mA nA oA pA qA rA fA gA hA iA jA jB kB dA)
def corebankref49_belongs.T5:Bool × List (List Nat × List Nat):=(true,[([],[]),([0],[0]),([1],[1]),([2],[2]),([3,2],[2,3]),([2],[2]),([2],[2]),([6,2],[2,6]),([2],[2]),([7,8,2],[2,7,8]),([9,2],[2,9]),([4,5,10,2,2],[2,4,5,10]),([2,11],[2,11])])
def corebankref49_belongs.B5:List Nat:=[0,1,3,7,15,7,7,71,7,455,967,2047,4095]
theorem corebankref49_belongs.tab5:rtab .any (opsOf Try.f77 5)=corebankref49_belongs.T5:=by kernel_rfl
theorem corebankref49_belongs.bits5:waitsOk corebankref49_belongs.T5.2 corebankref49_belongs.B5=true:=by kernel_rfl
set_option maxHeartbeats 8000000 in
set_option maxRecDepth 100000 in
theorem corebankref49_belongs.calls (k:Nat) (dC:Option Addr) (eC:Nat) (tA:List (S97)) (fC:Option Addr) (gC:Nat) (uA:List (S86)) (nB:Option Addr) (oB:Nat) (kA:List (S62)) (wA:Int) (xA:Int) (yA:Int) (zA:Int) (aB:Int) (dB:Int) (eB:Int) (lA:Int) (mA:Int) (nA:Int) (oA:Int) (pA:Int) (qA:Int) (rA:Int) (pB:Option Addr) (qB:Nat) (fA:List (S79)) (rB:Option Addr) (tB:Nat) (gA:List (S90)) (uB:Option Addr) (vB:Nat) (hA:List (S84)) (wB:Option Addr) (xB:Nat) (iA:List (S119)) (yB:Option Addr) (zB:Nat) (jA:List (S180)) (jB:ByteArray) (kB:Int) (aC:Option Addr) (lB:Nat) (dA:List Int) (a2:Int) (r:Bool) (w:World) (uD:Kd.C k97 w dC tA.length tA) (vD:tA.length≤eC) (wD:Kd.C k86 w fC uA.length uA) (xD:uA.length≤gC) (yD:Kd.C k62 w nB kA.length kA) (zD:kA.length≤oB) (jD:Kd.C k79 w pB fA.length fA) (kD:fA.length≤qB) (lD:Kd.C k90 w rB gA.length gA) (mD:gA.length≤tB) (nD:Kd.C k84 w uB hA.length hA) (pD:hA.length≤vB) (qD:Kd.C k119 w wB iA.length iA) (rD:iA.length≤xB) (sD:Kd.C k180 w yB jA.length jA) (tD:jA.length≤zB) (aE:Kd.C (Kd.int .i64) w aC dA.length dA) (oE:dA.length≤lB) (h:corebankref49_belongs.f k tA uA kA wA xA yA zA aB dB eB lA mA nA oA pA qA rA fA gA hA iA jA jB kB dA a2=some r) :
  Calls Try.prog 77 #[.agg #[.slice dC tA.length eC,.slice fC uA.length gC,.slice nB kA.length oB,.int .i64 wA,.int .i64 xA,.int .i64 yA,.int .i64 zA,.int .i64 aB,.int .i64 dB,.int .i64 eB,.int .i64 lA,.int .i64 mA,.int .i64 nA,.int .i64 oA,.int .i64 pA,.int .i64 qA,.int .i64 rA,.slice pB fA.length qB,.slice rB gA.length tB,.slice uB hA.length vB,.slice wB iA.length xB,.slice yB jA.length zB],.agg #[.string jB,.int .i64 kB,.slice aC dA.length lB],.int .i64 a2] w fun e w'=>e=.returned (.bool r)∧Below w.heap.size w w':=by
 have pE:=aM uD;have qE:=aM vD;clear uD vD;have rE:=aM wD;have sE:=aM xD;clear wD xD;have hD:=aM yD;have iD:=aM zD;clear yD zD;have dE:=aM jD;have eE:=aM kD;clear jD kD;have fE:=aM lD;have gE:=aM mD;clear lD mD;have hE:=aM nD;have iE:=aM pD;clear nD pD;have jE:=aM qD;have kE:=aM rD;clear qD rD;have lE:=aM sD;have mE:=aM tD;clear sD tD;have bE:=aM aE;clear aE oE;have HB:=aM (Below.refl w.heap.size w);have H:((corebankref49_Owner.f k tA uA kA wA xA yA zA aB dB eB lA mA nA oA pA qA rA fA gA hA iA jA a2).bind fun t293=>(corebankref49_belongs.l0 k t293 0 tA uA kA wA xA yA zA aB dB eB lA mA nA oA pA qA rA fA gA hA iA jA jB kB dA))=some r:=h;clear h;replace H:=Option.bind_eq_some_iff.mp H;obtain ⟨t293,vE,H⟩:=H;replace H:(corebankref49_belongs.l0 k t293 0 tA uA kA wA xA yA zA aB dB eB lA mA nA oA pA qA rA fA gA hA iA jA jB kB dA)=some r:=H;have A4:=aM vE;clear vE;have H':=aM H;clear H;(go_enter Try.func77,Try.ntmps77);(go_wp2_with (first | ((with_reducible refine gate_dst (N:=9) rfl ?_);refine wpList_load_row rfl 33 (.tmp 3) rfl bA rfl 33 _ (0,0) _ aA.out Try.underlying33 rfl (by kernel_rfl) ?_) | ((with_reducible refine gate_dst (N:=3) rfl ?_);refine box_event ?hg (N:=3) ?hd (cs:=#[.slice dC tA.length eC,.slice fC uA.length gC,.slice nB kA.length oB,.int .i64 wA,.int .i64 xA,.int .i64 yA,.int .i64 zA,.int .i64 aB,.int .i64 dB,.int .i64 eB,.int .i64 lA,.int .i64 mA,.int .i64 nA,.int .i64 oA,.int .i64 pA,.int .i64 qA,.int .i64 rA,.slice pB fA.length qB,.slice rB gA.length tB,.slice uB hA.length vB,.slice wB iA.length xB,.slice yB jA.length zB]) (t:=33) ?hr ?_;(case hd=>rfl);(case hg=>rfl);(case hr=>(go_simp;done));intro bA hg w5 hbox hb;have fB:=aM (bS HB.out hb);have gB:=aM (hbox);have hB:=aM ((by rw [hg];exact (below_size HB.out):w.heap.size≤bA));have cE:=hB;clear HB;have HB:=fB;have aA:=gB;clear fB gB hB cE;clear hb hbox hg) | ((with_reducible refine gate_dst (N:=4) rfl ?_);refine box_event ?hg (N:=4) ?hd (cs:=#[.string jB,.int .i64 kB,.slice aC dA.length lB]) (t:=48) ?hr ?_;(case hd=>rfl);(case hg=>rfl);(case hr=>(go_simp;done));intro vA hg w6 hbox hb;have fB:=aM (bB aA.out hb);have gB:=aM (bS HB.out hb);have hB:=aM (hbox);have cE:=aM ((by rw [hg];exact (below_size HB.out):w.heap.size≤vA));have hF:=cE;have wE:=aM ((by rw [hg];exact Nat.ne_of_lt (blk_lt aA.out):bA ≠ vA));have xE:=aM ((by rw [hg];exact Nat.ne_of_gt (blk_lt aA.out):vA ≠ bA));clear aA;clear HB;have aA:=fB;have HB:=gB;have cA:=hB;have yE:=wE;have zE:=xE;clear fB gB hB cE hF wE xE;clear hb hbox hg) | ((with_reducible refine gate_callee (f:=18) rfl ?_);refine goesL_ (some 11) rfl rfl Try.func18 (by kernel_rfl) rfl #[.agg #[.slice dC tA.length eC,.slice fC uA.length gC,.slice nB kA.length oB,.int .i64 wA,.int .i64 xA,.int .i64 yA,.int .i64 zA,.int .i64 aB,.int .i64 dB,.int .i64 eB,.int .i64 lA,.int .i64 mA,.int .i64 nA,.int .i64 oA,.int .i64 pA,.int .i64 qA,.int .i64 rA,.slice pB fA.length qB,.slice rB gA.length tB,.slice uB hA.length vB,.slice wB iA.length xB,.slice yB jA.length zB],.int .i64 a2] rfl (by (try simp only [List.map_toArray,List.map_cons,List.map_nil]);(rfl)) ?_;(with_reducible refine (corebankref49_Owner.calls k _ _ tA _ _ uA _ _ kA wA xA yA zA aB dB eB lA mA nA oA pA qA rA _ _ fA _ _ gA _ _ hA _ _ iA _ _ jA a2 t293 _ (Kd.C_below pE.out HB.out) qE.out (Kd.C_below rE.out HB.out) sE.out (Kd.C_below hD.out HB.out) iD.out (Kd.C_below dE.out HB.out) eE.out (Kd.C_below fE.out HB.out) gE.out (Kd.C_below hE.out HB.out) iE.out (Kd.C_below jE.out HB.out) kE.out (Kd.C_below lE.out HB.out) mE.out A4.out).mono ?_);rintro e w9 ⟨rfl,hb⟩;refine ⟨_,rfl,?_⟩;have fB:=aM (bB aA.out hb);have gB:=aM (bB cA.out hb);have hB:=aM (bS HB.out hb);clear aA;clear cA;clear HB;have aA:=fB;have cA:=gB;have HB:=hB;clear fB gB hB;(try clear hb))));(go_loopg [8] k (fun kq v8 w'=>∃ (eA:Int),v8=.int .i64 eA∧Aside0 (corebankref49_belongs.l0 kq t293 eA tA uA kA wA xA yA zA aB dB eB lA mA nA oA pA qA rA fA gA hA iA jA jB kB dA=some r)∧Aside0 (kq≤k)∧Aside0 (w'.heap[bA]?=some (.cells #[(.slice dC tA.length eC),(.slice fC uA.length gC),(.slice nB kA.length oB),.int .i64 wA,.int .i64 xA,.int .i64 yA,.int .i64 zA,.int .i64 aB,.int .i64 dB,.int .i64 eB,.int .i64 lA,.int .i64 mA,.int .i64 nA,.int .i64 oA,.int .i64 pA,.int .i64 qA,.int .i64 rA,(.slice pB fA.length qB),(.slice rB gA.length tB),(.slice uB hA.length vB),(.slice wB iA.length xB),(.slice yB jA.length zB)] 33 (0,0)))∧Aside0 (w'.heap[vA]?=some (.cells #[.string jB,.int .i64 kB,(.slice aC dA.length lB)] 48 (0,0)))∧Aside0 (Below w.heap.size w w')));case atStart=>exact ⟨(0),(by rfl),H',⟨Nat.le_refl _⟩,⟨aA.out⟩,⟨cA.out⟩,⟨HB.out⟩⟩
 case round=>
  clear H';obtain ⟨eA,rfl,HA,HK1,aA,cA,HB⟩:=hrel
  cases gk with
  | zero=>exact absurd HA.out (by simp [corebankref49_belongs.l0])
  | succ k1=>
   have H:=HA.out;clear HA;simp only [corebankref49_belongs.l0] at H;by_cases c10:eA < (dA.length:Int)
   ·rw [if_pos c10] at H;have tE:decide (eA < (dA.length:Int))=true:=decide_eq_true c10;clear c10;by_cases c11:t293=0
    ·rw [if_pos c11] at H;have uE:(t293 != 0)=false:=bne_eq_false_iff_eq.mpr c11;clear c11;have H':=aM H;clear H;have cF:wr.cell? ⟨vA,2,none⟩=some (.slice aC dA.length lB):=bC cA.out 2 rfl;(try go_wp2_with (fail));have fB:=aM (blk_drew aA.out);have gB:=aM (blk_drew cA.out);have hB:=aM (below_drew1 HB.out);clear aA;clear cA;clear HB;have aA:=fB;have cA:=gB;have HB:=hB;clear fB gB hB;refine start_ (n:=13) (S:=fun w'=>True) (ds:=[]) #[fF,fF,fF,fF,fF,fF,fF,fF,fF,fF,fF,fF,fF] (by kernel_rfl) rfl rfl trivial (fun hHeld=>?_);refine with_tabW corebankref49_belongs.tab5 corebankref49_belongs.bits5 (fun HT_ HW_=>?_);(generalize wr.drew=w14 at aA cA HB hHeld ⊢);refine pure_ (i:=0) (N:=some 19) (v:=?_) (a':=?_) #[tT,fF,fF,fF,fF,fF,fF,fF,fF,fF,fF,fF,fF] rfl rfl (any_of HT_.out (by kernel_rfl)) (fun _ _ _ h=>h) (Or.inl ⟨by rfl,?_⟩) ?_ ?_;rotate_left
     ·intro w';go_simp;with_reducible rfl
     rotate_left
     ·simp only [Act.put,sA,sB,sC,i64_w,i32_w];rfl
     refine pure_ (i:=1) (N:=some 20) (v:=?_) (a':=?_) #[tT,tT,fF,fF,fF,fF,fF,fF,fF,fF,fF,fF,fF] rfl rfl (any_of HT_.out (by kernel_rfl)) (fun _ _ _ h=>h) (Or.inl ⟨by rfl,?_⟩) ?_ ?_;rotate_left
     ·intro w';go_simp;with_reducible rfl
     rotate_left
     ·simp only [Act.put,sA,sB,sC,i64_w,i32_w];rfl
     refine pure_ (i:=2) (N:=some 21) (v:=?_) (a':=?_) #[tT,tT,tT,fF,fF,fF,fF,fF,fF,fF,fF,fF,fF] rfl rfl (any_of HT_.out (by kernel_rfl)) (fun _ _ _ h=>h) (Or.inl ⟨by rfl,?_⟩) ?_ ?_;rotate_left
     ·intro w';go_simp;with_reducible rfl
     rotate_left
     ·simp only [Act.put,sA,sB,sC,i64_w,i32_w];rfl
     refine pure_ (i:=3) (N:=some 22) (v:=undef) (a':=?_) #[tT,tT,tT,tT,fF,fF,fF,fF,fF,fF,fF,fF,fF] rfl rfl (any_of HT_.out (by kernel_rfl)) (fun _ _ _ h=>h) (Or.inr ⟨by rfl,rfl⟩) ?_ ?_;rotate_left
     ·simp only [Act.put,sA,sB,sC,i64_w,i32_w];rfl
     refine pure_ (i:=4) (N:=some 23) (v:=undef) (a':=?_) #[tT,tT,tT,tT,tT,fF,fF,fF,fF,fF,fF,fF,fF] rfl rfl (any_of HT_.out (by kernel_rfl)) (fun _ _ _ h=>h) (Or.inr ⟨by rfl,rfl⟩) ?_ ?_;rotate_left
     ·simp only [Act.put,sA,sB,sC,i64_w,i32_w];rfl
     refine pure_ (i:=5) (N:=some 24) (v:=undef) (a':=?_) #[tT,tT,tT,tT,tT,tT,fF,fF,fF,fF,fF,fF,fF] rfl rfl (any_of HT_.out (by kernel_rfl)) (fun _ _ _ h=>h) (Or.inr ⟨by rfl,rfl⟩) ?_ ?_;rotate_left
     ·simp only [Act.put,sA,sB,sC,i64_w,i32_w];rfl
     refine pure_ (i:=6) (N:=some 25) (v:=undef) (a':=?_) #[tT,tT,tT,tT,tT,tT,tT,fF,fF,fF,fF,fF,fF] rfl rfl (any_of HT_.out (by kernel_rfl)) (fun _ _ _ h=>h) (Or.inr ⟨by rfl,rfl⟩) ?_ ?_;rotate_left
     ·simp only [Act.put,sA,sB,sC,i64_w,i32_w];rfl
     refine pure_ (i:=7) (N:=some 26) (v:=undef) (a':=?_) #[tT,tT,tT,tT,tT,tT,tT,tT,fF,fF,fF,fF,fF] rfl rfl (any_of HT_.out (by kernel_rfl)) (fun _ _ _ h=>h) (Or.inr ⟨by rfl,rfl⟩) ?_ ?_;rotate_left
     ·simp only [Act.put,sA,sB,sC,i64_w,i32_w];rfl
     refine pure_ (i:=8) (N:=some 27) (v:=undef) (a':=?_) #[tT,tT,tT,tT,tT,tT,tT,tT,tT,fF,fF,fF,fF] rfl rfl (any_of HT_.out (by kernel_rfl)) (fun _ _ _ h=>h) (Or.inr ⟨by rfl,rfl⟩) ?_ ?_;rotate_left
     ·simp only [Act.put,sA,sB,sC,i64_w,i32_w];rfl
     refine pure_ (i:=9) (N:=some 28) (v:=undef) (a':=?_) #[tT,tT,tT,tT,tT,tT,tT,tT,tT,tT,fF,fF,fF] rfl rfl (any_of HT_.out (by kernel_rfl)) (fun _ _ _ h=>h) (Or.inr ⟨by rfl,rfl⟩) ?_ ?_;rotate_left
     ·simp only [Act.put,sA,sB,sC,i64_w,i32_w];rfl
     refine pure_ (i:=10) (N:=some 29) (v:=undef) (a':=?_) #[tT,tT,tT,tT,tT,tT,tT,tT,tT,tT,tT,fF,fF] rfl rfl (any_of HT_.out (by kernel_rfl)) (fun _ _ _ h=>h) (Or.inr ⟨by rfl,rfl⟩) ?_ ?_;rotate_left
     ·simp only [Act.put,sA,sB,sC,i64_w,i32_w];rfl
     refine pure_ (i:=11) (N:=some 30) (v:=undef) (a':=?_) #[tT,tT,tT,tT,tT,tT,tT,tT,tT,tT,tT,tT,fF] rfl rfl (any_of HT_.out (by kernel_rfl)) (fun _ _ _ h=>h) (Or.inr ⟨by rfl,rfl⟩) ?_ ?_;rotate_left
     ·simp only [Act.put,sA,sB,sC,i64_w,i32_w];rfl
     refine pure_ (i:=12) (N:=some 31) (v:=?_) (a':=?_) #[tT,tT,tT,tT,tT,tT,tT,tT,tT,tT,tT,tT,tT] rfl rfl (any_of HT_.out (by kernel_rfl)) (fun _ _ _ h=>h) (Or.inl ⟨by rfl,?_⟩) ?_ ?_;rotate_left
     ·intro w';go_simp;with_reducible rfl
     rotate_left
     ·simp only [Act.put,sA,sB,sC,i64_w,i32_w];rfl
     refine done_ (done_of HT_.out (by kernel_rfl)) ?_;(try go_wp2_with (fail));(go_roundg k1);(case measure=>have:=HK1.out;omega);case rel=>exact ⟨(wrap64 (eA + 1)),(by rfl),H',⟨by have:=HK1.out;omega⟩,⟨aA.out⟩,⟨cA.out⟩,⟨HB.out⟩⟩
    ·rw [if_neg c11] at H;have uE:(t293 != 0)=true:=bne_iff_ne.mpr c11;by_cases c15:0≤eA
     ·rw [if_pos c15] at H;have iF:decide (0≤eA)=true:=decide_eq_true c15;clear c15;replace H:=Option.bind_eq_some_iff.mp H;obtain ⟨t295,nE,H⟩:=H;replace H:(if t295=true then (some true) else (corebankref49_belongs.l0 k1 t293 (wrap64 (eA + 1)) tA uA kA wA xA yA zA aB dB eB lA mA nA oA pA qA rA fA gA hA iA jA jB kB dA))=some r:=H;have aF:=aM nE;clear nE;by_cases c17:t295=true
      ·subst c17;(have H1:(some true)=some r:=by rw [if_pos rfl] at H;exact H);clear H;have H:=H1;clear H1;obtain rfl:=Option.some.inj H;have dF:wr.cell? ⟨vA,2,none⟩=some (.slice aC dA.length lB):=bC cA.out 2 rfl;(try go_wp2_with (fail));have fB:=aM (blk_drew aA.out);have gB:=aM (blk_drew cA.out);have hB:=aM (below_drew1 HB.out);clear aA;clear cA;clear HB;have aA:=fB;have cA:=gB;have HB:=hB;clear fB gB hB;have p294:0≤(eA:Int):=oD (by assumption);have q294:eA < (dA.length:Int):=oD (by assumption);obtain ⟨hC,e294,iB⟩:=Kd.at_int bE.out eA p294 q294;have mB:=iB;cases e294;replace iB:=cB HB.out iB;replace p294:=eq_true p294;replace q294:=eq_true q294;refine start_ (n:=13) (S:=fun w'=>w'.cell? ⟨bA,0,none⟩=some (.slice dC tA.length eC)∧w'.cell? ⟨bA,1,none⟩=some (.slice fC uA.length gC)∧w'.cell? ⟨bA,2,none⟩=some (.slice nB kA.length oB)∧w'.cell? ⟨bA,3,none⟩=some (.int .i64 wA)∧w'.cell? ⟨bA,4,none⟩=some (.int .i64 xA)∧w'.cell? ⟨bA,5,none⟩=some (.int .i64 yA)∧w'.cell? ⟨bA,6,none⟩=some (.int .i64 zA)∧w'.cell? ⟨bA,7,none⟩=some (.int .i64 aB)∧w'.cell? ⟨bA,8,none⟩=some (.int .i64 dB)∧w'.cell? ⟨bA,9,none⟩=some (.int .i64 eB)∧w'.cell? ⟨bA,10,none⟩=some (.int .i64 lA)∧w'.cell? ⟨bA,11,none⟩=some (.int .i64 mA)∧w'.cell? ⟨bA,12,none⟩=some (.int .i64 nA)∧w'.cell? ⟨bA,13,none⟩=some (.int .i64 oA)∧w'.cell? ⟨bA,14,none⟩=some (.int .i64 pA)∧w'.cell? ⟨bA,15,none⟩=some (.int .i64 qA)∧w'.cell? ⟨bA,16,none⟩=some (.int .i64 rA)∧w'.cell? ⟨bA,17,none⟩=some (.slice pB fA.length qB)∧w'.cell? ⟨bA,18,none⟩=some (.slice rB gA.length tB)∧w'.cell? ⟨bA,19,none⟩=some (.slice uB hA.length vB)∧w'.cell? ⟨bA,20,none⟩=some (.slice wB iA.length xB)∧w'.cell? ⟨bA,21,none⟩=some (.slice yB jA.length zB)∧w'.cell? ⟨vA,0,none⟩=some (.string jB)∧w'.cell? ⟨vA,1,none⟩=some (.int .i64 kB)∧w'.cell? ⟨vA,2,none⟩=some (.slice (some hC) dA.length lB)∧w'.cell? (hC.add (eA).toNat)=some (.int .i64 (rd dA eA))) (ds:=[]) #[fF,fF,fF,fF,fF,fF,fF,fF,fF,fF,fF,fF,fF] (by kernel_rfl) rfl rfl ⟨bC aA.out 0 rfl,bC aA.out 1 rfl,bC aA.out 2 rfl,bC aA.out 3 rfl,bC aA.out 4 rfl,bC aA.out 5 rfl,bC aA.out 6 rfl,bC aA.out 7 rfl,bC aA.out 8 rfl,bC aA.out 9 rfl,bC aA.out 10 rfl,bC aA.out 11 rfl,bC aA.out 12 rfl,bC aA.out 13 rfl,bC aA.out 14 rfl,bC aA.out 15 rfl,bC aA.out 16 rfl,bC aA.out 17 rfl,bC aA.out 18 rfl,bC aA.out 19 rfl,bC aA.out 20 rfl,bC aA.out 21 rfl,bC cA.out 0 rfl,bC cA.out 1 rfl,bC cA.out 2 rfl,(cB HB.out mB)⟩ (fun hHeld=>?_);refine with_tabW corebankref49_belongs.tab5 corebankref49_belongs.bits5 (fun HT_ HW_=>?_);(generalize wr.drew=w20 at aA cA HB iB hHeld ⊢);refine pure_ (i:=0) (N:=some 19) (v:=?_) (a':=?_) #[tT,fF,fF,fF,fF,fF,fF,fF,fF,fF,fF,fF,fF] rfl rfl (any_of HT_.out (by kernel_rfl)) (fun _ _ _ h=>h) (Or.inl ⟨by rfl,?_⟩) ?_ ?_;rotate_left
       ·intro w';go_simp;with_reducible rfl
       rotate_left
       ·simp only [Act.put,sA,sB,sC,i64_w,i32_w];rfl
       refine pure_ (i:=1) (N:=some 20) (v:=?_) (a':=?_) #[tT,tT,fF,fF,fF,fF,fF,fF,fF,fF,fF,fF,fF] rfl rfl (any_of HT_.out (by kernel_rfl)) (fun _ _ _ h=>h) (Or.inl ⟨by rfl,?_⟩) ?_ ?_;rotate_left
       ·intro w';go_simp;with_reducible rfl
       rotate_left
       ·simp only [Act.put,sA,sB,sC,i64_w,i32_w];rfl
       refine pure_ (i:=2) (N:=some 21) (v:=?_) (a':=?_) #[tT,tT,tT,fF,fF,fF,fF,fF,fF,fF,fF,fF,fF] rfl rfl (any_of HT_.out (by kernel_rfl)) (fun _ _ _ h=>h) (Or.inl ⟨by rfl,?_⟩) ?_ ?_;rotate_left
       ·intro w';go_simp;with_reducible rfl
       rotate_left
       ·simp only [Act.put,sA,sB,sC,i64_w,i32_w];rfl
       refine pure_ (i:=3) (N:=some 22) (v:=?_) (a':=?_) #[tT,tT,tT,tT,fF,fF,fF,fF,fF,fF,fF,fF,fF] rfl rfl (any_of HT_.out (by kernel_rfl)) (fun _ _ _ h=>h) (Or.inl ⟨by rfl,?_⟩) ?_ ?_;rotate_left
       ·intro w';go_simp;with_reducible rfl
       rotate_left
       ·simp only [Act.put,sA,sB,sC,i64_w,i32_w];rfl
       refine pure_ (i:=5) (N:=some 24) (v:=?_) (a':=?_) #[tT,tT,tT,tT,fF,tT,fF,fF,fF,fF,fF,fF,fF] rfl rfl (any_of HT_.out (by kernel_rfl)) (fun _ _ _ h=>h) (Or.inl ⟨by rfl,?_⟩) ?_ ?_;rotate_left
       ·intro w';go_simp;with_reducible rfl
       rotate_left
       ·simp only [Act.put,sA,sB,sC,i64_w,i32_w];rfl
       refine pure_ (i:=6) (N:=some 25) (v:=?_) (a':=?_) #[tT,tT,tT,tT,fF,tT,tT,fF,fF,fF,fF,fF,fF] rfl rfl (any_of HT_.out (by kernel_rfl)) (fun _ _ _ h=>h) (Or.inl ⟨by rfl,?_⟩) ?_ ?_;rotate_left
       ·intro w';go_simp;with_reducible rfl
       rotate_left
       ·simp only [Act.put,sA,sB,sC,i64_w,i32_w];rfl
       refine pure_ (i:=8) (N:=some 27) (v:=?_) (a':=?_) #[tT,tT,tT,tT,fF,tT,tT,fF,tT,fF,fF,fF,fF] rfl rfl (any_of HT_.out (by kernel_rfl)) (fun _ _ _ h=>h) (Or.inl ⟨by rfl,?_⟩) ?_ ?_;rotate_left
       ·intro w';go_simp;with_reducible rfl
       rotate_left
       ·simp only [Act.put,sA,sB,sC,i64_w,i32_w];rfl
       refine take_ (i:=4) (N:=some 23) (v:=?_) (a':=?_) #[tT,tT,tT,tT,tT,tT,tT,fF,tT,fF,fF,fF,fF] rfl rfl (take_ofW HT_.out HW_.out (by kernel_rfl)) (fun _ _ _ h=>h) (Or.inl ⟨by rfl,?_⟩) hHeld ?_ ?_;rotate_left
       ·rintro w' ⟨s0,s1,s2,s3,s4,s5,s6,s7,s8,s9,s10,s11,s12,s13,s14,s15,s16,s17,s18,s19,s20,s21,s22,s23,s24,s25⟩;go_simp;with_reducible rfl
       rotate_left
       ·simp only [Act.put,sA,sB,sC,i64_w,i32_w];rfl
       refine take_ (i:=7) (N:=some 26) (v:=?_) (a':=?_) #[tT,tT,tT,tT,tT,tT,tT,tT,tT,fF,fF,fF,fF] rfl rfl (take_ofW HT_.out HW_.out (by kernel_rfl)) (fun _ _ _ h=>h) (Or.inl ⟨by rfl,?_⟩) hHeld ?_ ?_;rotate_left
       ·rintro w' ⟨s0,s1,s2,s3,s4,s5,s6,s7,s8,s9,s10,s11,s12,s13,s14,s15,s16,s17,s18,s19,s20,s21,s22,s23,s24,s25⟩;go_simp;with_reducible rfl
       rotate_left
       ·simp only [Act.put,sA,sB,sC,i64_w,i32_w];rfl
       refine pure_ (i:=9) (N:=some 28) (v:=?_) (a':=?_) #[tT,tT,tT,tT,tT,tT,tT,tT,tT,tT,fF,fF,fF] rfl rfl (any_of HT_.out (by kernel_rfl)) (fun _ _ _ h=>h) (Or.inl ⟨by rfl,?_⟩) ?_ ?_;rotate_left
       ·intro w';go_simp;with_reducible rfl
       rotate_left
       ·simp only [Act.put,sA,sB,sC,i64_w,i32_w];rfl
       refine take_ (i:=10) (N:=some 29) (v:=?_) (a':=?_) #[tT,tT,tT,tT,tT,tT,tT,tT,tT,tT,tT,fF,fF] rfl rfl (take_ofW HT_.out HW_.out (by kernel_rfl)) (fun _ _ _ h=>h) (Or.inl ⟨by rfl,?_⟩) hHeld ?_ ?_;rotate_left
       ·rintro w' ⟨s0,s1,s2,s3,s4,s5,s6,s7,s8,s9,s10,s11,s12,s13,s14,s15,s16,s17,s18,s19,s20,s21,s22,s23,s24,s25⟩;go_simp;with_reducible rfl
       rotate_left
       ·simp only [Act.put,sA,sB,sC,i64_w,i32_w];rfl
       refine one_ (i:=11) (N:=some 30) #[tT,tT,tT,tT,tT,tT,tT,tT,tT,tT,tT,tT,fF] rfl rfl (one_of HT_.out (by kernel_rfl)) (by decide) (fun K hK=>?_);refine goes_ Try.func38 (by kernel_rfl) rfl #[.slice nB kA.length oB,.int .i64 t293,.int .i64 (rd dA eA)] (by rfl) rfl rfl (by (try simp only [List.map_toArray,List.map_cons,List.map_nil]);(rfl)) ?_;(with_reducible refine (corebankref18_Under.calls k1 _ _ kA t293 (rd dA eA) true _ (Kd.C_below hD.out HB.out) iD.out aF.out).mono ?_);rintro e w21 ⟨rfl,hb⟩;refine ⟨_,rfl,?_⟩;have fB:=aM (bB aA.out hb);have gB:=aM (bB cA.out hb);have hB:=aM (bS HB.out hb);clear aA;clear cA;clear HB;have aA:=fB;have cA:=gB;have HB:=hB;clear fB gB hB;((try clear hb));refine hK.out _ _ ⟨bC aA.out 0 rfl,bC aA.out 1 rfl,bC aA.out 2 rfl,bC aA.out 3 rfl,bC aA.out 4 rfl,bC aA.out 5 rfl,bC aA.out 6 rfl,bC aA.out 7 rfl,bC aA.out 8 rfl,bC aA.out 9 rfl,bC aA.out 10 rfl,bC aA.out 11 rfl,bC aA.out 12 rfl,bC aA.out 13 rfl,bC aA.out 14 rfl,bC aA.out 15 rfl,bC aA.out 16 rfl,bC aA.out 17 rfl,bC aA.out 18 rfl,bC aA.out 19 rfl,bC aA.out 20 rfl,bC aA.out 21 rfl,bC cA.out 0 rfl,bC cA.out 1 rfl,bC cA.out 2 rfl,(cB HB.out mB)⟩ (fun hHeld=>?_);clear hK K;refine norm_ (a':=?_) ?_ ?_;rotate_left
       ·(show Act.put _ (some 30) _=_);simp only [Act.put,sA,sB,sC,i64_w,i32_w];rfl
       refine pure_ (i:=12) (N:=some 31) (v:=?_) (a':=?_) #[tT,tT,tT,tT,tT,tT,tT,tT,tT,tT,tT,tT,tT] rfl rfl (any_of HT_.out (by kernel_rfl)) (fun _ _ _ h=>h) (Or.inl ⟨by rfl,?_⟩) ?_ ?_;rotate_left
       ·intro w';go_simp;with_reducible rfl
       rotate_left
       ·simp only [Act.put,sA,sB,sC,i64_w,i32_w];rfl
       refine done_ (done_of HT_.out (by kernel_rfl)) ?_;(try go_wp2_with (fail));go_ret;exact ⟨by (rfl),HB.out⟩
      ·replace c17:=Bool.eq_false_iff.mpr c17;subst c17;(have H1:(corebankref49_belongs.l0 k1 t293 (wrap64 (eA + 1)) tA uA kA wA xA yA zA aB dB eB lA mA nA oA pA qA rA fA gA hA iA jA jB kB dA)=some r:=by rw [if_neg (show ¬ (false=true) by decide)] at H;exact H);clear H;have H:=H1;clear H1;have H':=aM H;clear H;have eF:wr.cell? ⟨vA,2,none⟩=some (.slice aC dA.length lB):=bC cA.out 2 rfl;(try go_wp2_with (fail));have fB:=aM (blk_drew aA.out);have gB:=aM (blk_drew cA.out);have hB:=aM (below_drew1 HB.out);clear aA;clear cA;clear HB;have aA:=fB;have cA:=gB;have HB:=hB;clear fB gB hB;have p294:0≤(eA:Int):=oD (by assumption);have q294:eA < (dA.length:Int):=oD (by assumption);obtain ⟨hC,e294,iB⟩:=Kd.at_int bE.out eA p294 q294;have mB:=iB;cases e294;replace iB:=cB HB.out iB;replace p294:=eq_true p294;replace q294:=eq_true q294;refine start_ (n:=13) (S:=fun w'=>w'.cell? ⟨bA,0,none⟩=some (.slice dC tA.length eC)∧w'.cell? ⟨bA,1,none⟩=some (.slice fC uA.length gC)∧w'.cell? ⟨bA,2,none⟩=some (.slice nB kA.length oB)∧w'.cell? ⟨bA,3,none⟩=some (.int .i64 wA)∧w'.cell? ⟨bA,4,none⟩=some (.int .i64 xA)∧w'.cell? ⟨bA,5,none⟩=some (.int .i64 yA)∧w'.cell? ⟨bA,6,none⟩=some (.int .i64 zA)∧w'.cell? ⟨bA,7,none⟩=some (.int .i64 aB)∧w'.cell? ⟨bA,8,none⟩=some (.int .i64 dB)∧w'.cell? ⟨bA,9,none⟩=some (.int .i64 eB)∧w'.cell? ⟨bA,10,none⟩=some (.int .i64 lA)∧w'.cell? ⟨bA,11,none⟩=some (.int .i64 mA)∧w'.cell? ⟨bA,12,none⟩=some (.int .i64 nA)∧w'.cell? ⟨bA,13,none⟩=some (.int .i64 oA)∧w'.cell? ⟨bA,14,none⟩=some (.int .i64 pA)∧w'.cell? ⟨bA,15,none⟩=some (.int .i64 qA)∧w'.cell? ⟨bA,16,none⟩=some (.int .i64 rA)∧w'.cell? ⟨bA,17,none⟩=some (.slice pB fA.length qB)∧w'.cell? ⟨bA,18,none⟩=some (.slice rB gA.length tB)∧w'.cell? ⟨bA,19,none⟩=some (.slice uB hA.length vB)∧w'.cell? ⟨bA,20,none⟩=some (.slice wB iA.length xB)∧w'.cell? ⟨bA,21,none⟩=some (.slice yB jA.length zB)∧w'.cell? ⟨vA,0,none⟩=some (.string jB)∧w'.cell? ⟨vA,1,none⟩=some (.int .i64 kB)∧w'.cell? ⟨vA,2,none⟩=some (.slice (some hC) dA.length lB)∧w'.cell? (hC.add (eA).toNat)=some (.int .i64 (rd dA eA))) (ds:=[]) #[fF,fF,fF,fF,fF,fF,fF,fF,fF,fF,fF,fF,fF] (by kernel_rfl) rfl rfl ⟨bC aA.out 0 rfl,bC aA.out 1 rfl,bC aA.out 2 rfl,bC aA.out 3 rfl,bC aA.out 4 rfl,bC aA.out 5 rfl,bC aA.out 6 rfl,bC aA.out 7 rfl,bC aA.out 8 rfl,bC aA.out 9 rfl,bC aA.out 10 rfl,bC aA.out 11 rfl,bC aA.out 12 rfl,bC aA.out 13 rfl,bC aA.out 14 rfl,bC aA.out 15 rfl,bC aA.out 16 rfl,bC aA.out 17 rfl,bC aA.out 18 rfl,bC aA.out 19 rfl,bC aA.out 20 rfl,bC aA.out 21 rfl,bC cA.out 0 rfl,bC cA.out 1 rfl,bC cA.out 2 rfl,(cB HB.out mB)⟩ (fun hHeld=>?_);refine with_tabW corebankref49_belongs.tab5 corebankref49_belongs.bits5 (fun HT_ HW_=>?_);(generalize wr.drew=w24 at aA cA HB iB hHeld ⊢);refine pure_ (i:=0) (N:=some 19) (v:=?_) (a':=?_) #[tT,fF,fF,fF,fF,fF,fF,fF,fF,fF,fF,fF,fF] rfl rfl (any_of HT_.out (by kernel_rfl)) (fun _ _ _ h=>h) (Or.inl ⟨by rfl,?_⟩) ?_ ?_;rotate_left
       ·intro w';go_simp;with_reducible rfl
       rotate_left
       ·simp only [Act.put,sA,sB,sC,i64_w,i32_w];rfl
       refine pure_ (i:=1) (N:=some 20) (v:=?_) (a':=?_) #[tT,tT,fF,fF,fF,fF,fF,fF,fF,fF,fF,fF,fF] rfl rfl (any_of HT_.out (by kernel_rfl)) (fun _ _ _ h=>h) (Or.inl ⟨by rfl,?_⟩) ?_ ?_;rotate_left
       ·intro w';go_simp;with_reducible rfl
       rotate_left
       ·simp only [Act.put,sA,sB,sC,i64_w,i32_w];rfl
       refine pure_ (i:=2) (N:=some 21) (v:=?_) (a':=?_) #[tT,tT,tT,fF,fF,fF,fF,fF,fF,fF,fF,fF,fF] rfl rfl (any_of HT_.out (by kernel_rfl)) (fun _ _ _ h=>h) (Or.inl ⟨by rfl,?_⟩) ?_ ?_;rotate_left
       ·intro w';go_simp;with_reducible rfl
       rotate_left
       ·simp only [Act.put,sA,sB,sC,i64_w,i32_w];rfl
       refine pure_ (i:=3) (N:=some 22) (v:=?_) (a':=?_) #[tT,tT,tT,tT,fF,fF,fF,fF,fF,fF,fF,fF,fF] rfl rfl (any_of HT_.out (by kernel_rfl)) (fun _ _ _ h=>h) (Or.inl ⟨by rfl,?_⟩) ?_ ?_;rotate_left
       ·intro w';go_simp;with_reducible rfl
       rotate_left
       ·simp only [Act.put,sA,sB,sC,i64_w,i32_w];rfl
       refine pure_ (i:=5) (N:=some 24) (v:=?_) (a':=?_) #[tT,tT,tT,tT,fF,tT,fF,fF,fF,fF,fF,fF,fF] rfl rfl (any_of HT_.out (by kernel_rfl)) (fun _ _ _ h=>h) (Or.inl ⟨by rfl,?_⟩) ?_ ?_;rotate_left
       ·intro w';go_simp;with_reducible rfl
       rotate_left
       ·simp only [Act.put,sA,sB,sC,i64_w,i32_w];rfl
       refine pure_ (i:=6) (N:=some 25) (v:=?_) (a':=?_) #[tT,tT,tT,tT,fF,tT,tT,fF,fF,fF,fF,fF,fF] rfl rfl (any_of HT_.out (by kernel_rfl)) (fun _ _ _ h=>h) (Or.inl ⟨by rfl,?_⟩) ?_ ?_;rotate_left
       ·intro w';go_simp;with_reducible rfl
       rotate_left
       ·simp only [Act.put,sA,sB,sC,i64_w,i32_w];rfl
       refine pure_ (i:=8) (N:=some 27) (v:=?_) (a':=?_) #[tT,tT,tT,tT,fF,tT,tT,fF,tT,fF,fF,fF,fF] rfl rfl (any_of HT_.out (by kernel_rfl)) (fun _ _ _ h=>h) (Or.inl ⟨by rfl,?_⟩) ?_ ?_;rotate_left
       ·intro w';go_simp;with_reducible rfl
       rotate_left
       ·simp only [Act.put,sA,sB,sC,i64_w,i32_w];rfl
       refine take_ (i:=4) (N:=some 23) (v:=?_) (a':=?_) #[tT,tT,tT,tT,tT,tT,tT,fF,tT,fF,fF,fF,fF] rfl rfl (take_ofW HT_.out HW_.out (by kernel_rfl)) (fun _ _ _ h=>h) (Or.inl ⟨by rfl,?_⟩) hHeld ?_ ?_;rotate_left
       ·rintro w' ⟨s0,s1,s2,s3,s4,s5,s6,s7,s8,s9,s10,s11,s12,s13,s14,s15,s16,s17,s18,s19,s20,s21,s22,s23,s24,s25⟩;go_simp;with_reducible rfl
       rotate_left
       ·simp only [Act.put,sA,sB,sC,i64_w,i32_w];rfl
       refine take_ (i:=7) (N:=some 26) (v:=?_) (a':=?_) #[tT,tT,tT,tT,tT,tT,tT,tT,tT,fF,fF,fF,fF] rfl rfl (take_ofW HT_.out HW_.out (by kernel_rfl)) (fun _ _ _ h=>h) (Or.inl ⟨by rfl,?_⟩) hHeld ?_ ?_;rotate_left
       ·rintro w' ⟨s0,s1,s2,s3,s4,s5,s6,s7,s8,s9,s10,s11,s12,s13,s14,s15,s16,s17,s18,s19,s20,s21,s22,s23,s24,s25⟩;go_simp;with_reducible rfl
       rotate_left
       ·simp only [Act.put,sA,sB,sC,i64_w,i32_w];rfl
       refine pure_ (i:=9) (N:=some 28) (v:=?_) (a':=?_) #[tT,tT,tT,tT,tT,tT,tT,tT,tT,tT,fF,fF,fF] rfl rfl (any_of HT_.out (by kernel_rfl)) (fun _ _ _ h=>h) (Or.inl ⟨by rfl,?_⟩) ?_ ?_;rotate_left
       ·intro w';go_simp;with_reducible rfl
       rotate_left
       ·simp only [Act.put,sA,sB,sC,i64_w,i32_w];rfl
       refine take_ (i:=10) (N:=some 29) (v:=?_) (a':=?_) #[tT,tT,tT,tT,tT,tT,tT,tT,tT,tT,tT,fF,fF] rfl rfl (take_ofW HT_.out HW_.out (by kernel_rfl)) (fun _ _ _ h=>h) (Or.inl ⟨by rfl,?_⟩) hHeld ?_ ?_;rotate_left
       ·rintro w' ⟨s0,s1,s2,s3,s4,s5,s6,s7,s8,s9,s10,s11,s12,s13,s14,s15,s16,s17,s18,s19,s20,s21,s22,s23,s24,s25⟩;go_simp;with_reducible rfl
       rotate_left
       ·simp only [Act.put,sA,sB,sC,i64_w,i32_w];rfl
       refine one_ (i:=11) (N:=some 30) #[tT,tT,tT,tT,tT,tT,tT,tT,tT,tT,tT,tT,fF] rfl rfl (one_of HT_.out (by kernel_rfl)) (by decide) (fun K hK=>?_);refine goes_ Try.func38 (by kernel_rfl) rfl #[.slice nB kA.length oB,.int .i64 t293,.int .i64 (rd dA eA)] (by rfl) rfl rfl (by (try simp only [List.map_toArray,List.map_cons,List.map_nil]);(rfl)) ?_;(with_reducible refine (corebankref18_Under.calls k1 _ _ kA t293 (rd dA eA) false _ (Kd.C_below hD.out HB.out) iD.out aF.out).mono ?_);rintro e w25 ⟨rfl,hb⟩;refine ⟨_,rfl,?_⟩;have fB:=aM (bB aA.out hb);have gB:=aM (bB cA.out hb);have hB:=aM (bS HB.out hb);clear aA;clear cA;clear HB;have aA:=fB;have cA:=gB;have HB:=hB;clear fB gB hB;((try clear hb));refine hK.out _ _ ⟨bC aA.out 0 rfl,bC aA.out 1 rfl,bC aA.out 2 rfl,bC aA.out 3 rfl,bC aA.out 4 rfl,bC aA.out 5 rfl,bC aA.out 6 rfl,bC aA.out 7 rfl,bC aA.out 8 rfl,bC aA.out 9 rfl,bC aA.out 10 rfl,bC aA.out 11 rfl,bC aA.out 12 rfl,bC aA.out 13 rfl,bC aA.out 14 rfl,bC aA.out 15 rfl,bC aA.out 16 rfl,bC aA.out 17 rfl,bC aA.out 18 rfl,bC aA.out 19 rfl,bC aA.out 20 rfl,bC aA.out 21 rfl,bC cA.out 0 rfl,bC cA.out 1 rfl,bC cA.out 2 rfl,(cB HB.out mB)⟩ (fun hHeld=>?_);clear hK K;refine norm_ (a':=?_) ?_ ?_;rotate_left
       ·(show Act.put _ (some 30) _=_);simp only [Act.put,sA,sB,sC,i64_w,i32_w];rfl
       refine pure_ (i:=12) (N:=some 31) (v:=?_) (a':=?_) #[tT,tT,tT,tT,tT,tT,tT,tT,tT,tT,tT,tT,tT] rfl rfl (any_of HT_.out (by kernel_rfl)) (fun _ _ _ h=>h) (Or.inl ⟨by rfl,?_⟩) ?_ ?_;rotate_left
       ·intro w';go_simp;with_reducible rfl
       rotate_left
       ·simp only [Act.put,sA,sB,sC,i64_w,i32_w];rfl
       refine done_ (done_of HT_.out (by kernel_rfl)) ?_;(try go_wp2_with (fail));(go_roundg k1);(case measure=>have:=HK1.out;omega);case rel=>exact ⟨(wrap64 (eA + 1)),(by rfl),H',⟨by have:=HK1.out;omega⟩,⟨aA.out⟩,⟨cA.out⟩,⟨HB.out⟩⟩
     ·rw [if_neg c15] at H;exact absurd H (by simp)
   ·rw [if_neg c10] at H;have tE:decide (eA < (dA.length:Int))=false:=decide_eq_false c10;clear c10;obtain rfl:=Option.some.inj H;have gF:wr.cell? ⟨vA,2,none⟩=some (.slice aC dA.length lB):=bC cA.out 2 rfl;(go_wp2_with (fail));go_ret;exact ⟨by (rfl),HB.out⟩
def corebankref49_amount.l0:Nat→ByteArray→Int→Int→List (S97)→List (S86)→List (S62)→Int→Int→Int→Int→Int→Int→Int→Int→Int→Int→Int→Int→Int→Int→List (S79)→List (S90)→List (S84)→List (S119)→List (S180)→ByteArray→Int→List Int→Int→Int→Int→Int→Int→Int→ByteArray→ByteArray→List (S129)→Int→Option (Int)
 | 0,_,_,_,_,_,_,_,_,_,_,_,_,_,_,_,_,_,_,_,_,_,_,_,_,_,_,_,_,_,_,_,_,_,_,_,_,_,_=>none
 | k + 1,x2,x9,x10,kD,lD,mD,nD,pD,qD,rD,sD,tD,uD,vD,wD,xD,yD,zD,aE,bE,cE,dE,eE,fE,gE,hE,dD,iE,kE,lE,mE,nE,oE,pE,qE,rE,gC,sE=>if x10 < (gC.length:Int) then (if 0≤x10 then (if ((rd_T129 gC x10).f2).toList=x2.toList then ((corebankref49_belongs.f k kD lD mD nD pD qD rD sD tD uD vD wD xD yD zD aE bE cE dE eE fE gE hE dD iE ((rd_T129 gC x10).f0)).bind fun t301=>(if t301=true then (corebankref49_amount.l0 k x2 (wrap64 (x9 + ((rd_T129 gC x10).f1))) (wrap64 (x10 + 1)) kD lD mD nD pD qD rD sD tD uD vD wD xD yD zD aE bE cE dE eE fE gE hE dD iE kE lE mE nE oE pE qE rE gC sE) else (corebankref49_amount.l0 k x2 x9 (wrap64 (x10 + 1)) kD lD mD nD pD qD rD sD tD uD vD wD xD yD zD aE bE cE dE eE fE gE hE dD iE kE lE mE nE oE pE qE rE gC sE))) else (corebankref49_amount.l0 k x2 x9 (wrap64 (x10 + 1)) kD lD mD nD pD qD rD sD tD uD vD wD xD yD zD aE bE cE dE eE fE gE hE dD iE kE lE mE nE oE pE qE rE gC sE)) else (none)) else (some (wrap64 (dD * x9)))
def corebankref49_amount.f (k:Nat) (yA:List (S97)) (zA:List (S86)) (aB:List (S62)) (eB:Int) (fB:Int) (gB:Int) (hB:Int) (iB:Int) (jB:Int) (kB:Int) (nA:Int) (oA:Int) (pA:Int) (qA:Int) (rA:Int) (tA:Int) (uA:Int) (iA:List (S79)) (jA:List (S90)) (kA:List (S84)) (lA:List (S119)) (mA:List (S180)) (mB:ByteArray) (lB:Int) (dB:List Int) (a2:ByteArray) (wB:Int) (xB:Int) (yB:Int) (zB:Int) (aC:Int) (cC:Int) (dC:ByteArray) (eC:ByteArray) (eA:List (S129)) (fC:Int):Option (Int):=corebankref49_amount.l0 k a2 0 0 yA zA aB eB fB gB hB iB jB kB nA oA pA qA rA tA uA iA jA kA lA mA mB lB dB wB xB yB zB aC cC dC eC eA fC
def corebankref49_amount.T5:Bool × List (List Nat × List Nat):=(true,[([],[]),([0],[0]),([],[]),([1,2],[1,2]),([3],[3]),([4],[4]),([],[]),([5,6],[5,6]),([7],[7]),([8],[8]),([8],[8]),([8],[8]),([11,8],[8,11]),([8],[8]),([12,13,8],[8,12,13]),([14,8],[8,14]),([15,8],[8,15]),([9,10,16,8,8],[8,9,10,16]),([8,17],[8,17])])
def corebankref49_amount.B5:List Nat:=[0,1,0,7,15,31,0,127,255,511,511,511,2559,511,14847,31231,63999,131071,262143]
theorem corebankref49_amount.tab5:rtab .any (opsOf Try.f60 5)=corebankref49_amount.T5:=by kernel_rfl
theorem corebankref49_amount.bits5:waitsOk corebankref49_amount.T5.2 corebankref49_amount.B5=true:=by kernel_rfl
set_option maxHeartbeats 8000000 in
set_option maxRecDepth 100000 in
theorem corebankref49_amount.calls (k:Nat) (wC:Option Addr) (xC:Nat) (yA:List (S97)) (yC:Option Addr) (zC:Nat) (zA:List (S86)) (aD:Option Addr) (bD:Nat) (aB:List (S62)) (eB:Int) (fB:Int) (gB:Int) (hB:Int) (iB:Int) (jB:Int) (kB:Int) (nA:Int) (oA:Int) (pA:Int) (qA:Int) (rA:Int) (tA:Int) (uA:Int) (kC:Option Addr) (lC:Nat) (iA:List (S79)) (mC:Option Addr) (nC:Nat) (jA:List (S90)) (oC:Option Addr) (pC:Nat) (kA:List (S84)) (qC:Option Addr) (rC:Nat) (lA:List (S119)) (tC:Option Addr) (uC:Nat) (mA:List (S180)) (mB:ByteArray) (lB:Int) (hD:Option Addr) (iD:Nat) (dB:List Int) (a2:ByteArray) (wB:Int) (xB:Int) (yB:Int) (zB:Int) (aC:Int) (cC:Int) (dC:ByteArray) (eC:ByteArray) (jD:Option Addr) (vC:Nat) (eA:List (S129)) (fC:Int) (r:Int) (w:World) (rF:Kd.C k97 w wC yA.length yA) (sF:yA.length≤xC) (tF:Kd.C k86 w yC zA.length zA) (uF:zA.length≤zC) (vF:Kd.C k62 w aD aB.length aB) (wF:aB.length≤bD) (uE:Kd.C k79 w kC iA.length iA) (vE:iA.length≤lC) (wE:Kd.C k90 w mC jA.length jA) (xE:jA.length≤nC) (yE:Kd.C k84 w oC kA.length kA) (zE:kA.length≤pC) (aF:Kd.C k119 w qC lA.length lA) (cF:lA.length≤rC) (dF:Kd.C k180 w tC mA.length mA) (eF:mA.length≤uC) (xF:Kd.C (Kd.int .i64) w hD dB.length dB) (yF:dB.length≤iD) (zF:Kd.C k129 w jD eA.length eA) (lG:eA.length≤vC) (h:corebankref49_amount.f k yA zA aB eB fB gB hB iB jB kB nA oA pA qA rA tA uA iA jA kA lA mA mB lB dB a2 wB xB yB zB aC cC dC eC eA fC=some r) :
  Calls Try.prog 60 #[.agg #[.slice wC yA.length xC,.slice yC zA.length zC,.slice aD aB.length bD,.int .i64 eB,.int .i64 fB,.int .i64 gB,.int .i64 hB,.int .i64 iB,.int .i64 jB,.int .i64 kB,.int .i64 nA,.int .i64 oA,.int .i64 pA,.int .i64 qA,.int .i64 rA,.int .i64 tA,.int .i64 uA,.slice kC iA.length lC,.slice mC jA.length nC,.slice oC kA.length pC,.slice qC lA.length rC,.slice tC mA.length uC],.agg #[.string mB,.int .i64 lB,.slice hD dB.length iD],.string a2,.agg #[.int .i64 wB,.int .i64 xB,.int .i64 yB,.int .i64 zB,.int .i64 aC,.int .i64 cC,.string dC,.string eC,.slice jD eA.length vC,.int .u64 fC]] w fun e w'=>e=.returned (.int .i64 r)∧Below w.heap.size w w':=by
 have aG:=aM rF;have bG:=aM sF;clear rF sF;have cG:=aM tF;have dG:=aM uF;clear tF uF;have eG:=aM vF;have fG:=aM wF;clear vF wF;have gF:=aM uE;have hF:=aM vE;clear uE vE;have iF:=aM wE;have jF:=aM xE;clear wE xE;have kF:=aM yE;have lF:=aM zE;clear yE zE;have mF:=aM aF;have nF:=aM cF;clear aF cF;have oF:=aM dF;have pF:=aM eF;clear dF eF;have gG:=aM xF;have hG:=aM yF;clear xF yF;have jE:=aM zF;clear zF lG;have HB:=aM (Below.refl w.heap.size w);have H:(corebankref49_amount.l0 k a2 0 0 yA zA aB eB fB gB hB iB jB kB nA oA pA qA rA tA uA iA jA kA lA mA mB lB dB wB xB yB zB aC cC dC eC eA fC)=some r:=h;clear h;have H':=aM H;clear H;(go_enter Try.func60,Try.ntmps60);(go_wp2_with (first | ((with_reducible refine gate_dst (N:=4) rfl ?_);refine box_event ?hg (N:=4) ?hd (cs:=#[.slice wC yA.length xC,.slice yC zA.length zC,.slice aD aB.length bD,.int .i64 eB,.int .i64 fB,.int .i64 gB,.int .i64 hB,.int .i64 iB,.int .i64 jB,.int .i64 kB,.int .i64 nA,.int .i64 oA,.int .i64 pA,.int .i64 qA,.int .i64 rA,.int .i64 tA,.int .i64 uA,.slice kC iA.length lC,.slice mC jA.length nC,.slice oC kA.length pC,.slice qC lA.length rC,.slice tC mA.length uC]) (t:=33) ?hr ?_;(case hd=>rfl);(case hg=>rfl);(case hr=>(go_simp;done));intro dA hg w5 hbox hb;have nB:=aM (bS HB.out hb);have oB:=aM (hbox);have pB:=aM ((by rw [hg];exact (below_size HB.out):w.heap.size≤dA));have vB:=pB;clear HB;have HB:=nB;have aA:=oB;clear nB oB pB vB;clear hb hbox hg) | ((with_reducible refine gate_dst (N:=5) rfl ?_);refine box_event ?hg (N:=5) ?hd (cs:=#[.string mB,.int .i64 lB,.slice hD dB.length iD]) (t:=48) ?hr ?_;(case hd=>rfl);(case hg=>rfl);(case hr=>(go_simp;done));intro qB hg w6 hbox hb;have nB:=aM (bB aA.out hb);have oB:=aM (bS HB.out hb);have pB:=aM (hbox);have vB:=aM ((by rw [hg];exact (below_size HB.out):w.heap.size≤qB));have iG:=vB;have jG:=aM ((by rw [hg];exact Nat.ne_of_lt (blk_lt aA.out):dA ≠ qB));have qF:=aM ((by rw [hg];exact Nat.ne_of_gt (blk_lt aA.out):qB ≠ dA));clear aA;clear HB;have aA:=nB;have HB:=oB;have fA:=pB;have oG:=jG;have pG:=qF;clear nB oB pB vB iG jG qF;clear hb hbox hg) | ((with_reducible refine gate_dst (N:=7) rfl ?_);refine box_event ?hg (N:=7) ?hd (cs:=#[.int .i64 wB,.int .i64 xB,.int .i64 yB,.int .i64 zB,.int .i64 aC,.int .i64 cC,.string dC,.string eC,.slice jD eA.length vC,.int .u64 fC]) (t:=84) ?hr ?_;(case hd=>rfl);(case hg=>rfl);(case hr=>(go_simp;done));intro gA hg w7 hbox hb;have nB:=aM (bB aA.out hb);have oB:=aM (bB fA.out hb);have pB:=aM (bS HB.out hb);have vB:=aM (hbox);have iG:=aM ((by rw [hg];exact (below_size HB.out):w.heap.size≤gA));have jG:=iG;have qF:=aM ((by rw [hg];exact Nat.ne_of_lt (blk_lt aA.out):dA ≠ gA));have qG:=aM ((by rw [hg];exact Nat.ne_of_gt (blk_lt aA.out):gA ≠ dA));have rG:=aM ((by rw [hg];exact Nat.ne_of_lt (blk_lt fA.out):qB ≠ gA));have sG:=aM ((by rw [hg];exact Nat.ne_of_gt (blk_lt fA.out):gA ≠ qB));clear aA;clear fA;clear HB;have aA:=nB;have fA:=oB;have HB:=pB;have cA:=vB;have tG:=qF;have uG:=qG;have vG:=rG;have wG:=sG;clear nB oB pB vB iG jG qF qG rG sG;clear hb hbox hg)));(go_loopg [9,10] k (fun kq v9 v10 w'=>∃ (cD:Int) (bA:Int),v9=.int .i64 cD∧v10=.int .i64 bA∧Aside0 (corebankref49_amount.l0 kq a2 cD bA yA zA aB eB fB gB hB iB jB kB nA oA pA qA rA tA uA iA jA kA lA mA mB lB dB wB xB yB zB aC cC dC eC eA fC=some r)∧Aside0 (kq≤k)∧Aside0 (w'.heap[dA]?=some (.cells #[(.slice wC yA.length xC),(.slice yC zA.length zC),(.slice aD aB.length bD),.int .i64 eB,.int .i64 fB,.int .i64 gB,.int .i64 hB,.int .i64 iB,.int .i64 jB,.int .i64 kB,.int .i64 nA,.int .i64 oA,.int .i64 pA,.int .i64 qA,.int .i64 rA,.int .i64 tA,.int .i64 uA,(.slice kC iA.length lC),(.slice mC jA.length nC),(.slice oC kA.length pC),(.slice qC lA.length rC),(.slice tC mA.length uC)] 33 (0,0)))∧Aside0 (w'.heap[qB]?=some (.cells #[.string mB,.int .i64 lB,(.slice hD dB.length iD)] 48 (0,0)))∧Aside0 (w'.heap[gA]?=some (.cells #[.int .i64 wB,.int .i64 xB,.int .i64 yB,.int .i64 zB,.int .i64 aC,.int .i64 cC,.string dC,.string eC,(.slice jD eA.length vC),.int .u64 fC] 84 (0,0)))∧Aside0 (Below w.heap.size w w')));case atStart=>exact ⟨(0),(0),(by rfl),(by rfl),H',⟨Nat.le_refl _⟩,⟨aA.out⟩,⟨fA.out⟩,⟨cA.out⟩,⟨HB.out⟩⟩
 case round=>
  clear H';obtain ⟨cD,bA,rfl,rfl,HA,HK1,aA,fA,cA,HB⟩:=hrel
  cases gk with
  | zero=>exact absurd HA.out (by simp [corebankref49_amount.l0])
  | succ k1=>
   have H:=HA.out;clear HA;simp only [corebankref49_amount.l0] at H;by_cases c8:bA < (eA.length:Int)
   ·rw [if_pos c8] at H;have yG:decide (bA < (eA.length:Int))=true:=decide_eq_true c8;clear c8;by_cases c9:0≤bA
    ·rw [if_pos c9] at H;have hI:decide (0≤bA)=true:=decide_eq_true c9;clear c9;by_cases c10:((rd_T129 eA bA).f2).toList=a2.toList
     ·rw [if_pos c10] at H;have mG:(((rd_T129 eA bA).f2).toList == a2.toList)=true:=beq_iff_eq.mpr c10;clear c10;replace H:=Option.bind_eq_some_iff.mp H;obtain ⟨t301,kG,H⟩:=H;replace H:(if t301=true then (corebankref49_amount.l0 k1 a2 (wrap64 (cD + ((rd_T129 eA bA).f1))) (wrap64 (bA + 1)) yA zA aB eB fB gB hB iB jB kB nA oA pA qA rA tA uA iA jA kA lA mA mB lB dB wB xB yB zB aC cC dC eC eA fC) else (corebankref49_amount.l0 k1 a2 cD (wrap64 (bA + 1)) yA zA aB eB fB gB hB iB jB kB nA oA pA qA rA tA uA iA jA kA lA mA mB lB dB wB xB yB zB aC cC dC eC eA fC))=some r:=H;have xG:=aM kG;clear kG;by_cases c12:t301=true
      ·subst c12;(have H1:(corebankref49_amount.l0 k1 a2 (wrap64 (cD + ((rd_T129 eA bA).f1))) (wrap64 (bA + 1)) yA zA aB eB fB gB hB iB jB kB nA oA pA qA rA tA uA iA jA kA lA mA mB lB dB wB xB yB zB aC cC dC eC eA fC)=some r:=by rw [if_pos rfl] at H;exact H);clear H;have H:=H1;clear H1;have H':=aM H;clear H;have zG:wr.cell? ⟨gA,8,none⟩=some (.slice jD eA.length vC):=bC cA.out 8 rfl;(try go_wp2);have nB:=aM (blk_drew aA.out);have oB:=aM (blk_drew fA.out);have pB:=aM (blk_drew cA.out);have vB:=aM (below_drew1 HB.out);clear aA;clear fA;clear cA;clear HB;have aA:=nB;have fA:=oB;have cA:=pB;have HB:=vB;clear nB oB pB vB;have p299:0≤(bA:Int):=oD (by assumption);have q299:bA < (eA.length:Int):=oD (by assumption);obtain ⟨hA,e299,vA,wA,xA⟩:=at_T129 jE.out bA p299 q299;have hC:=xA;have iC:=wA;have jC:=vA;cases e299;replace vA:=cB HB.out vA;replace wA:=cB HB.out wA;replace xA:=cB HB.out xA;replace p299:=eq_true p299;replace q299:=eq_true q299;have p300:0≤(bA:Int):=oD (by assumption);have q300:bA < (eA.length:Int):=oD (by assumption);obtain ⟨tE,e300,rB,tB,uB⟩:=at_T129 jE.out bA p300 q300;have eD:=uB;have fD:=tB;have gD:=rB;obtain rfl:hA=tE:=(by injection e300);replace rB:=cB HB.out rB;replace tB:=cB HB.out tB;replace uB:=cB HB.out uB;replace p300:=eq_true p300;replace q300:=eq_true q300;refine start_ (n:=19) (S:=fun w'=>w'.cell? ⟨gA,0,none⟩=some (.int .i64 wB)∧w'.cell? ⟨gA,1,none⟩=some (.int .i64 xB)∧w'.cell? ⟨gA,2,none⟩=some (.int .i64 yB)∧w'.cell? ⟨gA,3,none⟩=some (.int .i64 zB)∧w'.cell? ⟨gA,4,none⟩=some (.int .i64 aC)∧w'.cell? ⟨gA,5,none⟩=some (.int .i64 cC)∧w'.cell? ⟨gA,6,none⟩=some (.string dC)∧w'.cell? ⟨gA,7,none⟩=some (.string eC)∧w'.cell? ⟨gA,8,none⟩=some (.slice (some hA) eA.length vC)∧w'.cell? ⟨gA,9,none⟩=some (.int .u64 fC)∧w'.cell? ⟨dA,0,none⟩=some (.slice wC yA.length xC)∧w'.cell? ⟨dA,1,none⟩=some (.slice yC zA.length zC)∧w'.cell? ⟨dA,2,none⟩=some (.slice aD aB.length bD)∧w'.cell? ⟨dA,3,none⟩=some (.int .i64 eB)∧w'.cell? ⟨dA,4,none⟩=some (.int .i64 fB)∧w'.cell? ⟨dA,5,none⟩=some (.int .i64 gB)∧w'.cell? ⟨dA,6,none⟩=some (.int .i64 hB)∧w'.cell? ⟨dA,7,none⟩=some (.int .i64 iB)∧w'.cell? ⟨dA,8,none⟩=some (.int .i64 jB)∧w'.cell? ⟨dA,9,none⟩=some (.int .i64 kB)∧w'.cell? ⟨dA,10,none⟩=some (.int .i64 nA)∧w'.cell? ⟨dA,11,none⟩=some (.int .i64 oA)∧w'.cell? ⟨dA,12,none⟩=some (.int .i64 pA)∧w'.cell? ⟨dA,13,none⟩=some (.int .i64 qA)∧w'.cell? ⟨dA,14,none⟩=some (.int .i64 rA)∧w'.cell? ⟨dA,15,none⟩=some (.int .i64 tA)∧w'.cell? ⟨dA,16,none⟩=some (.int .i64 uA)∧w'.cell? ⟨dA,17,none⟩=some (.slice kC iA.length lC)∧w'.cell? ⟨dA,18,none⟩=some (.slice mC jA.length nC)∧w'.cell? ⟨dA,19,none⟩=some (.slice oC kA.length pC)∧w'.cell? ⟨dA,20,none⟩=some (.slice qC lA.length rC)∧w'.cell? ⟨dA,21,none⟩=some (.slice tC mA.length uC)∧w'.cell? ⟨qB,0,none⟩=some (.string mB)∧w'.cell? ⟨qB,1,none⟩=some (.int .i64 lB)∧w'.cell? ⟨qB,2,none⟩=some (.slice hD dB.length iD)∧w'.cell? (hA.add ((bA).toNat * 3))=some (.int .i64 ((rd_T129 eA bA).f0))∧w'.cell? ⟨(hA.add ((bA).toNat * 3)).block,(hA.add ((bA).toNat * 3)).off + 1,none⟩=some (.int .i64 ((rd_T129 eA bA).f1))∧w'.cell? ⟨(hA.add ((bA).toNat * 3)).block,(hA.add ((bA).toNat * 3)).off + 2,none⟩=some (.string ((rd_T129 eA bA).f2))∧w'.cell? (hA.add ((bA).toNat * 3))=some (.int .i64 ((rd_T129 eA bA).f0))∧w'.cell? ⟨(hA.add ((bA).toNat * 3)).block,(hA.add ((bA).toNat * 3)).off + 1,none⟩=some (.int .i64 ((rd_T129 eA bA).f1))∧w'.cell? ⟨(hA.add ((bA).toNat * 3)).block,(hA.add ((bA).toNat * 3)).off + 2,none⟩=some (.string ((rd_T129 eA bA).f2))) (ds:=[]) #[fF,fF,fF,fF,fF,fF,fF,fF,fF,fF,fF,fF,fF,fF,fF,fF,fF,fF,fF] (by kernel_rfl) rfl rfl ⟨bC cA.out 0 rfl,bC cA.out 1 rfl,bC cA.out 2 rfl,bC cA.out 3 rfl,bC cA.out 4 rfl,bC cA.out 5 rfl,bC cA.out 6 rfl,bC cA.out 7 rfl,bC cA.out 8 rfl,bC cA.out 9 rfl,bC aA.out 0 rfl,bC aA.out 1 rfl,bC aA.out 2 rfl,bC aA.out 3 rfl,bC aA.out 4 rfl,bC aA.out 5 rfl,bC aA.out 6 rfl,bC aA.out 7 rfl,bC aA.out 8 rfl,bC aA.out 9 rfl,bC aA.out 10 rfl,bC aA.out 11 rfl,bC aA.out 12 rfl,bC aA.out 13 rfl,bC aA.out 14 rfl,bC aA.out 15 rfl,bC aA.out 16 rfl,bC aA.out 17 rfl,bC aA.out 18 rfl,bC aA.out 19 rfl,bC aA.out 20 rfl,bC aA.out 21 rfl,bC fA.out 0 rfl,bC fA.out 1 rfl,bC fA.out 2 rfl,(cB HB.out jC),(cB HB.out iC),(cB HB.out hC),(cB HB.out gD),(cB HB.out fD),(cB HB.out eD)⟩ (fun hHeld=>?_);refine with_tabW corebankref49_amount.tab5 corebankref49_amount.bits5 (fun HT_ HW_=>?_);(generalize wr.drew=w16 at aA fA cA HB vA wA xA rB tB uB hHeld ⊢);refine pure_ (i:=0) (N:=some 18) (v:=?_) (a':=?_) #[tT,fF,fF,fF,fF,fF,fF,fF,fF,fF,fF,fF,fF,fF,fF,fF,fF,fF,fF] rfl rfl (any_of HT_.out (by kernel_rfl)) (fun _ _ _ h=>h) (Or.inl ⟨by rfl,?_⟩) ?_ ?_;rotate_left
       ·intro w';go_simp;with_reducible rfl
       rotate_left
       ·simp only [Act.put,sA,sB,sC,i64_w,i32_w];rfl
       refine pure_ (i:=2) (N:=some 20) (v:=?_) (a':=?_) #[tT,fF,tT,fF,fF,fF,fF,fF,fF,fF,fF,fF,fF,fF,fF,fF,fF,fF,fF] rfl rfl (any_of HT_.out (by kernel_rfl)) (fun _ _ _ h=>h) (Or.inl ⟨by rfl,?_⟩) ?_ ?_;rotate_left
       ·intro w';go_simp;with_reducible rfl
       rotate_left
       ·simp only [Act.put,sA,sB,sC,i64_w,i32_w];rfl
       refine pure_ (i:=6) (N:=some 24) (v:=?_) (a':=?_) #[tT,fF,tT,fF,fF,fF,tT,fF,fF,fF,fF,fF,fF,fF,fF,fF,fF,fF,fF] rfl rfl (any_of HT_.out (by kernel_rfl)) (fun _ _ _ h=>h) (Or.inl ⟨by rfl,?_⟩) ?_ ?_;rotate_left
       ·intro w';go_simp;with_reducible rfl
       rotate_left
       ·simp only [Act.put,sA,sB,sC,i64_w,i32_w];rfl
       refine take_ (i:=1) (N:=some 19) (v:=?_) (a':=?_) #[tT,tT,tT,fF,fF,fF,tT,fF,fF,fF,fF,fF,fF,fF,fF,fF,fF,fF,fF] rfl rfl (take_ofW HT_.out HW_.out (by kernel_rfl)) (fun _ _ _ h=>h) (Or.inl ⟨by rfl,?_⟩) hHeld ?_ ?_;rotate_left
       ·rintro w' ⟨s0,s1,s2,s3,s4,s5,s6,s7,s8,s9,s10,s11,s12,s13,s14,s15,s16,s17,s18,s19,s20,s21,s22,s23,s24,s25,s26,s27,s28,s29,s30,s31,s32,s33,s34,s35,s36,s37,s38,s39,s40⟩;go_simp;with_reducible rfl
       rotate_left
       ·simp only [Act.put,sA,sB,sC,i64_w,i32_w];rfl
       refine pure_ (i:=3) (N:=some 21) (v:=?_) (a':=?_) #[tT,tT,tT,tT,fF,fF,tT,fF,fF,fF,fF,fF,fF,fF,fF,fF,fF,fF,fF] rfl rfl (any_of HT_.out (by kernel_rfl)) (fun _ _ _ h=>h) (Or.inl ⟨by rfl,?_⟩) ?_ ?_;rotate_left
       ·intro w';go_simp;with_reducible rfl
       rotate_left
       ·simp only [Act.put,sA,sB,sC,i64_w,i32_w];rfl
       refine pure_ (i:=4) (N:=some 22) (v:=?_) (a':=?_) #[tT,tT,tT,tT,tT,fF,tT,fF,fF,fF,fF,fF,fF,fF,fF,fF,fF,fF,fF] rfl rfl (any_of HT_.out (by kernel_rfl)) (fun _ _ _ h=>h) (Or.inl ⟨by rfl,?_⟩) ?_ ?_;rotate_left
       ·intro w';go_simp;with_reducible rfl
       rotate_left
       ·simp only [Act.put,sA,sB,sC,i64_w,i32_w];rfl
       refine take_ (i:=5) (N:=some 23) (v:=?_) (a':=?_) #[tT,tT,tT,tT,tT,tT,tT,fF,fF,fF,fF,fF,fF,fF,fF,fF,fF,fF,fF] rfl rfl (take_ofW HT_.out HW_.out (by kernel_rfl)) (fun _ _ _ h=>h) (Or.inl ⟨by rfl,?_⟩) hHeld ?_ ?_;rotate_left
       ·rintro w' ⟨s0,s1,s2,s3,s4,s5,s6,s7,s8,s9,s10,s11,s12,s13,s14,s15,s16,s17,s18,s19,s20,s21,s22,s23,s24,s25,s26,s27,s28,s29,s30,s31,s32,s33,s34,s35,s36,s37,s38,s39,s40⟩;go_simp;with_reducible rfl
       rotate_left
       ·simp only [Act.put,sA,sB,sC,i64_w,i32_w];rfl
       refine pure_ (i:=7) (N:=some 25) (v:=?_) (a':=?_) #[tT,tT,tT,tT,tT,tT,tT,tT,fF,fF,fF,fF,fF,fF,fF,fF,fF,fF,fF] rfl rfl (any_of HT_.out (by kernel_rfl)) (fun _ _ _ h=>h) (Or.inl ⟨by rfl,?_⟩) ?_ ?_;rotate_left
       ·intro w';go_simp;with_reducible rfl
       rotate_left
       ·simp only [Act.put,sA,sB,sC,i64_w,i32_w];rfl
       refine pure_ (i:=8) (N:=some 26) (v:=?_) (a':=?_) #[tT,tT,tT,tT,tT,tT,tT,tT,tT,fF,fF,fF,fF,fF,fF,fF,fF,fF,fF] rfl rfl (any_of HT_.out (by kernel_rfl)) (fun _ _ _ h=>h) (Or.inl ⟨by rfl,?_⟩) ?_ ?_;rotate_left
       ·intro w';go_simp;with_reducible rfl
       rotate_left
       ·simp only [Act.put,sA,sB,sC,i64_w,i32_w];rfl
       refine pure_ (i:=11) (N:=some 29) (v:=?_) (a':=?_) #[tT,tT,tT,tT,tT,tT,tT,tT,tT,fF,fF,tT,fF,fF,fF,fF,fF,fF,fF] rfl rfl (any_of HT_.out (by kernel_rfl)) (fun _ _ _ h=>h) (Or.inl ⟨by rfl,?_⟩) ?_ ?_;rotate_left
       ·intro w';go_simp;with_reducible rfl
       rotate_left
       ·simp only [Act.put,sA,sB,sC,i64_w,i32_w];rfl
       refine pure_ (i:=13) (N:=some 31) (v:=?_) (a':=?_) #[tT,tT,tT,tT,tT,tT,tT,tT,tT,fF,fF,tT,fF,tT,fF,fF,fF,fF,fF] rfl rfl (any_of HT_.out (by kernel_rfl)) (fun _ _ _ h=>h) (Or.inl ⟨by rfl,?_⟩) ?_ ?_;rotate_left
       ·intro w';go_simp;with_reducible rfl
       rotate_left
       ·simp only [Act.put,sA,sB,sC,i64_w,i32_w];rfl
       refine take_ (i:=9) (N:=some 27) (v:=?_) (a':=?_) #[tT,tT,tT,tT,tT,tT,tT,tT,tT,tT,fF,tT,fF,tT,fF,fF,fF,fF,fF] rfl rfl (take_ofW HT_.out HW_.out (by kernel_rfl)) (fun _ _ _ h=>h) (Or.inl ⟨by rfl,?_⟩) hHeld ?_ ?_;rotate_left
       ·rintro w' ⟨s0,s1,s2,s3,s4,s5,s6,s7,s8,s9,s10,s11,s12,s13,s14,s15,s16,s17,s18,s19,s20,s21,s22,s23,s24,s25,s26,s27,s28,s29,s30,s31,s32,s33,s34,s35,s36,s37,s38,s39,s40⟩;refine (run_load_wide 33 (.tmp 4) (by rfl) dA (by rfl) #[.slice wC yA.length xC,.slice yC zA.length zC,.slice aD aB.length bD,.int .i64 eB,.int .i64 fB,.int .i64 gB,.int .i64 hB,.int .i64 iB,.int .i64 jB,.int .i64 kB,.int .i64 nA,.int .i64 oA,.int .i64 pA,.int .i64 qA,.int .i64 rA,.int .i64 tA,.int .i64 uA,.slice kC iA.length lC,.slice mC jA.length nC,.slice oC kA.length pC,.slice qC lA.length rC,.slice tC mA.length uC] Try.underlying33 rfl (by kernel_rfl) ⟨s10,s11,s12,s13,s14,s15,s16,s17,s18,s19,s20,s21,s22,s23,s24,s25,s26,s27,s28,s29,s30,s31,trivial⟩).trans ?_;with_reducible rfl
       rotate_left
       ·simp only [Act.put,sA,sB,sC,i64_w,i32_w];rfl
       refine take_ (i:=10) (N:=some 28) (v:=?_) (a':=?_) #[tT,tT,tT,tT,tT,tT,tT,tT,tT,tT,tT,tT,fF,tT,fF,fF,fF,fF,fF] rfl rfl (take_ofW HT_.out HW_.out (by kernel_rfl)) (fun _ _ _ h=>h) (Or.inl ⟨by rfl,?_⟩) hHeld ?_ ?_;rotate_left
       ·rintro w' ⟨s0,s1,s2,s3,s4,s5,s6,s7,s8,s9,s10,s11,s12,s13,s14,s15,s16,s17,s18,s19,s20,s21,s22,s23,s24,s25,s26,s27,s28,s29,s30,s31,s32,s33,s34,s35,s36,s37,s38,s39,s40⟩;go_simp;with_reducible rfl
       rotate_left
       ·simp only [Act.put,sA,sB,sC,i64_w,i32_w];rfl
       refine take_ (i:=12) (N:=some 30) (v:=?_) (a':=?_) #[tT,tT,tT,tT,tT,tT,tT,tT,tT,tT,tT,tT,tT,tT,fF,fF,fF,fF,fF] rfl rfl (take_ofW HT_.out HW_.out (by kernel_rfl)) (fun _ _ _ h=>h) (Or.inl ⟨by rfl,?_⟩) hHeld ?_ ?_;rotate_left
       ·rintro w' ⟨s0,s1,s2,s3,s4,s5,s6,s7,s8,s9,s10,s11,s12,s13,s14,s15,s16,s17,s18,s19,s20,s21,s22,s23,s24,s25,s26,s27,s28,s29,s30,s31,s32,s33,s34,s35,s36,s37,s38,s39,s40⟩;go_simp;with_reducible rfl
       rotate_left
       ·simp only [Act.put,sA,sB,sC,i64_w,i32_w];rfl
       refine pure_ (i:=14) (N:=some 32) (v:=?_) (a':=?_) #[tT,tT,tT,tT,tT,tT,tT,tT,tT,tT,tT,tT,tT,tT,tT,fF,fF,fF,fF] rfl rfl (any_of HT_.out (by kernel_rfl)) (fun _ _ _ h=>h) (Or.inl ⟨by rfl,?_⟩) ?_ ?_;rotate_left
       ·intro w';go_simp;with_reducible rfl
       rotate_left
       ·simp only [Act.put,sA,sB,sC,i64_w,i32_w];rfl
       refine pure_ (i:=15) (N:=some 33) (v:=?_) (a':=?_) #[tT,tT,tT,tT,tT,tT,tT,tT,tT,tT,tT,tT,tT,tT,tT,tT,fF,fF,fF] rfl rfl (any_of HT_.out (by kernel_rfl)) (fun _ _ _ h=>h) (Or.inl ⟨by rfl,?_⟩) ?_ ?_;rotate_left
       ·intro w';go_simp;with_reducible rfl
       rotate_left
       ·simp only [Act.put,sA,sB,sC,i64_w,i32_w];rfl
       refine take_ (i:=16) (N:=some 34) (v:=?_) (a':=?_) #[tT,tT,tT,tT,tT,tT,tT,tT,tT,tT,tT,tT,tT,tT,tT,tT,tT,fF,fF] rfl rfl (take_ofW HT_.out HW_.out (by kernel_rfl)) (fun _ _ _ h=>h) (Or.inl ⟨by rfl,?_⟩) hHeld ?_ ?_;rotate_left
       ·rintro w' ⟨s0,s1,s2,s3,s4,s5,s6,s7,s8,s9,s10,s11,s12,s13,s14,s15,s16,s17,s18,s19,s20,s21,s22,s23,s24,s25,s26,s27,s28,s29,s30,s31,s32,s33,s34,s35,s36,s37,s38,s39,s40⟩;go_simp;with_reducible rfl
       rotate_left
       ·simp only [Act.put,sA,sB,sC,i64_w,i32_w];rfl
       refine one_ (i:=17) (N:=some 35) #[tT,tT,tT,tT,tT,tT,tT,tT,tT,tT,tT,tT,tT,tT,tT,tT,tT,tT,fF] rfl rfl (one_of HT_.out (by kernel_rfl)) (by decide) (fun K hK=>?_);refine goes_ Try.func77 (by kernel_rfl) rfl #[.agg #[.slice wC yA.length xC,.slice yC zA.length zC,.slice aD aB.length bD,.int .i64 eB,.int .i64 fB,.int .i64 gB,.int .i64 hB,.int .i64 iB,.int .i64 jB,.int .i64 kB,.int .i64 nA,.int .i64 oA,.int .i64 pA,.int .i64 qA,.int .i64 rA,.int .i64 tA,.int .i64 uA,.slice kC iA.length lC,.slice mC jA.length nC,.slice oC kA.length pC,.slice qC lA.length rC,.slice tC mA.length uC],.agg #[.string mB,.int .i64 lB,.slice hD dB.length iD],.int .i64 ((rd_T129 eA bA).f0)] (by rfl) rfl rfl (by (try simp only [List.map_toArray,List.map_cons,List.map_nil]);(rfl)) ?_;(with_reducible refine (corebankref49_belongs.calls k1 _ _ yA _ _ zA _ _ aB eB fB gB hB iB jB kB nA oA pA qA rA tA uA _ _ iA _ _ jA _ _ kA _ _ lA _ _ mA mB lB _ _ dB ((rd_T129 eA bA).f0) true _ (Kd.C_below aG.out HB.out) bG.out (Kd.C_below cG.out HB.out) dG.out (Kd.C_below eG.out HB.out) fG.out (Kd.C_below gF.out HB.out) hF.out (Kd.C_below iF.out HB.out) jF.out (Kd.C_below kF.out HB.out) lF.out (Kd.C_below mF.out HB.out) nF.out (Kd.C_below oF.out HB.out) pF.out (Kd.C_below gG.out HB.out) hG.out xG.out).mono ?_);rintro e w17 ⟨rfl,hb⟩;refine ⟨_,rfl,?_⟩;have nB:=aM (bB aA.out hb);have oB:=aM (bB fA.out hb);have pB:=aM (bB cA.out hb);have vB:=aM (bS HB.out hb);clear aA;clear fA;clear cA;clear HB;have aA:=nB;have fA:=oB;have cA:=pB;have HB:=vB;clear nB oB pB vB;((try clear hb));refine hK.out _ _ ⟨bC cA.out 0 rfl,bC cA.out 1 rfl,bC cA.out 2 rfl,bC cA.out 3 rfl,bC cA.out 4 rfl,bC cA.out 5 rfl,bC cA.out 6 rfl,bC cA.out 7 rfl,bC cA.out 8 rfl,bC cA.out 9 rfl,bC aA.out 0 rfl,bC aA.out 1 rfl,bC aA.out 2 rfl,bC aA.out 3 rfl,bC aA.out 4 rfl,bC aA.out 5 rfl,bC aA.out 6 rfl,bC aA.out 7 rfl,bC aA.out 8 rfl,bC aA.out 9 rfl,bC aA.out 10 rfl,bC aA.out 11 rfl,bC aA.out 12 rfl,bC aA.out 13 rfl,bC aA.out 14 rfl,bC aA.out 15 rfl,bC aA.out 16 rfl,bC aA.out 17 rfl,bC aA.out 18 rfl,bC aA.out 19 rfl,bC aA.out 20 rfl,bC aA.out 21 rfl,bC fA.out 0 rfl,bC fA.out 1 rfl,bC fA.out 2 rfl,(cB HB.out jC),(cB HB.out iC),(cB HB.out hC),(cB HB.out gD),(cB HB.out fD),(cB HB.out eD)⟩ (fun hHeld=>?_);clear hK K;refine norm_ (a':=?_) ?_ ?_;rotate_left
       ·(show Act.put _ (some 35) _=_);simp only [Act.put,sA,sB,sC,i64_w,i32_w];rfl
       refine pure_ (i:=18) (N:=some 36) (v:=?_) (a':=?_) #[tT,tT,tT,tT,tT,tT,tT,tT,tT,tT,tT,tT,tT,tT,tT,tT,tT,tT,tT] rfl rfl (any_of HT_.out (by kernel_rfl)) (fun _ _ _ h=>h) (Or.inl ⟨by rfl,?_⟩) ?_ ?_;rotate_left
       ·intro w';go_simp;with_reducible rfl
       rotate_left
       ·simp only [Act.put,sA,sB,sC,i64_w,i32_w];rfl
       refine done_ (done_of HT_.out (by kernel_rfl)) ?_;have p302:0≤(bA:Int):=oD (by assumption);have q302:bA < (eA.length:Int):=oD (by assumption);obtain ⟨nG,e302,aI,bI,cI⟩:=at_T129 jE.out bA p302 q302;obtain rfl:hA=nG:=(by injection e302);replace p302:=eq_true p302;replace q302:=eq_true q302;(try go_wp2);(go_roundg k1);(case measure=>have:=HK1.out;omega);case rel=>exact ⟨(wrap64 (cD + ((rd_T129 eA bA).f1))),(wrap64 (bA + 1)),(by rfl),(by rfl),H',⟨by have:=HK1.out;omega⟩,⟨aA.out⟩,⟨fA.out⟩,⟨cA.out⟩,⟨HB.out⟩⟩
      ·replace c12:=Bool.eq_false_iff.mpr c12;subst c12;(have H1:(corebankref49_amount.l0 k1 a2 cD (wrap64 (bA + 1)) yA zA aB eB fB gB hB iB jB kB nA oA pA qA rA tA uA iA jA kA lA mA mB lB dB wB xB yB zB aC cC dC eC eA fC)=some r:=by rw [if_neg (show ¬ (false=true) by decide)] at H;exact H);clear H;have H:=H1;clear H1;have H':=aM H;clear H;have dI:wr.cell? ⟨gA,8,none⟩=some (.slice jD eA.length vC):=bC cA.out 8 rfl;(try go_wp2);have nB:=aM (blk_drew aA.out);have oB:=aM (blk_drew fA.out);have pB:=aM (blk_drew cA.out);have vB:=aM (below_drew1 HB.out);clear aA;clear fA;clear cA;clear HB;have aA:=nB;have fA:=oB;have cA:=pB;have HB:=vB;clear nB oB pB vB;have p299:0≤(bA:Int):=oD (by assumption);have q299:bA < (eA.length:Int):=oD (by assumption);obtain ⟨hA,e299,vA,wA,xA⟩:=at_T129 jE.out bA p299 q299;have hC:=xA;have iC:=wA;have jC:=vA;cases e299;replace vA:=cB HB.out vA;replace wA:=cB HB.out wA;replace xA:=cB HB.out xA;replace p299:=eq_true p299;replace q299:=eq_true q299;have p300:0≤(bA:Int):=oD (by assumption);have q300:bA < (eA.length:Int):=oD (by assumption);obtain ⟨tE,e300,rB,tB,uB⟩:=at_T129 jE.out bA p300 q300;have eD:=uB;have fD:=tB;have gD:=rB;obtain rfl:hA=tE:=(by injection e300);replace rB:=cB HB.out rB;replace tB:=cB HB.out tB;replace uB:=cB HB.out uB;replace p300:=eq_true p300;replace q300:=eq_true q300;refine start_ (n:=19) (S:=fun w'=>w'.cell? ⟨gA,0,none⟩=some (.int .i64 wB)∧w'.cell? ⟨gA,1,none⟩=some (.int .i64 xB)∧w'.cell? ⟨gA,2,none⟩=some (.int .i64 yB)∧w'.cell? ⟨gA,3,none⟩=some (.int .i64 zB)∧w'.cell? ⟨gA,4,none⟩=some (.int .i64 aC)∧w'.cell? ⟨gA,5,none⟩=some (.int .i64 cC)∧w'.cell? ⟨gA,6,none⟩=some (.string dC)∧w'.cell? ⟨gA,7,none⟩=some (.string eC)∧w'.cell? ⟨gA,8,none⟩=some (.slice (some hA) eA.length vC)∧w'.cell? ⟨gA,9,none⟩=some (.int .u64 fC)∧w'.cell? ⟨dA,0,none⟩=some (.slice wC yA.length xC)∧w'.cell? ⟨dA,1,none⟩=some (.slice yC zA.length zC)∧w'.cell? ⟨dA,2,none⟩=some (.slice aD aB.length bD)∧w'.cell? ⟨dA,3,none⟩=some (.int .i64 eB)∧w'.cell? ⟨dA,4,none⟩=some (.int .i64 fB)∧w'.cell? ⟨dA,5,none⟩=some (.int .i64 gB)∧w'.cell? ⟨dA,6,none⟩=some (.int .i64 hB)∧w'.cell? ⟨dA,7,none⟩=some (.int .i64 iB)∧w'.cell? ⟨dA,8,none⟩=some (.int .i64 jB)∧w'.cell? ⟨dA,9,none⟩=some (.int .i64 kB)∧w'.cell? ⟨dA,10,none⟩=some (.int .i64 nA)∧w'.cell? ⟨dA,11,none⟩=some (.int .i64 oA)∧w'.cell? ⟨dA,12,none⟩=some (.int .i64 pA)∧w'.cell? ⟨dA,13,none⟩=some (.int .i64 qA)∧w'.cell? ⟨dA,14,none⟩=some (.int .i64 rA)∧w'.cell? ⟨dA,15,none⟩=some (.int .i64 tA)∧w'.cell? ⟨dA,16,none⟩=some (.int .i64 uA)∧w'.cell? ⟨dA,17,none⟩=some (.slice kC iA.length lC)∧w'.cell? ⟨dA,18,none⟩=some (.slice mC jA.length nC)∧w'.cell? ⟨dA,19,none⟩=some (.slice oC kA.length pC)∧w'.cell? ⟨dA,20,none⟩=some (.slice qC lA.length rC)∧w'.cell? ⟨dA,21,none⟩=some (.slice tC mA.length uC)∧w'.cell? ⟨qB,0,none⟩=some (.string mB)∧w'.cell? ⟨qB,1,none⟩=some (.int .i64 lB)∧w'.cell? ⟨qB,2,none⟩=some (.slice hD dB.length iD)∧w'.cell? (hA.add ((bA).toNat * 3))=some (.int .i64 ((rd_T129 eA bA).f0))∧w'.cell? ⟨(hA.add ((bA).toNat * 3)).block,(hA.add ((bA).toNat * 3)).off + 1,none⟩=some (.int .i64 ((rd_T129 eA bA).f1))∧w'.cell? ⟨(hA.add ((bA).toNat * 3)).block,(hA.add ((bA).toNat * 3)).off + 2,none⟩=some (.string ((rd_T129 eA bA).f2))∧w'.cell? (hA.add ((bA).toNat * 3))=some (.int .i64 ((rd_T129 eA bA).f0))∧w'.cell? ⟨(hA.add ((bA).toNat * 3)).block,(hA.add ((bA).toNat * 3)).off + 1,none⟩=some (.int .i64 ((rd_T129 eA bA).f1))∧w'.cell? ⟨(hA.add ((bA).toNat * 3)).block,(hA.add ((bA).toNat * 3)).off + 2,none⟩=some (.string ((rd_T129 eA bA).f2))) (ds:=[]) #[fF,fF,fF,fF,fF,fF,fF,fF,fF,fF,fF,fF,fF,fF,fF,fF,fF,fF,fF] (by kernel_rfl) rfl rfl ⟨bC cA.out 0 rfl,bC cA.out 1 rfl,bC cA.out 2 rfl,bC cA.out 3 rfl,bC cA.out 4 rfl,bC cA.out 5 rfl,bC cA.out 6 rfl,bC cA.out 7 rfl,bC cA.out 8 rfl,bC cA.out 9 rfl,bC aA.out 0 rfl,bC aA.out 1 rfl,bC aA.out 2 rfl,bC aA.out 3 rfl,bC aA.out 4 rfl,bC aA.out 5 rfl,bC aA.out 6 rfl,bC aA.out 7 rfl,bC aA.out 8 rfl,bC aA.out 9 rfl,bC aA.out 10 rfl,bC aA.out 11 rfl,bC aA.out 12 rfl,bC aA.out 13 rfl,bC aA.out 14 rfl,bC aA.out 15 rfl,bC aA.out 16 rfl,bC aA.out 17 rfl,bC aA.out 18 rfl,bC aA.out 19 rfl,bC aA.out 20 rfl,bC aA.out 21 rfl,bC fA.out 0 rfl,bC fA.out 1 rfl,bC fA.out 2 rfl,(cB HB.out jC),(cB HB.out iC),(cB HB.out hC),(cB HB.out gD),(cB HB.out fD),(cB HB.out eD)⟩ (fun hHeld=>?_);refine with_tabW corebankref49_amount.tab5 corebankref49_amount.bits5 (fun HT_ HW_=>?_);(generalize wr.drew=w22 at aA fA cA HB vA wA xA rB tB uB hHeld ⊢);refine pure_ (i:=0) (N:=some 18) (v:=?_) (a':=?_) #[tT,fF,fF,fF,fF,fF,fF,fF,fF,fF,fF,fF,fF,fF,fF,fF,fF,fF,fF] rfl rfl (any_of HT_.out (by kernel_rfl)) (fun _ _ _ h=>h) (Or.inl ⟨by rfl,?_⟩) ?_ ?_;rotate_left
       ·intro w';go_simp;with_reducible rfl
       rotate_left
       ·simp only [Act.put,sA,sB,sC,i64_w,i32_w];rfl
       refine pure_ (i:=2) (N:=some 20) (v:=?_) (a':=?_) #[tT,fF,tT,fF,fF,fF,fF,fF,fF,fF,fF,fF,fF,fF,fF,fF,fF,fF,fF] rfl rfl (any_of HT_.out (by kernel_rfl)) (fun _ _ _ h=>h) (Or.inl ⟨by rfl,?_⟩) ?_ ?_;rotate_left
       ·intro w';go_simp;with_reducible rfl
       rotate_left
       ·simp only [Act.put,sA,sB,sC,i64_w,i32_w];rfl
       refine pure_ (i:=6) (N:=some 24) (v:=?_) (a':=?_) #[tT,fF,tT,fF,fF,fF,tT,fF,fF,fF,fF,fF,fF,fF,fF,fF,fF,fF,fF] rfl rfl (any_of HT_.out (by kernel_rfl)) (fun _ _ _ h=>h) (Or.inl ⟨by rfl,?_⟩) ?_ ?_;rotate_left
       ·intro w';go_simp;with_reducible rfl
       rotate_left
       ·simp only [Act.put,sA,sB,sC,i64_w,i32_w];rfl
       refine take_ (i:=1) (N:=some 19) (v:=?_) (a':=?_) #[tT,tT,tT,fF,fF,fF,tT,fF,fF,fF,fF,fF,fF,fF,fF,fF,fF,fF,fF] rfl rfl (take_ofW HT_.out HW_.out (by kernel_rfl)) (fun _ _ _ h=>h) (Or.inl ⟨by rfl,?_⟩) hHeld ?_ ?_;rotate_left
       ·rintro w' ⟨s0,s1,s2,s3,s4,s5,s6,s7,s8,s9,s10,s11,s12,s13,s14,s15,s16,s17,s18,s19,s20,s21,s22,s23,s24,s25,s26,s27,s28,s29,s30,s31,s32,s33,s34,s35,s36,s37,s38,s39,s40⟩;go_simp;with_reducible rfl
       rotate_left
       ·simp only [Act.put,sA,sB,sC,i64_w,i32_w];rfl
       refine pure_ (i:=3) (N:=some 21) (v:=?_) (a':=?_) #[tT,tT,tT,tT,fF,fF,tT,fF,fF,fF,fF,fF,fF,fF,fF,fF,fF,fF,fF] rfl rfl (any_of HT_.out (by kernel_rfl)) (fun _ _ _ h=>h) (Or.inl ⟨by rfl,?_⟩) ?_ ?_;rotate_left
       ·intro w';go_simp;with_reducible rfl
       rotate_left
       ·simp only [Act.put,sA,sB,sC,i64_w,i32_w];rfl
       refine pure_ (i:=4) (N:=some 22) (v:=?_) (a':=?_) #[tT,tT,tT,tT,tT,fF,tT,fF,fF,fF,fF,fF,fF,fF,fF,fF,fF,fF,fF] rfl rfl (any_of HT_.out (by kernel_rfl)) (fun _ _ _ h=>h) (Or.inl ⟨by rfl,?_⟩) ?_ ?_;rotate_left
       ·intro w';go_simp;with_reducible rfl
       rotate_left
       ·simp only [Act.put,sA,sB,sC,i64_w,i32_w];rfl
       refine take_ (i:=5) (N:=some 23) (v:=?_) (a':=?_) #[tT,tT,tT,tT,tT,tT,tT,fF,fF,fF,fF,fF,fF,fF,fF,fF,fF,fF,fF] rfl rfl (take_ofW HT_.out HW_.out (by kernel_rfl)) (fun _ _ _ h=>h) (Or.inl ⟨by rfl,?_⟩) hHeld ?_ ?_;rotate_left
       ·rintro w' ⟨s0,s1,s2,s3,s4,s5,s6,s7,s8,s9,s10,s11,s12,s13,s14,s15,s16,s17,s18,s19,s20,s21,s22,s23,s24,s25,s26,s27,s28,s29,s30,s31,s32,s33,s34,s35,s36,s37,s38,s39,s40⟩;go_simp;with_reducible rfl
       rotate_left
       ·simp only [Act.put,sA,sB,sC,i64_w,i32_w];rfl
       refine pure_ (i:=7) (N:=some 25) (v:=?_) (a':=?_) #[tT,tT,tT,tT,tT,tT,tT,tT,fF,fF,fF,fF,fF,fF,fF,fF,fF,fF,fF] rfl rfl (any_of HT_.out (by kernel_rfl)) (fun _ _ _ h=>h) (Or.inl ⟨by rfl,?_⟩) ?_ ?_;rotate_left
       ·intro w';go_simp;with_reducible rfl
       rotate_left
       ·simp only [Act.put,sA,sB,sC,i64_w,i32_w];rfl
       refine pure_ (i:=8) (N:=some 26) (v:=?_) (a':=?_) #[tT,tT,tT,tT,tT,tT,tT,tT,tT,fF,fF,fF,fF,fF,fF,fF,fF,fF,fF] rfl rfl (any_of HT_.out (by kernel_rfl)) (fun _ _ _ h=>h) (Or.inl ⟨by rfl,?_⟩) ?_ ?_;rotate_left
       ·intro w';go_simp;with_reducible rfl
       rotate_left
       ·simp only [Act.put,sA,sB,sC,i64_w,i32_w];rfl
       refine pure_ (i:=11) (N:=some 29) (v:=?_) (a':=?_) #[tT,tT,tT,tT,tT,tT,tT,tT,tT,fF,fF,tT,fF,fF,fF,fF,fF,fF,fF] rfl rfl (any_of HT_.out (by kernel_rfl)) (fun _ _ _ h=>h) (Or.inl ⟨by rfl,?_⟩) ?_ ?_;rotate_left
       ·intro w';go_simp;with_reducible rfl
       rotate_left
       ·simp only [Act.put,sA,sB,sC,i64_w,i32_w];rfl
       refine pure_ (i:=13) (N:=some 31) (v:=?_) (a':=?_) #[tT,tT,tT,tT,tT,tT,tT,tT,tT,fF,fF,tT,fF,tT,fF,fF,fF,fF,fF] rfl rfl (any_of HT_.out (by kernel_rfl)) (fun _ _ _ h=>h) (Or.inl ⟨by rfl,?_⟩) ?_ ?_;rotate_left
       ·intro w';go_simp;with_reducible rfl
       rotate_left
       ·simp only [Act.put,sA,sB,sC,i64_w,i32_w];rfl
       refine take_ (i:=9) (N:=some 27) (v:=?_) (a':=?_) #[tT,tT,tT,tT,tT,tT,tT,tT,tT,tT,fF,tT,fF,tT,fF,fF,fF,fF,fF] rfl rfl (take_ofW HT_.out HW_.out (by kernel_rfl)) (fun _ _ _ h=>h) (Or.inl ⟨by rfl,?_⟩) hHeld ?_ ?_;rotate_left
       ·rintro w' ⟨s0,s1,s2,s3,s4,s5,s6,s7,s8,s9,s10,s11,s12,s13,s14,s15,s16,s17,s18,s19,s20,s21,s22,s23,s24,s25,s26,s27,s28,s29,s30,s31,s32,s33,s34,s35,s36,s37,s38,s39,s40⟩;refine (run_load_wide 33 (.tmp 4) (by rfl) dA (by rfl) #[.slice wC yA.length xC,.slice yC zA.length zC,.slice aD aB.length bD,.int .i64 eB,.int .i64 fB,.int .i64 gB,.int .i64 hB,.int .i64 iB,.int .i64 jB,.int .i64 kB,.int .i64 nA,.int .i64 oA,.int .i64 pA,.int .i64 qA,.int .i64 rA,.int .i64 tA,.int .i64 uA,.slice kC iA.length lC,.slice mC jA.length nC,.slice oC kA.length pC,.slice qC lA.length rC,.slice tC mA.length uC] Try.underlying33 rfl (by kernel_rfl) ⟨s10,s11,s12,s13,s14,s15,s16,s17,s18,s19,s20,s21,s22,s23,s24,s25,s26,s27,s28,s29,s30,s31,trivial⟩).trans ?_;with_reducible rfl
       rotate_left
       ·simp only [Act.put,sA,sB,sC,i64_w,i32_w];rfl
       refine take_ (i:=10) (N:=some 28) (v:=?_) (a':=?_) #[tT,tT,tT,tT,tT,tT,tT,tT,tT,tT,tT,tT,fF,tT,fF,fF,fF,fF,fF] rfl rfl (take_ofW HT_.out HW_.out (by kernel_rfl)) (fun _ _ _ h=>h) (Or.inl ⟨by rfl,?_⟩) hHeld ?_ ?_;rotate_left
       ·rintro w' ⟨s0,s1,s2,s3,s4,s5,s6,s7,s8,s9,s10,s11,s12,s13,s14,s15,s16,s17,s18,s19,s20,s21,s22,s23,s24,s25,s26,s27,s28,s29,s30,s31,s32,s33,s34,s35,s36,s37,s38,s39,s40⟩;go_simp;with_reducible rfl
       rotate_left
       ·simp only [Act.put,sA,sB,sC,i64_w,i32_w];rfl
       refine take_ (i:=12) (N:=some 30) (v:=?_) (a':=?_) #[tT,tT,tT,tT,tT,tT,tT,tT,tT,tT,tT,tT,tT,tT,fF,fF,fF,fF,fF] rfl rfl (take_ofW HT_.out HW_.out (by kernel_rfl)) (fun _ _ _ h=>h) (Or.inl ⟨by rfl,?_⟩) hHeld ?_ ?_;rotate_left
       ·rintro w' ⟨s0,s1,s2,s3,s4,s5,s6,s7,s8,s9,s10,s11,s12,s13,s14,s15,s16,s17,s18,s19,s20,s21,s22,s23,s24,s25,s26,s27,s28,s29,s30,s31,s32,s33,s34,s35,s36,s37,s38,s39,s40⟩;go_simp;with_reducible rfl
       rotate_left
       ·simp only [Act.put,sA,sB,sC,i64_w,i32_w];rfl
       refine pure_ (i:=14) (N:=some 32) (v:=?_) (a':=?_) #[tT,tT,tT,tT,tT,tT,tT,tT,tT,tT,tT,tT,tT,tT,tT,fF,fF,fF,fF] rfl rfl (any_of HT_.out (by kernel_rfl)) (fun _ _ _ h=>h) (Or.inl ⟨by rfl,?_⟩) ?_ ?_;rotate_left
       ·intro w';go_simp;with_reducible rfl
       rotate_left
       ·simp only [Act.put,sA,sB,sC,i64_w,i32_w];rfl
       refine pure_ (i:=15) (N:=some 33) (v:=?_) (a':=?_) #[tT,tT,tT,tT,tT,tT,tT,tT,tT,tT,tT,tT,tT,tT,tT,tT,fF,fF,fF] rfl rfl (any_of HT_.out (by kernel_rfl)) (fun _ _ _ h=>h) (Or.inl ⟨by rfl,?_⟩) ?_ ?_;rotate_left
       ·intro w';go_simp;with_reducible rfl
       rotate_left
       ·simp only [Act.put,sA,sB,sC,i64_w,i32_w];rfl
       refine take_ (i:=16) (N:=some 34) (v:=?_) (a':=?_) #[tT,tT,tT,tT,tT,tT,tT,tT,tT,tT,tT,tT,tT,tT,tT,tT,tT,fF,fF] rfl rfl (take_ofW HT_.out HW_.out (by kernel_rfl)) (fun _ _ _ h=>h) (Or.inl ⟨by rfl,?_⟩) hHeld ?_ ?_;rotate_left
       ·rintro w' ⟨s0,s1,s2,s3,s4,s5,s6,s7,s8,s9,s10,s11,s12,s13,s14,s15,s16,s17,s18,s19,s20,s21,s22,s23,s24,s25,s26,s27,s28,s29,s30,s31,s32,s33,s34,s35,s36,s37,s38,s39,s40⟩;go_simp;with_reducible rfl
       rotate_left
       ·simp only [Act.put,sA,sB,sC,i64_w,i32_w];rfl
       refine one_ (i:=17) (N:=some 35) #[tT,tT,tT,tT,tT,tT,tT,tT,tT,tT,tT,tT,tT,tT,tT,tT,tT,tT,fF] rfl rfl (one_of HT_.out (by kernel_rfl)) (by decide) (fun K hK=>?_);refine goes_ Try.func77 (by kernel_rfl) rfl #[.agg #[.slice wC yA.length xC,.slice yC zA.length zC,.slice aD aB.length bD,.int .i64 eB,.int .i64 fB,.int .i64 gB,.int .i64 hB,.int .i64 iB,.int .i64 jB,.int .i64 kB,.int .i64 nA,.int .i64 oA,.int .i64 pA,.int .i64 qA,.int .i64 rA,.int .i64 tA,.int .i64 uA,.slice kC iA.length lC,.slice mC jA.length nC,.slice oC kA.length pC,.slice qC lA.length rC,.slice tC mA.length uC],.agg #[.string mB,.int .i64 lB,.slice hD dB.length iD],.int .i64 ((rd_T129 eA bA).f0)] (by rfl) rfl rfl (by (try simp only [List.map_toArray,List.map_cons,List.map_nil]);(rfl)) ?_;(with_reducible refine (corebankref49_belongs.calls k1 _ _ yA _ _ zA _ _ aB eB fB gB hB iB jB kB nA oA pA qA rA tA uA _ _ iA _ _ jA _ _ kA _ _ lA _ _ mA mB lB _ _ dB ((rd_T129 eA bA).f0) false _ (Kd.C_below aG.out HB.out) bG.out (Kd.C_below cG.out HB.out) dG.out (Kd.C_below eG.out HB.out) fG.out (Kd.C_below gF.out HB.out) hF.out (Kd.C_below iF.out HB.out) jF.out (Kd.C_below kF.out HB.out) lF.out (Kd.C_below mF.out HB.out) nF.out (Kd.C_below oF.out HB.out) pF.out (Kd.C_below gG.out HB.out) hG.out xG.out).mono ?_);rintro e w23 ⟨rfl,hb⟩;refine ⟨_,rfl,?_⟩;have nB:=aM (bB aA.out hb);have oB:=aM (bB fA.out hb);have pB:=aM (bB cA.out hb);have vB:=aM (bS HB.out hb);clear aA;clear fA;clear cA;clear HB;have aA:=nB;have fA:=oB;have cA:=pB;have HB:=vB;clear nB oB pB vB;((try clear hb));refine hK.out _ _ ⟨bC cA.out 0 rfl,bC cA.out 1 rfl,bC cA.out 2 rfl,bC cA.out 3 rfl,bC cA.out 4 rfl,bC cA.out 5 rfl,bC cA.out 6 rfl,bC cA.out 7 rfl,bC cA.out 8 rfl,bC cA.out 9 rfl,bC aA.out 0 rfl,bC aA.out 1 rfl,bC aA.out 2 rfl,bC aA.out 3 rfl,bC aA.out 4 rfl,bC aA.out 5 rfl,bC aA.out 6 rfl,bC aA.out 7 rfl,bC aA.out 8 rfl,bC aA.out 9 rfl,bC aA.out 10 rfl,bC aA.out 11 rfl,bC aA.out 12 rfl,bC aA.out 13 rfl,bC aA.out 14 rfl,bC aA.out 15 rfl,bC aA.out 16 rfl,bC aA.out 17 rfl,bC aA.out 18 rfl,bC aA.out 19 rfl,bC aA.out 20 rfl,bC aA.out 21 rfl,bC fA.out 0 rfl,bC fA.out 1 rfl,bC fA.out 2 rfl,(cB HB.out jC),(cB HB.out iC),(cB HB.out hC),(cB HB.out gD),(cB HB.out fD),(cB HB.out eD)⟩ (fun hHeld=>?_);clear hK K;refine norm_ (a':=?_) ?_ ?_;rotate_left
       ·(show Act.put _ (some 35) _=_);simp only [Act.put,sA,sB,sC,i64_w,i32_w];rfl
       refine pure_ (i:=18) (N:=some 36) (v:=?_) (a':=?_) #[tT,tT,tT,tT,tT,tT,tT,tT,tT,tT,tT,tT,tT,tT,tT,tT,tT,tT,tT] rfl rfl (any_of HT_.out (by kernel_rfl)) (fun _ _ _ h=>h) (Or.inl ⟨by rfl,?_⟩) ?_ ?_;rotate_left
       ·intro w';go_simp;with_reducible rfl
       rotate_left
       ·simp only [Act.put,sA,sB,sC,i64_w,i32_w];rfl
       refine done_ (done_of HT_.out (by kernel_rfl)) ?_;(try go_wp2);(go_roundg k1);(case measure=>have:=HK1.out;omega);case rel=>exact ⟨(cD),(wrap64 (bA + 1)),(by rfl),(by rfl),H',⟨by have:=HK1.out;omega⟩,⟨aA.out⟩,⟨fA.out⟩,⟨cA.out⟩,⟨HB.out⟩⟩
     ·rw [if_neg c10] at H;have mG:(((rd_T129 eA bA).f2).toList == a2.toList)=false:=beq_eq_false_iff_ne.mpr c10;have H':=aM H;clear H;have eI:wr.cell? ⟨gA,8,none⟩=some (.slice jD eA.length vC):=bC cA.out 8 rfl;(try go_wp2);have nB:=aM (blk_drew aA.out);have oB:=aM (blk_drew fA.out);have pB:=aM (blk_drew cA.out);have vB:=aM (below_drew1 HB.out);clear aA;clear fA;clear cA;clear HB;have aA:=nB;have fA:=oB;have cA:=pB;have HB:=vB;clear nB oB pB vB;have p299:0≤(bA:Int):=oD (by assumption);have q299:bA < (eA.length:Int):=oD (by assumption);obtain ⟨hA,e299,vA,wA,xA⟩:=at_T129 jE.out bA p299 q299;have hC:=xA;have iC:=wA;have jC:=vA;cases e299;replace vA:=cB HB.out vA;replace wA:=cB HB.out wA;replace xA:=cB HB.out xA;replace p299:=eq_true p299;replace q299:=eq_true q299;refine start_ (n:=19) (S:=fun w'=>w'.cell? ⟨gA,0,none⟩=some (.int .i64 wB)∧w'.cell? ⟨gA,1,none⟩=some (.int .i64 xB)∧w'.cell? ⟨gA,2,none⟩=some (.int .i64 yB)∧w'.cell? ⟨gA,3,none⟩=some (.int .i64 zB)∧w'.cell? ⟨gA,4,none⟩=some (.int .i64 aC)∧w'.cell? ⟨gA,5,none⟩=some (.int .i64 cC)∧w'.cell? ⟨gA,6,none⟩=some (.string dC)∧w'.cell? ⟨gA,7,none⟩=some (.string eC)∧w'.cell? ⟨gA,8,none⟩=some (.slice (some hA) eA.length vC)∧w'.cell? ⟨gA,9,none⟩=some (.int .u64 fC)∧w'.cell? (hA.add ((bA).toNat * 3))=some (.int .i64 ((rd_T129 eA bA).f0))∧w'.cell? ⟨(hA.add ((bA).toNat * 3)).block,(hA.add ((bA).toNat * 3)).off + 1,none⟩=some (.int .i64 ((rd_T129 eA bA).f1))∧w'.cell? ⟨(hA.add ((bA).toNat * 3)).block,(hA.add ((bA).toNat * 3)).off + 2,none⟩=some (.string ((rd_T129 eA bA).f2))) (ds:=[]) #[fF,fF,fF,fF,fF,fF,fF,fF,fF,fF,fF,fF,fF,fF,fF,fF,fF,fF,fF] (by kernel_rfl) rfl rfl ⟨bC cA.out 0 rfl,bC cA.out 1 rfl,bC cA.out 2 rfl,bC cA.out 3 rfl,bC cA.out 4 rfl,bC cA.out 5 rfl,bC cA.out 6 rfl,bC cA.out 7 rfl,bC cA.out 8 rfl,bC cA.out 9 rfl,(cB HB.out jC),(cB HB.out iC),(cB HB.out hC)⟩ (fun hHeld=>?_);refine with_tabW corebankref49_amount.tab5 corebankref49_amount.bits5 (fun HT_ HW_=>?_);(generalize wr.drew=w27 at aA fA cA HB vA wA xA hHeld ⊢);refine pure_ (i:=0) (N:=some 18) (v:=?_) (a':=?_) #[tT,fF,fF,fF,fF,fF,fF,fF,fF,fF,fF,fF,fF,fF,fF,fF,fF,fF,fF] rfl rfl (any_of HT_.out (by kernel_rfl)) (fun _ _ _ h=>h) (Or.inl ⟨by rfl,?_⟩) ?_ ?_;rotate_left
      ·intro w';go_simp;with_reducible rfl
      rotate_left
      ·simp only [Act.put,sA,sB,sC,i64_w,i32_w];rfl
      refine pure_ (i:=2) (N:=some 20) (v:=?_) (a':=?_) #[tT,fF,tT,fF,fF,fF,fF,fF,fF,fF,fF,fF,fF,fF,fF,fF,fF,fF,fF] rfl rfl (any_of HT_.out (by kernel_rfl)) (fun _ _ _ h=>h) (Or.inl ⟨by rfl,?_⟩) ?_ ?_;rotate_left
      ·intro w';go_simp;with_reducible rfl
      rotate_left
      ·simp only [Act.put,sA,sB,sC,i64_w,i32_w];rfl
      refine pure_ (i:=6) (N:=some 24) (v:=?_) (a':=?_) #[tT,fF,tT,fF,fF,fF,tT,fF,fF,fF,fF,fF,fF,fF,fF,fF,fF,fF,fF] rfl rfl (any_of HT_.out (by kernel_rfl)) (fun _ _ _ h=>h) (Or.inl ⟨by rfl,?_⟩) ?_ ?_;rotate_left
      ·intro w';go_simp;with_reducible rfl
      rotate_left
      ·simp only [Act.put,sA,sB,sC,i64_w,i32_w];rfl
      refine take_ (i:=1) (N:=some 19) (v:=?_) (a':=?_) #[tT,tT,tT,fF,fF,fF,tT,fF,fF,fF,fF,fF,fF,fF,fF,fF,fF,fF,fF] rfl rfl (take_ofW HT_.out HW_.out (by kernel_rfl)) (fun _ _ _ h=>h) (Or.inl ⟨by rfl,?_⟩) hHeld ?_ ?_;rotate_left
      ·rintro w' ⟨s0,s1,s2,s3,s4,s5,s6,s7,s8,s9,s10,s11,s12⟩;go_simp;with_reducible rfl
      rotate_left
      ·simp only [Act.put,sA,sB,sC,i64_w,i32_w];rfl
      refine pure_ (i:=3) (N:=some 21) (v:=?_) (a':=?_) #[tT,tT,tT,tT,fF,fF,tT,fF,fF,fF,fF,fF,fF,fF,fF,fF,fF,fF,fF] rfl rfl (any_of HT_.out (by kernel_rfl)) (fun _ _ _ h=>h) (Or.inl ⟨by rfl,?_⟩) ?_ ?_;rotate_left
      ·intro w';go_simp;with_reducible rfl
      rotate_left
      ·simp only [Act.put,sA,sB,sC,i64_w,i32_w];rfl
      refine pure_ (i:=4) (N:=some 22) (v:=?_) (a':=?_) #[tT,tT,tT,tT,tT,fF,tT,fF,fF,fF,fF,fF,fF,fF,fF,fF,fF,fF,fF] rfl rfl (any_of HT_.out (by kernel_rfl)) (fun _ _ _ h=>h) (Or.inl ⟨by rfl,?_⟩) ?_ ?_;rotate_left
      ·intro w';go_simp;with_reducible rfl
      rotate_left
      ·simp only [Act.put,sA,sB,sC,i64_w,i32_w];rfl
      refine take_ (i:=5) (N:=some 23) (v:=?_) (a':=?_) #[tT,tT,tT,tT,tT,tT,tT,fF,fF,fF,fF,fF,fF,fF,fF,fF,fF,fF,fF] rfl rfl (take_ofW HT_.out HW_.out (by kernel_rfl)) (fun _ _ _ h=>h) (Or.inl ⟨by rfl,?_⟩) hHeld ?_ ?_;rotate_left
      ·rintro w' ⟨s0,s1,s2,s3,s4,s5,s6,s7,s8,s9,s10,s11,s12⟩;go_simp;with_reducible rfl
      rotate_left
      ·simp only [Act.put,sA,sB,sC,i64_w,i32_w];rfl
      refine pure_ (i:=7) (N:=some 25) (v:=?_) (a':=?_) #[tT,tT,tT,tT,tT,tT,tT,tT,fF,fF,fF,fF,fF,fF,fF,fF,fF,fF,fF] rfl rfl (any_of HT_.out (by kernel_rfl)) (fun _ _ _ h=>h) (Or.inl ⟨by rfl,?_⟩) ?_ ?_;rotate_left
      ·intro w';go_simp;with_reducible rfl
      rotate_left
      ·simp only [Act.put,sA,sB,sC,i64_w,i32_w];rfl
      refine pure_ (i:=8) (N:=some 26) (v:=?_) (a':=?_) #[tT,tT,tT,tT,tT,tT,tT,tT,tT,fF,fF,fF,fF,fF,fF,fF,fF,fF,fF] rfl rfl (any_of HT_.out (by kernel_rfl)) (fun _ _ _ h=>h) (Or.inl ⟨by rfl,?_⟩) ?_ ?_;rotate_left
      ·intro w';go_simp;with_reducible rfl
      rotate_left
      ·simp only [Act.put,sA,sB,sC,i64_w,i32_w];rfl
      refine pure_ (i:=9) (N:=some 27) (v:=undef) (a':=?_) #[tT,tT,tT,tT,tT,tT,tT,tT,tT,tT,fF,fF,fF,fF,fF,fF,fF,fF,fF] rfl rfl (any_of HT_.out (by kernel_rfl)) (fun _ _ _ h=>h) (Or.inr ⟨by rfl,rfl⟩) ?_ ?_;rotate_left
      ·simp only [Act.put,sA,sB,sC,i64_w,i32_w];rfl
      refine pure_ (i:=10) (N:=some 28) (v:=undef) (a':=?_) #[tT,tT,tT,tT,tT,tT,tT,tT,tT,tT,tT,fF,fF,fF,fF,fF,fF,fF,fF] rfl rfl (any_of HT_.out (by kernel_rfl)) (fun _ _ _ h=>h) (Or.inr ⟨by rfl,rfl⟩) ?_ ?_;rotate_left
      ·simp only [Act.put,sA,sB,sC,i64_w,i32_w];rfl
      refine pure_ (i:=11) (N:=some 29) (v:=undef) (a':=?_) #[tT,tT,tT,tT,tT,tT,tT,tT,tT,tT,tT,tT,fF,fF,fF,fF,fF,fF,fF] rfl rfl (any_of HT_.out (by kernel_rfl)) (fun _ _ _ h=>h) (Or.inr ⟨by rfl,rfl⟩) ?_ ?_;rotate_left
      ·simp only [Act.put,sA,sB,sC,i64_w,i32_w];rfl
      refine pure_ (i:=12) (N:=some 30) (v:=undef) (a':=?_) #[tT,tT,tT,tT,tT,tT,tT,tT,tT,tT,tT,tT,tT,fF,fF,fF,fF,fF,fF] rfl rfl (any_of HT_.out (by kernel_rfl)) (fun _ _ _ h=>h) (Or.inr ⟨by rfl,rfl⟩) ?_ ?_;rotate_left
      ·simp only [Act.put,sA,sB,sC,i64_w,i32_w];rfl
      refine pure_ (i:=13) (N:=some 31) (v:=undef) (a':=?_) #[tT,tT,tT,tT,tT,tT,tT,tT,tT,tT,tT,tT,tT,tT,fF,fF,fF,fF,fF] rfl rfl (any_of HT_.out (by kernel_rfl)) (fun _ _ _ h=>h) (Or.inr ⟨by rfl,rfl⟩) ?_ ?_;rotate_left
      ·simp only [Act.put,sA,sB,sC,i64_w,i32_w];rfl
      refine pure_ (i:=14) (N:=some 32) (v:=undef) (a':=?_) #[tT,tT,tT,tT,tT,tT,tT,tT,tT,tT,tT,tT,tT,tT,tT,fF,fF,fF,fF] rfl rfl (any_of HT_.out (by kernel_rfl)) (fun _ _ _ h=>h) (Or.inr ⟨by rfl,rfl⟩) ?_ ?_;rotate_left
      ·simp only [Act.put,sA,sB,sC,i64_w,i32_w];rfl
      refine pure_ (i:=15) (N:=some 33) (v:=undef) (a':=?_) #[tT,tT,tT,tT,tT,tT,tT,tT,tT,tT,tT,tT,tT,tT,tT,tT,fF,fF,fF] rfl rfl (any_of HT_.out (by kernel_rfl)) (fun _ _ _ h=>h) (Or.inr ⟨by rfl,rfl⟩) ?_ ?_;rotate_left
      ·simp only [Act.put,sA,sB,sC,i64_w,i32_w];rfl
      refine pure_ (i:=16) (N:=some 34) (v:=undef) (a':=?_) #[tT,tT,tT,tT,tT,tT,tT,tT,tT,tT,tT,tT,tT,tT,tT,tT,tT,fF,fF] rfl rfl (any_of HT_.out (by kernel_rfl)) (fun _ _ _ h=>h) (Or.inr ⟨by rfl,rfl⟩) ?_ ?_;rotate_left
      ·simp only [Act.put,sA,sB,sC,i64_w,i32_w];rfl
      refine pure_ (i:=17) (N:=some 35) (v:=undef) (a':=?_) #[tT,tT,tT,tT,tT,tT,tT,tT,tT,tT,tT,tT,tT,tT,tT,tT,tT,tT,fF] rfl rfl (any_of HT_.out (by kernel_rfl)) (fun _ _ _ h=>h) (Or.inr ⟨by rfl,rfl⟩) ?_ ?_;rotate_left
      ·simp only [Act.put,sA,sB,sC,i64_w,i32_w];rfl
      refine pure_ (i:=18) (N:=some 36) (v:=?_) (a':=?_) #[tT,tT,tT,tT,tT,tT,tT,tT,tT,tT,tT,tT,tT,tT,tT,tT,tT,tT,tT] rfl rfl (any_of HT_.out (by kernel_rfl)) (fun _ _ _ h=>h) (Or.inl ⟨by rfl,?_⟩) ?_ ?_;rotate_left
      ·intro w';go_simp;with_reducible rfl
      rotate_left
      ·simp only [Act.put,sA,sB,sC,i64_w,i32_w];rfl
      refine done_ (done_of HT_.out (by kernel_rfl)) ?_;(try go_wp2);(go_roundg k1);(case measure=>have:=HK1.out;omega);case rel=>exact ⟨(cD),(wrap64 (bA + 1)),(by rfl),(by rfl),H',⟨by have:=HK1.out;omega⟩,⟨aA.out⟩,⟨fA.out⟩,⟨cA.out⟩,⟨HB.out⟩⟩
    ·rw [if_neg c9] at H;exact absurd H (by simp)
   ·rw [if_neg c8] at H;have yG:decide (bA < (eA.length:Int))=false:=decide_eq_false c8;clear c8;obtain rfl:=Option.some.inj H;have fI:wr.cell? ⟨gA,8,none⟩=some (.slice jD eA.length vC):=bC cA.out 8 rfl;have gI:wr.cell? ⟨qB,1,none⟩=some (.int .i64 lB):=bC fA.out 1 rfl;go_wp2;go_ret;exact ⟨by (rfl),HB.out⟩
def corebankref03_Find.l0:Nat→List (S97)→ByteArray→Int→Option (ByteArray × Int × Bool)
  | 0,_,_,_=>none
  | k + 1,x0,x1,x6=>if x6 < (x0.length:Int) then (if 0≤x6 then (if ((rd_T97 x0 x6).f0).toList=x1.toList then (some ((rd_T97 x0 x6).f0,(rd_T97 x0 x6).f1,true)) else (corebankref03_Find.l0 k x0 x1 (wrap64 (x6 + 1)))) else (none)) else (some ((⟨#[]⟩:ByteArray),0,false))
def corebankref03_Find.f (k:Nat) (l0:List (S97)) (a1:ByteArray):Option (ByteArray × Int × Bool):=corebankref03_Find.l0 k l0 a1 0
set_option maxHeartbeats 8000000 in
set_option maxRecDepth 100000 in
theorem corebankref03_Find.calls (k:Nat) (A0:Option Addr) (c0:Nat) (l0:List (S97)) (a1:ByteArray) (r1:ByteArray) (r2:Int) (r3:Bool) (w:World) (hr0:Kd.C k97 w A0 l0.length l0) (hc0:l0.length≤c0) (h:corebankref03_Find.f k l0 a1=some (r1,r2,r3)) :
    Calls Try.prog 59 #[.slice A0 l0.length c0,.string a1] w fun e w'=>e=.returned (.tuple #[.agg #[.string r1,.int .i64 r2],.bool r3])∧Below w.heap.size w w':=by
  have HR0:=aM hr0;clear hr0 hc0;have HB:=aM (Below.refl w.heap.size w);have H:(corebankref03_Find.l0 k l0 a1 0)=some (r1,r2,r3):=h;clear h;have H':=aM H;clear H;(go_enter Try.func59,Try.ntmps59);(go_wp2_with (first | ((with_reducible refine gate_dst (N:=4) rfl ?_);refine box_event ?hg (N:=4) ?hd (cs:=#[.string (⟨#[]⟩:ByteArray),.int .i64 0]) (t:=97) ?hr ?_;(case hd=>rfl);(case hg=>rfl);(case hr=>(go_simp;done));intro vC hg w3 hbox hb;have zA:=aM (bS HB.out hb);have aB:=aM (hbox);have fB:=aM ((by rw [hg];exact (below_size HB.out):w.heap.size≤vC));have tC:=fB;clear HB;have HB:=zA;have tB:=aB;have pE:=tC;clear zA aB fB tC;clear hb hbox hg)));(go_loopg [6] k (fun kq v6 w'=>∃ (dB:Int) (qB:ByteArray) (eB:Int),v6=.int .i64 dB∧Aside0 (corebankref03_Find.l0 kq l0 a1 dB=some (r1,r2,r3))∧Aside0 (kq≤k)∧Aside0 (w'.heap[vC]?=some (.cells #[.string qB,.int .i64 eB] 97 (0,0)))∧Aside0 (Below w.heap.size w w')));case atStart=>exact ⟨(0),((⟨#[]⟩:ByteArray)),(0),(by rfl),H',⟨Nat.le_refl _⟩,⟨tB.out⟩,⟨HB.out⟩⟩
  case round=>
    clear H';obtain ⟨dB,qB,eB,rfl,HA,HK1,tB,HB⟩:=hrel
    cases gk with
    | zero=>exact absurd HA.out (by simp [corebankref03_Find.l0])
    | succ k1=>
      have H:=HA.out;clear HA;simp only [corebankref03_Find.l0] at H;by_cases c4:dB < (l0.length:Int)
      · rw [if_pos c4] at H;have gF:decide (dB < (l0.length:Int))=true:=decide_eq_true c4;clear c4;by_cases c5:0≤dB
        · rw [if_pos c5] at H;have tF:decide (0≤dB)=true:=decide_eq_true c5;clear c5;by_cases c6:((rd_T97 l0 dB).f0).toList=a1.toList
          · rw [if_pos c6] at H;have hF:(((rd_T97 l0 dB).f0).toList == a1.toList)=true:=beq_iff_eq.mpr c6;clear c6;simp only [Option.some.injEq,Prod.mk.injEq] at H;obtain ⟨rfl,rfl,rfl⟩:=H;have p333:0≤(dB:Int):=oD (by assumption);have q333:dB < (l0.length:Int):=oD (by assumption);obtain ⟨qE,e333,wC,xC⟩:=at_T97 HR0.out dB p333 q333;cases e333;replace wC:=cB HB.out wC;replace xC:=cB HB.out xC;replace p333:=eq_true p333;replace q333:=eq_true q333;have p334:0≤(dB:Int):=oD (by assumption);have q334:dB < (l0.length:Int):=oD (by assumption);obtain ⟨cF,e334,iF,jF⟩:=at_T97 HR0.out dB p334 q334;obtain rfl:qE=cF:=(by injection e334);replace p334:=eq_true p334;replace q334:=eq_true q334;have lF:wr.cell? ⟨vC,0,none⟩=some (.string qB):=bC tB.out 0 rfl;have mF:wr.cell? ⟨vC,1,none⟩=some (.int .i64 eB):=bC tB.out 1 rfl;have nF:=bF tB.out 0;have oF:=bF tB.out 1;go_wp2;refine bodyPost_ret (results_ct rfl _ _ vC 97 #[.string ((rd_T97 l0 dB).f0),.int .i64 ((rd_T97 l0 dB).f1)] (0,0) _ rfl (by refine blk_put (cs:=#[.string ((rd_T97 l0 dB).f0),.int .i64 eB]) ?_ 1 _ rfl;refine blk_put (cs:=#[.string qB,.int .i64 eB]) ?_ 0 _ rfl;exact tB.out) Try.underlying97 rfl (by kernel_rfl)) rfl ?_;exact ⟨by (rfl),by repeat ((with_reducible first | exact HB.out | refine below_set ?_ pE.out))⟩
          · rw [if_neg c6] at H;have hF:(((rd_T97 l0 dB).f0).toList == a1.toList)=false:=beq_eq_false_iff_ne.mpr c6;have H':=aM H;clear H;have p333:0≤(dB:Int):=oD (by assumption);have q333:dB < (l0.length:Int):=oD (by assumption);obtain ⟨qE,e333,wC,xC⟩:=at_T97 HR0.out dB p333 q333;cases e333;replace wC:=cB HB.out wC;replace xC:=cB HB.out xC;replace p333:=eq_true p333;replace q333:=eq_true q333;go_wp2;(go_roundg k1);(case measure=>have:=HK1.out;omega);case rel=>exact ⟨(wrap64 (dB + 1)),(qB),(eB),(by rfl),H',⟨by have:=HK1.out;omega⟩,⟨tB.out⟩,⟨HB.out⟩⟩
        · rw [if_neg c5] at H;exact absurd H (by simp)
      · rw [if_neg c4] at H;have gF:decide (dB < (l0.length:Int))=false:=decide_eq_false c4;clear c4;simp only [Option.some.injEq,Prod.mk.injEq] at H;obtain ⟨rfl,rfl,rfl⟩:=H;have pF:wr.cell? ⟨vC,0,none⟩=some (.string qB):=bC tB.out 0 rfl;have qF:wr.cell? ⟨vC,1,none⟩=some (.int .i64 eB):=bC tB.out 1 rfl;have rF:=bF tB.out 0;have sF:=bF tB.out 1;go_wp2;refine bodyPost_ret (results_ct rfl _ _ vC 97 #[.string (⟨#[]⟩:ByteArray),.int .i64 0] (0,0) _ rfl (by refine blk_put (cs:=#[.string (⟨#[]⟩:ByteArray),.int .i64 eB]) ?_ 1 _ rfl;refine blk_put (cs:=#[.string qB,.int .i64 eB]) ?_ 0 _ rfl;exact tB.out) Try.underlying97 rfl (by kernel_rfl)) rfl ?_;exact ⟨by (rfl),by repeat ((with_reducible first | exact HB.out | refine below_set ?_ pE.out))⟩
end Go.Proofs.Ytcmaifjmnpfmbaa.R
end
