import Derived.Test.YtcmaifjmnpfmbaaProg
import Derived.Shelf.Sort.Plain
import Derived.Shelf.Slices.Reverse
import Derived.Ground.Names2Prog
import Derived.Shelf.Slices.CompactI
import Derived.Shelf.Slices.Cells
import Derived.Shelf.Slices.In.SortNone
import Derived.Lib.RowBridge
import Derived.Test.YtcmaifjmnpfmbaaRWide
import Derived.Test.YtcmaifjmnpfmbaaRMap
import Derived.Test.YtcmaifjmnpfmbaaRLoose
import Derived.Below
import Derived.Deep.Draws
import Derived.Deep.AppendLies
import Derived.Maps.AppendAt
import Derived.OwnWalk
import Derived.Laws.BytesArg
import Derived.Laws.MakeOwn
import Derived.Laws.OwnMore
import Derived.Deep.OwnRows
import Derived.Tactics
import Derived.Lib.ConvBytes
import Derived.Laws.Slices
import Derived.WalkKit
import Derived.KernelRfl
import Derived.RowKit3
import Derived.Deep.LoopGhost
import Derived.Deep.QuietTactic
import Derived.BigQuiet
import Derived.WideLaws
import Derived.Deep.DeepCutAuto
import Derived.Deep.CutBlock
import Derived.Deep.RegionHeld3
import Derived.Laws.Rows
import Derived.Lib.AppendStr
import Derived.ArgAppend
import Derived.Laws.IdiomCopy
import Derived.OrdersHeld
import Derived.Laws.BitsLemmas
import Derived.RowKit
import Derived.Test.YtcmaifjmnpfmbaaWWords
import Derived.Test.YtcmaifjmnpfmbaaWLast
import Derived.Test.YtcmaifjmnpfmbaaWTab
import Derived.Test.YtcmaifjmnpfmbaaWApart
import Derived.Test.YtcmaifjmnpfmbaaWFoot
import Derived.Test.YtcmaifjmnpfmbaaWKept
import Derived.Test.YtcmaifjmnpfmbaaWShare
import Derived.Test.YtcmaifjmnpfmbaaWN
import Derived.Test.YtcmaifjmnpfmbaaWEqStruct
import Derived.Test.YtcmaifjmnpfmbaaWRepsOne
import Derived.Test.YtcmaifjmnpfmbaaWGuard
import Derived.Test.YtcmaifjmnpfmbaaWNEv
import Derived.Test.YtcmaifjmnpfmbaaWMore
-- Made by wip/tools/ext.py (this project's) over the kit's print, with external functions' contracts by hand. Not trusted: Lean checks it.
namespace Go.Proofs.Ytcmaifjmnpfmbaa.R
open Go.RowKit Go.Proofs.YtcmaifjmnpfmbaaW.PrintWords Go.Proofs.YtcmaifjmnpfmbaaW.PrintLast Go.Proofs.YtcmaifjmnpfmbaaW.PrintMore
attribute [local go_sem] max2_int min2_int max_two min_two max_three min_three max_four min_four   -- for this text's walks alone
set_option linter.unusedVariables false
set_option linter.unusedSimpArgs false
theorem info3:(Try.prog.info? 3).map (fun i=>(i.zero,i.size,i.bytes))=some (some (.int .i64 0),1,8):=by kernel_rfl
theorem info58:(Try.prog.info? 58).map (fun i=>(i.zero,i.size,i.bytes))=some (some (.agg #[(.string ⟨#[]⟩),(.string ⟨#[]⟩),(.int .i64 0)]),3,40):=by kernel_rfl
/-! #### struct type 119 -/
structure S119 where
  f0:Int
  f1:Int
  f2:Int
  f3:Int
  f4:Int
  f5:ByteArray
def z119:S119:=⟨(0:Int),(0:Int),(0:Int),(0:Int),(0:Int),(⟨#[]⟩:ByteArray)⟩
def k119:Kd S119:=Kd.iso (Kd.pair (Kd.int .i64) (Kd.pair (Kd.int .i64) (Kd.pair (Kd.int .i64) (Kd.pair (Kd.int .i64) (Kd.pair (Kd.int .i64) Kd.string))))) (fun x:S119=>(x.f0,x.f1,x.f2,x.f3,x.f4,x.f5))
theorem k119_open {w:World} {x:S119} {cs:List Value} (h:k119.K w x cs):cs=[.int .i64 x.f0,.int .i64 x.f1,.int .i64 x.f2,.int .i64 x.f3,.int .i64 x.f4,.string x.f5]:=by
  obtain ⟨_,_,rfl,rfl,⟨_,_,rfl,rfl,⟨_,_,rfl,rfl,⟨_,_,rfl,rfl,⟨_,_,rfl,rfl,rfl⟩⟩⟩⟩⟩:=h;exact rfl
def rd_T119 (xs:List S119) (i:Int):S119:=xs.getD i.toNat z119
theorem at_T119 {w:World} {A:Option Addr} {n:Nat} {xs:List S119} (h:Kd.C k119 w A n xs) (i:Int) (h0:0≤i) (h1:i < n):∃ ad ,A=some ad∧w.cell? (ad.add (i.toNat * 6))=some (.int .i64 (rd_T119 xs i).f0)∧w.cell? ⟨(ad.add (i.toNat * 6)).block,(ad.add (i.toNat * 6)).off + 1,none⟩=some (.int .i64 (rd_T119 xs i).f1)∧w.cell? ⟨(ad.add (i.toNat * 6)).block,(ad.add (i.toNat * 6)).off + 2,none⟩=some (.int .i64 (rd_T119 xs i).f2)∧w.cell? ⟨(ad.add (i.toNat * 6)).block,(ad.add (i.toNat * 6)).off + 3,none⟩=some (.int .i64 (rd_T119 xs i).f3)∧w.cell? ⟨(ad.add (i.toNat * 6)).block,(ad.add (i.toNat * 6)).off + 4,none⟩=some (.int .i64 (rd_T119 xs i).f4)∧w.cell? ⟨(ad.add (i.toNat * 6)).block,(ad.add (i.toNat * 6)).off + 5,none⟩=some (.string (rd_T119 xs i).f5):=by
  obtain ⟨ad,c,e,_,hK,hc0⟩:=Kd.C_get h z119 i h0 h1;have hc:∀ j u,c[j]?=some u→w.cell? (ad.add (i.toNat * 6 + j))=some u:=hc0;obtain rfl:=k119_open hK;exact ⟨ad,e,hc 0 _ rfl,by rw [← add_field _ _ 1 (by omega)];exact hc 1 _ rfl,by rw [← add_field _ _ 2 (by omega)];exact hc 2 _ rfl,by rw [← add_field _ _ 3 (by omega)];exact hc 3 _ rfl,by rw [← add_field _ _ 4 (by omega)];exact hc 4 _ rfl,by rw [← add_field _ _ 5 (by omega)];exact hc 5 _ rfl⟩
/-! #### struct type 122, nested in itself -/
structure S122 where
  f0:Int
  f1:Int
  f2:ByteArray
  f3:(List S122)
def z122:S122:=⟨(0:Int),(0:Int),(⟨#[]⟩:ByteArray),([]:List S122)⟩
def F122 (d:Kd S122):Kd S122:=Kd.iso (Kd.pair (Kd.int .i64) (Kd.pair (Kd.int .i64) (Kd.pair Kd.string (Kd.slice 122 d)))) (fun x:S122=>(x.f0,x.f1,x.f2,x.f3))
theorem mono122:Kd.Mono F122:=Kd.mono_iso _ (Kd.mono_pair (Kd.mono_const _) (Kd.mono_pair (Kd.mono_const _) (Kd.mono_pair (Kd.mono_const _) (Kd.mono_slice 122 Kd.mono_id))))
theorem sub122:Kd.Sub F122 [122]:=Kd.sub_iso _ (Kd.sub_pair (Kd.sub_const _ (by decide)) (Kd.sub_pair (Kd.sub_const _ (by decide)) (Kd.sub_pair (Kd.sub_const _ (by decide)) (Kd.sub_slice 122 (by decide) Kd.sub_id))))
theorem sz122:∀ n,(Kd.upto F122 4 [122] n).sz=4:=Kd.upto_sz (fun _=>rfl)
def k122:Kd S122:=Kd.fix F122 4 [122] sz122 (Kd.upto_E sub122)
theorem k122_open {w:World} {x:S122} {cs:List Value} (h:k122.K w x cs):∃ A3 c3,cs=[.int .i64 x.f0,.int .i64 x.f1,.string x.f2,.slice A3 x.f3.length c3]∧x.f3.length≤c3∧k122.C w A3 x.f3.length x.f3:=by
  obtain ⟨n,h⟩:=h
  cases n with
  | zero=>exact h.elim
  | succ n=>
    obtain ⟨_,_,rfl,rfl,⟨_,_,rfl,rfl,⟨_,_,rfl,rfl,⟨A3,c3,rfl,l3,g3⟩⟩⟩⟩:=h;exact ⟨A3,c3,rfl,l3,Kd.fix_C g3⟩
theorem k122_mk (w:World) (x:S122) {A3:Option Addr} {c3:Nat} (l3:x.f3.length≤c3) (g3:k122.C w A3 x.f3.length x.f3):k122.K w x [.int .i64 x.f0,.int .i64 x.f1,.string x.f2,.slice A3 x.f3.length c3]:=by
  obtain ⟨n3,q3⟩:=Kd.fix_C_back mono122 g3;have r3:=Kd.upto_C_le mono122 sz122 (show n3≤n3 by omega) q3;exact ⟨n3 + 1,⟨[.int .i64 x.f0],[.int .i64 x.f1,.string x.f2,.slice A3 x.f3.length c3],rfl,rfl,⟨[.int .i64 x.f1],[.string x.f2,.slice A3 x.f3.length c3],rfl,rfl,⟨[.string x.f2],[.slice A3 x.f3.length c3],rfl,rfl,⟨A3,c3,rfl,l3,r3⟩⟩⟩⟩⟩
def rd_T122 (xs:List S122) (i:Int):S122:=xs.getD i.toNat z122
theorem at_T122 {w:World} {A:Option Addr} {n:Nat} {xs:List S122} (h:Kd.C k122 w A n xs) (i:Int) (h0:0≤i) (h1:i < n):∃ ad A3 c3,A=some ad∧w.cell? (ad.add (i.toNat * 4))=some (.int .i64 (rd_T122 xs i).f0)∧w.cell? ⟨(ad.add (i.toNat * 4)).block,(ad.add (i.toNat * 4)).off + 1,none⟩=some (.int .i64 (rd_T122 xs i).f1)∧w.cell? ⟨(ad.add (i.toNat * 4)).block,(ad.add (i.toNat * 4)).off + 2,none⟩=some (.string (rd_T122 xs i).f2)∧w.cell? ⟨(ad.add (i.toNat * 4)).block,(ad.add (i.toNat * 4)).off + 3,none⟩=some (.slice A3 (rd_T122 xs i).f3.length c3)∧(rd_T122 xs i).f3.length≤c3∧k122.C w A3 (rd_T122 xs i).f3.length (rd_T122 xs i).f3:=by
  obtain ⟨ad,c,e,_,hK,hc0⟩:=Kd.C_get h z122 i h0 h1;have hc:∀ j u,c[j]?=some u→w.cell? (ad.add (i.toNat * 4 + j))=some u:=hc0;obtain ⟨A3,c3,rfl,l3,g3⟩:=k122_open hK;exact ⟨ad,A3,c3,e,hc 0 _ rfl,by rw [← add_field _ _ 1 (by omega)];exact hc 1 _ rfl,by rw [← add_field _ _ 2 (by omega)];exact hc 2 _ rfl,by rw [← add_field _ _ 3 (by omega)];exact hc 3 _ rfl,l3,g3⟩
/-! #### struct type 124 -/
structure S124 where
  f0:ByteArray
  f1:Int
  f2:S122
  f3:S122
def z124:S124:=⟨(⟨#[]⟩:ByteArray),(0:Int),z122,z122⟩
def k124:Kd S124:=Kd.iso (Kd.pair Kd.string (Kd.pair (Kd.int .i64) (Kd.pair k122 k122))) (fun x:S124=>(x.f0,x.f1,x.f2,x.f3))
theorem k124_open {w:World} {x:S124} {cs:List Value} (h:k124.K w x cs):∃ A5 c5 A9 c9,cs=[.string x.f0,.int .i64 x.f1,.int .i64 x.f2.f0,.int .i64 x.f2.f1,.string x.f2.f2,.slice A5 x.f2.f3.length c5,.int .i64 x.f3.f0,.int .i64 x.f3.f1,.string x.f3.f2,.slice A9 x.f3.f3.length c9]∧x.f2.f3.length≤c5∧k122.C w A5 x.f2.f3.length x.f2.f3∧x.f3.f3.length≤c9∧k122.C w A9 x.f3.f3.length x.f3.f3:=by
  obtain ⟨_,_,rfl,rfl,⟨_,_,rfl,rfl,⟨_,_,rfl,s2,s6⟩⟩⟩:=h;obtain ⟨A5,c5,rfl,l5,g5⟩:=k122_open s2;obtain ⟨A9,c9,rfl,l9,g9⟩:=k122_open s6;exact ⟨A5,c5,A9,c9,rfl,l5,g5,l9,g9⟩
def rd_T124 (xs:List S124) (i:Int):S124:=xs.getD i.toNat z124
theorem at_T124 {w:World} {A:Option Addr} {n:Nat} {xs:List S124} (h:Kd.C k124 w A n xs) (i:Int) (h0:0≤i) (h1:i < n):∃ ad A5 c5 A9 c9,A=some ad∧w.cell? (ad.add (i.toNat * 10))=some (.string (rd_T124 xs i).f0)∧w.cell? ⟨(ad.add (i.toNat * 10)).block,(ad.add (i.toNat * 10)).off + 1,none⟩=some (.int .i64 (rd_T124 xs i).f1)∧w.cell? ⟨(ad.add (i.toNat * 10)).block,(ad.add (i.toNat * 10)).off + 2,none⟩=some (.int .i64 (rd_T124 xs i).f2.f0)∧w.cell? ⟨(ad.add (i.toNat * 10)).block,(ad.add (i.toNat * 10)).off + 3,none⟩=some (.int .i64 (rd_T124 xs i).f2.f1)∧w.cell? ⟨(ad.add (i.toNat * 10)).block,(ad.add (i.toNat * 10)).off + 4,none⟩=some (.string (rd_T124 xs i).f2.f2)∧w.cell? ⟨(ad.add (i.toNat * 10)).block,(ad.add (i.toNat * 10)).off + 5,none⟩=some (.slice A5 (rd_T124 xs i).f2.f3.length c5)∧w.cell? ⟨(ad.add (i.toNat * 10)).block,(ad.add (i.toNat * 10)).off + 6,none⟩=some (.int .i64 (rd_T124 xs i).f3.f0)∧w.cell? ⟨(ad.add (i.toNat * 10)).block,(ad.add (i.toNat * 10)).off + 7,none⟩=some (.int .i64 (rd_T124 xs i).f3.f1)∧w.cell? ⟨(ad.add (i.toNat * 10)).block,(ad.add (i.toNat * 10)).off + 8,none⟩=some (.string (rd_T124 xs i).f3.f2)∧w.cell? ⟨(ad.add (i.toNat * 10)).block,(ad.add (i.toNat * 10)).off + 9,none⟩=some (.slice A9 (rd_T124 xs i).f3.f3.length c9)∧(rd_T124 xs i).f2.f3.length≤c5∧k122.C w A5 (rd_T124 xs i).f2.f3.length (rd_T124 xs i).f2.f3∧(rd_T124 xs i).f3.f3.length≤c9∧k122.C w A9 (rd_T124 xs i).f3.f3.length (rd_T124 xs i).f3.f3:=by
  obtain ⟨ad,c,e,_,hK,hc0⟩:=Kd.C_get h z124 i h0 h1;have hc:∀ j u,c[j]?=some u→w.cell? (ad.add (i.toNat * 10 + j))=some u:=hc0;obtain ⟨A5,c5,A9,c9,rfl,l5,g5,l9,g9⟩:=k124_open hK;exact ⟨ad,A5,c5,A9,c9,e,hc 0 _ rfl,by rw [← add_field _ _ 1 (by omega)];exact hc 1 _ rfl,by rw [← add_field _ _ 2 (by omega)];exact hc 2 _ rfl,by rw [← add_field _ _ 3 (by omega)];exact hc 3 _ rfl,by rw [← add_field _ _ 4 (by omega)];exact hc 4 _ rfl,by rw [← add_field _ _ 5 (by omega)];exact hc 5 _ rfl,by rw [← add_field _ _ 6 (by omega)];exact hc 6 _ rfl,by rw [← add_field _ _ 7 (by omega)];exact hc 7 _ rfl,by rw [← add_field _ _ 8 (by omega)];exact hc 8 _ rfl,by rw [← add_field _ _ 9 (by omega)];exact hc 9 _ rfl,l5,g5,l9,g9⟩
/-! #### struct type 127 -/
structure S127 where
  f0:ByteArray
  f1:Int
  f2:S122
def z127:S127:=⟨(⟨#[]⟩:ByteArray),(0:Int),z122⟩
def k127:Kd S127:=Kd.iso (Kd.pair Kd.string (Kd.pair (Kd.int .i64) k122)) (fun x:S127=>(x.f0,x.f1,x.f2))
theorem k127_open {w:World} {x:S127} {cs:List Value} (h:k127.K w x cs):∃ A5 c5,cs=[.string x.f0,.int .i64 x.f1,.int .i64 x.f2.f0,.int .i64 x.f2.f1,.string x.f2.f2,.slice A5 x.f2.f3.length c5]∧x.f2.f3.length≤c5∧k122.C w A5 x.f2.f3.length x.f2.f3:=by
  obtain ⟨_,_,rfl,rfl,⟨_,_,rfl,rfl,s2⟩⟩:=h;obtain ⟨A5,c5,rfl,l5,g5⟩:=k122_open s2;exact ⟨A5,c5,rfl,l5,g5⟩
def rd_T127 (xs:List S127) (i:Int):S127:=xs.getD i.toNat z127
theorem at_T127 {w:World} {A:Option Addr} {n:Nat} {xs:List S127} (h:Kd.C k127 w A n xs) (i:Int) (h0:0≤i) (h1:i < n):∃ ad A5 c5,A=some ad∧w.cell? (ad.add (i.toNat * 6))=some (.string (rd_T127 xs i).f0)∧w.cell? ⟨(ad.add (i.toNat * 6)).block,(ad.add (i.toNat * 6)).off + 1,none⟩=some (.int .i64 (rd_T127 xs i).f1)∧w.cell? ⟨(ad.add (i.toNat * 6)).block,(ad.add (i.toNat * 6)).off + 2,none⟩=some (.int .i64 (rd_T127 xs i).f2.f0)∧w.cell? ⟨(ad.add (i.toNat * 6)).block,(ad.add (i.toNat * 6)).off + 3,none⟩=some (.int .i64 (rd_T127 xs i).f2.f1)∧w.cell? ⟨(ad.add (i.toNat * 6)).block,(ad.add (i.toNat * 6)).off + 4,none⟩=some (.string (rd_T127 xs i).f2.f2)∧w.cell? ⟨(ad.add (i.toNat * 6)).block,(ad.add (i.toNat * 6)).off + 5,none⟩=some (.slice A5 (rd_T127 xs i).f2.f3.length c5)∧(rd_T127 xs i).f2.f3.length≤c5∧k122.C w A5 (rd_T127 xs i).f2.f3.length (rd_T127 xs i).f2.f3:=by
  obtain ⟨ad,c,e,_,hK,hc0⟩:=Kd.C_get h z127 i h0 h1;have hc:∀ j u,c[j]?=some u→w.cell? (ad.add (i.toNat * 6 + j))=some u:=hc0;obtain ⟨A5,c5,rfl,l5,g5⟩:=k127_open hK;exact ⟨ad,A5,c5,e,hc 0 _ rfl,by rw [← add_field _ _ 1 (by omega)];exact hc 1 _ rfl,by rw [← add_field _ _ 2 (by omega)];exact hc 2 _ rfl,by rw [← add_field _ _ 3 (by omega)];exact hc 3 _ rfl,by rw [← add_field _ _ 4 (by omega)];exact hc 4 _ rfl,by rw [← add_field _ _ 5 (by omega)];exact hc 5 _ rfl,l5,g5⟩
/-! #### struct type 182 -/
structure S182 where
  f0:Int
  f1:Int
def k182:Kd S182:=Kd.iso (Kd.pair (Kd.int .i64) (Kd.int .i64)) (fun x:S182=>(x.f0,x.f1))
/-! #### struct type 129 -/
structure S129 where
  f0:Int
  f1:Int
  f2:ByteArray
def z129:S129:=⟨(0:Int),(0:Int),(⟨#[]⟩:ByteArray)⟩
def k129:Kd S129:=Kd.iso (Kd.pair (Kd.int .i64) (Kd.pair (Kd.int .i64) Kd.string)) (fun x:S129=>(x.f0,x.f1,x.f2))
theorem k129_open {w:World} {x:S129} {cs:List Value} (h:k129.K w x cs):cs=[.int .i64 x.f0,.int .i64 x.f1,.string x.f2]:=by
  obtain ⟨_,_,rfl,rfl,⟨_,_,rfl,rfl,rfl⟩⟩:=h;exact rfl
theorem k129_mkM (w:World) (base:Nat) (ok:Nat→Prop) (x:S129)  : k129.M w base ok x [.int .i64 x.f0,.int .i64 x.f1,.string x.f2]:=⟨[.int .i64 x.f0],[.int .i64 x.f1,.string x.f2],rfl,rfl,⟨[.int .i64 x.f1],[.string x.f2],rfl,rfl,rfl⟩⟩
def rd_T129 (xs:List S129) (i:Int):S129:=xs.getD i.toNat z129
theorem at_T129 {w:World} {A:Option Addr} {n:Nat} {xs:List S129} (h:Kd.C k129 w A n xs) (i:Int) (h0:0≤i) (h1:i < n):∃ ad ,A=some ad∧w.cell? (ad.add (i.toNat * 3))=some (.int .i64 (rd_T129 xs i).f0)∧w.cell? ⟨(ad.add (i.toNat * 3)).block,(ad.add (i.toNat * 3)).off + 1,none⟩=some (.int .i64 (rd_T129 xs i).f1)∧w.cell? ⟨(ad.add (i.toNat * 3)).block,(ad.add (i.toNat * 3)).off + 2,none⟩=some (.string (rd_T129 xs i).f2):=by
  obtain ⟨ad,c,e,_,hK,hc0⟩:=Kd.C_get h z129 i h0 h1;have hc:∀ j u,c[j]?=some u→w.cell? (ad.add (i.toNat * 3 + j))=some u:=hc0;obtain rfl:=k129_open hK;exact ⟨ad,e,hc 0 _ rfl,by rw [← add_field _ _ 1 (by omega)];exact hc 1 _ rfl,by rw [← add_field _ _ 2 (by omega)];exact hc 2 _ rfl⟩
/-! #### struct type 75 -/
structure S75 where
  f0:(List S182)
  f1:Bool
  f2:Int
  f3:Int
  f4:Bool
def z75:S75:=⟨([]:List S182),false,(0:Int),(0:Int),false⟩
def k75:Kd S75:=Kd.iso (Kd.pair (Kd.slice 182 k182) (Kd.pair Kd.bool (Kd.pair (Kd.int .i64) (Kd.pair (Kd.int .i64) Kd.bool)))) (fun x:S75=>(x.f0,x.f1,x.f2,x.f3,x.f4))
theorem k75_open {w:World} {x:S75} {cs:List Value} (h:k75.K w x cs):∃ A0 c0,cs=[.slice A0 x.f0.length c0,.bool x.f1,.int .i64 x.f2,.int .i64 x.f3,.bool x.f4]∧x.f0.length≤c0∧k182.C w A0 x.f0.length x.f0:=by
  obtain ⟨_,_,rfl,⟨A0,c0,rfl,l0,g0⟩,⟨_,_,rfl,rfl,⟨_,_,rfl,rfl,⟨_,_,rfl,rfl,rfl⟩⟩⟩⟩:=h;exact ⟨A0,c0,rfl,l0,g0⟩
/-! #### struct type 79 -/
structure S79 where
  f0:ByteArray
  f1:ByteArray
  f2:ByteArray
  f3:Int
  f4:Int
  f5:Int
  f6:Int
  f7:S75
  f8:S75
  f9:(List S124)
  f10:(List S127)
def z79:S79:=⟨(⟨#[]⟩:ByteArray),(⟨#[]⟩:ByteArray),(⟨#[]⟩:ByteArray),(0:Int),(0:Int),(0:Int),(0:Int),z75,z75,([]:List S124),([]:List S127)⟩
def k79:Kd S79:=Kd.iso (Kd.pair Kd.string (Kd.pair Kd.string (Kd.pair Kd.string (Kd.pair (Kd.int .i64) (Kd.pair (Kd.int .i64) (Kd.pair (Kd.int .i64) (Kd.pair (Kd.int .i64) (Kd.pair k75 (Kd.pair k75 (Kd.pair (Kd.slice 124 k124) (Kd.slice 127 k127))))))))))) (fun x:S79=>(x.f0,x.f1,x.f2,x.f3,x.f4,x.f5,x.f6,x.f7,x.f8,x.f9,x.f10))
theorem k79_open {w:World} {x:S79} {cs:List Value} (h:k79.K w x cs):∃ A7 c7 A12 c12 A17 c17 A18 c18,cs=[.string x.f0,.string x.f1,.string x.f2,.int .i64 x.f3,.int .i64 x.f4,.int .i64 x.f5,.int .i64 x.f6,.slice A7 x.f7.f0.length c7,.bool x.f7.f1,.int .i64 x.f7.f2,.int .i64 x.f7.f3,.bool x.f7.f4,.slice A12 x.f8.f0.length c12,.bool x.f8.f1,.int .i64 x.f8.f2,.int .i64 x.f8.f3,.bool x.f8.f4,.slice A17 x.f9.length c17,.slice A18 x.f10.length c18]∧x.f7.f0.length≤c7∧k182.C w A7 x.f7.f0.length x.f7.f0∧x.f8.f0.length≤c12∧k182.C w A12 x.f8.f0.length x.f8.f0∧x.f9.length≤c17∧k124.C w A17 x.f9.length x.f9∧x.f10.length≤c18∧k127.C w A18 x.f10.length x.f10:=by
  obtain ⟨_,_,rfl,rfl,⟨_,_,rfl,rfl,⟨_,_,rfl,rfl,⟨_,_,rfl,rfl,⟨_,_,rfl,rfl,⟨_,_,rfl,rfl,⟨_,_,rfl,rfl,⟨_,_,rfl,s7,⟨_,_,rfl,s12,⟨_,_,rfl,⟨A17,c17,rfl,l17,g17⟩,⟨A18,c18,rfl,l18,g18⟩⟩⟩⟩⟩⟩⟩⟩⟩⟩⟩:=h;obtain ⟨A7,c7,rfl,l7,g7⟩:=k75_open s7;obtain ⟨A12,c12,rfl,l12,g12⟩:=k75_open s12;exact ⟨A7,c7,A12,c12,A17,c17,A18,c18,rfl,l7,g7,l12,g12,l17,g17,l18,g18⟩
def rd_T79 (xs:List S79) (i:Int):S79:=xs.getD i.toNat z79
theorem at_T79 {w:World} {A:Option Addr} {n:Nat} {xs:List S79} (h:Kd.C k79 w A n xs) (i:Int) (h0:0≤i) (h1:i < n):∃ ad A7 c7 A12 c12 A17 c17 A18 c18,A=some ad∧w.cell? (ad.add (i.toNat * 19))=some (.string (rd_T79 xs i).f0)∧w.cell? ⟨(ad.add (i.toNat * 19)).block,(ad.add (i.toNat * 19)).off + 1,none⟩=some (.string (rd_T79 xs i).f1)∧w.cell? ⟨(ad.add (i.toNat * 19)).block,(ad.add (i.toNat * 19)).off + 2,none⟩=some (.string (rd_T79 xs i).f2)∧w.cell? ⟨(ad.add (i.toNat * 19)).block,(ad.add (i.toNat * 19)).off + 3,none⟩=some (.int .i64 (rd_T79 xs i).f3)∧w.cell? ⟨(ad.add (i.toNat * 19)).block,(ad.add (i.toNat * 19)).off + 4,none⟩=some (.int .i64 (rd_T79 xs i).f4)∧w.cell? ⟨(ad.add (i.toNat * 19)).block,(ad.add (i.toNat * 19)).off + 5,none⟩=some (.int .i64 (rd_T79 xs i).f5)∧w.cell? ⟨(ad.add (i.toNat * 19)).block,(ad.add (i.toNat * 19)).off + 6,none⟩=some (.int .i64 (rd_T79 xs i).f6)∧w.cell? ⟨(ad.add (i.toNat * 19)).block,(ad.add (i.toNat * 19)).off + 7,none⟩=some (.slice A7 (rd_T79 xs i).f7.f0.length c7)∧w.cell? ⟨(ad.add (i.toNat * 19)).block,(ad.add (i.toNat * 19)).off + 8,none⟩=some (.bool (rd_T79 xs i).f7.f1)∧w.cell? ⟨(ad.add (i.toNat * 19)).block,(ad.add (i.toNat * 19)).off + 9,none⟩=some (.int .i64 (rd_T79 xs i).f7.f2)∧w.cell? ⟨(ad.add (i.toNat * 19)).block,(ad.add (i.toNat * 19)).off + 10,none⟩=some (.int .i64 (rd_T79 xs i).f7.f3)∧w.cell? ⟨(ad.add (i.toNat * 19)).block,(ad.add (i.toNat * 19)).off + 11,none⟩=some (.bool (rd_T79 xs i).f7.f4)∧w.cell? ⟨(ad.add (i.toNat * 19)).block,(ad.add (i.toNat * 19)).off + 12,none⟩=some (.slice A12 (rd_T79 xs i).f8.f0.length c12)∧w.cell? ⟨(ad.add (i.toNat * 19)).block,(ad.add (i.toNat * 19)).off + 13,none⟩=some (.bool (rd_T79 xs i).f8.f1)∧w.cell? ⟨(ad.add (i.toNat * 19)).block,(ad.add (i.toNat * 19)).off + 14,none⟩=some (.int .i64 (rd_T79 xs i).f8.f2)∧w.cell? ⟨(ad.add (i.toNat * 19)).block,(ad.add (i.toNat * 19)).off + 15,none⟩=some (.int .i64 (rd_T79 xs i).f8.f3)∧w.cell? ⟨(ad.add (i.toNat * 19)).block,(ad.add (i.toNat * 19)).off + 16,none⟩=some (.bool (rd_T79 xs i).f8.f4)∧w.cell? ⟨(ad.add (i.toNat * 19)).block,(ad.add (i.toNat * 19)).off + 17,none⟩=some (.slice A17 (rd_T79 xs i).f9.length c17)∧w.cell? ⟨(ad.add (i.toNat * 19)).block,(ad.add (i.toNat * 19)).off + 18,none⟩=some (.slice A18 (rd_T79 xs i).f10.length c18)∧(rd_T79 xs i).f7.f0.length≤c7∧k182.C w A7 (rd_T79 xs i).f7.f0.length (rd_T79 xs i).f7.f0∧(rd_T79 xs i).f8.f0.length≤c12∧k182.C w A12 (rd_T79 xs i).f8.f0.length (rd_T79 xs i).f8.f0∧(rd_T79 xs i).f9.length≤c17∧k124.C w A17 (rd_T79 xs i).f9.length (rd_T79 xs i).f9∧(rd_T79 xs i).f10.length≤c18∧k127.C w A18 (rd_T79 xs i).f10.length (rd_T79 xs i).f10:=by
  obtain ⟨ad,c,e,_,hK,hc0⟩:=Kd.C_get h z79 i h0 h1;have hc:∀ j u,c[j]?=some u→w.cell? (ad.add (i.toNat * 19 + j))=some u:=hc0;obtain ⟨A7,c7,A12,c12,A17,c17,A18,c18,rfl,l7,g7,l12,g12,l17,g17,l18,g18⟩:=k79_open hK;exact ⟨ad,A7,c7,A12,c12,A17,c17,A18,c18,e,hc 0 _ rfl,by rw [← add_field _ _ 1 (by omega)];exact hc 1 _ rfl,by rw [← add_field _ _ 2 (by omega)];exact hc 2 _ rfl,by rw [← add_field _ _ 3 (by omega)];exact hc 3 _ rfl,by rw [← add_field _ _ 4 (by omega)];exact hc 4 _ rfl,by rw [← add_field _ _ 5 (by omega)];exact hc 5 _ rfl,by rw [← add_field _ _ 6 (by omega)];exact hc 6 _ rfl,by rw [← add_field _ _ 7 (by omega)];exact hc 7 _ rfl,by rw [← add_field _ _ 8 (by omega)];exact hc 8 _ rfl,by rw [← add_field _ _ 9 (by omega)];exact hc 9 _ rfl,by rw [← add_field _ _ 10 (by omega)];exact hc 10 _ rfl,by rw [← add_field _ _ 11 (by omega)];exact hc 11 _ rfl,by rw [← add_field _ _ 12 (by omega)];exact hc 12 _ rfl,by rw [← add_field _ _ 13 (by omega)];exact hc 13 _ rfl,by rw [← add_field _ _ 14 (by omega)];exact hc 14 _ rfl,by rw [← add_field _ _ 15 (by omega)];exact hc 15 _ rfl,by rw [← add_field _ _ 16 (by omega)];exact hc 16 _ rfl,by rw [← add_field _ _ 17 (by omega)];exact hc 17 _ rfl,by rw [← add_field _ _ 18 (by omega)];exact hc 18 _ rfl,l7,g7,l12,g12,l17,g17,l18,g18⟩
/-! #### struct type 84 -/
structure S84 where
  f0:Int
  f1:Int
  f2:Int
  f3:Int
  f4:Int
  f5:Int
  f6:ByteArray
  f7:ByteArray
  f8:(List S129)
  f9:Int
def z84:S84:=⟨(0:Int),(0:Int),(0:Int),(0:Int),(0:Int),(0:Int),(⟨#[]⟩:ByteArray),(⟨#[]⟩:ByteArray),([]:List S129),(0:Int)⟩
def k84:Kd S84:=Kd.iso (Kd.pair (Kd.int .i64) (Kd.pair (Kd.int .i64) (Kd.pair (Kd.int .i64) (Kd.pair (Kd.int .i64) (Kd.pair (Kd.int .i64) (Kd.pair (Kd.int .i64) (Kd.pair Kd.string (Kd.pair Kd.string (Kd.pair (Kd.slice 129 k129) (Kd.int .u64)))))))))) (fun x:S84=>(x.f0,x.f1,x.f2,x.f3,x.f4,x.f5,x.f6,x.f7,x.f8,x.f9))
theorem k84_open {w:World} {x:S84} {cs:List Value} (h:k84.K w x cs):∃ A8 c8,cs=[.int .i64 x.f0,.int .i64 x.f1,.int .i64 x.f2,.int .i64 x.f3,.int .i64 x.f4,.int .i64 x.f5,.string x.f6,.string x.f7,.slice A8 x.f8.length c8,.int .u64 x.f9]∧x.f8.length≤c8∧k129.C w A8 x.f8.length x.f8:=by
  obtain ⟨_,_,rfl,rfl,⟨_,_,rfl,rfl,⟨_,_,rfl,rfl,⟨_,_,rfl,rfl,⟨_,_,rfl,rfl,⟨_,_,rfl,rfl,⟨_,_,rfl,rfl,⟨_,_,rfl,rfl,⟨_,_,rfl,⟨A8,c8,rfl,l8,g8⟩,rfl⟩⟩⟩⟩⟩⟩⟩⟩⟩:=h;exact ⟨A8,c8,rfl,l8,g8⟩
theorem k84_mk (w:World) (x:S84) {A8:Option Addr} {c8:Nat} (l8:x.f8.length≤c8) (g8:k129.C w A8 x.f8.length x.f8):k84.K w x [.int .i64 x.f0,.int .i64 x.f1,.int .i64 x.f2,.int .i64 x.f3,.int .i64 x.f4,.int .i64 x.f5,.string x.f6,.string x.f7,.slice A8 x.f8.length c8,.int .u64 x.f9]:=⟨[.int .i64 x.f0],[.int .i64 x.f1,.int .i64 x.f2,.int .i64 x.f3,.int .i64 x.f4,.int .i64 x.f5,.string x.f6,.string x.f7,.slice A8 x.f8.length c8,.int .u64 x.f9],rfl,rfl,⟨[.int .i64 x.f1],[.int .i64 x.f2,.int .i64 x.f3,.int .i64 x.f4,.int .i64 x.f5,.string x.f6,.string x.f7,.slice A8 x.f8.length c8,.int .u64 x.f9],rfl,rfl,⟨[.int .i64 x.f2],[.int .i64 x.f3,.int .i64 x.f4,.int .i64 x.f5,.string x.f6,.string x.f7,.slice A8 x.f8.length c8,.int .u64 x.f9],rfl,rfl,⟨[.int .i64 x.f3],[.int .i64 x.f4,.int .i64 x.f5,.string x.f6,.string x.f7,.slice A8 x.f8.length c8,.int .u64 x.f9],rfl,rfl,⟨[.int .i64 x.f4],[.int .i64 x.f5,.string x.f6,.string x.f7,.slice A8 x.f8.length c8,.int .u64 x.f9],rfl,rfl,⟨[.int .i64 x.f5],[.string x.f6,.string x.f7,.slice A8 x.f8.length c8,.int .u64 x.f9],rfl,rfl,⟨[.string x.f6],[.string x.f7,.slice A8 x.f8.length c8,.int .u64 x.f9],rfl,rfl,⟨[.string x.f7],[.slice A8 x.f8.length c8,.int .u64 x.f9],rfl,rfl,⟨[.slice A8 x.f8.length c8],[.int .u64 x.f9],rfl,⟨A8,c8,rfl,l8,g8⟩,rfl⟩⟩⟩⟩⟩⟩⟩⟩⟩
theorem k84_mkF (W:World) (ok:Nat→Prop) (x:S84) {A8:Option Addr} {c8:Nat} (l8:x.f8.length≤c8) (g8:Kd.F k129 W ok A8 x.f8.length x.f8):Kd.FK k84 W ok x [.int .i64 x.f0,.int .i64 x.f1,.int .i64 x.f2,.int .i64 x.f3,.int .i64 x.f4,.int .i64 x.f5,.string x.f6,.string x.f7,.slice A8 x.f8.length c8,.int .u64 x.f9]:=fun W2 hW=>k84_mk W2 x l8 (g8 W2 hW)
def rd_T84 (xs:List S84) (i:Int):S84:=xs.getD i.toNat z84
theorem at_T84 {w:World} {A:Option Addr} {n:Nat} {xs:List S84} (h:Kd.C k84 w A n xs) (i:Int) (h0:0≤i) (h1:i < n):∃ ad A8 c8,A=some ad∧w.cell? (ad.add (i.toNat * 10))=some (.int .i64 (rd_T84 xs i).f0)∧w.cell? ⟨(ad.add (i.toNat * 10)).block,(ad.add (i.toNat * 10)).off + 1,none⟩=some (.int .i64 (rd_T84 xs i).f1)∧w.cell? ⟨(ad.add (i.toNat * 10)).block,(ad.add (i.toNat * 10)).off + 2,none⟩=some (.int .i64 (rd_T84 xs i).f2)∧w.cell? ⟨(ad.add (i.toNat * 10)).block,(ad.add (i.toNat * 10)).off + 3,none⟩=some (.int .i64 (rd_T84 xs i).f3)∧w.cell? ⟨(ad.add (i.toNat * 10)).block,(ad.add (i.toNat * 10)).off + 4,none⟩=some (.int .i64 (rd_T84 xs i).f4)∧w.cell? ⟨(ad.add (i.toNat * 10)).block,(ad.add (i.toNat * 10)).off + 5,none⟩=some (.int .i64 (rd_T84 xs i).f5)∧w.cell? ⟨(ad.add (i.toNat * 10)).block,(ad.add (i.toNat * 10)).off + 6,none⟩=some (.string (rd_T84 xs i).f6)∧w.cell? ⟨(ad.add (i.toNat * 10)).block,(ad.add (i.toNat * 10)).off + 7,none⟩=some (.string (rd_T84 xs i).f7)∧w.cell? ⟨(ad.add (i.toNat * 10)).block,(ad.add (i.toNat * 10)).off + 8,none⟩=some (.slice A8 (rd_T84 xs i).f8.length c8)∧w.cell? ⟨(ad.add (i.toNat * 10)).block,(ad.add (i.toNat * 10)).off + 9,none⟩=some (.int .u64 (rd_T84 xs i).f9)∧(rd_T84 xs i).f8.length≤c8∧k129.C w A8 (rd_T84 xs i).f8.length (rd_T84 xs i).f8:=by
  obtain ⟨ad,c,e,_,hK,hc0⟩:=Kd.C_get h z84 i h0 h1;have hc:∀ j u,c[j]?=some u→w.cell? (ad.add (i.toNat * 10 + j))=some u:=hc0;obtain ⟨A8,c8,rfl,l8,g8⟩:=k84_open hK;exact ⟨ad,A8,c8,e,hc 0 _ rfl,by rw [← add_field _ _ 1 (by omega)];exact hc 1 _ rfl,by rw [← add_field _ _ 2 (by omega)];exact hc 2 _ rfl,by rw [← add_field _ _ 3 (by omega)];exact hc 3 _ rfl,by rw [← add_field _ _ 4 (by omega)];exact hc 4 _ rfl,by rw [← add_field _ _ 5 (by omega)];exact hc 5 _ rfl,by rw [← add_field _ _ 6 (by omega)];exact hc 6 _ rfl,by rw [← add_field _ _ 7 (by omega)];exact hc 7 _ rfl,by rw [← add_field _ _ 8 (by omega)];exact hc 8 _ rfl,by rw [← add_field _ _ 9 (by omega)];exact hc 9 _ rfl,l8,g8⟩
/-! #### struct type 86 -/
structure S86 where
  f0:ByteArray
  f1:(List Int)
  f2:(List Int)
def z86:S86:=⟨(⟨#[]⟩:ByteArray),([]:List Int),([]:List Int)⟩
def k86:Kd S86:=Kd.iso (Kd.pair Kd.string (Kd.pair (Kd.slice 3 (Kd.int .i64)) (Kd.slice 3 (Kd.int .i64)))) (fun x:S86=>(x.f0,x.f1,x.f2))
theorem k86_open {w:World} {x:S86} {cs:List Value} (h:k86.K w x cs):∃ A1 c1 A2 c2,cs=[.string x.f0,.slice A1 x.f1.length c1,.slice A2 x.f2.length c2]∧x.f1.length≤c1∧(Kd.int .i64).C w A1 x.f1.length x.f1∧x.f2.length≤c2∧(Kd.int .i64).C w A2 x.f2.length x.f2:=by
  obtain ⟨_,_,rfl,rfl,⟨_,_,rfl,⟨A1,c1,rfl,l1,g1⟩,⟨A2,c2,rfl,l2,g2⟩⟩⟩:=h;exact ⟨A1,c1,A2,c2,rfl,l1,g1,l2,g2⟩
def rd_T86 (xs:List S86) (i:Int):S86:=xs.getD i.toNat z86
theorem at_T86 {w:World} {A:Option Addr} {n:Nat} {xs:List S86} (h:Kd.C k86 w A n xs) (i:Int) (h0:0≤i) (h1:i < n):∃ ad A1 c1 A2 c2,A=some ad∧w.cell? (ad.add (i.toNat * 3))=some (.string (rd_T86 xs i).f0)∧w.cell? ⟨(ad.add (i.toNat * 3)).block,(ad.add (i.toNat * 3)).off + 1,none⟩=some (.slice A1 (rd_T86 xs i).f1.length c1)∧w.cell? ⟨(ad.add (i.toNat * 3)).block,(ad.add (i.toNat * 3)).off + 2,none⟩=some (.slice A2 (rd_T86 xs i).f2.length c2)∧(rd_T86 xs i).f1.length≤c1∧(Kd.int .i64).C w A1 (rd_T86 xs i).f1.length (rd_T86 xs i).f1∧(rd_T86 xs i).f2.length≤c2∧(Kd.int .i64).C w A2 (rd_T86 xs i).f2.length (rd_T86 xs i).f2:=by
  obtain ⟨ad,c,e,_,hK,hc0⟩:=Kd.C_get h z86 i h0 h1;have hc:∀ j u,c[j]?=some u→w.cell? (ad.add (i.toNat * 3 + j))=some u:=hc0;obtain ⟨A1,c1,A2,c2,rfl,l1,g1,l2,g2⟩:=k86_open hK;exact ⟨ad,A1,c1,A2,c2,e,hc 0 _ rfl,by rw [← add_field _ _ 1 (by omega)];exact hc 1 _ rfl,by rw [← add_field _ _ 2 (by omega)];exact hc 2 _ rfl,l1,g1,l2,g2⟩
/-! #### struct type 97 -/
structure S97 where
  f0:ByteArray
  f1:Int
def z97:S97:=⟨(⟨#[]⟩:ByteArray),(0:Int)⟩
def k97:Kd S97:=Kd.iso (Kd.pair Kd.string (Kd.int .i64)) (fun x:S97=>(x.f0,x.f1))
theorem k97_open {w:World} {x:S97} {cs:List Value} (h:k97.K w x cs):cs=[.string x.f0,.int .i64 x.f1]:=by
  obtain ⟨_,_,rfl,rfl,rfl⟩:=h;exact rfl
theorem k97_mkM (w:World) (base:Nat) (ok:Nat→Prop) (x:S97)  : k97.M w base ok x [.string x.f0,.int .i64 x.f1]:=⟨[.string x.f0],[.int .i64 x.f1],rfl,rfl,rfl⟩
def rd_T97 (xs:List S97) (i:Int):S97:=xs.getD i.toNat z97
theorem at_T97 {w:World} {A:Option Addr} {n:Nat} {xs:List S97} (h:Kd.C k97 w A n xs) (i:Int) (h0:0≤i) (h1:i < n):∃ ad ,A=some ad∧w.cell? (ad.add (i.toNat * 2))=some (.string (rd_T97 xs i).f0)∧w.cell? ⟨(ad.add (i.toNat * 2)).block,(ad.add (i.toNat * 2)).off + 1,none⟩=some (.int .i64 (rd_T97 xs i).f1):=by
  obtain ⟨ad,c,e,_,hK,hc0⟩:=Kd.C_get h z97 i h0 h1;have hc:∀ j u,c[j]?=some u→w.cell? (ad.add (i.toNat * 2 + j))=some u:=hc0;obtain rfl:=k97_open hK;exact ⟨ad,e,hc 0 _ rfl,by rw [← add_field _ _ 1 (by omega)];exact hc 1 _ rfl⟩
/-! #### struct type 62 -/
structure S62 where
  f0:Int
  f1:Int
  f2:Int
  f3:ByteArray
def z62:S62:=⟨(0:Int),(0:Int),(0:Int),(⟨#[]⟩:ByteArray)⟩
def k62:Kd S62:=Kd.iso (Kd.pair (Kd.int .i64) (Kd.pair (Kd.int .i64) (Kd.pair (Kd.int .i64) Kd.string))) (fun x:S62=>(x.f0,x.f1,x.f2,x.f3))
theorem k62_open {w:World} {x:S62} {cs:List Value} (h:k62.K w x cs):cs=[.int .i64 x.f0,.int .i64 x.f1,.int .i64 x.f2,.string x.f3]:=by
  obtain ⟨_,_,rfl,rfl,⟨_,_,rfl,rfl,⟨_,_,rfl,rfl,rfl⟩⟩⟩:=h;exact rfl
theorem k62_mkM (w:World) (base:Nat) (ok:Nat→Prop) (x:S62)  : k62.M w base ok x [.int .i64 x.f0,.int .i64 x.f1,.int .i64 x.f2,.string x.f3]:=⟨[.int .i64 x.f0],[.int .i64 x.f1,.int .i64 x.f2,.string x.f3],rfl,rfl,⟨[.int .i64 x.f1],[.int .i64 x.f2,.string x.f3],rfl,rfl,⟨[.int .i64 x.f2],[.string x.f3],rfl,rfl,rfl⟩⟩⟩
def rd_T62 (xs:List S62) (i:Int):S62:=xs.getD i.toNat z62
theorem at_T62 {w:World} {A:Option Addr} {n:Nat} {xs:List S62} (h:Kd.C k62 w A n xs) (i:Int) (h0:0≤i) (h1:i < n):∃ ad ,A=some ad∧w.cell? (ad.add (i.toNat * 4))=some (.int .i64 (rd_T62 xs i).f0)∧w.cell? ⟨(ad.add (i.toNat * 4)).block,(ad.add (i.toNat * 4)).off + 1,none⟩=some (.int .i64 (rd_T62 xs i).f1)∧w.cell? ⟨(ad.add (i.toNat * 4)).block,(ad.add (i.toNat * 4)).off + 2,none⟩=some (.int .i64 (rd_T62 xs i).f2)∧w.cell? ⟨(ad.add (i.toNat * 4)).block,(ad.add (i.toNat * 4)).off + 3,none⟩=some (.string (rd_T62 xs i).f3):=by
  obtain ⟨ad,c,e,_,hK,hc0⟩:=Kd.C_get h z62 i h0 h1;have hc:∀ j u,c[j]?=some u→w.cell? (ad.add (i.toNat * 4 + j))=some u:=hc0;obtain rfl:=k62_open hK;exact ⟨ad,e,hc 0 _ rfl,by rw [← add_field _ _ 1 (by omega)];exact hc 1 _ rfl,by rw [← add_field _ _ 2 (by omega)];exact hc 2 _ rfl,by rw [← add_field _ _ 3 (by omega)];exact hc 3 _ rfl⟩
/-! #### struct type 90 -/
structure S90 where
  f0:Int
  f1:Int
  f2:Int
  f3:Int
  f4:ByteArray
  f5:ByteArray
  f6:ByteArray
def z90:S90:=⟨(0:Int),(0:Int),(0:Int),(0:Int),(⟨#[]⟩:ByteArray),(⟨#[]⟩:ByteArray),(⟨#[]⟩:ByteArray)⟩
def k90:Kd S90:=Kd.iso (Kd.pair (Kd.int .i64) (Kd.pair (Kd.int .i64) (Kd.pair (Kd.int .i64) (Kd.pair (Kd.int .i64) (Kd.pair Kd.string (Kd.pair Kd.string Kd.string)))))) (fun x:S90=>(x.f0,x.f1,x.f2,x.f3,x.f4,x.f5,x.f6))
theorem k90_open {w:World} {x:S90} {cs:List Value} (h:k90.K w x cs):cs=[.int .i64 x.f0,.int .i64 x.f1,.int .i64 x.f2,.int .i64 x.f3,.string x.f4,.string x.f5,.string x.f6]:=by
  obtain ⟨_,_,rfl,rfl,⟨_,_,rfl,rfl,⟨_,_,rfl,rfl,⟨_,_,rfl,rfl,⟨_,_,rfl,rfl,⟨_,_,rfl,rfl,rfl⟩⟩⟩⟩⟩⟩:=h;exact rfl
theorem k90_mkM (w:World) (base:Nat) (ok:Nat→Prop) (x:S90)  : k90.M w base ok x [.int .i64 x.f0,.int .i64 x.f1,.int .i64 x.f2,.int .i64 x.f3,.string x.f4,.string x.f5,.string x.f6]:=⟨[.int .i64 x.f0],[.int .i64 x.f1,.int .i64 x.f2,.int .i64 x.f3,.string x.f4,.string x.f5,.string x.f6],rfl,rfl,⟨[.int .i64 x.f1],[.int .i64 x.f2,.int .i64 x.f3,.string x.f4,.string x.f5,.string x.f6],rfl,rfl,⟨[.int .i64 x.f2],[.int .i64 x.f3,.string x.f4,.string x.f5,.string x.f6],rfl,rfl,⟨[.int .i64 x.f3],[.string x.f4,.string x.f5,.string x.f6],rfl,rfl,⟨[.string x.f4],[.string x.f5,.string x.f6],rfl,rfl,⟨[.string x.f5],[.string x.f6],rfl,rfl,rfl⟩⟩⟩⟩⟩⟩
def rd_T90 (xs:List S90) (i:Int):S90:=xs.getD i.toNat z90
theorem at_T90 {w:World} {A:Option Addr} {n:Nat} {xs:List S90} (h:Kd.C k90 w A n xs) (i:Int) (h0:0≤i) (h1:i < n):∃ ad ,A=some ad∧w.cell? (ad.add (i.toNat * 7))=some (.int .i64 (rd_T90 xs i).f0)∧w.cell? ⟨(ad.add (i.toNat * 7)).block,(ad.add (i.toNat * 7)).off + 1,none⟩=some (.int .i64 (rd_T90 xs i).f1)∧w.cell? ⟨(ad.add (i.toNat * 7)).block,(ad.add (i.toNat * 7)).off + 2,none⟩=some (.int .i64 (rd_T90 xs i).f2)∧w.cell? ⟨(ad.add (i.toNat * 7)).block,(ad.add (i.toNat * 7)).off + 3,none⟩=some (.int .i64 (rd_T90 xs i).f3)∧w.cell? ⟨(ad.add (i.toNat * 7)).block,(ad.add (i.toNat * 7)).off + 4,none⟩=some (.string (rd_T90 xs i).f4)∧w.cell? ⟨(ad.add (i.toNat * 7)).block,(ad.add (i.toNat * 7)).off + 5,none⟩=some (.string (rd_T90 xs i).f5)∧w.cell? ⟨(ad.add (i.toNat * 7)).block,(ad.add (i.toNat * 7)).off + 6,none⟩=some (.string (rd_T90 xs i).f6):=by
  obtain ⟨ad,c,e,_,hK,hc0⟩:=Kd.C_get h z90 i h0 h1;have hc:∀ j u,c[j]?=some u→w.cell? (ad.add (i.toNat * 7 + j))=some u:=hc0;obtain rfl:=k90_open hK;exact ⟨ad,e,hc 0 _ rfl,by rw [← add_field _ _ 1 (by omega)];exact hc 1 _ rfl,by rw [← add_field _ _ 2 (by omega)];exact hc 2 _ rfl,by rw [← add_field _ _ 3 (by omega)];exact hc 3 _ rfl,by rw [← add_field _ _ 4 (by omega)];exact hc 4 _ rfl,by rw [← add_field _ _ 5 (by omega)];exact hc 5 _ rfl,by rw [← add_field _ _ 6 (by omega)];exact hc 6 _ rfl⟩
/-! #### struct type 180 -/
structure S180 where
  f0:Int
  f1:Int
  f2:Int
  f3:Int
  f4:Int
  f5:Int
  f6:ByteArray
def k180:Kd S180:=Kd.iso (Kd.pair (Kd.int .i64) (Kd.pair (Kd.int .i64) (Kd.pair (Kd.int .i64) (Kd.pair (Kd.int .i64) (Kd.pair (Kd.int .i64) (Kd.pair (Kd.int .i64) Kd.string)))))) (fun x:S180=>(x.f0,x.f1,x.f2,x.f3,x.f4,x.f5,x.f6))
/-! #### struct type 48 -/
structure S48 where
  f0:ByteArray
  f1:Int
  f2:(List Int)
def z48:S48:=⟨(⟨#[]⟩:ByteArray),(0:Int),([]:List Int)⟩
def k48:Kd S48:=Kd.iso (Kd.pair Kd.string (Kd.pair (Kd.int .i64) (Kd.slice 3 (Kd.int .i64)))) (fun x:S48=>(x.f0,x.f1,x.f2))
theorem k48_open {w:World} {x:S48} {cs:List Value} (h:k48.K w x cs):∃ A2 c2,cs=[.string x.f0,.int .i64 x.f1,.slice A2 x.f2.length c2]∧x.f2.length≤c2∧(Kd.int .i64).C w A2 x.f2.length x.f2:=by
  obtain ⟨_,_,rfl,rfl,⟨_,_,rfl,rfl,⟨A2,c2,rfl,l2,g2⟩⟩⟩:=h;exact ⟨A2,c2,rfl,l2,g2⟩
theorem k48_mk (w:World) (x:S48) {A2:Option Addr} {c2:Nat} (l2:x.f2.length≤c2) (g2:(Kd.int .i64).C w A2 x.f2.length x.f2):k48.K w x [.string x.f0,.int .i64 x.f1,.slice A2 x.f2.length c2]:=⟨[.string x.f0],[.int .i64 x.f1,.slice A2 x.f2.length c2],rfl,rfl,⟨[.int .i64 x.f1],[.slice A2 x.f2.length c2],rfl,rfl,⟨A2,c2,rfl,l2,g2⟩⟩⟩
theorem k48_mkF (W:World) (ok:Nat→Prop) (x:S48) {A2:Option Addr} {c2:Nat} (l2:x.f2.length≤c2) (g2:Kd.F (Kd.int .i64) W ok A2 x.f2.length x.f2):Kd.FK k48 W ok x [.string x.f0,.int .i64 x.f1,.slice A2 x.f2.length c2]:=fun W2 hW=>k48_mk W2 x l2 (g2 W2 hW)
def rd_T48 (xs:List S48) (i:Int):S48:=xs.getD i.toNat z48
theorem at_T48 {w:World} {A:Option Addr} {n:Nat} {xs:List S48} (h:Kd.C k48 w A n xs) (i:Int) (h0:0≤i) (h1:i < n):∃ ad A2 c2,A=some ad∧w.cell? (ad.add (i.toNat * 3))=some (.string (rd_T48 xs i).f0)∧w.cell? ⟨(ad.add (i.toNat * 3)).block,(ad.add (i.toNat * 3)).off + 1,none⟩=some (.int .i64 (rd_T48 xs i).f1)∧w.cell? ⟨(ad.add (i.toNat * 3)).block,(ad.add (i.toNat * 3)).off + 2,none⟩=some (.slice A2 (rd_T48 xs i).f2.length c2)∧(rd_T48 xs i).f2.length≤c2∧(Kd.int .i64).C w A2 (rd_T48 xs i).f2.length (rd_T48 xs i).f2:=by
  obtain ⟨ad,c,e,_,hK,hc0⟩:=Kd.C_get h z48 i h0 h1;have hc:∀ j u,c[j]?=some u→w.cell? (ad.add (i.toNat * 3 + j))=some u:=hc0;obtain ⟨A2,c2,rfl,l2,g2⟩:=k48_open hK;exact ⟨ad,A2,c2,e,hc 0 _ rfl,by rw [← add_field _ _ 1 (by omega)];exact hc 1 _ rfl,by rw [← add_field _ _ 2 (by omega)];exact hc 2 _ rfl,l2,g2⟩
/-! #### struct type 26 -/
structure S26 where
  f0:Int
  f1:Int
  f2:Int
  f3:Int
  f4:Int
  f5:Int
  f6:Int
  f7:Int
  f8:Int
  f9:Int
  f10:Int
  f11:Int
  f12:Int
  f13:Int
def k26:Kd S26:=Kd.iso (Kd.pair (Kd.int .i64) (Kd.pair (Kd.int .i64) (Kd.pair (Kd.int .i64) (Kd.pair (Kd.int .i64) (Kd.pair (Kd.int .i64) (Kd.pair (Kd.int .i64) (Kd.pair (Kd.int .i64) (Kd.pair (Kd.int .i64) (Kd.pair (Kd.int .i64) (Kd.pair (Kd.int .i64) (Kd.pair (Kd.int .i64) (Kd.pair (Kd.int .i64) (Kd.pair (Kd.int .i64) (Kd.int .i64)))))))))))))) (fun x:S26=>(x.f0,x.f1,x.f2,x.f3,x.f4,x.f5,x.f6,x.f7,x.f8,x.f9,x.f10,x.f11,x.f12,x.f13))
theorem k26_open {w:World} {x:S26} {cs:List Value} (h:k26.K w x cs):cs=[.int .i64 x.f0,.int .i64 x.f1,.int .i64 x.f2,.int .i64 x.f3,.int .i64 x.f4,.int .i64 x.f5,.int .i64 x.f6,.int .i64 x.f7,.int .i64 x.f8,.int .i64 x.f9,.int .i64 x.f10,.int .i64 x.f11,.int .i64 x.f12,.int .i64 x.f13]:=by
  obtain ⟨_,_,rfl,rfl,⟨_,_,rfl,rfl,⟨_,_,rfl,rfl,⟨_,_,rfl,rfl,⟨_,_,rfl,rfl,⟨_,_,rfl,rfl,⟨_,_,rfl,rfl,⟨_,_,rfl,rfl,⟨_,_,rfl,rfl,⟨_,_,rfl,rfl,⟨_,_,rfl,rfl,⟨_,_,rfl,rfl,⟨_,_,rfl,rfl,rfl⟩⟩⟩⟩⟩⟩⟩⟩⟩⟩⟩⟩⟩:=h;exact rfl
/-! #### struct type 33 -/
structure S33 where
  f0:(List S97)
  f1:(List S86)
  f2:(List S62)
  f3:S26
  f4:(List S79)
  f5:(List S90)
  f6:(List S84)
  f7:(List S119)
  f8:(List S180)
def k33:Kd S33:=Kd.iso (Kd.pair (Kd.slice 97 k97) (Kd.pair (Kd.slice 86 k86) (Kd.pair (Kd.slice 62 k62) (Kd.pair k26 (Kd.pair (Kd.slice 79 k79) (Kd.pair (Kd.slice 90 k90) (Kd.pair (Kd.slice 84 k84) (Kd.pair (Kd.slice 119 k119) (Kd.slice 180 k180))))))))) (fun x:S33=>(x.f0,x.f1,x.f2,x.f3,x.f4,x.f5,x.f6,x.f7,x.f8))
theorem k33_open {w:World} {x:S33} {cs:List Value} (h:k33.K w x cs):∃ A0 c0 A1 c1 A2 c2 A17 c17 A18 c18 A19 c19 A20 c20 A21 c21,cs=[.slice A0 x.f0.length c0,.slice A1 x.f1.length c1,.slice A2 x.f2.length c2,.int .i64 x.f3.f0,.int .i64 x.f3.f1,.int .i64 x.f3.f2,.int .i64 x.f3.f3,.int .i64 x.f3.f4,.int .i64 x.f3.f5,.int .i64 x.f3.f6,.int .i64 x.f3.f7,.int .i64 x.f3.f8,.int .i64 x.f3.f9,.int .i64 x.f3.f10,.int .i64 x.f3.f11,.int .i64 x.f3.f12,.int .i64 x.f3.f13,.slice A17 x.f4.length c17,.slice A18 x.f5.length c18,.slice A19 x.f6.length c19,.slice A20 x.f7.length c20,.slice A21 x.f8.length c21]∧x.f0.length≤c0∧k97.C w A0 x.f0.length x.f0∧x.f1.length≤c1∧k86.C w A1 x.f1.length x.f1∧x.f2.length≤c2∧k62.C w A2 x.f2.length x.f2∧x.f4.length≤c17∧k79.C w A17 x.f4.length x.f4∧x.f5.length≤c18∧k90.C w A18 x.f5.length x.f5∧x.f6.length≤c19∧k84.C w A19 x.f6.length x.f6∧x.f7.length≤c20∧k119.C w A20 x.f7.length x.f7∧x.f8.length≤c21∧k180.C w A21 x.f8.length x.f8:=by
  obtain ⟨_,_,rfl,⟨A0,c0,rfl,l0,g0⟩,⟨_,_,rfl,⟨A1,c1,rfl,l1,g1⟩,⟨_,_,rfl,⟨A2,c2,rfl,l2,g2⟩,⟨_,_,rfl,s3,⟨_,_,rfl,⟨A17,c17,rfl,l17,g17⟩,⟨_,_,rfl,⟨A18,c18,rfl,l18,g18⟩,⟨_,_,rfl,⟨A19,c19,rfl,l19,g19⟩,⟨_,_,rfl,⟨A20,c20,rfl,l20,g20⟩,⟨A21,c21,rfl,l21,g21⟩⟩⟩⟩⟩⟩⟩⟩⟩:=h;obtain rfl:=k26_open s3;exact ⟨A0,c0,A1,c1,A2,c2,A17,c17,A18,c18,A19,c19,A20,c20,A21,c21,rfl,l0,g0,l1,g1,l2,g2,l17,g17,l18,g18,l19,g19,l20,g20,l21,g21⟩
/-! #### struct type 58 -/
structure S58 where
  f0:ByteArray
  f1:ByteArray
  f2:Int
def z58:S58:=⟨(⟨#[]⟩:ByteArray),(⟨#[]⟩:ByteArray),(0:Int)⟩
def k58:Kd S58:=Kd.iso (Kd.pair Kd.string (Kd.pair Kd.string (Kd.int .i64))) (fun x:S58=>(x.f0,x.f1,x.f2))
theorem k58_open {w:World} {x:S58} {cs:List Value} (h:k58.K w x cs):cs=[.string x.f0,.string x.f1,.int .i64 x.f2]:=by
  obtain ⟨_,_,rfl,rfl,⟨_,_,rfl,rfl,rfl⟩⟩:=h;exact rfl
theorem k58_mk (w:World) (x:S58)  : k58.K w x [.string x.f0,.string x.f1,.int .i64 x.f2]:=⟨[.string x.f0],[.string x.f1,.int .i64 x.f2],rfl,rfl,⟨[.string x.f1],[.int .i64 x.f2],rfl,rfl,rfl⟩⟩
theorem k58_mkM (w:World) (base:Nat) (ok:Nat→Prop) (x:S58)  : k58.M w base ok x [.string x.f0,.string x.f1,.int .i64 x.f2]:=⟨[.string x.f0],[.string x.f1,.int .i64 x.f2],rfl,rfl,⟨[.string x.f1],[.int .i64 x.f2],rfl,rfl,rfl⟩⟩
def rd_T58 (xs:List S58) (i:Int):S58:=xs.getD i.toNat z58
theorem at_T58 {w:World} {A:Option Addr} {n:Nat} {xs:List S58} (h:Kd.C k58 w A n xs) (i:Int) (h0:0≤i) (h1:i < n):∃ ad ,A=some ad∧w.cell? (ad.add (i.toNat * 3))=some (.string (rd_T58 xs i).f0)∧w.cell? ⟨(ad.add (i.toNat * 3)).block,(ad.add (i.toNat * 3)).off + 1,none⟩=some (.string (rd_T58 xs i).f1)∧w.cell? ⟨(ad.add (i.toNat * 3)).block,(ad.add (i.toNat * 3)).off + 2,none⟩=some (.int .i64 (rd_T58 xs i).f2):=by
  obtain ⟨ad,c,e,_,hK,hc0⟩:=Kd.C_get h z58 i h0 h1;have hc:∀ j u,c[j]?=some u→w.cell? (ad.add (i.toNat * 3 + j))=some u:=hc0;obtain rfl:=k58_open hK;exact ⟨ad,e,hc 0 _ rfl,by rw [← add_field _ _ 1 (by omega)];exact hc 1 _ rfl,by rw [← add_field _ _ 2 (by omega)];exact hc 2 _ rfl⟩
/-! #### struct type 50 -/
structure S50 where
  f0:ByteArray
  f1:Int
  f2:Int
def k50:Kd S50:=Kd.iso (Kd.pair Kd.string (Kd.pair (Kd.int .i64) (Kd.int .i64))) (fun x:S50=>(x.f0,x.f1,x.f2))
theorem k50_open {w:World} {x:S50} {cs:List Value} (h:k50.K w x cs):cs=[.string x.f0,.int .i64 x.f1,.int .i64 x.f2]:=by
  obtain ⟨_,_,rfl,rfl,⟨_,_,rfl,rfl,rfl⟩⟩:=h;exact rfl
end Go.Proofs.Ytcmaifjmnpfmbaa.R
