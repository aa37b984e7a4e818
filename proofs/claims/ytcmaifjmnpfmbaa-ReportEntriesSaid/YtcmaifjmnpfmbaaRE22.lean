/- Texts of this claim, laid together by a program of this project: contracts of functions and pure laws. -/
import Derived.Test.YtcmaifjmnpfmbaaRx0
import Derived.Test.YtcmaifjmnpfmbaaRE18
import Derived.Test.YtcmaifjmnpfmbaaRE19
import Derived.Test.YtcmaifjmnpfmbaaRE21
import Derived.Test.YtcmaifjmnpfmbaaRE20
section
namespace Go.Proofs.Ytcmaifjmnpfmbaa.R
open Go.RowKit Go.Proofs.YtcmaifjmnpfmbaaW.PrintWords Go.Proofs.YtcmaifjmnpfmbaaW.PrintLast Go.Proofs.YtcmaifjmnpfmbaaW.PrintMore
attribute [local go_sem] max2_int min2_int max_two min_two max_three min_three max_four min_four   -- for this text's walks alone
set_option linter.unusedVariables false
set_option linter.unusedSimpArgs false
def lb0:List S97:=(([(⟨(⟨#[69,85,82]⟩:ByteArray),2⟩:S97)]:List (S97)))
def lb1:List S86:=([]:List (S86))
def lb2:List S62:=(([(⟨1,0,1,(⟨#[97,115,115,101,116,115]⟩:ByteArray)⟩:S62),(⟨2,0,2,(⟨#[100,101,98,116,115]⟩:ByteArray)⟩:S62),(⟨11,1,1,(⟨#[99,97,115,104]⟩:ByteArray)⟩:S62),(⟨21,2,2,(⟨#[100,101,112,111,115,105,116,115]⟩:ByteArray)⟩:S62)]:List (S62)))
def lb17:List S79:=([]:List (S79))
def lb18:List S90:=(([(⟨1000,0,0,0,(⟨#[97,110,110]⟩:ByteArray),(⟨#[98,97,115,105,99]⟩:ByteArray),(⟨#[]⟩:ByteArray)⟩:S90)]:List (S90)))
def lb19:List S84:=(([(⟨1,6,6,1,0,0,(⟨#[100]⟩:ByteArray),(⟨#[]⟩:ByteArray),(([(⟨11,500,(⟨#[69,85,82]⟩:ByteArray)⟩:S129),(⟨1000,(-500),(⟨#[69,85,82]⟩:ByteArray)⟩:S129)]:List (S129))),0⟩:S84)]:List (S84)))
def lb20:List S119:=([]:List (S119))
def lb21:List S180:=([]:List (S180))
def liveAgg (B0:Option Addr) (d0:Nat) (B1:Option Addr) (d1:Nat) (B2:Option Addr) (d2:Nat) (B17:Option Addr) (d17:Nat) (B18:Option Addr) (d18:Nat) (B19:Option Addr) (d19:Nat) (B20:Option Addr) (d20:Nat) (B21:Option Addr) (d21:Nat):Value:=.agg #[.slice B0 lb0.length d0,.slice B1 lb1.length d1,.slice B2 lb2.length d2,.int .i64 (0),.int .i64 (21),.int .i64 (0),.int .i64 (0),.int .i64 (0),.int .i64 (0),.int .i64 (0),.int .i64 (0),.int .i64 (0),.int .i64 (0),.int .i64 (0),.int .i64 (0),.int .i64 (0),.int .i64 (0),.slice B17 lb17.length d17,.slice B18 lb18.length d18,.slice B19 lb19.length d19,.slice B20 lb20.length d20,.slice B21 lb21.length d21]
def liveBooks (w:World) (v:Value):Prop:=∃ (B0:Option Addr) (d0:Nat) (B1:Option Addr) (d1:Nat) (B2:Option Addr) (d2:Nat) (B17:Option Addr) (d17:Nat) (B18:Option Addr) (d18:Nat) (B19:Option Addr) (d19:Nat) (B20:Option Addr) (d20:Nat) (B21:Option Addr) (d21:Nat),v=liveAgg B0 d0 B1 d1 B2 d2 B17 d17 B18 d18 B19 d19 B20 d20 B21 d21∧Kd.C k97 w B0 lb0.length lb0∧lb0.length≤d0∧Kd.C k86 w B1 lb1.length lb1∧lb1.length≤d1∧Kd.C k62 w B2 lb2.length lb2∧lb2.length≤d2∧Kd.C k79 w B17 lb17.length lb17∧lb17.length≤d17∧Kd.C k90 w B18 lb18.length lb18∧lb18.length≤d18∧Kd.C k84 w B19 lb19.length lb19∧lb19.length≤d19∧Kd.C k119 w B20 lb20.length lb20∧lb20.length≤d20∧Kd.C k180 w B21 lb21.length lb21∧lb21.length≤d21
def liveRow (nm:ByteArray) (s:Int) (l:List Int) (w:World) (v:Value):Prop:=∃ A c,v=.agg #[.string nm,.int .i64 s,.slice A l.length c]∧l.length≤c∧Kd.C (Kd.int .i64) w A l.length l
def liveSl {α:Type} (d:Kd α) (l:List α) (w:World) (v:Value):Prop:=∃ A c,v=.slice A l.length c∧l.length≤c∧Kd.C d w A l.length l
def liveTup {α:Type} (d:Kd α) (l:List α) (e:Int) (w:World) (v:Value):Prop:=∃ v0,v=.tuple #[v0,.int .i64 e]∧liveSl d l w v0
def liveIs (x:Value) (_:World) (v:Value):Prop:=v=x
def livePtr (w:World) (v:Value):Prop:=∃ p:Addr,v=.pointer (some p)∧w.cell? p=some (.int .i64 0)
def liveElem (w:World) (v:Value):Prop:=∃ p:Addr,v=.pointer (some p)∧w.cell? ⟨p.block,p.off + 2,none⟩=some (.int .i64 0)
def liveBox (w:World) (v:Value):Prop:=∃ (g:Nat) (A:Option Addr) (c:Nat),v=.pointer (some ⟨g,0,none⟩)∧w.heap[g]?=some (.cells #[.string (⟨#[100,101,98,116,115]⟩:ByteArray),.int .i64 (-1),.slice A 1 c] 48 (0,0))∧1≤c∧Kd.C (Kd.int .i64) w A 1 [2]
theorem live_lit1 {α:Type} (d:Kd α) (w:World) (ty:TypeId) (x:α) (c:List Value) (h:d.K (w.alloc (.cells c.toArray ty)) x c):Kd.C d (w.alloc (.cells c.toArray ty)) (some ⟨w.heap.size,0,none⟩) 1 [x]:=by
  refine ⟨rfl,by decide,fun _=>⟨_,rfl,?_⟩⟩;intro j p hp
  match j with
  | 0=>
    (obtain rfl:x=p:=by simpa using hp);refine ⟨c,d.K_len h,h,fun i u hu=>?_⟩;have h1:=blk_cell (blk_new w (.cells c.toArray ty)) i;(have e:(⟨w.heap.size,0,none⟩:Addr).add (0 * d.sz + i)=⟨w.heap.size,i,none⟩:=by unfold Addr.add;split <;> simp_all);rw [e,h1];simpa using hu
  | j + 1=>simp at hp
theorem live_lit2 {α:Type} (d:Kd α) (w:World) (ty:TypeId) (x y:α) (c c':List Value) (h:d.K (w.alloc (.cells (c ++ c').toArray ty)) x c) (h':d.K (w.alloc (.cells (c ++ c').toArray ty)) y c'):Kd.C d (w.alloc (.cells (c ++ c').toArray ty)) (some ⟨w.heap.size,0,none⟩) 2 [x,y]:=by
  refine ⟨rfl,by decide,fun _=>⟨_,rfl,?_⟩⟩;intro j p hp;have hc:=d.K_len h
  match j with
  | 0=>
    (obtain rfl:x=p:=by simpa using hp);refine ⟨c,hc,h,fun i u hu=>?_⟩;have h1:=blk_cell (blk_new w (.cells (c ++ c').toArray ty)) i;(have e:(⟨w.heap.size,0,none⟩:Addr).add (0 * d.sz + i)=⟨w.heap.size,i,none⟩:=by unfold Addr.add;split <;> simp_all);rw [e,h1];have hlt:i < c.length:=(List.getElem?_eq_some_iff.1 hu).1;simpa [List.getElem?_append_left hlt] using hu
  | 1=>
    (obtain rfl:y=p:=by simpa using hp);refine ⟨c',d.K_len h',h',fun i u hu=>?_⟩;have h1:=blk_cell (blk_new w (.cells (c ++ c').toArray ty)) (c.length + i);(have e:(⟨w.heap.size,0,none⟩:Addr).add (1 * d.sz + i)=⟨w.heap.size,c.length + i,none⟩:=by rw [hc];unfold Addr.add;split <;> simp_all);rw [e,h1,List.getElem?_toArray,List.getElem?_append_right (by omega)];simpa using hu
  | j + 2=>simp at hp
theorem liveSl_below {α:Type} {d:Kd α} {l:List α} {w w':World} {v:Value} (h:liveSl d l w v) (hb:Below w.heap.size w w'):liveSl d l w' v:=by
  obtain ⟨A,c,e,hl,hC⟩:=h;exact ⟨A,c,e,hl,Kd.C_below hC hb⟩
theorem liveBooks_below {w w':World} {v:Value} (h:liveBooks w v) (hb:Below w.heap.size w w'):liveBooks w' v:=by
  obtain ⟨B0,d0,B1,d1,B2,d2,B17,d17,B18,d18,B19,d19,B20,d20,B21,d21,e,q0,u0,q1,u1,q2,u2,q17,u17,q18,u18,q19,u19,q20,u20,q21,u21⟩:=h;exact ⟨B0,d0,B1,d1,B2,d2,B17,d17,B18,d18,B19,d19,B20,d20,B21,d21,e,Kd.C_below q0 hb,u0,Kd.C_below q1 hb,u1,Kd.C_below q2 hb,u2,Kd.C_below q17 hb,u17,Kd.C_below q18 hb,u18,Kd.C_below q19 hb,u19,Kd.C_below q20 hb,u20,Kd.C_below q21 hb,u21⟩
theorem live_books (w:World):Calls Try.prog 54 #[] w fun e w'=>∃ v,e=.returned v∧liveBooks w' v∧Below w.heap.size w w':=by
  refine (corebanklaw49_books.calls lb0 lb1 lb2 (0) (21) (0) (0) (0) (0) (0) (0) (0) (0) (0) (0) (0) (0) lb17 lb18 lb19 lb20 lb21 w rfl).mono ?_;rintro e w' ⟨v0,v1,v2,v17,v18,v19,v20,v21,rfl,h0,h1,h2,h17,h18,h19,h20,h21,hb⟩;obtain ⟨B0,d0,rfl,u0,q0⟩:=Kd.R_reads h0;obtain ⟨B1,d1,rfl,u1,q1⟩:=Kd.N_reads h1;obtain ⟨B2,d2,rfl,u2,q2⟩:=Kd.R_reads h2;obtain ⟨B17,d17,rfl,u17,q17⟩:=Kd.N_reads h17;obtain ⟨B18,d18,rfl,u18,q18⟩:=Kd.R_reads h18;obtain ⟨B19,d19,rfl,u19,q19⟩:=Kd.N_reads h19;obtain ⟨B20,d20,rfl,u20,q20⟩:=Kd.R_reads h20;obtain ⟨B21,d21,rfl,u21,q21⟩:=Kd.R_reads h21;exact ⟨_,rfl,⟨B0,d0,B1,d1,B2,d2,B17,d17,B18,d18,B19,d19,B20,d20,B21,d21,rfl,q0,u0,q1,u1,q2,u2,q17,u17,q18,u18,q19,u19,q20,u20,q21,u21⟩,hb⟩
def liveG:Nat→World→Value→Prop
  | 0=>(liveIs (.bool true))
  | 1=>liveBox
  | 2=>(liveSl k58 [(⟨(⟨#[100,101,98,116,115]⟩:ByteArray),(⟨#[69,85,82]⟩:ByteArray),500⟩:S58),(⟨(⟨#[97,108,108]⟩:ByteArray),(⟨#[69,85,82]⟩:ByteArray),0⟩:S58)])
  | 3=>(liveIs (.int .i64 (0)))
  | 4=>(liveSl k58 [(⟨(⟨#[100,101,98,116,115]⟩:ByteArray),(⟨#[69,85,82]⟩:ByteArray),0⟩:S58)])
  | 5=>(liveIs (.int .i64 (0)))
  | 6=>(liveSl (Kd.int .i64) ([1]:List Int))
  | 7=>(liveIs (.int .i64 (0)))
  | 8=>(liveSl (Kd.int .i64) ([]:List Int))
  | 9=>(liveIs (.int .i64 (14)))
  | 12=>(liveTup k58 [(⟨(⟨#[100,101,98,116,115]⟩:ByteArray),(⟨#[69,85,82]⟩:ByteArray),500⟩:S58),(⟨(⟨#[97,108,108]⟩:ByteArray),(⟨#[69,85,82]⟩:ByteArray),0⟩:S58)] (0))
  | 13=>liveBooks
  | 14=>(liveRow (⟨#[100,101,98,116,115]⟩:ByteArray) (-1) [2])
  | 15=>(liveSl (Kd.int .i64) ([1,2]:List Int))
  | 16=>(liveRow (⟨#[97,108,108]⟩:ByteArray) (1) [1,2])
  | 17=>(liveSl k48 [(⟨(⟨#[100,101,98,116,115]⟩:ByteArray),-1,[2]⟩:S48),(⟨(⟨#[97,108,108]⟩:ByteArray),1,[1,2]⟩:S48)])
  | 18=>(liveTup k58 [(⟨(⟨#[100,101,98,116,115]⟩:ByteArray),(⟨#[69,85,82]⟩:ByteArray),500⟩:S58),(⟨(⟨#[97,108,108]⟩:ByteArray),(⟨#[69,85,82]⟩:ByteArray),0⟩:S58)] (0))
  | 19=>(liveSl k58 [(⟨(⟨#[100,101,98,116,115]⟩:ByteArray),(⟨#[69,85,82]⟩:ByteArray),500⟩:S58),(⟨(⟨#[97,108,108]⟩:ByteArray),(⟨#[69,85,82]⟩:ByteArray),0⟩:S58)])
  | 20=>(liveIs (.int .i64 (0)))
  | 21=>(liveTup k58 [(⟨(⟨#[100,101,98,116,115]⟩:ByteArray),(⟨#[69,85,82]⟩:ByteArray),0⟩:S58)] (0))
  | 22=>liveBooks
  | 23=>(liveRow (⟨#[100,101,98,116,115]⟩:ByteArray) (-1) [2])
  | 24=>(liveSl k48 [(⟨(⟨#[100,101,98,116,115]⟩:ByteArray),-1,[2]⟩:S48)])
  | 25=>(liveTup k58 [(⟨(⟨#[100,101,98,116,115]⟩:ByteArray),(⟨#[69,85,82]⟩:ByteArray),0⟩:S58)] (0))
  | 26=>(liveSl k58 [(⟨(⟨#[100,101,98,116,115]⟩:ByteArray),(⟨#[69,85,82]⟩:ByteArray),0⟩:S58)])
  | 27=>(liveIs (.int .i64 (0)))
  | 28=>(liveTup (Kd.int .i64) ([1]:List Int) (0))
  | 29=>liveBooks
  | 30=>(liveRow (⟨#[100,101,98,116,115]⟩:ByteArray) (-1) [2])
  | 31=>(liveTup (Kd.int .i64) ([1]:List Int) (0))
  | 32=>(liveSl (Kd.int .i64) ([1]:List Int))
  | 33=>(liveIs (.int .i64 (0)))
  | 34=>(liveTup (Kd.int .i64) ([]:List Int) (14))
  | 35=>liveBooks
  | 36=>(liveRow (⟨#[100,101,98,116,115]⟩:ByteArray) (-1) [2])
  | 37=>(liveTup (Kd.int .i64) ([]:List Int) (14))
  | 38=>(liveSl (Kd.int .i64) ([]:List Int))
  | 39=>(liveIs (.int .i64 (14)))
  | 40=>(liveIs (.int .i64 (0)))
  | 41=>(liveIs (.bool true))
  | 42=>(liveIs (.bool true))
  | 43=>(liveSl k58 [(⟨(⟨#[100,101,98,116,115]⟩:ByteArray),(⟨#[69,85,82]⟩:ByteArray),500⟩:S58),(⟨(⟨#[97,108,108]⟩:ByteArray),(⟨#[69,85,82]⟩:ByteArray),0⟩:S58)])
  | 44=>(liveIs (.agg #[.string (⟨#[100,101,98,116,115]⟩:ByteArray),.string (⟨#[69,85,82]⟩:ByteArray),.int .i64 (500)]))
  | 45=>(liveIs (.agg #[.string (⟨#[97,108,108]⟩:ByteArray),.string (⟨#[69,85,82]⟩:ByteArray),.int .i64 (0)]))
  | 46=>(liveSl k58 [(⟨(⟨#[100,101,98,116,115]⟩:ByteArray),(⟨#[69,85,82]⟩:ByteArray),500⟩:S58),(⟨(⟨#[97,108,108]⟩:ByteArray),(⟨#[69,85,82]⟩:ByteArray),0⟩:S58)])
  | 47=>(liveIs (.bool true))
  | 48=>(liveIs (.bool true))
  | 49=>(liveIs (.bool true))
  | 50=>(liveIs (.int .i64 (0)))
  | 51=>(liveIs (.bool true))
  | 52=>(liveIs (.bool true))
  | 53=>(liveIs (.bool true))
  | 54=>(liveSl k58 [(⟨(⟨#[100,101,98,116,115]⟩:ByteArray),(⟨#[69,85,82]⟩:ByteArray),0⟩:S58)])
  | 55=>(liveIs (.int .i64 (1)))
  | 56=>(liveIs (.bool true))
  | 57=>(liveIs (.bool true))
  | 58=>(liveIs (.bool true))
  | 59=>(liveSl k58 [(⟨(⟨#[100,101,98,116,115]⟩:ByteArray),(⟨#[69,85,82]⟩:ByteArray),0⟩:S58)])
  | 60=>liveElem
  | 61=>livePtr
  | 62=>(liveIs (.int .i64 (0)))
  | 63=>(liveIs (.bool true))
  | 64=>(liveIs (.bool true))
  | 65=>(liveIs (.bool true))
  | 66=>(liveIs (.int .i64 (0)))
  | 67=>(liveIs (.bool true))
  | 68=>(liveIs (.bool true))
  | 69=>(liveIs (.bool true))
  | 70=>(liveSl (Kd.int .i64) ([1]:List Int))
  | 71=>(liveSl (Kd.int .i64) ([1]:List Int))
  | 72=>(liveIs (.bool true))
  | 73=>(liveIs (.bool true))
  | 74=>(liveIs (.bool true))
  | 75=>(liveIs (.int .i64 (14)))
  | 76=>(liveIs (.bool true))
  | 77=>(liveIs (.bool true))
  | 78=>(liveIs (.bool true))
  | 79=>liveBooks
  | 80=>(liveRow (⟨#[100,101,98,116,115]⟩:ByteArray) (-1) [2])
  | 81=>(liveIs (.int .i64 (500)))
  | 82=>(liveIs (.bool true))
  | 83=>(liveIs (.bool true))
  | 84=>(liveIs (.bool true))
  | 85=>liveBooks
  | 86=>(liveIs (.int .i64 (21)))
  | 87=>(liveIs (.bool true))
  | 88=>(liveIs (.bool true))
  | 89=>(liveIs (.bool true))
  | 90=>liveBooks
  | 91=>(liveIs (.int .i64 (0)))
  | 92=>(liveIs (.bool true))
  | 93=>(liveIs (.bool true))
  | 94=>(liveIs (.bool true))
  | 95=>liveBooks
  | 96=>(liveIs (.int .i64 (11)))
  | 97=>(liveIs (.bool true))
  | 98=>(liveIs (.bool true))
  | 99=>(liveIs (.bool true))
  | 100=>liveBooks
  | 101=>(liveSl (Kd.int .i64) ([1,11]:List Int))
  | 102=>(liveRow (⟨#[120]⟩:ByteArray) (1) [1,11])
  | 103=>(liveSl k48 [(⟨(⟨#[120]⟩:ByteArray),1,[1,11]⟩:S48)])
  | 104=>(liveIs (.int .i64 (12)))
  | 105=>(liveIs (.bool true))
  | 106=>(liveIs (.bool true))
  | _=>fun _ _=>True
theorem liveG_below:∀ t w w' v,liveG t w v→Below w.heap.size w w'→liveG t w' v:=by
  intro t w w' v h hb;unfold liveG at h ⊢;split at h
  · exact h
  · obtain ⟨g,A,c,e,hh,hl,hC⟩:=h;exact ⟨g,A,c,e,bB hh hb,hl,Kd.C_below hC hb⟩
  · exact liveSl_below h hb
  · exact h
  · exact liveSl_below h hb
  · exact h
  · exact liveSl_below h hb
  · exact h
  · exact liveSl_below h hb
  · exact h
  · obtain ⟨v0,e,h0⟩:=h;exact ⟨v0,e,liveSl_below h0 hb⟩
  · exact liveBooks_below h hb
  · obtain ⟨A,c,e,hl,hC⟩:=h;exact ⟨A,c,e,hl,Kd.C_below hC hb⟩
  · exact liveSl_below h hb
  · obtain ⟨A,c,e,hl,hC⟩:=h;exact ⟨A,c,e,hl,Kd.C_below hC hb⟩
  · exact liveSl_below h hb
  · obtain ⟨v0,e,h0⟩:=h;exact ⟨v0,e,liveSl_below h0 hb⟩
  · exact liveSl_below h hb
  · exact h
  · obtain ⟨v0,e,h0⟩:=h;exact ⟨v0,e,liveSl_below h0 hb⟩
  · exact liveBooks_below h hb
  · obtain ⟨A,c,e,hl,hC⟩:=h;exact ⟨A,c,e,hl,Kd.C_below hC hb⟩
  · exact liveSl_below h hb
  · obtain ⟨v0,e,h0⟩:=h;exact ⟨v0,e,liveSl_below h0 hb⟩
  · exact liveSl_below h hb
  · exact h
  · obtain ⟨v0,e,h0⟩:=h;exact ⟨v0,e,liveSl_below h0 hb⟩
  · exact liveBooks_below h hb
  · obtain ⟨A,c,e,hl,hC⟩:=h;exact ⟨A,c,e,hl,Kd.C_below hC hb⟩
  · obtain ⟨v0,e,h0⟩:=h;exact ⟨v0,e,liveSl_below h0 hb⟩
  · exact liveSl_below h hb
  · exact h
  · obtain ⟨v0,e,h0⟩:=h;exact ⟨v0,e,liveSl_below h0 hb⟩
  · exact liveBooks_below h hb
  · obtain ⟨A,c,e,hl,hC⟩:=h;exact ⟨A,c,e,hl,Kd.C_below hC hb⟩
  · obtain ⟨v0,e,h0⟩:=h;exact ⟨v0,e,liveSl_below h0 hb⟩
  · exact liveSl_below h hb
  · exact h
  · exact h
  · exact h
  · exact h
  · exact liveSl_below h hb
  · exact h
  · exact h
  · exact liveSl_below h hb
  · exact h
  · exact h
  · exact h
  · exact h
  · exact h
  · exact h
  · exact h
  · exact liveSl_below h hb
  · exact h
  · exact h
  · exact h
  · exact h
  · exact liveSl_below h hb
  · obtain ⟨p,e,hx⟩:=h;exact ⟨p,e,(hb.cell (World.block_lt_of_cell? w _ hx)).trans hx⟩
  · obtain ⟨p,e,hx⟩:=h;exact ⟨p,e,(hb.cell (World.block_lt_of_cell? w _ hx)).trans hx⟩
  · exact h
  · exact h
  · exact h
  · exact h
  · exact h
  · exact h
  · exact h
  · exact h
  · exact liveSl_below h hb
  · exact liveSl_below h hb
  · exact h
  · exact h
  · exact h
  · exact h
  · exact h
  · exact h
  · exact h
  · exact liveBooks_below h hb
  · obtain ⟨A,c,e,hl,hC⟩:=h;exact ⟨A,c,e,hl,Kd.C_below hC hb⟩
  · exact h
  · exact h
  · exact h
  · exact h
  · exact liveBooks_below h hb
  · exact h
  · exact h
  · exact h
  · exact h
  · exact liveBooks_below h hb
  · exact h
  · exact h
  · exact h
  · exact h
  · exact liveBooks_below h hb
  · exact h
  · exact h
  · exact h
  · exact h
  · exact liveBooks_below h hb
  · exact liveSl_below h hb
  · obtain ⟨A,c,e,hl,hC⟩:=h;exact ⟨A,c,e,hl,Kd.C_below hC hb⟩
  · exact liveSl_below h hb
  · exact h
  · exact h
  · exact h
  · trivial
def liveKnown:Nat→List Nat
  | 1=>[1]
  | 2=>[1,13,14,15,16,17,18,12,19,20,2,3]
  | 3=>[1,13,14,15,16,17,18,12,19,20,2,3,22,23,24,25,21,26,27,4,5]
  | 4=>[1,13,14,15,16,17,18,12,19,20,2,3,22,23,24,25,21,26,27,4,5,29,30,31,28,32,33,6,7]
  | 5=>[1,13,14,15,16,17,18,12,19,20,2,3,22,23,24,25,21,26,27,4,5,29,30,31,28,32,33,6,7,35,36,37,34,38,39,8,9]
  | 6=>[1,13,14,15,16,17,18,12,19,20,2,3,22,23,24,25,21,26,27,4,5,29,30,31,28,32,33,6,7,35,36,37,34,38,39,8,9,40,41,42,43,44,45,46,47,48,49,50,51,52,53,54,55,56,57,58,59,60,61,62,63,64,65,66,67,68,69,70,71,72,73,74,75,76,77,78,79,80,81,82,83,84,85,86,87,88,89,90,91,92,93,94,95,96,97,98,99,100,101,102,103,104,105,106,0]
  | _=>[]
def liveGr (r t:Nat) (w:World) (v:Value):Prop:=match (liveKnown r).contains t with
  | true=>liveG t w v
  | false=>True
theorem liveGr_below (r:Nat):∀ t w w' v,liveGr r t w v→Below w.heap.size w w'→liveGr r t w' v:=by
  intro t w w' v h hb;unfold liveGr at h ⊢;split at h
  · exact liveG_below t w w' v h hb
  · trivial
theorem liveGr_next {r r' t:Nat} {w:World} {v:Value} (h:liveGr r t w v) (hk:(liveKnown r').contains t=true→(liveKnown r).contains t=true):liveGr r' t w v:=by
  unfold liveGr;split
  · (rename_i h1);have h2:=hk h1;unfold liveGr at h;rw [h2] at h;exact h
  · trivial
def liveNext (ops:Array Oper) (r:Nat):Bool:=(List.range 107).all fun t=>!(notDst ops t) || !((liveKnown (r + 1)).contains t) || (liveKnown r).contains t
theorem liveNext_at {ops:Array Oper} {r t:Nat} (h:liveNext ops r=true) (ht:t < 107) (hn:notDst ops t=true) (hk:(liveKnown (r + 1)).contains t=true):(liveKnown r).contains t=true:=by
  have h1:=List.all_eq_true.1 h t (List.mem_range.2 ht);rw [hn,hk] at h1;simpa using h1
def liveOk (k:Nat):Prop:=report_Check.f k lb0 lb1 lb2 (0) (21) (0) (0) (0) (0) (0) (0) (0) (0) (0) (0) (0) (0) lb17 lb18 lb19 lb20 lb21 [(⟨(⟨#[120]⟩:ByteArray),1,[1,11]⟩:S48)]=some (12)∧report_Make.f k lb0 lb1 lb2 (0) (21) (0) (0) (0) (0) (0) (0) (0) (0) (0) (0) (0) (0) lb17 lb18 lb19 lb20 lb21 [(⟨(⟨#[100,101,98,116,115]⟩:ByteArray),-1,[2]⟩:S48),(⟨(⟨#[97,108,108]⟩:ByteArray),1,[1,2]⟩:S48)] (6)=some ([(⟨(⟨#[100,101,98,116,115]⟩:ByteArray),(⟨#[69,85,82]⟩:ByteArray),500⟩:S58),(⟨(⟨#[97,108,108]⟩:ByteArray),(⟨#[69,85,82]⟩:ByteArray),0⟩:S58)],0)∧report_Make.f k lb0 lb1 lb2 (0) (21) (0) (0) (0) (0) (0) (0) (0) (0) (0) (0) (0) (0) lb17 lb18 lb19 lb20 lb21 [(⟨(⟨#[100,101,98,116,115]⟩:ByteArray),-1,[2]⟩:S48)] (5)=some ([(⟨(⟨#[100,101,98,116,115]⟩:ByteArray),(⟨#[69,85,82]⟩:ByteArray),0⟩:S58)],0)∧report_Drill.f k lb0 lb1 lb2 (0) (21) (0) (0) (0) (0) (0) (0) (0) (0) (0) (0) (0) (0) lb17 lb18 lb19 lb20 lb21 (⟨#[100,101,98,116,115]⟩:ByteArray) (-1) [2] (⟨#[69,85,82]⟩:ByteArray) (6)=some ([1],0)∧report_Drill.f k lb0 lb1 lb2 (0) (21) (0) (0) (0) (0) (0) (0) (0) (0) (0) (0) (0) (0) lb17 lb18 lb19 lb20 lb21 (⟨#[100,101,98,116,115]⟩:ByteArray) (-1) [2] (⟨#[85,83,68]⟩:ByteArray) (6)=some ([],14)∧corebankref49_SameCells.f k [(⟨(⟨#[100,101,98,116,115]⟩:ByteArray),(⟨#[69,85,82]⟩:ByteArray),500⟩:S58),(⟨(⟨#[97,108,108]⟩:ByteArray),(⟨#[69,85,82]⟩:ByteArray),0⟩:S58)] [(⟨(⟨#[100,101,98,116,115]⟩:ByteArray),(⟨#[69,85,82]⟩:ByteArray),500⟩:S58),(⟨(⟨#[97,108,108]⟩:ByteArray),(⟨#[69,85,82]⟩:ByteArray),0⟩:S58)]=some true∧corebankref07_SameInts.f k [1] [1]=some true∧report_Amount.f k lb0 lb1 lb2 (0) (21) (0) (0) (0) (0) (0) (0) (0) (0) (0) (0) (0) (0) lb17 lb18 lb19 lb20 lb21 (⟨#[100,101,98,116,115]⟩:ByteArray) (-1) [2] (⟨#[69,85,82]⟩:ByteArray) (1)=some (500)∧report_Owner.f k lb0 lb1 lb2 (0) (21) (0) (0) (0) (0) (0) (0) (0) (0) (0) (0) (0) (0) lb17 lb18 lb19 lb20 lb21 (1000)=some (21)∧report_Owner.f k lb0 lb1 lb2 (0) (21) (0) (0) (0) (0) (0) (0) (0) (0) (0) (0) (0) (0) lb17 lb18 lb19 lb20 lb21 (1001)=some (0)∧report_Owner.f k lb0 lb1 lb2 (0) (21) (0) (0) (0) (0) (0) (0) (0) (0) (0) (0) (0) (0) lb17 lb18 lb19 lb20 lb21 (11)=some (11)
def lq2_0 : Oper := { dst := some 13, op := Op.call { callee := Callee.value (Operand.func 54), args := #[], argTypes := #[] }, type := 33, pos := "law.go:28", after := #[], guard := none }
def lq2_1 : Oper := { dst := some 14, op := Op.load 48 (Operand.tmp 1), type := 48, pos := "law.go:28", after := #[], guard := none }
def lq2_2 : Oper := { dst := some 15, op := Op.buildSlice 46 2 #[(0, Operand.const (Value.int IntKind.i64 1)), (1, Operand.const (Value.int IntKind.i64 2))], type := 46, pos := "law.go:28", after := #[], guard := none }
def lq2_3 : Oper := { dst := some 16, op := Op.build 48 #[(0, Operand.const (Value.string { data := #[97, 108, 108] })), (1, Operand.const (Value.int IntKind.i64 1)), (2, Operand.tmp 15)], type := 48, pos := "law.go:28", after := #[{ on := 2, ground := Ground.data }], guard := none }
def lq2_4 : Oper := { dst := some 17, op := Op.buildSlice 34 2 #[(0, Operand.tmp 14), (1, Operand.tmp 16)], type := 34, pos := "law.go:28", after := #[{ on := 1, ground := Ground.data }, { on := 3, ground := Ground.data }], guard := none }
def lq2_5 : Oper := { dst := some 18, op := Op.call { callee := Callee.value (Operand.func 20), args := #[Operand.tmp 13, Operand.tmp 17, Operand.const (Value.int IntKind.i64 6)], argTypes := #[33, 34, 3] }, type := 43, pos := "law.go:28", after := #[{ on := 0, ground := Ground.data }, { on := 4, ground := Ground.data }, { on := 0, ground := Ground.chain }], guard := none }
def lq2_6 : Oper := { dst := some 12, op := Op.move (Operand.tmp 18), type := 43, pos := "law.go:28", after := #[{ on := 5, ground := Ground.data }], guard := none }
def lq2_7 : Oper := { dst := some 19, op := Op.extract (Operand.tmp 12) 0, type := 42, pos := "law.go:28", after := #[{ on := 6, ground := Ground.data }], guard := none }
def lq2_8 : Oper := { dst := some 20, op := Op.extract (Operand.tmp 12) 1, type := 37, pos := "law.go:28", after := #[{ on := 6, ground := Ground.data }, { on := 9, ground := Ground.gcOnly Departure.lateStores }], guard := none }
def lq2_9 : Oper := { dst := some 2, op := Op.assign (Operand.tmp 19), type := 42, pos := "law.go:28", after := #[{ on := 7, ground := Ground.data }, { on := 5, ground := Ground.chain }, { on := 0, ground := Ground.phase }, { on := 1, ground := Ground.phase }, { on := 2, ground := Ground.phase }, { on := 3, ground := Ground.phase }, { on := 4, ground := Ground.phase }, { on := 5, ground := Ground.phase }, { on := 6, ground := Ground.phase }, { on := 7, ground := Ground.phase }, { on := 8, ground := Ground.textOnly Departure.lateStores }], guard := none }
def lq2_10 : Oper := { dst := some 3, op := Op.assign (Operand.tmp 20), type := 37, pos := "law.go:28", after := #[{ on := 8, ground := Ground.data }, { on := 9, ground := Ground.chain }, { on := 0, ground := Ground.phase }, { on := 1, ground := Ground.phase }, { on := 2, ground := Ground.phase }, { on := 3, ground := Ground.phase }, { on := 4, ground := Ground.phase }, { on := 5, ground := Ground.phase }, { on := 6, ground := Ground.phase }, { on := 7, ground := Ground.phase }, { on := 8, ground := Ground.phase }, { on := 9, ground := Ground.phase }], guard := none }
def liveOps2:Array Oper:=#[lq2_0,lq2_1,lq2_2,lq2_3,lq2_4,lq2_5,lq2_6,lq2_7,lq2_8,lq2_9,lq2_10]
set_option maxHeartbeats 8000000 in
set_option maxRecDepth 100000 in
theorem live_region2 (k:Nat) (F18:report_Make.f k lb0 lb1 lb2 (0) (21) (0) (0) (0) (0) (0) (0) (0) (0) (0) (0) (0) (0) lb17 lb18 lb19 lb20 lb21 [(⟨(⟨#[100,101,98,116,115]⟩:ByteArray),-1,[2]⟩:S48),(⟨(⟨#[97,108,108]⟩:ByteArray),1,[1,2]⟩:S48)] (6)=some ([(⟨(⟨#[100,101,98,116,115]⟩:ByteArray),(⟨#[69,85,82]⟩:ByteArray),500⟩:S58),(⟨(⟨#[97,108,108]⟩:ByteArray),(⟨#[69,85,82]⟩:ByteArray),0⟩:S58)],0)) {Q:Exit→Act→World→Prop} {a0:Act} {w0:World} (hsz:a0.tmps.size=107) (h0:∀ t,t < 107→notDst liveOps2 t=true→liveGr 2 t w0 (a0.eval (.tmp t)))
    (hend:∀ a w,Below w0.heap.size w0 w→a.tmps.size=107→a.defers=a0.defers→(∀ t,t < 107→liveGr 2 t w (a.eval (.tmp t)))→Q .normal a w):(Code.region 2 liveOps2 true).wp Try.prog Q a0 w0:=by
  refine region_loose (N:=107) (G:=liveGr 2) (by kernel_rfl) (by kernel_rfl) (by kernel_rfl) hsz (liveGr_below 2) (fun t ht hn=>liveGr_below 2 t _ _ _ (h0 t ht hn) (below_drew1 (Below.refl _ _))) ?_ (fun a w hb=>hend a w (bS (below_drew1 (Below.refl _ _)) hb));intro i o hi a w hb hsz' hG K hK
  match i,hi with
  | 0,hi=>
    obtain rfl:lq2_0=o:=Option.some.inj hi;unfold lq2_0 at hK ⊢;exact loose_call Try.func54 (by kernel_rfl) rfl #[] (by rfl) rfl (by simp) ((live_books w).mono (by rintro e w' ⟨v,rfl,hv,hb'⟩;exact ⟨_,rfl,hK _ _ hb' (fun t ht=>by cases ht;exact hv)⟩))
  | 1,hi=>
    obtain rfl:lq2_1=o:=Option.some.inj hi;unfold lq2_1 at hK ⊢;have g1:liveBox w (a.eval (.tmp 1)):=hG 1 (by decide) (by kernel_rfl);obtain ⟨bg,bA,bc,be,bh,bl,bC⟩:=g1;exact loose_run (by rfl) (w':=w) (run_load_wide 48 (.tmp 1) (by rfl) bg be #[.string (⟨#[100,101,98,116,115]⟩:ByteArray),.int .i64 (-1),.slice bA 1 bc] Try.underlying48 rfl (by kernel_rfl) ⟨(blk_cell bh 0).trans rfl,(blk_cell bh 1).trans rfl,(blk_cell bh 2).trans rfl,trivial⟩) (hK _ _ (Below.refl _ _) (fun t ht=>by cases ht;exact ⟨bA,bc,rfl,bl,bC⟩))
  | 2,hi=>
    obtain rfl:lq2_2=o:=Option.some.inj hi;unfold lq2_2 at hK ⊢;exact loose_run (by rfl) (w':=w.alloc (.cells #[.int .i64 (1),.int .i64 (2)] 3)) (v:=.slice (some ⟨w.heap.size,0,none⟩) 2 2) (by have hk:∀ v,a.eval (Operand.const v)=v:=fun _=>rfl;generalize a.eval=ρ at *;(go_simp;done)) (hK _ _ (below_alloc (Below.refl _ _) _) (fun t ht=>by cases ht;exact ⟨_,_,rfl,Nat.le_refl _,(live_lit2 (Kd.int .i64) w 3 (1) (2) [.int .i64 (1)] [.int .i64 (2)] rfl rfl)⟩))
  | 3,hi=>
    obtain rfl:lq2_3=o:=Option.some.inj hi;unfold lq2_3 at hK ⊢;have g15:(liveSl (Kd.int .i64) ([1,2]:List Int)) w (a.eval (.tmp 15)):=hG 15 (by decide) (by kernel_rfl);obtain ⟨A,c,e,l,C⟩:=g15;exact loose_run (by rfl) (w':=w) (v:=.agg #[.string (⟨#[97,108,108]⟩:ByteArray),.int .i64 (1),.slice A 2 c]) (by have hk:∀ v,a.eval (Operand.const v)=v:=fun _=>rfl;generalize a.eval=ρ at *;(go_simp;done)) (hK _ _ (Below.refl _ _) (fun t ht=>by cases ht;exact ⟨A,c,rfl,l,C⟩))
  | 4,hi=>
    obtain rfl:lq2_4=o:=Option.some.inj hi;unfold lq2_4 at hK ⊢;have g14:(liveRow (⟨#[100,101,98,116,115]⟩:ByteArray) (-1) [2]) w (a.eval (.tmp 14)):=hG 14 (by decide) (by kernel_rfl);have g16:(liveRow (⟨#[97,108,108]⟩:ByteArray) (1) [1,2]) w (a.eval (.tmp 16)):=hG 16 (by decide) (by kernel_rfl);obtain ⟨dA,c14,e14,l14,C14⟩:=g14;obtain ⟨fA,c16,e16,l16,C16⟩:=g16;exact loose_run (by rfl) (w':=w.alloc (.cells #[.string (⟨#[100,101,98,116,115]⟩:ByteArray),.int .i64 (-1),.slice dA 1 c14,.string (⟨#[97,108,108]⟩:ByteArray),.int .i64 (1),.slice fA 2 c16] 48)) (v:=.slice (some ⟨w.heap.size,0,none⟩) 2 2) (by have hk:∀ v,a.eval (Operand.const v)=v:=fun _=>rfl;generalize a.eval=ρ at *;(go_simp;done)) (hK _ _ (below_alloc (Below.refl _ _) _) (fun t ht=>by cases ht;exact ⟨_,_,rfl,Nat.le_refl _,(live_lit2 k48 w 48 (⟨(⟨#[100,101,98,116,115]⟩:ByteArray),-1,[2]⟩:S48) (⟨(⟨#[97,108,108]⟩:ByteArray),1,[1,2]⟩:S48) [.string (⟨#[100,101,98,116,115]⟩:ByteArray),.int .i64 (-1),.slice dA 1 c14] [.string (⟨#[97,108,108]⟩:ByteArray),.int .i64 (1),.slice fA 2 c16] (k48_mk _ (⟨(⟨#[100,101,98,116,115]⟩:ByteArray),-1,[2]⟩:S48) l14 (Kd.C_below C14 (below_alloc (Below.refl _ _) _))) (k48_mk _ (⟨(⟨#[97,108,108]⟩:ByteArray),1,[1,2]⟩:S48) l16 (Kd.C_below C16 (below_alloc (Below.refl _ _) _))))⟩))
  | 5,hi=>
    obtain rfl:lq2_5=o:=Option.some.inj hi;unfold lq2_5 at hK ⊢;have g13:liveBooks w (a.eval (.tmp 13)):=hG 13 (by decide) (by kernel_rfl);have g17:(liveSl k48 [(⟨(⟨#[100,101,98,116,115]⟩:ByteArray),-1,[2]⟩:S48),(⟨(⟨#[97,108,108]⟩:ByteArray),1,[1,2]⟩:S48)]) w (a.eval (.tmp 17)):=hG 17 (by decide) (by kernel_rfl);obtain ⟨B0,d0,B1,d1,B2,d2,B17,d17,B18,d18,B19,d19,B20,d20,B21,d21,eb,q0,u0,q1,u1,q2,u2,q17,u17,q18,u18,q19,u19,q20,u20,q21,u21⟩:=g13;obtain ⟨gA,c17,e17,l17,C17⟩:=g17;exact loose_call Try.func20 (by kernel_rfl) rfl #[liveAgg B0 d0 B1 d1 B2 d2 B17 d17 B18 d18 B19 d19 B20 d20 B21 d21,.slice gA 2 c17,.int .i64 (6)] (by rfl) rfl (by simp only [List.map_toArray,List.map_cons,List.map_nil,eb,e17];rfl) ((report_Make.calls k B0 d0 lb0 B1 d1 lb1 B2 d2 lb2 (0) (21) (0) (0) (0) (0) (0) (0) (0) (0) (0) (0) (0) (0) B17 d17 lb17 B18 d18 lb18 B19 d19 lb19 B20 d20 lb20 B21 d21 lb21 gA c17 [(⟨(⟨#[100,101,98,116,115]⟩:ByteArray),-1,[2]⟩:S48),(⟨(⟨#[97,108,108]⟩:ByteArray),1,[1,2]⟩:S48)] (6) [(⟨(⟨#[100,101,98,116,115]⟩:ByteArray),(⟨#[69,85,82]⟩:ByteArray),500⟩:S58),(⟨(⟨#[97,108,108]⟩:ByteArray),(⟨#[69,85,82]⟩:ByteArray),0⟩:S58)] (0) w q0 u0 q1 u1 q2 u2 q17 u17 q18 u18 q19 u19 q20 u20 q21 u21 C17 l17 F18).mono (by rintro e w' ⟨v0,rfl,hR,hb'⟩;exact ⟨_,rfl,hK _ _ hb' (fun t ht=>by cases ht;exact ⟨v0,rfl,Kd.R_reads hR⟩)⟩))
  | 6,hi=>
    obtain rfl:lq2_6=o:=Option.some.inj hi;unfold lq2_6 at hK ⊢;have g18:(liveTup k58 [(⟨(⟨#[100,101,98,116,115]⟩:ByteArray),(⟨#[69,85,82]⟩:ByteArray),500⟩:S58),(⟨(⟨#[97,108,108]⟩:ByteArray),(⟨#[69,85,82]⟩:ByteArray),0⟩:S58)] (0)) w (a.eval (.tmp 18)):=hG 18 (by decide) (by kernel_rfl);exact loose_run (by rfl) (w':=w) (v:=a.eval (.tmp 18)) (BigFrame.run_move _ (by rfl) _) (hK _ _ (Below.refl _ _) (fun t ht=>by cases ht;exact g18))
  | 7,hi=>
    obtain rfl:lq2_7=o:=Option.some.inj hi;unfold lq2_7 at hK ⊢;have g12:(liveTup k58 [(⟨(⟨#[100,101,98,116,115]⟩:ByteArray),(⟨#[69,85,82]⟩:ByteArray),500⟩:S58),(⟨(⟨#[97,108,108]⟩:ByteArray),(⟨#[69,85,82]⟩:ByteArray),0⟩:S58)] (0)) w (a.eval (.tmp 12)):=hG 12 (by decide) (by kernel_rfl);obtain ⟨v0,e0,g0⟩:=g12;exact loose_run (by rfl) (w':=w) (v:=v0) (by have hk:∀ v,a.eval (Operand.const v)=v:=fun _=>rfl;generalize a.eval=ρ at *;(go_simp;done)) (hK _ _ (Below.refl _ _) (fun t ht=>by cases ht;exact g0))
  | 8,hi=>
    obtain rfl:lq2_8=o:=Option.some.inj hi;unfold lq2_8 at hK ⊢;have g12:(liveTup k58 [(⟨(⟨#[100,101,98,116,115]⟩:ByteArray),(⟨#[69,85,82]⟩:ByteArray),500⟩:S58),(⟨(⟨#[97,108,108]⟩:ByteArray),(⟨#[69,85,82]⟩:ByteArray),0⟩:S58)] (0)) w (a.eval (.tmp 12)):=hG 12 (by decide) (by kernel_rfl);obtain ⟨v0,e0,g0⟩:=g12;exact loose_run (by rfl) (w':=w) (v:=.int .i64 (0)) (by have hk:∀ v,a.eval (Operand.const v)=v:=fun _=>rfl;generalize a.eval=ρ at *;(go_simp;done)) (hK _ _ (Below.refl _ _) (fun t ht=>by cases ht;exact rfl))
  | 9,hi=>
    obtain rfl:lq2_9=o:=Option.some.inj hi;unfold lq2_9 at hK ⊢;have g19:(liveSl k58 [(⟨(⟨#[100,101,98,116,115]⟩:ByteArray),(⟨#[69,85,82]⟩:ByteArray),500⟩:S58),(⟨(⟨#[97,108,108]⟩:ByteArray),(⟨#[69,85,82]⟩:ByteArray),0⟩:S58)]) w (a.eval (.tmp 19)):=hG 19 (by decide) (by kernel_rfl);exact loose_run (by rfl) (w':=w) (v:=a.eval (.tmp 19)) (BigFrame.run_assign _ (by rfl) _) (hK _ _ (Below.refl _ _) (fun t ht=>by cases ht;exact g19))
  | 10,hi=>
    obtain rfl:lq2_10=o:=Option.some.inj hi;unfold lq2_10 at hK ⊢;have g20:(liveIs (.int .i64 (0))) w (a.eval (.tmp 20)):=hG 20 (by decide) (by kernel_rfl);exact loose_run (by rfl) (w':=w) (v:=a.eval (.tmp 20)) (BigFrame.run_assign _ (by rfl) _) (hK _ _ (Below.refl _ _) (fun t ht=>by cases ht;exact g20))
  | i + 11,hi=>cases hi
def lq3_0 : Oper := { dst := some 22, op := Op.call { callee := Callee.value (Operand.func 54), args := #[], argTypes := #[] }, type := 33, pos := "law.go:29", after := #[], guard := none }
def lq3_1 : Oper := { dst := some 23, op := Op.load 48 (Operand.tmp 1), type := 48, pos := "law.go:29", after := #[], guard := none }
def lq3_2 : Oper := { dst := some 24, op := Op.buildSlice 34 1 #[(0, Operand.tmp 23)], type := 34, pos := "law.go:29", after := #[{ on := 1, ground := Ground.data }], guard := none }
def lq3_3 : Oper := { dst := some 25, op := Op.call { callee := Callee.value (Operand.func 20), args := #[Operand.tmp 22, Operand.tmp 24, Operand.const (Value.int IntKind.i64 5)], argTypes := #[33, 34, 3] }, type := 43, pos := "law.go:29", after := #[{ on := 0, ground := Ground.data }, { on := 2, ground := Ground.data }, { on := 0, ground := Ground.chain }], guard := none }
def lq3_4 : Oper := { dst := some 21, op := Op.move (Operand.tmp 25), type := 43, pos := "law.go:29", after := #[{ on := 3, ground := Ground.data }], guard := none }
def lq3_5 : Oper := { dst := some 26, op := Op.extract (Operand.tmp 21) 0, type := 42, pos := "law.go:29", after := #[{ on := 4, ground := Ground.data }], guard := none }
def lq3_6 : Oper := { dst := some 27, op := Op.extract (Operand.tmp 21) 1, type := 37, pos := "law.go:29", after := #[{ on := 4, ground := Ground.data }, { on := 7, ground := Ground.gcOnly Departure.lateStores }], guard := none }
def lq3_7 : Oper := { dst := some 4, op := Op.assign (Operand.tmp 26), type := 42, pos := "law.go:29", after := #[{ on := 5, ground := Ground.data }, { on := 3, ground := Ground.chain }, { on := 0, ground := Ground.phase }, { on := 1, ground := Ground.phase }, { on := 2, ground := Ground.phase }, { on := 3, ground := Ground.phase }, { on := 4, ground := Ground.phase }, { on := 5, ground := Ground.phase }, { on := 6, ground := Ground.textOnly Departure.lateStores }], guard := none }
def lq3_8 : Oper := { dst := some 5, op := Op.assign (Operand.tmp 27), type := 37, pos := "law.go:29", after := #[{ on := 6, ground := Ground.data }, { on := 7, ground := Ground.chain }, { on := 0, ground := Ground.phase }, { on := 1, ground := Ground.phase }, { on := 2, ground := Ground.phase }, { on := 3, ground := Ground.phase }, { on := 4, ground := Ground.phase }, { on := 5, ground := Ground.phase }, { on := 6, ground := Ground.phase }, { on := 7, ground := Ground.phase }], guard := none }
def liveOps3:Array Oper:=#[lq3_0,lq3_1,lq3_2,lq3_3,lq3_4,lq3_5,lq3_6,lq3_7,lq3_8]
set_option maxHeartbeats 8000000 in
set_option maxRecDepth 100000 in
theorem live_region3 (k:Nat) (F25:report_Make.f k lb0 lb1 lb2 (0) (21) (0) (0) (0) (0) (0) (0) (0) (0) (0) (0) (0) (0) lb17 lb18 lb19 lb20 lb21 [(⟨(⟨#[100,101,98,116,115]⟩:ByteArray),-1,[2]⟩:S48)] (5)=some ([(⟨(⟨#[100,101,98,116,115]⟩:ByteArray),(⟨#[69,85,82]⟩:ByteArray),0⟩:S58)],0)) {Q:Exit→Act→World→Prop} {a0:Act} {w0:World} (hsz:a0.tmps.size=107) (h0:∀ t,t < 107→notDst liveOps3 t=true→liveGr 3 t w0 (a0.eval (.tmp t)))
    (hend:∀ a w,Below w0.heap.size w0 w→a.tmps.size=107→a.defers=a0.defers→(∀ t,t < 107→liveGr 3 t w (a.eval (.tmp t)))→Q .normal a w):(Code.region 3 liveOps3 true).wp Try.prog Q a0 w0:=by
  refine region_loose (N:=107) (G:=liveGr 3) (by kernel_rfl) (by kernel_rfl) (by kernel_rfl) hsz (liveGr_below 3) (fun t ht hn=>liveGr_below 3 t _ _ _ (h0 t ht hn) (below_drew1 (Below.refl _ _))) ?_ (fun a w hb=>hend a w (bS (below_drew1 (Below.refl _ _)) hb));intro i o hi a w hb hsz' hG K hK
  match i,hi with
  | 0,hi=>
    obtain rfl:lq3_0=o:=Option.some.inj hi;unfold lq3_0 at hK ⊢;exact loose_call Try.func54 (by kernel_rfl) rfl #[] (by rfl) rfl (by simp) ((live_books w).mono (by rintro e w' ⟨v,rfl,hv,hb'⟩;exact ⟨_,rfl,hK _ _ hb' (fun t ht=>by cases ht;exact hv)⟩))
  | 1,hi=>
    obtain rfl:lq3_1=o:=Option.some.inj hi;unfold lq3_1 at hK ⊢;have g1:liveBox w (a.eval (.tmp 1)):=hG 1 (by decide) (by kernel_rfl);obtain ⟨bg,bA,bc,be,bh,bl,bC⟩:=g1;exact loose_run (by rfl) (w':=w) (run_load_wide 48 (.tmp 1) (by rfl) bg be #[.string (⟨#[100,101,98,116,115]⟩:ByteArray),.int .i64 (-1),.slice bA 1 bc] Try.underlying48 rfl (by kernel_rfl) ⟨(blk_cell bh 0).trans rfl,(blk_cell bh 1).trans rfl,(blk_cell bh 2).trans rfl,trivial⟩) (hK _ _ (Below.refl _ _) (fun t ht=>by cases ht;exact ⟨bA,bc,rfl,bl,bC⟩))
  | 2,hi=>
    obtain rfl:lq3_2=o:=Option.some.inj hi;unfold lq3_2 at hK ⊢;have g23:(liveRow (⟨#[100,101,98,116,115]⟩:ByteArray) (-1) [2]) w (a.eval (.tmp 23)):=hG 23 (by decide) (by kernel_rfl);obtain ⟨hA,c23,e23,l23,C23⟩:=g23;exact loose_run (by rfl) (w':=w.alloc (.cells #[.string (⟨#[100,101,98,116,115]⟩:ByteArray),.int .i64 (-1),.slice hA 1 c23] 48)) (v:=.slice (some ⟨w.heap.size,0,none⟩) 1 1) (by have hk:∀ v,a.eval (Operand.const v)=v:=fun _=>rfl;generalize a.eval=ρ at *;(go_simp;done)) (hK _ _ (below_alloc (Below.refl _ _) _) (fun t ht=>by cases ht;exact ⟨_,_,rfl,Nat.le_refl _,(live_lit1 k48 w 48 (⟨(⟨#[100,101,98,116,115]⟩:ByteArray),-1,[2]⟩:S48) [.string (⟨#[100,101,98,116,115]⟩:ByteArray),.int .i64 (-1),.slice hA 1 c23] (k48_mk _ (⟨(⟨#[100,101,98,116,115]⟩:ByteArray),-1,[2]⟩:S48) l23 (Kd.C_below C23 (below_alloc (Below.refl _ _) _))))⟩))
  | 3,hi=>
    obtain rfl:lq3_3=o:=Option.some.inj hi;unfold lq3_3 at hK ⊢;have g22:liveBooks w (a.eval (.tmp 22)):=hG 22 (by decide) (by kernel_rfl);have g24:(liveSl k48 [(⟨(⟨#[100,101,98,116,115]⟩:ByteArray),-1,[2]⟩:S48)]) w (a.eval (.tmp 24)):=hG 24 (by decide) (by kernel_rfl);obtain ⟨B0,d0,B1,d1,B2,d2,B17,d17,B18,d18,B19,d19,B20,d20,B21,d21,eb,q0,u0,q1,u1,q2,u2,q17,u17,q18,u18,q19,u19,q20,u20,q21,u21⟩:=g22;obtain ⟨iA,c24,e24,l24,C24⟩:=g24;exact loose_call Try.func20 (by kernel_rfl) rfl #[liveAgg B0 d0 B1 d1 B2 d2 B17 d17 B18 d18 B19 d19 B20 d20 B21 d21,.slice iA 1 c24,.int .i64 (5)] (by rfl) rfl (by simp only [List.map_toArray,List.map_cons,List.map_nil,eb,e24];rfl) ((report_Make.calls k B0 d0 lb0 B1 d1 lb1 B2 d2 lb2 (0) (21) (0) (0) (0) (0) (0) (0) (0) (0) (0) (0) (0) (0) B17 d17 lb17 B18 d18 lb18 B19 d19 lb19 B20 d20 lb20 B21 d21 lb21 iA c24 [(⟨(⟨#[100,101,98,116,115]⟩:ByteArray),-1,[2]⟩:S48)] (5) [(⟨(⟨#[100,101,98,116,115]⟩:ByteArray),(⟨#[69,85,82]⟩:ByteArray),0⟩:S58)] (0) w q0 u0 q1 u1 q2 u2 q17 u17 q18 u18 q19 u19 q20 u20 q21 u21 C24 l24 F25).mono (by rintro e w' ⟨v0,rfl,hR,hb'⟩;exact ⟨_,rfl,hK _ _ hb' (fun t ht=>by cases ht;exact ⟨v0,rfl,Kd.R_reads hR⟩)⟩))
  | 4,hi=>
    obtain rfl:lq3_4=o:=Option.some.inj hi;unfold lq3_4 at hK ⊢;have g25:(liveTup k58 [(⟨(⟨#[100,101,98,116,115]⟩:ByteArray),(⟨#[69,85,82]⟩:ByteArray),0⟩:S58)] (0)) w (a.eval (.tmp 25)):=hG 25 (by decide) (by kernel_rfl);exact loose_run (by rfl) (w':=w) (v:=a.eval (.tmp 25)) (BigFrame.run_move _ (by rfl) _) (hK _ _ (Below.refl _ _) (fun t ht=>by cases ht;exact g25))
  | 5,hi=>
    obtain rfl:lq3_5=o:=Option.some.inj hi;unfold lq3_5 at hK ⊢;have g21:(liveTup k58 [(⟨(⟨#[100,101,98,116,115]⟩:ByteArray),(⟨#[69,85,82]⟩:ByteArray),0⟩:S58)] (0)) w (a.eval (.tmp 21)):=hG 21 (by decide) (by kernel_rfl);obtain ⟨v0,e0,g0⟩:=g21;exact loose_run (by rfl) (w':=w) (v:=v0) (by have hk:∀ v,a.eval (Operand.const v)=v:=fun _=>rfl;generalize a.eval=ρ at *;(go_simp;done)) (hK _ _ (Below.refl _ _) (fun t ht=>by cases ht;exact g0))
  | 6,hi=>
    obtain rfl:lq3_6=o:=Option.some.inj hi;unfold lq3_6 at hK ⊢;have g21:(liveTup k58 [(⟨(⟨#[100,101,98,116,115]⟩:ByteArray),(⟨#[69,85,82]⟩:ByteArray),0⟩:S58)] (0)) w (a.eval (.tmp 21)):=hG 21 (by decide) (by kernel_rfl);obtain ⟨v0,e0,g0⟩:=g21;exact loose_run (by rfl) (w':=w) (v:=.int .i64 (0)) (by have hk:∀ v,a.eval (Operand.const v)=v:=fun _=>rfl;generalize a.eval=ρ at *;(go_simp;done)) (hK _ _ (Below.refl _ _) (fun t ht=>by cases ht;exact rfl))
  | 7,hi=>
    obtain rfl:lq3_7=o:=Option.some.inj hi;unfold lq3_7 at hK ⊢;have g26:(liveSl k58 [(⟨(⟨#[100,101,98,116,115]⟩:ByteArray),(⟨#[69,85,82]⟩:ByteArray),0⟩:S58)]) w (a.eval (.tmp 26)):=hG 26 (by decide) (by kernel_rfl);exact loose_run (by rfl) (w':=w) (v:=a.eval (.tmp 26)) (BigFrame.run_assign _ (by rfl) _) (hK _ _ (Below.refl _ _) (fun t ht=>by cases ht;exact g26))
  | 8,hi=>
    obtain rfl:lq3_8=o:=Option.some.inj hi;unfold lq3_8 at hK ⊢;have g27:(liveIs (.int .i64 (0))) w (a.eval (.tmp 27)):=hG 27 (by decide) (by kernel_rfl);exact loose_run (by rfl) (w':=w) (v:=a.eval (.tmp 27)) (BigFrame.run_assign _ (by rfl) _) (hK _ _ (Below.refl _ _) (fun t ht=>by cases ht;exact g27))
  | i + 9,hi=>cases hi
def lq4_0 : Oper := { dst := some 29, op := Op.call { callee := Callee.value (Operand.func 54), args := #[], argTypes := #[] }, type := 33, pos := "law.go:30", after := #[], guard := none }
def lq4_1 : Oper := { dst := some 30, op := Op.load 48 (Operand.tmp 1), type := 48, pos := "law.go:30", after := #[], guard := none }
def lq4_2 : Oper := { dst := some 31, op := Op.call { callee := Callee.value (Operand.func 23), args := #[Operand.tmp 29, Operand.tmp 30, Operand.const (Value.string { data := #[69, 85, 82] }), Operand.const (Value.int IntKind.i64 6)], argTypes := #[33, 48, 9, 3] }, type := 51, pos := "law.go:30", after := #[{ on := 0, ground := Ground.data }, { on := 1, ground := Ground.data }, { on := 0, ground := Ground.chain }], guard := none }
def lq4_3 : Oper := { dst := some 28, op := Op.move (Operand.tmp 31), type := 51, pos := "law.go:30", after := #[{ on := 2, ground := Ground.data }], guard := none }
def lq4_4 : Oper := { dst := some 32, op := Op.extract (Operand.tmp 28) 0, type := 46, pos := "law.go:30", after := #[{ on := 3, ground := Ground.data }], guard := none }
def lq4_5 : Oper := { dst := some 33, op := Op.extract (Operand.tmp 28) 1, type := 37, pos := "law.go:30", after := #[{ on := 3, ground := Ground.data }, { on := 6, ground := Ground.gcOnly Departure.lateStores }], guard := none }
def lq4_6 : Oper := { dst := some 6, op := Op.assign (Operand.tmp 32), type := 46, pos := "law.go:30", after := #[{ on := 4, ground := Ground.data }, { on := 2, ground := Ground.chain }, { on := 0, ground := Ground.phase }, { on := 1, ground := Ground.phase }, { on := 2, ground := Ground.phase }, { on := 3, ground := Ground.phase }, { on := 4, ground := Ground.phase }, { on := 5, ground := Ground.textOnly Departure.lateStores }], guard := none }
def lq4_7 : Oper := { dst := some 7, op := Op.assign (Operand.tmp 33), type := 37, pos := "law.go:30", after := #[{ on := 5, ground := Ground.data }, { on := 6, ground := Ground.chain }, { on := 0, ground := Ground.phase }, { on := 1, ground := Ground.phase }, { on := 2, ground := Ground.phase }, { on := 3, ground := Ground.phase }, { on := 4, ground := Ground.phase }, { on := 5, ground := Ground.phase }, { on := 6, ground := Ground.phase }], guard := none }
def liveOps4:Array Oper:=#[lq4_0,lq4_1,lq4_2,lq4_3,lq4_4,lq4_5,lq4_6,lq4_7]
set_option maxHeartbeats 8000000 in
set_option maxRecDepth 100000 in
theorem live_region4 (k:Nat) (F31:report_Drill.f k lb0 lb1 lb2 (0) (21) (0) (0) (0) (0) (0) (0) (0) (0) (0) (0) (0) (0) lb17 lb18 lb19 lb20 lb21 (⟨#[100,101,98,116,115]⟩:ByteArray) (-1) [2] (⟨#[69,85,82]⟩:ByteArray) (6)=some ([1],0)) {Q:Exit→Act→World→Prop} {a0:Act} {w0:World} (hsz:a0.tmps.size=107) (h0:∀ t,t < 107→notDst liveOps4 t=true→liveGr 4 t w0 (a0.eval (.tmp t)))
    (hend:∀ a w,Below w0.heap.size w0 w→a.tmps.size=107→a.defers=a0.defers→(∀ t,t < 107→liveGr 4 t w (a.eval (.tmp t)))→Q .normal a w):(Code.region 4 liveOps4 true).wp Try.prog Q a0 w0:=by
  refine region_loose (N:=107) (G:=liveGr 4) (by kernel_rfl) (by kernel_rfl) (by kernel_rfl) hsz (liveGr_below 4) (fun t ht hn=>liveGr_below 4 t _ _ _ (h0 t ht hn) (below_drew1 (Below.refl _ _))) ?_ (fun a w hb=>hend a w (bS (below_drew1 (Below.refl _ _)) hb));intro i o hi a w hb hsz' hG K hK
  match i,hi with
  | 0,hi=>
    obtain rfl:lq4_0=o:=Option.some.inj hi;unfold lq4_0 at hK ⊢;exact loose_call Try.func54 (by kernel_rfl) rfl #[] (by rfl) rfl (by simp) ((live_books w).mono (by rintro e w' ⟨v,rfl,hv,hb'⟩;exact ⟨_,rfl,hK _ _ hb' (fun t ht=>by cases ht;exact hv)⟩))
  | 1,hi=>
    obtain rfl:lq4_1=o:=Option.some.inj hi;unfold lq4_1 at hK ⊢;have g1:liveBox w (a.eval (.tmp 1)):=hG 1 (by decide) (by kernel_rfl);obtain ⟨bg,bA,bc,be,bh,bl,bC⟩:=g1;exact loose_run (by rfl) (w':=w) (run_load_wide 48 (.tmp 1) (by rfl) bg be #[.string (⟨#[100,101,98,116,115]⟩:ByteArray),.int .i64 (-1),.slice bA 1 bc] Try.underlying48 rfl (by kernel_rfl) ⟨(blk_cell bh 0).trans rfl,(blk_cell bh 1).trans rfl,(blk_cell bh 2).trans rfl,trivial⟩) (hK _ _ (Below.refl _ _) (fun t ht=>by cases ht;exact ⟨bA,bc,rfl,bl,bC⟩))
  | 2,hi=>
    obtain rfl:lq4_2=o:=Option.some.inj hi;unfold lq4_2 at hK ⊢;have g29:liveBooks w (a.eval (.tmp 29)):=hG 29 (by decide) (by kernel_rfl);have g30:(liveRow (⟨#[100,101,98,116,115]⟩:ByteArray) (-1) [2]) w (a.eval (.tmp 30)):=hG 30 (by decide) (by kernel_rfl);obtain ⟨B0,d0,B1,d1,B2,d2,B17,d17,B18,d18,B19,d19,B20,d20,B21,d21,eb,q0,u0,q1,u1,q2,u2,q17,u17,q18,u18,q19,u19,q20,u20,q21,u21⟩:=g29;obtain ⟨jA,c30,e30,l30,C30⟩:=g30;exact loose_call Try.func23 (by kernel_rfl) rfl #[liveAgg B0 d0 B1 d1 B2 d2 B17 d17 B18 d18 B19 d19 B20 d20 B21 d21,.agg #[.string (⟨#[100,101,98,116,115]⟩:ByteArray),.int .i64 (-1),.slice jA 1 c30],.string (⟨#[69,85,82]⟩:ByteArray),.int .i64 (6)] (by rfl) rfl (by simp only [List.map_toArray,List.map_cons,List.map_nil,eb,e30];rfl) ((report_Drill.calls k B0 d0 lb0 B1 d1 lb1 B2 d2 lb2 (0) (21) (0) (0) (0) (0) (0) (0) (0) (0) (0) (0) (0) (0) B17 d17 lb17 B18 d18 lb18 B19 d19 lb19 B20 d20 lb20 B21 d21 lb21 (⟨#[100,101,98,116,115]⟩:ByteArray) (-1) jA c30 [2] (⟨#[69,85,82]⟩:ByteArray) (6) [1] (0) w q0 u0 q1 u1 q2 u2 q17 u17 q18 u18 q19 u19 q20 u20 q21 u21 C30 l30 F31).mono (by rintro e w' ⟨v0,rfl,hR,hb'⟩;exact ⟨_,rfl,hK _ _ hb' (fun t ht=>by cases ht;exact ⟨v0,rfl,Kd.R_reads hR⟩)⟩))
  | 3,hi=>
    obtain rfl:lq4_3=o:=Option.some.inj hi;unfold lq4_3 at hK ⊢;have g31:(liveTup (Kd.int .i64) ([1]:List Int) (0)) w (a.eval (.tmp 31)):=hG 31 (by decide) (by kernel_rfl);exact loose_run (by rfl) (w':=w) (v:=a.eval (.tmp 31)) (BigFrame.run_move _ (by rfl) _) (hK _ _ (Below.refl _ _) (fun t ht=>by cases ht;exact g31))
  | 4,hi=>
    obtain rfl:lq4_4=o:=Option.some.inj hi;unfold lq4_4 at hK ⊢;have g28:(liveTup (Kd.int .i64) ([1]:List Int) (0)) w (a.eval (.tmp 28)):=hG 28 (by decide) (by kernel_rfl);obtain ⟨v0,e0,g0⟩:=g28;exact loose_run (by rfl) (w':=w) (v:=v0) (by have hk:∀ v,a.eval (Operand.const v)=v:=fun _=>rfl;generalize a.eval=ρ at *;(go_simp;done)) (hK _ _ (Below.refl _ _) (fun t ht=>by cases ht;exact g0))
  | 5,hi=>
    obtain rfl:lq4_5=o:=Option.some.inj hi;unfold lq4_5 at hK ⊢;have g28:(liveTup (Kd.int .i64) ([1]:List Int) (0)) w (a.eval (.tmp 28)):=hG 28 (by decide) (by kernel_rfl);obtain ⟨v0,e0,g0⟩:=g28;exact loose_run (by rfl) (w':=w) (v:=.int .i64 (0)) (by have hk:∀ v,a.eval (Operand.const v)=v:=fun _=>rfl;generalize a.eval=ρ at *;(go_simp;done)) (hK _ _ (Below.refl _ _) (fun t ht=>by cases ht;exact rfl))
  | 6,hi=>
    obtain rfl:lq4_6=o:=Option.some.inj hi;unfold lq4_6 at hK ⊢;have g32:(liveSl (Kd.int .i64) ([1]:List Int)) w (a.eval (.tmp 32)):=hG 32 (by decide) (by kernel_rfl);exact loose_run (by rfl) (w':=w) (v:=a.eval (.tmp 32)) (BigFrame.run_assign _ (by rfl) _) (hK _ _ (Below.refl _ _) (fun t ht=>by cases ht;exact g32))
  | 7,hi=>
    obtain rfl:lq4_7=o:=Option.some.inj hi;unfold lq4_7 at hK ⊢;have g33:(liveIs (.int .i64 (0))) w (a.eval (.tmp 33)):=hG 33 (by decide) (by kernel_rfl);exact loose_run (by rfl) (w':=w) (v:=a.eval (.tmp 33)) (BigFrame.run_assign _ (by rfl) _) (hK _ _ (Below.refl _ _) (fun t ht=>by cases ht;exact g33))
  | i + 8,hi=>cases hi
def lq5_0 : Oper := { dst := some 35, op := Op.call { callee := Callee.value (Operand.func 54), args := #[], argTypes := #[] }, type := 33, pos := "law.go:31", after := #[], guard := none }
def lq5_1 : Oper := { dst := some 36, op := Op.load 48 (Operand.tmp 1), type := 48, pos := "law.go:31", after := #[], guard := none }
def lq5_2 : Oper := { dst := some 37, op := Op.call { callee := Callee.value (Operand.func 23), args := #[Operand.tmp 35, Operand.tmp 36, Operand.const (Value.string { data := #[85, 83, 68] }), Operand.const (Value.int IntKind.i64 6)], argTypes := #[33, 48, 9, 3] }, type := 51, pos := "law.go:31", after := #[{ on := 0, ground := Ground.data }, { on := 1, ground := Ground.data }, { on := 0, ground := Ground.chain }], guard := none }
def lq5_3 : Oper := { dst := some 34, op := Op.move (Operand.tmp 37), type := 51, pos := "law.go:31", after := #[{ on := 2, ground := Ground.data }], guard := none }
def lq5_4 : Oper := { dst := some 38, op := Op.extract (Operand.tmp 34) 0, type := 46, pos := "law.go:31", after := #[{ on := 3, ground := Ground.data }], guard := none }
def lq5_5 : Oper := { dst := some 39, op := Op.extract (Operand.tmp 34) 1, type := 37, pos := "law.go:31", after := #[{ on := 3, ground := Ground.data }, { on := 6, ground := Ground.gcOnly Departure.lateStores }], guard := none }
def lq5_6 : Oper := { dst := some 8, op := Op.assign (Operand.tmp 38), type := 46, pos := "law.go:31", after := #[{ on := 4, ground := Ground.data }, { on := 2, ground := Ground.chain }, { on := 0, ground := Ground.phase }, { on := 1, ground := Ground.phase }, { on := 2, ground := Ground.phase }, { on := 3, ground := Ground.phase }, { on := 4, ground := Ground.phase }, { on := 5, ground := Ground.textOnly Departure.lateStores }], guard := none }
def lq5_7 : Oper := { dst := some 9, op := Op.assign (Operand.tmp 39), type := 37, pos := "law.go:31", after := #[{ on := 5, ground := Ground.data }, { on := 6, ground := Ground.chain }, { on := 0, ground := Ground.phase }, { on := 1, ground := Ground.phase }, { on := 2, ground := Ground.phase }, { on := 3, ground := Ground.phase }, { on := 4, ground := Ground.phase }, { on := 5, ground := Ground.phase }, { on := 6, ground := Ground.phase }], guard := none }
def liveOps5:Array Oper:=#[lq5_0,lq5_1,lq5_2,lq5_3,lq5_4,lq5_5,lq5_6,lq5_7]
set_option maxHeartbeats 8000000 in
set_option maxRecDepth 100000 in
theorem live_region5 (k:Nat) (F37:report_Drill.f k lb0 lb1 lb2 (0) (21) (0) (0) (0) (0) (0) (0) (0) (0) (0) (0) (0) (0) lb17 lb18 lb19 lb20 lb21 (⟨#[100,101,98,116,115]⟩:ByteArray) (-1) [2] (⟨#[85,83,68]⟩:ByteArray) (6)=some ([],14)) {Q:Exit→Act→World→Prop} {a0:Act} {w0:World} (hsz:a0.tmps.size=107) (h0:∀ t,t < 107→notDst liveOps5 t=true→liveGr 5 t w0 (a0.eval (.tmp t)))
    (hend:∀ a w,Below w0.heap.size w0 w→a.tmps.size=107→a.defers=a0.defers→(∀ t,t < 107→liveGr 5 t w (a.eval (.tmp t)))→Q .normal a w):(Code.region 5 liveOps5 true).wp Try.prog Q a0 w0:=by
  refine region_loose (N:=107) (G:=liveGr 5) (by kernel_rfl) (by kernel_rfl) (by kernel_rfl) hsz (liveGr_below 5) (fun t ht hn=>liveGr_below 5 t _ _ _ (h0 t ht hn) (below_drew1 (Below.refl _ _))) ?_ (fun a w hb=>hend a w (bS (below_drew1 (Below.refl _ _)) hb));intro i o hi a w hb hsz' hG K hK
  match i,hi with
  | 0,hi=>
    obtain rfl:lq5_0=o:=Option.some.inj hi;unfold lq5_0 at hK ⊢;exact loose_call Try.func54 (by kernel_rfl) rfl #[] (by rfl) rfl (by simp) ((live_books w).mono (by rintro e w' ⟨v,rfl,hv,hb'⟩;exact ⟨_,rfl,hK _ _ hb' (fun t ht=>by cases ht;exact hv)⟩))
  | 1,hi=>
    obtain rfl:lq5_1=o:=Option.some.inj hi;unfold lq5_1 at hK ⊢;have g1:liveBox w (a.eval (.tmp 1)):=hG 1 (by decide) (by kernel_rfl);obtain ⟨bg,bA,bc,be,bh,bl,bC⟩:=g1;exact loose_run (by rfl) (w':=w) (run_load_wide 48 (.tmp 1) (by rfl) bg be #[.string (⟨#[100,101,98,116,115]⟩:ByteArray),.int .i64 (-1),.slice bA 1 bc] Try.underlying48 rfl (by kernel_rfl) ⟨(blk_cell bh 0).trans rfl,(blk_cell bh 1).trans rfl,(blk_cell bh 2).trans rfl,trivial⟩) (hK _ _ (Below.refl _ _) (fun t ht=>by cases ht;exact ⟨bA,bc,rfl,bl,bC⟩))
  | 2,hi=>
    obtain rfl:lq5_2=o:=Option.some.inj hi;unfold lq5_2 at hK ⊢;have g35:liveBooks w (a.eval (.tmp 35)):=hG 35 (by decide) (by kernel_rfl);have g36:(liveRow (⟨#[100,101,98,116,115]⟩:ByteArray) (-1) [2]) w (a.eval (.tmp 36)):=hG 36 (by decide) (by kernel_rfl);obtain ⟨B0,d0,B1,d1,B2,d2,B17,d17,B18,d18,B19,d19,B20,d20,B21,d21,eb,q0,u0,q1,u1,q2,u2,q17,u17,q18,u18,q19,u19,q20,u20,q21,u21⟩:=g35;obtain ⟨kA,c36,e36,l36,C36⟩:=g36;exact loose_call Try.func23 (by kernel_rfl) rfl #[liveAgg B0 d0 B1 d1 B2 d2 B17 d17 B18 d18 B19 d19 B20 d20 B21 d21,.agg #[.string (⟨#[100,101,98,116,115]⟩:ByteArray),.int .i64 (-1),.slice kA 1 c36],.string (⟨#[85,83,68]⟩:ByteArray),.int .i64 (6)] (by rfl) rfl (by simp only [List.map_toArray,List.map_cons,List.map_nil,eb,e36];rfl) ((report_Drill.calls k B0 d0 lb0 B1 d1 lb1 B2 d2 lb2 (0) (21) (0) (0) (0) (0) (0) (0) (0) (0) (0) (0) (0) (0) B17 d17 lb17 B18 d18 lb18 B19 d19 lb19 B20 d20 lb20 B21 d21 lb21 (⟨#[100,101,98,116,115]⟩:ByteArray) (-1) kA c36 [2] (⟨#[85,83,68]⟩:ByteArray) (6) [] (14) w q0 u0 q1 u1 q2 u2 q17 u17 q18 u18 q19 u19 q20 u20 q21 u21 C36 l36 F37).mono (by rintro e w' ⟨v0,rfl,hR,hb'⟩;exact ⟨_,rfl,hK _ _ hb' (fun t ht=>by cases ht;exact ⟨v0,rfl,Kd.R_reads hR⟩)⟩))
  | 3,hi=>
    obtain rfl:lq5_3=o:=Option.some.inj hi;unfold lq5_3 at hK ⊢;have g37:(liveTup (Kd.int .i64) ([]:List Int) (14)) w (a.eval (.tmp 37)):=hG 37 (by decide) (by kernel_rfl);exact loose_run (by rfl) (w':=w) (v:=a.eval (.tmp 37)) (BigFrame.run_move _ (by rfl) _) (hK _ _ (Below.refl _ _) (fun t ht=>by cases ht;exact g37))
  | 4,hi=>
    obtain rfl:lq5_4=o:=Option.some.inj hi;unfold lq5_4 at hK ⊢;have g34:(liveTup (Kd.int .i64) ([]:List Int) (14)) w (a.eval (.tmp 34)):=hG 34 (by decide) (by kernel_rfl);obtain ⟨v0,e0,g0⟩:=g34;exact loose_run (by rfl) (w':=w) (v:=v0) (by have hk:∀ v,a.eval (Operand.const v)=v:=fun _=>rfl;generalize a.eval=ρ at *;(go_simp;done)) (hK _ _ (Below.refl _ _) (fun t ht=>by cases ht;exact g0))
  | 5,hi=>
    obtain rfl:lq5_5=o:=Option.some.inj hi;unfold lq5_5 at hK ⊢;have g34:(liveTup (Kd.int .i64) ([]:List Int) (14)) w (a.eval (.tmp 34)):=hG 34 (by decide) (by kernel_rfl);obtain ⟨v0,e0,g0⟩:=g34;exact loose_run (by rfl) (w':=w) (v:=.int .i64 (14)) (by have hk:∀ v,a.eval (Operand.const v)=v:=fun _=>rfl;generalize a.eval=ρ at *;(go_simp;done)) (hK _ _ (Below.refl _ _) (fun t ht=>by cases ht;exact rfl))
  | 6,hi=>
    obtain rfl:lq5_6=o:=Option.some.inj hi;unfold lq5_6 at hK ⊢;have g38:(liveSl (Kd.int .i64) ([]:List Int)) w (a.eval (.tmp 38)):=hG 38 (by decide) (by kernel_rfl);exact loose_run (by rfl) (w':=w) (v:=a.eval (.tmp 38)) (BigFrame.run_assign _ (by rfl) _) (hK _ _ (Below.refl _ _) (fun t ht=>by cases ht;exact g38))
  | 7,hi=>
    obtain rfl:lq5_7=o:=Option.some.inj hi;unfold lq5_7 at hK ⊢;have g39:(liveIs (.int .i64 (14))) w (a.eval (.tmp 39)):=hG 39 (by decide) (by kernel_rfl);exact loose_run (by rfl) (w':=w) (v:=a.eval (.tmp 39)) (BigFrame.run_assign _ (by rfl) _) (hK _ _ (Below.refl _ _) (fun t ht=>by cases ht;exact g39))
  | i + 8,hi=>cases hi
def lq6_0 : Oper := { dst := some 40, op := Op.move (Operand.tmp 3), type := 37, pos := "law.go:32", after := #[], guard := none }
def lq6_1 : Oper := { dst := some 41, op := Op.binOp BinOp.eql 37 (Operand.tmp 40) (Operand.const (Value.int IntKind.i64 0)) 37, type := 4, pos := "law.go:32", after := #[{ on := 0, ground := Ground.data }], guard := none }
def lq6_2 : Oper := { dst := some 42, op := Op.move (Operand.tmp 41), type := 4, pos := "law.go:32", after := #[{ on := 1, ground := Ground.data }], guard := none }
def lq6_3 : Oper := { dst := some 43, op := Op.move (Operand.tmp 2), type := 42, pos := "law.go:32", after := #[{ on := 2, ground := Ground.guard }], guard := some (2, true) }
def lq6_4 : Oper := { dst := some 44, op := Op.build 58 #[(0, Operand.const (Value.string { data := #[100, 101, 98, 116, 115] })), (1, Operand.const (Value.string { data := #[69, 85, 82] })), (2, Operand.const (Value.int IntKind.i64 500))], type := 58, pos := "law.go:32", after := #[{ on := 2, ground := Ground.guard }], guard := some (2, true) }
def lq6_5 : Oper := { dst := some 45, op := Op.build 58 #[(0, Operand.const (Value.string { data := #[97, 108, 108] })), (1, Operand.const (Value.string { data := #[69, 85, 82] }))], type := 58, pos := "law.go:32", after := #[{ on := 2, ground := Ground.guard }], guard := some (2, true) }
def lq6_6 : Oper := { dst := some 46, op := Op.buildSlice 42 2 #[(0, Operand.tmp 44), (1, Operand.tmp 45)], type := 42, pos := "law.go:32", after := #[{ on := 4, ground := Ground.data }, { on := 5, ground := Ground.data }, { on := 2, ground := Ground.guard }], guard := some (2, true) }
def lq6_7 : Oper := { dst := some 47, op := Op.call { callee := Callee.value (Operand.func 22), args := #[Operand.tmp 43, Operand.tmp 46], argTypes := #[42, 42] }, type := 4, pos := "law.go:32", after := #[{ on := 3, ground := Ground.data }, { on := 6, ground := Ground.data }, { on := 2, ground := Ground.chain }, { on := 2, ground := Ground.guard }], guard := some (2, true) }
def lq6_8 : Oper := { dst := some 48, op := Op.pick (Operand.tmp 42) (Operand.tmp 47) (Operand.const (Value.bool false)), type := 4, pos := "law.go:32", after := #[{ on := 2, ground := Ground.data }, { on := 7, ground := Ground.data }], guard := none }
def lq6_9 : Oper := { dst := some 49, op := Op.move (Operand.tmp 48), type := 4, pos := "law.go:32", after := #[{ on := 8, ground := Ground.data }, { on := 7, ground := Ground.chain }], guard := none }
def lq6_10 : Oper := { dst := some 50, op := Op.move (Operand.tmp 5), type := 37, pos := "law.go:32", after := #[{ on := 9, ground := Ground.guard }], guard := some (9, true) }
def lq6_11 : Oper := { dst := some 51, op := Op.binOp BinOp.eql 37 (Operand.tmp 50) (Operand.const (Value.int IntKind.i64 0)) 37, type := 4, pos := "law.go:32", after := #[{ on := 10, ground := Ground.data }, { on := 9, ground := Ground.guard }], guard := some (9, true) }
def lq6_12 : Oper := { dst := some 52, op := Op.pick (Operand.tmp 49) (Operand.tmp 51) (Operand.const (Value.bool false)), type := 4, pos := "law.go:32", after := #[{ on := 9, ground := Ground.data }, { on := 11, ground := Ground.data }], guard := none }
def lq6_13 : Oper := { dst := some 53, op := Op.move (Operand.tmp 52), type := 4, pos := "law.go:32", after := #[{ on := 12, ground := Ground.data }, { on := 9, ground := Ground.chain }], guard := none }
def lq6_14 : Oper := { dst := some 54, op := Op.move (Operand.tmp 4), type := 42, pos := "law.go:32", after := #[{ on := 13, ground := Ground.guard }], guard := some (13, true) }
def lq6_15 : Oper := { dst := some 55, op := Op.call { callee := Callee.builtin Builtin.len, args := #[Operand.tmp 54], argTypes := #[42] }, type := 3, pos := "law.go:32", after := #[{ on := 14, ground := Ground.data }, { on := 13, ground := Ground.guard }], guard := some (13, true) }
def lq6_16 : Oper := { dst := some 56, op := Op.binOp BinOp.eql 3 (Operand.tmp 55) (Operand.const (Value.int IntKind.i64 1)) 3, type := 4, pos := "law.go:32", after := #[{ on := 15, ground := Ground.data }, { on := 13, ground := Ground.guard }], guard := some (13, true) }
def lq6_17 : Oper := { dst := some 57, op := Op.pick (Operand.tmp 53) (Operand.tmp 56) (Operand.const (Value.bool false)), type := 4, pos := "law.go:32", after := #[{ on := 13, ground := Ground.data }, { on := 16, ground := Ground.data }], guard := none }
def lq6_18 : Oper := { dst := some 58, op := Op.move (Operand.tmp 57), type := 4, pos := "law.go:32", after := #[{ on := 17, ground := Ground.data }, { on := 13, ground := Ground.chain }], guard := none }
def lq6_19 : Oper := { dst := some 59, op := Op.move (Operand.tmp 4), type := 42, pos := "law.go:32", after := #[{ on := 18, ground := Ground.guard }], guard := some (18, true) }
def lq6_20 : Oper := { dst := some 60, op := Op.indexAddr 42 (Operand.tmp 59) (Operand.const (Value.int IntKind.i64 0)), type := 0, pos := "law.go:32", after := #[{ on := 19, ground := Ground.data }, { on := 18, ground := Ground.guard }], guard := some (18, true) }
def lq6_21 : Oper := { dst := some 61, op := Op.fieldAddr 58 (Operand.tmp 60) 2, type := 0, pos := "law.go:32", after := #[{ on := 20, ground := Ground.data }, { on := 18, ground := Ground.guard }], guard := some (18, true) }
def lq6_22 : Oper := { dst := some 62, op := Op.load 3 (Operand.tmp 61), type := 3, pos := "law.go:32", after := #[{ on := 21, ground := Ground.data }, { on := 18, ground := Ground.guard }], guard := some (18, true) }
def lq6_23 : Oper := { dst := some 63, op := Op.binOp BinOp.eql 3 (Operand.tmp 62) (Operand.const (Value.int IntKind.i64 0)) 3, type := 4, pos := "law.go:32", after := #[{ on := 22, ground := Ground.data }, { on := 18, ground := Ground.guard }], guard := some (18, true) }
def lq6_24 : Oper := { dst := some 64, op := Op.pick (Operand.tmp 58) (Operand.tmp 63) (Operand.const (Value.bool false)), type := 4, pos := "law.go:32", after := #[{ on := 18, ground := Ground.data }, { on := 23, ground := Ground.data }], guard := none }
def lq6_25 : Oper := { dst := some 65, op := Op.move (Operand.tmp 64), type := 4, pos := "law.go:32", after := #[{ on := 24, ground := Ground.data }, { on := 18, ground := Ground.chain }], guard := none }
def lq6_26 : Oper := { dst := some 66, op := Op.move (Operand.tmp 7), type := 37, pos := "law.go:32", after := #[{ on := 25, ground := Ground.guard }], guard := some (25, true) }
def lq6_27 : Oper := { dst := some 67, op := Op.binOp BinOp.eql 37 (Operand.tmp 66) (Operand.const (Value.int IntKind.i64 0)) 37, type := 4, pos := "law.go:32", after := #[{ on := 26, ground := Ground.data }, { on := 25, ground := Ground.guard }], guard := some (25, true) }
def lq6_28 : Oper := { dst := some 68, op := Op.pick (Operand.tmp 65) (Operand.tmp 67) (Operand.const (Value.bool false)), type := 4, pos := "law.go:32", after := #[{ on := 25, ground := Ground.data }, { on := 27, ground := Ground.data }], guard := none }
def lq6_29 : Oper := { dst := some 69, op := Op.move (Operand.tmp 68), type := 4, pos := "law.go:32", after := #[{ on := 28, ground := Ground.data }, { on := 25, ground := Ground.chain }], guard := none }
def lq6_30 : Oper := { dst := some 70, op := Op.move (Operand.tmp 6), type := 46, pos := "law.go:32", after := #[{ on := 29, ground := Ground.guard }], guard := some (29, true) }
def lq6_31 : Oper := { dst := some 71, op := Op.buildSlice 46 1 #[(0, Operand.const (Value.int IntKind.i64 1))], type := 46, pos := "law.go:32", after := #[{ on := 29, ground := Ground.guard }], guard := some (29, true) }
def lq6_32 : Oper := { dst := some 72, op := Op.call { callee := Callee.value (Operand.func 25), args := #[Operand.tmp 70, Operand.tmp 71], argTypes := #[46, 46] }, type := 4, pos := "law.go:32", after := #[{ on := 30, ground := Ground.data }, { on := 31, ground := Ground.data }, { on := 29, ground := Ground.chain }, { on := 29, ground := Ground.guard }], guard := some (29, true) }
def lq6_33 : Oper := { dst := some 73, op := Op.pick (Operand.tmp 69) (Operand.tmp 72) (Operand.const (Value.bool false)), type := 4, pos := "law.go:32", after := #[{ on := 29, ground := Ground.data }, { on := 32, ground := Ground.data }], guard := none }
def lq6_34 : Oper := { dst := some 74, op := Op.move (Operand.tmp 73), type := 4, pos := "law.go:32", after := #[{ on := 33, ground := Ground.data }, { on := 32, ground := Ground.chain }], guard := none }
def lq6_35 : Oper := { dst := some 75, op := Op.move (Operand.tmp 9), type := 37, pos := "law.go:32", after := #[{ on := 34, ground := Ground.guard }], guard := some (34, true) }
def lq6_36 : Oper := { dst := some 76, op := Op.binOp BinOp.eql 37 (Operand.tmp 75) (Operand.const (Value.int IntKind.i64 14)) 37, type := 4, pos := "law.go:32", after := #[{ on := 35, ground := Ground.data }, { on := 34, ground := Ground.guard }], guard := some (34, true) }
def lq6_37 : Oper := { dst := some 77, op := Op.pick (Operand.tmp 74) (Operand.tmp 76) (Operand.const (Value.bool false)), type := 4, pos := "law.go:32", after := #[{ on := 34, ground := Ground.data }, { on := 36, ground := Ground.data }], guard := none }
def lq6_38 : Oper := { dst := some 78, op := Op.move (Operand.tmp 77), type := 4, pos := "law.go:32", after := #[{ on := 37, ground := Ground.data }, { on := 34, ground := Ground.chain }], guard := none }
def lq6_39 : Oper := { dst := some 79, op := Op.call { callee := Callee.value (Operand.func 54), args := #[], argTypes := #[] }, type := 33, pos := "law.go:32", after := #[{ on := 38, ground := Ground.chain }, { on := 38, ground := Ground.guard }], guard := some (38, true) }
def lq6_40 : Oper := { dst := some 80, op := Op.load 48 (Operand.tmp 1), type := 48, pos := "law.go:32", after := #[{ on := 38, ground := Ground.guard }], guard := some (38, true) }
def lq6_41 : Oper := { dst := some 81, op := Op.call { callee := Callee.value (Operand.func 26), args := #[Operand.tmp 79, Operand.tmp 80, Operand.const (Value.string { data := #[69, 85, 82] }), Operand.const (Value.int IntKind.i64 1)], argTypes := #[33, 48, 9, 3] }, type := 3, pos := "law.go:32", after := #[{ on := 39, ground := Ground.data }, { on := 40, ground := Ground.data }, { on := 39, ground := Ground.chain }, { on := 38, ground := Ground.guard }], guard := some (38, true) }
def lq6_42 : Oper := { dst := some 82, op := Op.binOp BinOp.eql 3 (Operand.tmp 81) (Operand.const (Value.int IntKind.i64 500)) 3, type := 4, pos := "law.go:32", after := #[{ on := 41, ground := Ground.data }, { on := 38, ground := Ground.guard }], guard := some (38, true) }
def lq6_43 : Oper := { dst := some 83, op := Op.pick (Operand.tmp 78) (Operand.tmp 82) (Operand.const (Value.bool false)), type := 4, pos := "law.go:32", after := #[{ on := 38, ground := Ground.data }, { on := 42, ground := Ground.data }], guard := none }
def lq6_44 : Oper := { dst := some 84, op := Op.move (Operand.tmp 83), type := 4, pos := "law.go:32", after := #[{ on := 43, ground := Ground.data }, { on := 41, ground := Ground.chain }], guard := none }
def lq6_45 : Oper := { dst := some 85, op := Op.call { callee := Callee.value (Operand.func 54), args := #[], argTypes := #[] }, type := 33, pos := "law.go:32", after := #[{ on := 44, ground := Ground.chain }, { on := 44, ground := Ground.guard }], guard := some (44, true) }
def lq6_46 : Oper := { dst := some 86, op := Op.call { callee := Callee.value (Operand.func 17), args := #[Operand.tmp 85, Operand.const (Value.int IntKind.i64 1000)], argTypes := #[33, 3] }, type := 3, pos := "law.go:32", after := #[{ on := 45, ground := Ground.data }, { on := 45, ground := Ground.chain }, { on := 44, ground := Ground.guard }], guard := some (44, true) }
def lq6_47 : Oper := { dst := some 87, op := Op.binOp BinOp.eql 3 (Operand.tmp 86) (Operand.const (Value.int IntKind.i64 21)) 3, type := 4, pos := "law.go:32", after := #[{ on := 46, ground := Ground.data }, { on := 44, ground := Ground.guard }], guard := some (44, true) }
def lq6_48 : Oper := { dst := some 88, op := Op.pick (Operand.tmp 84) (Operand.tmp 87) (Operand.const (Value.bool false)), type := 4, pos := "law.go:32", after := #[{ on := 44, ground := Ground.data }, { on := 47, ground := Ground.data }], guard := none }
def lq6_49 : Oper := { dst := some 89, op := Op.move (Operand.tmp 88), type := 4, pos := "law.go:32", after := #[{ on := 48, ground := Ground.data }, { on := 46, ground := Ground.chain }], guard := none }
def lq6_50 : Oper := { dst := some 90, op := Op.call { callee := Callee.value (Operand.func 54), args := #[], argTypes := #[] }, type := 33, pos := "law.go:32", after := #[{ on := 49, ground := Ground.chain }, { on := 49, ground := Ground.guard }], guard := some (49, true) }
def lq6_51 : Oper := { dst := some 91, op := Op.call { callee := Callee.value (Operand.func 17), args := #[Operand.tmp 90, Operand.const (Value.int IntKind.i64 1001)], argTypes := #[33, 3] }, type := 3, pos := "law.go:32", after := #[{ on := 50, ground := Ground.data }, { on := 50, ground := Ground.chain }, { on := 49, ground := Ground.guard }], guard := some (49, true) }
def lq6_52 : Oper := { dst := some 92, op := Op.binOp BinOp.eql 3 (Operand.tmp 91) (Operand.const (Value.int IntKind.i64 0)) 3, type := 4, pos := "law.go:32", after := #[{ on := 51, ground := Ground.data }, { on := 49, ground := Ground.guard }], guard := some (49, true) }
def lq6_53 : Oper := { dst := some 93, op := Op.pick (Operand.tmp 89) (Operand.tmp 92) (Operand.const (Value.bool false)), type := 4, pos := "law.go:32", after := #[{ on := 49, ground := Ground.data }, { on := 52, ground := Ground.data }], guard := none }
def lq6_54 : Oper := { dst := some 94, op := Op.move (Operand.tmp 93), type := 4, pos := "law.go:32", after := #[{ on := 53, ground := Ground.data }, { on := 51, ground := Ground.chain }], guard := none }
def lq6_55 : Oper := { dst := some 95, op := Op.call { callee := Callee.value (Operand.func 54), args := #[], argTypes := #[] }, type := 33, pos := "law.go:32", after := #[{ on := 54, ground := Ground.chain }, { on := 54, ground := Ground.guard }], guard := some (54, true) }
def lq6_56 : Oper := { dst := some 96, op := Op.call { callee := Callee.value (Operand.func 17), args := #[Operand.tmp 95, Operand.const (Value.int IntKind.i64 11)], argTypes := #[33, 3] }, type := 3, pos := "law.go:32", after := #[{ on := 55, ground := Ground.data }, { on := 55, ground := Ground.chain }, { on := 54, ground := Ground.guard }], guard := some (54, true) }
def lq6_57 : Oper := { dst := some 97, op := Op.binOp BinOp.eql 3 (Operand.tmp 96) (Operand.const (Value.int IntKind.i64 11)) 3, type := 4, pos := "law.go:32", after := #[{ on := 56, ground := Ground.data }, { on := 54, ground := Ground.guard }], guard := some (54, true) }
def lq6_58 : Oper := { dst := some 98, op := Op.pick (Operand.tmp 94) (Operand.tmp 97) (Operand.const (Value.bool false)), type := 4, pos := "law.go:32", after := #[{ on := 54, ground := Ground.data }, { on := 57, ground := Ground.data }], guard := none }
def lq6_59 : Oper := { dst := some 99, op := Op.move (Operand.tmp 98), type := 4, pos := "law.go:32", after := #[{ on := 58, ground := Ground.data }, { on := 56, ground := Ground.chain }], guard := none }
def lq6_60 : Oper := { dst := some 100, op := Op.call { callee := Callee.value (Operand.func 54), args := #[], argTypes := #[] }, type := 33, pos := "law.go:32", after := #[{ on := 59, ground := Ground.chain }, { on := 59, ground := Ground.guard }], guard := some (59, true) }
def lq6_61 : Oper := { dst := some 101, op := Op.buildSlice 46 2 #[(0, Operand.const (Value.int IntKind.i64 1)), (1, Operand.const (Value.int IntKind.i64 11))], type := 46, pos := "law.go:32", after := #[{ on := 59, ground := Ground.guard }], guard := some (59, true) }
def lq6_62 : Oper := { dst := some 102, op := Op.build 48 #[(0, Operand.const (Value.string { data := #[120] })), (1, Operand.const (Value.int IntKind.i64 1)), (2, Operand.tmp 101)], type := 48, pos := "law.go:32", after := #[{ on := 61, ground := Ground.data }, { on := 59, ground := Ground.guard }], guard := some (59, true) }
def lq6_63 : Oper := { dst := some 103, op := Op.buildSlice 34 1 #[(0, Operand.tmp 102)], type := 34, pos := "law.go:32", after := #[{ on := 62, ground := Ground.data }, { on := 59, ground := Ground.guard }], guard := some (59, true) }
def lq6_64 : Oper := { dst := some 104, op := Op.call { callee := Callee.value (Operand.func 15), args := #[Operand.tmp 100, Operand.tmp 103], argTypes := #[33, 34] }, type := 37, pos := "law.go:32", after := #[{ on := 60, ground := Ground.data }, { on := 63, ground := Ground.data }, { on := 60, ground := Ground.chain }, { on := 59, ground := Ground.guard }], guard := some (59, true) }
def lq6_65 : Oper := { dst := some 105, op := Op.binOp BinOp.eql 37 (Operand.tmp 104) (Operand.const (Value.int IntKind.i64 12)) 37, type := 4, pos := "law.go:32", after := #[{ on := 64, ground := Ground.data }, { on := 59, ground := Ground.guard }], guard := some (59, true) }
def lq6_66 : Oper := { dst := some 106, op := Op.pick (Operand.tmp 99) (Operand.tmp 105) (Operand.const (Value.bool false)), type := 4, pos := "law.go:32", after := #[{ on := 59, ground := Ground.data }, { on := 65, ground := Ground.data }], guard := none }
def lq6_67 : Oper := { dst := some 0, op := Op.assign (Operand.tmp 106), type := 4, pos := "law.go:32", after := ([{ on := 66, ground := Ground.data }, { on := 64, ground := Ground.chain }, { on := 0, ground := Ground.phase }, { on := 1, ground := Ground.phase }, { on := 2, ground := Ground.phase }, { on := 3, ground := Ground.phase }, { on := 4, ground := Ground.phase }, { on := 5, ground := Ground.phase }, { on := 6, ground := Ground.phase }, { on := 7, ground := Ground.phase }, { on := 8, ground := Ground.phase }, { on := 9, ground := Ground.phase }, { on := 10, ground := Ground.phase }, { on := 11, ground := Ground.phase }, { on := 12, ground := Ground.phase }, { on := 13, ground := Ground.phase }, { on := 14, ground := Ground.phase }, { on := 15, ground := Ground.phase }, { on := 16, ground := Ground.phase }, { on := 17, ground := Ground.phase }, { on := 18, ground := Ground.phase }, { on := 19, ground := Ground.phase }, { on := 20, ground := Ground.phase }, { on := 21, ground := Ground.phase }, { on := 22, ground := Ground.phase }, { on := 23, ground := Ground.phase }, { on := 24, ground := Ground.phase }, { on := 25, ground := Ground.phase }, { on := 26, ground := Ground.phase }, { on := 27, ground := Ground.phase }, { on := 28, ground := Ground.phase }, { on := 29, ground := Ground.phase }, { on := 30, ground := Ground.phase }, { on := 31, ground := Ground.phase }].append [{ on := 32, ground := Ground.phase }, { on := 33, ground := Ground.phase }, { on := 34, ground := Ground.phase }, { on := 35, ground := Ground.phase }, { on := 36, ground := Ground.phase }, { on := 37, ground := Ground.phase }, { on := 38, ground := Ground.phase }, { on := 39, ground := Ground.phase }, { on := 40, ground := Ground.phase }, { on := 41, ground := Ground.phase }, { on := 42, ground := Ground.phase }, { on := 43, ground := Ground.phase }, { on := 44, ground := Ground.phase }, { on := 45, ground := Ground.phase }, { on := 46, ground := Ground.phase }, { on := 47, ground := Ground.phase }, { on := 48, ground := Ground.phase }, { on := 49, ground := Ground.phase }, { on := 50, ground := Ground.phase }, { on := 51, ground := Ground.phase }, { on := 52, ground := Ground.phase }, { on := 53, ground := Ground.phase }, { on := 54, ground := Ground.phase }, { on := 55, ground := Ground.phase }, { on := 56, ground := Ground.phase }, { on := 57, ground := Ground.phase }, { on := 58, ground := Ground.phase }, { on := 59, ground := Ground.phase }, { on := 60, ground := Ground.phase }, { on := 61, ground := Ground.phase }, { on := 62, ground := Ground.phase }, { on := 63, ground := Ground.phase }, { on := 64, ground := Ground.phase }, { on := 65, ground := Ground.phase }, { on := 66, ground := Ground.phase }]).toArray, guard := none }
def liveOps6:Array Oper:=([lq6_0,lq6_1,lq6_2,lq6_3,lq6_4,lq6_5,lq6_6,lq6_7,lq6_8,lq6_9,lq6_10,lq6_11,lq6_12,lq6_13,lq6_14,lq6_15,lq6_16,lq6_17,lq6_18,lq6_19,lq6_20,lq6_21,lq6_22,lq6_23,lq6_24,lq6_25,lq6_26,lq6_27,lq6_28,lq6_29,lq6_30,lq6_31,lq6_32,lq6_33].append [lq6_34,lq6_35,lq6_36,lq6_37,lq6_38,lq6_39,lq6_40,lq6_41,lq6_42,lq6_43,lq6_44,lq6_45,lq6_46,lq6_47,lq6_48,lq6_49,lq6_50,lq6_51,lq6_52,lq6_53,lq6_54,lq6_55,lq6_56,lq6_57,lq6_58,lq6_59,lq6_60,lq6_61,lq6_62,lq6_63,lq6_64,lq6_65,lq6_66,lq6_67]).toArray
set_option maxHeartbeats 8000000 in
set_option maxRecDepth 100000 in
theorem live_region6 (k:Nat) (F104:report_Check.f k lb0 lb1 lb2 (0) (21) (0) (0) (0) (0) (0) (0) (0) (0) (0) (0) (0) (0) lb17 lb18 lb19 lb20 lb21 [(⟨(⟨#[120]⟩:ByteArray),1,[1,11]⟩:S48)]=some (12)) (F47:corebankref49_SameCells.f k [(⟨(⟨#[100,101,98,116,115]⟩:ByteArray),(⟨#[69,85,82]⟩:ByteArray),500⟩:S58),(⟨(⟨#[97,108,108]⟩:ByteArray),(⟨#[69,85,82]⟩:ByteArray),0⟩:S58)] [(⟨(⟨#[100,101,98,116,115]⟩:ByteArray),(⟨#[69,85,82]⟩:ByteArray),500⟩:S58),(⟨(⟨#[97,108,108]⟩:ByteArray),(⟨#[69,85,82]⟩:ByteArray),0⟩:S58)]=some true) (F72:corebankref07_SameInts.f k [1] [1]=some true) (F81:report_Amount.f k lb0 lb1 lb2 (0) (21) (0) (0) (0) (0) (0) (0) (0) (0) (0) (0) (0) (0) lb17 lb18 lb19 lb20 lb21 (⟨#[100,101,98,116,115]⟩:ByteArray) (-1) [2] (⟨#[69,85,82]⟩:ByteArray) (1)=some (500)) (F86:report_Owner.f k lb0 lb1 lb2 (0) (21) (0) (0) (0) (0) (0) (0) (0) (0) (0) (0) (0) (0) lb17 lb18 lb19 lb20 lb21 (1000)=some (21)) (F91:report_Owner.f k lb0 lb1 lb2 (0) (21) (0) (0) (0) (0) (0) (0) (0) (0) (0) (0) (0) (0) lb17 lb18 lb19 lb20 lb21 (1001)=some (0)) (F96:report_Owner.f k lb0 lb1 lb2 (0) (21) (0) (0) (0) (0) (0) (0) (0) (0) (0) (0) (0) (0) lb17 lb18 lb19 lb20 lb21 (11)=some (11)) {Q:Exit→Act→World→Prop} {a0:Act} {w0:World} (hsz:a0.tmps.size=107) (h0:∀ t,t < 107→notDst liveOps6 t=true→liveGr 6 t w0 (a0.eval (.tmp t)))
    (hend:∀ a w,Below w0.heap.size w0 w→a.tmps.size=107→a.defers=a0.defers→(∀ t,t < 107→liveGr 6 t w (a.eval (.tmp t)))→Q .normal a w):(Code.region 6 liveOps6 true).wp Try.prog Q a0 w0:=by
  refine region_loose (N:=107) (G:=liveGr 6) (by kernel_rfl) (by kernel_rfl) (by kernel_rfl) hsz (liveGr_below 6) (fun t ht hn=>liveGr_below 6 t _ _ _ (h0 t ht hn) (below_drew1 (Below.refl _ _))) ?_ (fun a w hb=>hend a w (bS (below_drew1 (Below.refl _ _)) hb));intro i o hi a w hb hsz' hG K hK
  match i,hi with
  | 0,hi=>
    obtain rfl:lq6_0=o:=Option.some.inj hi;unfold lq6_0 at hK ⊢;have g3:(liveIs (.int .i64 (0))) w (a.eval (.tmp 3)):=hG 3 (by decide) (by kernel_rfl);exact loose_run (by rfl) (w':=w) (v:=a.eval (.tmp 3)) (BigFrame.run_move _ (by rfl) _) (hK _ _ (Below.refl _ _) (fun t ht=>by cases ht;exact g3))
  | 1,hi=>
    obtain rfl:lq6_1=o:=Option.some.inj hi;unfold lq6_1 at hK ⊢;have g40:(liveIs (.int .i64 (0))) w (a.eval (.tmp 40)):=hG 40 (by decide) (by kernel_rfl);have e40:a.eval (.tmp 40)=_:=g40;exact loose_run (by rfl) (w':=w) (v:=.bool true) (by have hk:∀ v,a.eval (Operand.const v)=v:=fun _=>rfl;generalize a.eval=ρ at *;(go_simp;done)) (hK _ _ (Below.refl _ _) (fun t ht=>by cases ht;exact rfl))
  | 2,hi=>
    obtain rfl:lq6_2=o:=Option.some.inj hi;unfold lq6_2 at hK ⊢;have g41:(liveIs (.bool true)) w (a.eval (.tmp 41)):=hG 41 (by decide) (by kernel_rfl);exact loose_run (by rfl) (w':=w) (v:=a.eval (.tmp 41)) (BigFrame.run_move _ (by rfl) _) (hK _ _ (Below.refl _ _) (fun t ht=>by cases ht;exact g41))
  | 3,hi=>
    obtain rfl:lq6_3=o:=Option.some.inj hi;unfold lq6_3 at hK ⊢;have gw:liveIs (.bool true) w (a.eval (.tmp 42)):=hG 42 (by decide) (by kernel_rfl);have g2:(liveSl k58 [(⟨(⟨#[100,101,98,116,115]⟩:ByteArray),(⟨#[69,85,82]⟩:ByteArray),500⟩:S58),(⟨(⟨#[97,108,108]⟩:ByteArray),(⟨#[69,85,82]⟩:ByteArray),0⟩:S58)]) w (a.eval (.tmp 2)):=hG 2 (by decide) (by kernel_rfl);exact loose_run (loose_want (by rfl) (show liveOps6[2]?=some _ from rfl) (by rfl) gw) (w':=w) (v:=a.eval (.tmp 2)) (BigFrame.run_move _ (by rfl) _) (hK _ _ (Below.refl _ _) (fun t ht=>by cases ht;exact g2))
  | 4,hi=>
    obtain rfl:lq6_4=o:=Option.some.inj hi;unfold lq6_4 at hK ⊢;have gw:liveIs (.bool true) w (a.eval (.tmp 42)):=hG 42 (by decide) (by kernel_rfl);exact loose_run (loose_want (by rfl) (show liveOps6[2]?=some _ from rfl) (by rfl) gw) (w':=w) (v:=.agg #[.string (⟨#[100,101,98,116,115]⟩:ByteArray),.string (⟨#[69,85,82]⟩:ByteArray),.int .i64 (500)]) (by have hk:∀ v,a.eval (Operand.const v)=v:=fun _=>rfl;generalize a.eval=ρ at *;(go_simp;done)) (hK _ _ (Below.refl _ _) (fun t ht=>by cases ht;exact rfl))
  | 5,hi=>
    obtain rfl:lq6_5=o:=Option.some.inj hi;unfold lq6_5 at hK ⊢;have gw:liveIs (.bool true) w (a.eval (.tmp 42)):=hG 42 (by decide) (by kernel_rfl);exact loose_run (loose_want (by rfl) (show liveOps6[2]?=some _ from rfl) (by rfl) gw) (w':=w) (v:=.agg #[.string (⟨#[97,108,108]⟩:ByteArray),.string (⟨#[69,85,82]⟩:ByteArray),.int .i64 (0)]) (by have hk:∀ v,a.eval (Operand.const v)=v:=fun _=>rfl;generalize a.eval=ρ at *;(go_simp;done)) (hK _ _ (Below.refl _ _) (fun t ht=>by cases ht;exact rfl))
  | 6,hi=>
    obtain rfl:lq6_6=o:=Option.some.inj hi;unfold lq6_6 at hK ⊢;have gw:liveIs (.bool true) w (a.eval (.tmp 42)):=hG 42 (by decide) (by kernel_rfl);have g44:(liveIs (.agg #[.string (⟨#[100,101,98,116,115]⟩:ByteArray),.string (⟨#[69,85,82]⟩:ByteArray),.int .i64 (500)])) w (a.eval (.tmp 44)):=hG 44 (by decide) (by kernel_rfl);have g45:(liveIs (.agg #[.string (⟨#[97,108,108]⟩:ByteArray),.string (⟨#[69,85,82]⟩:ByteArray),.int .i64 (0)])) w (a.eval (.tmp 45)):=hG 45 (by decide) (by kernel_rfl);have e44:a.eval (.tmp 44)=_:=g44;have e45:a.eval (.tmp 45)=_:=g45;exact loose_run (loose_want (by rfl) (show liveOps6[2]?=some _ from rfl) (by rfl) gw) (w':=w.alloc (.cells #[.string (⟨#[100,101,98,116,115]⟩:ByteArray),.string (⟨#[69,85,82]⟩:ByteArray),.int .i64 (500),.string (⟨#[97,108,108]⟩:ByteArray),.string (⟨#[69,85,82]⟩:ByteArray),.int .i64 (0)] 58)) (v:=.slice (some ⟨w.heap.size,0,none⟩) 2 2) (by have hk:∀ v,a.eval (Operand.const v)=v:=fun _=>rfl;generalize a.eval=ρ at *;(go_simp;done)) (hK _ _ (below_alloc (Below.refl _ _) _) (fun t ht=>by cases ht;exact ⟨_,_,rfl,Nat.le_refl _,(live_lit2 k58 w 58 (⟨(⟨#[100,101,98,116,115]⟩:ByteArray),(⟨#[69,85,82]⟩:ByteArray),500⟩:S58) (⟨(⟨#[97,108,108]⟩:ByteArray),(⟨#[69,85,82]⟩:ByteArray),0⟩:S58) [.string (⟨#[100,101,98,116,115]⟩:ByteArray),.string (⟨#[69,85,82]⟩:ByteArray),.int .i64 (500)] [.string (⟨#[97,108,108]⟩:ByteArray),.string (⟨#[69,85,82]⟩:ByteArray),.int .i64 (0)] (k58_mk _ (⟨(⟨#[100,101,98,116,115]⟩:ByteArray),(⟨#[69,85,82]⟩:ByteArray),500⟩:S58)) (k58_mk _ (⟨(⟨#[97,108,108]⟩:ByteArray),(⟨#[69,85,82]⟩:ByteArray),0⟩:S58)))⟩))
  | 7,hi=>
    obtain rfl:lq6_7=o:=Option.some.inj hi;unfold lq6_7 at hK ⊢;have gw:liveIs (.bool true) w (a.eval (.tmp 42)):=hG 42 (by decide) (by kernel_rfl);have g43:(liveSl k58 [(⟨(⟨#[100,101,98,116,115]⟩:ByteArray),(⟨#[69,85,82]⟩:ByteArray),500⟩:S58),(⟨(⟨#[97,108,108]⟩:ByteArray),(⟨#[69,85,82]⟩:ByteArray),0⟩:S58)]) w (a.eval (.tmp 43)):=hG 43 (by decide) (by kernel_rfl);have g46:(liveSl k58 [(⟨(⟨#[100,101,98,116,115]⟩:ByteArray),(⟨#[69,85,82]⟩:ByteArray),500⟩:S58),(⟨(⟨#[97,108,108]⟩:ByteArray),(⟨#[69,85,82]⟩:ByteArray),0⟩:S58)]) w (a.eval (.tmp 46)):=hG 46 (by decide) (by kernel_rfl);obtain ⟨lA,c43,e43,l43,C43⟩:=g43;obtain ⟨mA,c46,e46,l46,C46⟩:=g46;exact loose_call Try.func22 (by kernel_rfl) rfl #[.slice lA 2 c43,.slice mA 2 c46] (loose_want (by rfl) (show liveOps6[2]?=some _ from rfl) (by rfl) gw) rfl (by simp only [List.map_toArray,List.map_cons,List.map_nil,e43,e46];rfl) ((corebankref49_SameCells.calls k lA c43 [(⟨(⟨#[100,101,98,116,115]⟩:ByteArray),(⟨#[69,85,82]⟩:ByteArray),500⟩:S58),(⟨(⟨#[97,108,108]⟩:ByteArray),(⟨#[69,85,82]⟩:ByteArray),0⟩:S58)] mA c46 [(⟨(⟨#[100,101,98,116,115]⟩:ByteArray),(⟨#[69,85,82]⟩:ByteArray),500⟩:S58),(⟨(⟨#[97,108,108]⟩:ByteArray),(⟨#[69,85,82]⟩:ByteArray),0⟩:S58)] true w C43 l43 C46 l46 F47).mono (by rintro e w' ⟨rfl,hb'⟩;exact ⟨_,rfl,hK _ _ hb'.below (fun t ht=>by cases ht;exact rfl)⟩))
  | 8,hi=>
    obtain rfl:lq6_8=o:=Option.some.inj hi;unfold lq6_8 at hK ⊢;have g42:(liveIs (.bool true)) w (a.eval (.tmp 42)):=hG 42 (by decide) (by kernel_rfl);have g47:(liveIs (.bool true)) w (a.eval (.tmp 47)):=hG 47 (by decide) (by kernel_rfl);have e42:a.eval (.tmp 42)=_:=g42;have e47:a.eval (.tmp 47)=_:=g47;exact loose_run (by rfl) (w':=w) (v:=.bool true) (by have hk:∀ v,a.eval (Operand.const v)=v:=fun _=>rfl;generalize a.eval=ρ at *;(go_simp;done)) (hK _ _ (Below.refl _ _) (fun t ht=>by cases ht;exact rfl))
  | 9,hi=>
    obtain rfl:lq6_9=o:=Option.some.inj hi;unfold lq6_9 at hK ⊢;have g48:(liveIs (.bool true)) w (a.eval (.tmp 48)):=hG 48 (by decide) (by kernel_rfl);exact loose_run (by rfl) (w':=w) (v:=a.eval (.tmp 48)) (BigFrame.run_move _ (by rfl) _) (hK _ _ (Below.refl _ _) (fun t ht=>by cases ht;exact g48))
  | 10,hi=>
    obtain rfl:lq6_10=o:=Option.some.inj hi;unfold lq6_10 at hK ⊢;have gw:liveIs (.bool true) w (a.eval (.tmp 49)):=hG 49 (by decide) (by kernel_rfl);have g5:(liveIs (.int .i64 (0))) w (a.eval (.tmp 5)):=hG 5 (by decide) (by kernel_rfl);exact loose_run (loose_want (by rfl) (show liveOps6[9]?=some _ from rfl) (by rfl) gw) (w':=w) (v:=a.eval (.tmp 5)) (BigFrame.run_move _ (by rfl) _) (hK _ _ (Below.refl _ _) (fun t ht=>by cases ht;exact g5))
  | 11,hi=>
    obtain rfl:lq6_11=o:=Option.some.inj hi;unfold lq6_11 at hK ⊢;have gw:liveIs (.bool true) w (a.eval (.tmp 49)):=hG 49 (by decide) (by kernel_rfl);have g50:(liveIs (.int .i64 (0))) w (a.eval (.tmp 50)):=hG 50 (by decide) (by kernel_rfl);have e50:a.eval (.tmp 50)=_:=g50;exact loose_run (loose_want (by rfl) (show liveOps6[9]?=some _ from rfl) (by rfl) gw) (w':=w) (v:=.bool true) (by have hk:∀ v,a.eval (Operand.const v)=v:=fun _=>rfl;generalize a.eval=ρ at *;(go_simp;done)) (hK _ _ (Below.refl _ _) (fun t ht=>by cases ht;exact rfl))
  | 12,hi=>
    obtain rfl:lq6_12=o:=Option.some.inj hi;unfold lq6_12 at hK ⊢;have g49:(liveIs (.bool true)) w (a.eval (.tmp 49)):=hG 49 (by decide) (by kernel_rfl);have g51:(liveIs (.bool true)) w (a.eval (.tmp 51)):=hG 51 (by decide) (by kernel_rfl);have e49:a.eval (.tmp 49)=_:=g49;have e51:a.eval (.tmp 51)=_:=g51;exact loose_run (by rfl) (w':=w) (v:=.bool true) (by have hk:∀ v,a.eval (Operand.const v)=v:=fun _=>rfl;generalize a.eval=ρ at *;(go_simp;done)) (hK _ _ (Below.refl _ _) (fun t ht=>by cases ht;exact rfl))
  | 13,hi=>
    obtain rfl:lq6_13=o:=Option.some.inj hi;unfold lq6_13 at hK ⊢;have g52:(liveIs (.bool true)) w (a.eval (.tmp 52)):=hG 52 (by decide) (by kernel_rfl);exact loose_run (by rfl) (w':=w) (v:=a.eval (.tmp 52)) (BigFrame.run_move _ (by rfl) _) (hK _ _ (Below.refl _ _) (fun t ht=>by cases ht;exact g52))
  | 14,hi=>
    obtain rfl:lq6_14=o:=Option.some.inj hi;unfold lq6_14 at hK ⊢;have gw:liveIs (.bool true) w (a.eval (.tmp 53)):=hG 53 (by decide) (by kernel_rfl);have g4:(liveSl k58 [(⟨(⟨#[100,101,98,116,115]⟩:ByteArray),(⟨#[69,85,82]⟩:ByteArray),0⟩:S58)]) w (a.eval (.tmp 4)):=hG 4 (by decide) (by kernel_rfl);exact loose_run (loose_want (by rfl) (show liveOps6[13]?=some _ from rfl) (by rfl) gw) (w':=w) (v:=a.eval (.tmp 4)) (BigFrame.run_move _ (by rfl) _) (hK _ _ (Below.refl _ _) (fun t ht=>by cases ht;exact g4))
  | 15,hi=>
    obtain rfl:lq6_15=o:=Option.some.inj hi;unfold lq6_15 at hK ⊢;have gw:liveIs (.bool true) w (a.eval (.tmp 53)):=hG 53 (by decide) (by kernel_rfl);have g54:(liveSl k58 [(⟨(⟨#[100,101,98,116,115]⟩:ByteArray),(⟨#[69,85,82]⟩:ByteArray),0⟩:S58)]) w (a.eval (.tmp 54)):=hG 54 (by decide) (by kernel_rfl);obtain ⟨A,c,e,l,C⟩:=g54;exact loose_run (loose_want (by rfl) (show liveOps6[13]?=some _ from rfl) (by rfl) gw) (w':=w) (v:=.int .i64 (1)) (by have hk:∀ v,a.eval (Operand.const v)=v:=fun _=>rfl;generalize a.eval=ρ at *;(go_simp;done)) (hK _ _ (Below.refl _ _) (fun t ht=>by cases ht;exact rfl))
  | 16,hi=>
    obtain rfl:lq6_16=o:=Option.some.inj hi;unfold lq6_16 at hK ⊢;have gw:liveIs (.bool true) w (a.eval (.tmp 53)):=hG 53 (by decide) (by kernel_rfl);have g55:(liveIs (.int .i64 (1))) w (a.eval (.tmp 55)):=hG 55 (by decide) (by kernel_rfl);have e55:a.eval (.tmp 55)=_:=g55;exact loose_run (loose_want (by rfl) (show liveOps6[13]?=some _ from rfl) (by rfl) gw) (w':=w) (v:=.bool true) (by have hk:∀ v,a.eval (Operand.const v)=v:=fun _=>rfl;generalize a.eval=ρ at *;(go_simp;done)) (hK _ _ (Below.refl _ _) (fun t ht=>by cases ht;exact rfl))
  | 17,hi=>
    obtain rfl:lq6_17=o:=Option.some.inj hi;unfold lq6_17 at hK ⊢;have g53:(liveIs (.bool true)) w (a.eval (.tmp 53)):=hG 53 (by decide) (by kernel_rfl);have g56:(liveIs (.bool true)) w (a.eval (.tmp 56)):=hG 56 (by decide) (by kernel_rfl);have e53:a.eval (.tmp 53)=_:=g53;have e56:a.eval (.tmp 56)=_:=g56;exact loose_run (by rfl) (w':=w) (v:=.bool true) (by have hk:∀ v,a.eval (Operand.const v)=v:=fun _=>rfl;generalize a.eval=ρ at *;(go_simp;done)) (hK _ _ (Below.refl _ _) (fun t ht=>by cases ht;exact rfl))
  | 18,hi=>
    obtain rfl:lq6_18=o:=Option.some.inj hi;unfold lq6_18 at hK ⊢;have g57:(liveIs (.bool true)) w (a.eval (.tmp 57)):=hG 57 (by decide) (by kernel_rfl);exact loose_run (by rfl) (w':=w) (v:=a.eval (.tmp 57)) (BigFrame.run_move _ (by rfl) _) (hK _ _ (Below.refl _ _) (fun t ht=>by cases ht;exact g57))
  | 19,hi=>
    obtain rfl:lq6_19=o:=Option.some.inj hi;unfold lq6_19 at hK ⊢;have gw:liveIs (.bool true) w (a.eval (.tmp 58)):=hG 58 (by decide) (by kernel_rfl);have g4:(liveSl k58 [(⟨(⟨#[100,101,98,116,115]⟩:ByteArray),(⟨#[69,85,82]⟩:ByteArray),0⟩:S58)]) w (a.eval (.tmp 4)):=hG 4 (by decide) (by kernel_rfl);exact loose_run (loose_want (by rfl) (show liveOps6[18]?=some _ from rfl) (by rfl) gw) (w':=w) (v:=a.eval (.tmp 4)) (BigFrame.run_move _ (by rfl) _) (hK _ _ (Below.refl _ _) (fun t ht=>by cases ht;exact g4))
  | 20,hi=>
    obtain rfl:lq6_20=o:=Option.some.inj hi;unfold lq6_20 at hK ⊢;have gw:liveIs (.bool true) w (a.eval (.tmp 58)):=hG 58 (by decide) (by kernel_rfl);have g59:(liveSl k58 [(⟨(⟨#[100,101,98,116,115]⟩:ByteArray),(⟨#[69,85,82]⟩:ByteArray),0⟩:S58)]) w (a.eval (.tmp 59)):=hG 59 (by decide) (by kernel_rfl);obtain ⟨A,c,e,l,C⟩:=g59;obtain ⟨ad,eA,hx0,hx1,hx2⟩:=at_T58 C 0 (by decide) (by decide);cases eA;(have ez:ad.add ((0:Int).toNat * 3)=ad:=by unfold Addr.add;rw [if_pos (by decide)]);rw [ez] at hx2;exact loose_run (loose_want (by rfl) (show liveOps6[18]?=some _ from rfl) (by rfl) gw) (w':=w) (v:=.pointer (some (ad.add (0:Int).toNat))) (by have hk:∀ v,a.eval (Operand.const v)=v:=fun _=>rfl;generalize a.eval=ρ at *;(go_simp;done)) (hK _ _ (Below.refl _ _) (fun t ht=>by cases ht;exact ⟨ad,by unfold Addr.add;rw [if_pos (by decide)],hx2⟩))
  | 21,hi=>
    obtain rfl:lq6_21=o:=Option.some.inj hi;unfold lq6_21 at hK ⊢;have gw:liveIs (.bool true) w (a.eval (.tmp 58)):=hG 58 (by decide) (by kernel_rfl);have g60:liveElem w (a.eval (.tmp 60)):=hG 60 (by decide) (by kernel_rfl);obtain ⟨p,e,hx⟩:=g60;exact loose_run (loose_want (by rfl) (show liveOps6[18]?=some _ from rfl) (by rfl) gw) (w':=w) (v:=.pointer (some ⟨p.block,p.off + 2,none⟩)) (by have hk:∀ v,a.eval (Operand.const v)=v:=fun _=>rfl;generalize a.eval=ρ at *;(go_simp;done)) (hK _ _ (Below.refl _ _) (fun t ht=>by cases ht;exact ⟨_,rfl,hx⟩))
  | 22,hi=>
    obtain rfl:lq6_22=o:=Option.some.inj hi;unfold lq6_22 at hK ⊢;have gw:liveIs (.bool true) w (a.eval (.tmp 58)):=hG 58 (by decide) (by kernel_rfl);have g61:livePtr w (a.eval (.tmp 61)):=hG 61 (by decide) (by kernel_rfl);obtain ⟨p,e,hx⟩:=g61;exact loose_run (loose_want (by rfl) (show liveOps6[18]?=some _ from rfl) (by rfl) gw) (w':=w) (v:=.int .i64 0) (by have hk:∀ v,a.eval (Operand.const v)=v:=fun _=>rfl;generalize a.eval=ρ at *;(go_simp;done)) (hK _ _ (Below.refl _ _) (fun t ht=>by cases ht;exact rfl))
  | 23,hi=>
    obtain rfl:lq6_23=o:=Option.some.inj hi;unfold lq6_23 at hK ⊢;have gw:liveIs (.bool true) w (a.eval (.tmp 58)):=hG 58 (by decide) (by kernel_rfl);have g62:(liveIs (.int .i64 (0))) w (a.eval (.tmp 62)):=hG 62 (by decide) (by kernel_rfl);have e62:a.eval (.tmp 62)=_:=g62;exact loose_run (loose_want (by rfl) (show liveOps6[18]?=some _ from rfl) (by rfl) gw) (w':=w) (v:=.bool true) (by have hk:∀ v,a.eval (Operand.const v)=v:=fun _=>rfl;generalize a.eval=ρ at *;(go_simp;done)) (hK _ _ (Below.refl _ _) (fun t ht=>by cases ht;exact rfl))
  | 24,hi=>
    obtain rfl:lq6_24=o:=Option.some.inj hi;unfold lq6_24 at hK ⊢;have g58:(liveIs (.bool true)) w (a.eval (.tmp 58)):=hG 58 (by decide) (by kernel_rfl);have g63:(liveIs (.bool true)) w (a.eval (.tmp 63)):=hG 63 (by decide) (by kernel_rfl);have e58:a.eval (.tmp 58)=_:=g58;have e63:a.eval (.tmp 63)=_:=g63;exact loose_run (by rfl) (w':=w) (v:=.bool true) (by have hk:∀ v,a.eval (Operand.const v)=v:=fun _=>rfl;generalize a.eval=ρ at *;(go_simp;done)) (hK _ _ (Below.refl _ _) (fun t ht=>by cases ht;exact rfl))
  | 25,hi=>
    obtain rfl:lq6_25=o:=Option.some.inj hi;unfold lq6_25 at hK ⊢;have g64:(liveIs (.bool true)) w (a.eval (.tmp 64)):=hG 64 (by decide) (by kernel_rfl);exact loose_run (by rfl) (w':=w) (v:=a.eval (.tmp 64)) (BigFrame.run_move _ (by rfl) _) (hK _ _ (Below.refl _ _) (fun t ht=>by cases ht;exact g64))
  | 26,hi=>
    obtain rfl:lq6_26=o:=Option.some.inj hi;unfold lq6_26 at hK ⊢;have gw:liveIs (.bool true) w (a.eval (.tmp 65)):=hG 65 (by decide) (by kernel_rfl);have g7:(liveIs (.int .i64 (0))) w (a.eval (.tmp 7)):=hG 7 (by decide) (by kernel_rfl);exact loose_run (loose_want (by rfl) (show liveOps6[25]?=some _ from rfl) (by rfl) gw) (w':=w) (v:=a.eval (.tmp 7)) (BigFrame.run_move _ (by rfl) _) (hK _ _ (Below.refl _ _) (fun t ht=>by cases ht;exact g7))
  | 27,hi=>
    obtain rfl:lq6_27=o:=Option.some.inj hi;unfold lq6_27 at hK ⊢;have gw:liveIs (.bool true) w (a.eval (.tmp 65)):=hG 65 (by decide) (by kernel_rfl);have g66:(liveIs (.int .i64 (0))) w (a.eval (.tmp 66)):=hG 66 (by decide) (by kernel_rfl);have e66:a.eval (.tmp 66)=_:=g66;exact loose_run (loose_want (by rfl) (show liveOps6[25]?=some _ from rfl) (by rfl) gw) (w':=w) (v:=.bool true) (by have hk:∀ v,a.eval (Operand.const v)=v:=fun _=>rfl;generalize a.eval=ρ at *;(go_simp;done)) (hK _ _ (Below.refl _ _) (fun t ht=>by cases ht;exact rfl))
  | 28,hi=>
    obtain rfl:lq6_28=o:=Option.some.inj hi;unfold lq6_28 at hK ⊢;have g65:(liveIs (.bool true)) w (a.eval (.tmp 65)):=hG 65 (by decide) (by kernel_rfl);have g67:(liveIs (.bool true)) w (a.eval (.tmp 67)):=hG 67 (by decide) (by kernel_rfl);have e65:a.eval (.tmp 65)=_:=g65;have e67:a.eval (.tmp 67)=_:=g67;exact loose_run (by rfl) (w':=w) (v:=.bool true) (by have hk:∀ v,a.eval (Operand.const v)=v:=fun _=>rfl;generalize a.eval=ρ at *;(go_simp;done)) (hK _ _ (Below.refl _ _) (fun t ht=>by cases ht;exact rfl))
  | 29,hi=>
    obtain rfl:lq6_29=o:=Option.some.inj hi;unfold lq6_29 at hK ⊢;have g68:(liveIs (.bool true)) w (a.eval (.tmp 68)):=hG 68 (by decide) (by kernel_rfl);exact loose_run (by rfl) (w':=w) (v:=a.eval (.tmp 68)) (BigFrame.run_move _ (by rfl) _) (hK _ _ (Below.refl _ _) (fun t ht=>by cases ht;exact g68))
  | 30,hi=>
    obtain rfl:lq6_30=o:=Option.some.inj hi;unfold lq6_30 at hK ⊢;have gw:liveIs (.bool true) w (a.eval (.tmp 69)):=hG 69 (by decide) (by kernel_rfl);have g6:(liveSl (Kd.int .i64) ([1]:List Int)) w (a.eval (.tmp 6)):=hG 6 (by decide) (by kernel_rfl);exact loose_run (loose_want (by rfl) (show liveOps6[29]?=some _ from rfl) (by rfl) gw) (w':=w) (v:=a.eval (.tmp 6)) (BigFrame.run_move _ (by rfl) _) (hK _ _ (Below.refl _ _) (fun t ht=>by cases ht;exact g6))
  | 31,hi=>
    obtain rfl:lq6_31=o:=Option.some.inj hi;unfold lq6_31 at hK ⊢;have gw:liveIs (.bool true) w (a.eval (.tmp 69)):=hG 69 (by decide) (by kernel_rfl);exact loose_run (loose_want (by rfl) (show liveOps6[29]?=some _ from rfl) (by rfl) gw) (w':=w.alloc (.cells #[.int .i64 (1)] 3)) (v:=.slice (some ⟨w.heap.size,0,none⟩) 1 1) (by have hk:∀ v,a.eval (Operand.const v)=v:=fun _=>rfl;generalize a.eval=ρ at *;(go_simp;done)) (hK _ _ (below_alloc (Below.refl _ _) _) (fun t ht=>by cases ht;exact ⟨_,_,rfl,Nat.le_refl _,(live_lit1 (Kd.int .i64) w 3 (1) [.int .i64 (1)] rfl)⟩))
  | 32,hi=>
    obtain rfl:lq6_32=o:=Option.some.inj hi;unfold lq6_32 at hK ⊢;have gw:liveIs (.bool true) w (a.eval (.tmp 69)):=hG 69 (by decide) (by kernel_rfl);have g70:(liveSl (Kd.int .i64) ([1]:List Int)) w (a.eval (.tmp 70)):=hG 70 (by decide) (by kernel_rfl);have g71:(liveSl (Kd.int .i64) ([1]:List Int)) w (a.eval (.tmp 71)):=hG 71 (by decide) (by kernel_rfl);obtain ⟨nA,c70,e70,l70,C70⟩:=g70;obtain ⟨oA,c71,e71,l71,C71⟩:=g71;exact loose_call Try.func25 (by kernel_rfl) rfl #[.slice nA 1 c70,.slice oA 1 c71] (loose_want (by rfl) (show liveOps6[29]?=some _ from rfl) (by rfl) gw) rfl (by simp only [List.map_toArray,List.map_cons,List.map_nil,e70,e71];rfl) ((corebankref07_SameInts.calls k nA c70 [1] oA c71 [1] true w C70 l70 C71 l71 F72).mono (by rintro e w' ⟨rfl,hb'⟩;exact ⟨_,rfl,hK _ _ hb'.below (fun t ht=>by cases ht;exact rfl)⟩))
  | 33,hi=>
    obtain rfl:lq6_33=o:=Option.some.inj hi;unfold lq6_33 at hK ⊢;have g69:(liveIs (.bool true)) w (a.eval (.tmp 69)):=hG 69 (by decide) (by kernel_rfl);have g72:(liveIs (.bool true)) w (a.eval (.tmp 72)):=hG 72 (by decide) (by kernel_rfl);have e69:a.eval (.tmp 69)=_:=g69;have e72:a.eval (.tmp 72)=_:=g72;exact loose_run (by rfl) (w':=w) (v:=.bool true) (by have hk:∀ v,a.eval (Operand.const v)=v:=fun _=>rfl;generalize a.eval=ρ at *;(go_simp;done)) (hK _ _ (Below.refl _ _) (fun t ht=>by cases ht;exact rfl))
  | 34,hi=>
    obtain rfl:lq6_34=o:=Option.some.inj hi;unfold lq6_34 at hK ⊢;have g73:(liveIs (.bool true)) w (a.eval (.tmp 73)):=hG 73 (by decide) (by kernel_rfl);exact loose_run (by rfl) (w':=w) (v:=a.eval (.tmp 73)) (BigFrame.run_move _ (by rfl) _) (hK _ _ (Below.refl _ _) (fun t ht=>by cases ht;exact g73))
  | 35,hi=>
    obtain rfl:lq6_35=o:=Option.some.inj hi;unfold lq6_35 at hK ⊢;have gw:liveIs (.bool true) w (a.eval (.tmp 74)):=hG 74 (by decide) (by kernel_rfl);have g9:(liveIs (.int .i64 (14))) w (a.eval (.tmp 9)):=hG 9 (by decide) (by kernel_rfl);exact loose_run (loose_want (by rfl) (show liveOps6[34]?=some _ from rfl) (by rfl) gw) (w':=w) (v:=a.eval (.tmp 9)) (BigFrame.run_move _ (by rfl) _) (hK _ _ (Below.refl _ _) (fun t ht=>by cases ht;exact g9))
  | 36,hi=>
    obtain rfl:lq6_36=o:=Option.some.inj hi;unfold lq6_36 at hK ⊢;have gw:liveIs (.bool true) w (a.eval (.tmp 74)):=hG 74 (by decide) (by kernel_rfl);have g75:(liveIs (.int .i64 (14))) w (a.eval (.tmp 75)):=hG 75 (by decide) (by kernel_rfl);have e75:a.eval (.tmp 75)=_:=g75;exact loose_run (loose_want (by rfl) (show liveOps6[34]?=some _ from rfl) (by rfl) gw) (w':=w) (v:=.bool true) (by have hk:∀ v,a.eval (Operand.const v)=v:=fun _=>rfl;generalize a.eval=ρ at *;(go_simp;done)) (hK _ _ (Below.refl _ _) (fun t ht=>by cases ht;exact rfl))
  | 37,hi=>
    obtain rfl:lq6_37=o:=Option.some.inj hi;unfold lq6_37 at hK ⊢;have g74:(liveIs (.bool true)) w (a.eval (.tmp 74)):=hG 74 (by decide) (by kernel_rfl);have g76:(liveIs (.bool true)) w (a.eval (.tmp 76)):=hG 76 (by decide) (by kernel_rfl);have e74:a.eval (.tmp 74)=_:=g74;have e76:a.eval (.tmp 76)=_:=g76;exact loose_run (by rfl) (w':=w) (v:=.bool true) (by have hk:∀ v,a.eval (Operand.const v)=v:=fun _=>rfl;generalize a.eval=ρ at *;(go_simp;done)) (hK _ _ (Below.refl _ _) (fun t ht=>by cases ht;exact rfl))
  | 38,hi=>
    obtain rfl:lq6_38=o:=Option.some.inj hi;unfold lq6_38 at hK ⊢;have g77:(liveIs (.bool true)) w (a.eval (.tmp 77)):=hG 77 (by decide) (by kernel_rfl);exact loose_run (by rfl) (w':=w) (v:=a.eval (.tmp 77)) (BigFrame.run_move _ (by rfl) _) (hK _ _ (Below.refl _ _) (fun t ht=>by cases ht;exact g77))
  | 39,hi=>
    obtain rfl:lq6_39=o:=Option.some.inj hi;unfold lq6_39 at hK ⊢;have gw:liveIs (.bool true) w (a.eval (.tmp 78)):=hG 78 (by decide) (by kernel_rfl);exact loose_call Try.func54 (by kernel_rfl) rfl #[] (loose_want (by rfl) (show liveOps6[38]?=some _ from rfl) (by rfl) gw) rfl (by simp) ((live_books w).mono (by rintro e w' ⟨v,rfl,hv,hb'⟩;exact ⟨_,rfl,hK _ _ hb' (fun t ht=>by cases ht;exact hv)⟩))
  | 40,hi=>
    obtain rfl:lq6_40=o:=Option.some.inj hi;unfold lq6_40 at hK ⊢;have gw:liveIs (.bool true) w (a.eval (.tmp 78)):=hG 78 (by decide) (by kernel_rfl);have g1:liveBox w (a.eval (.tmp 1)):=hG 1 (by decide) (by kernel_rfl);obtain ⟨bg,bA,bc,be,bh,bl,bC⟩:=g1;exact loose_run (loose_want (by rfl) (show liveOps6[38]?=some _ from rfl) (by rfl) gw) (w':=w) (run_load_wide 48 (.tmp 1) (by rfl) bg be #[.string (⟨#[100,101,98,116,115]⟩:ByteArray),.int .i64 (-1),.slice bA 1 bc] Try.underlying48 rfl (by kernel_rfl) ⟨(blk_cell bh 0).trans rfl,(blk_cell bh 1).trans rfl,(blk_cell bh 2).trans rfl,trivial⟩) (hK _ _ (Below.refl _ _) (fun t ht=>by cases ht;exact ⟨bA,bc,rfl,bl,bC⟩))
  | 41,hi=>
    obtain rfl:lq6_41=o:=Option.some.inj hi;unfold lq6_41 at hK ⊢;have gw:liveIs (.bool true) w (a.eval (.tmp 78)):=hG 78 (by decide) (by kernel_rfl);have g79:liveBooks w (a.eval (.tmp 79)):=hG 79 (by decide) (by kernel_rfl);have g80:(liveRow (⟨#[100,101,98,116,115]⟩:ByteArray) (-1) [2]) w (a.eval (.tmp 80)):=hG 80 (by decide) (by kernel_rfl);obtain ⟨B0,d0,B1,d1,B2,d2,B17,d17,B18,d18,B19,d19,B20,d20,B21,d21,eb,q0,u0,q1,u1,q2,u2,q17,u17,q18,u18,q19,u19,q20,u20,q21,u21⟩:=g79;obtain ⟨pA,c80,e80,l80,C80⟩:=g80;exact loose_call Try.func26 (by kernel_rfl) rfl #[liveAgg B0 d0 B1 d1 B2 d2 B17 d17 B18 d18 B19 d19 B20 d20 B21 d21,.agg #[.string (⟨#[100,101,98,116,115]⟩:ByteArray),.int .i64 (-1),.slice pA 1 c80],.string (⟨#[69,85,82]⟩:ByteArray),.int .i64 (1)] (loose_want (by rfl) (show liveOps6[38]?=some _ from rfl) (by rfl) gw) rfl (by simp only [List.map_toArray,List.map_cons,List.map_nil,eb,e80];rfl) ((report_Amount.calls k B0 d0 lb0 B1 d1 lb1 B2 d2 lb2 (0) (21) (0) (0) (0) (0) (0) (0) (0) (0) (0) (0) (0) (0) B17 d17 lb17 B18 d18 lb18 B19 d19 lb19 B20 d20 lb20 B21 d21 lb21 (⟨#[100,101,98,116,115]⟩:ByteArray) (-1) pA c80 [2] (⟨#[69,85,82]⟩:ByteArray) (1) (500) w q0 u0 q1 u1 q2 u2 q17 u17 q18 u18 q19 u19 q20 u20 q21 u21 C80 l80 F81).mono (by rintro e w' ⟨rfl,hb'⟩;exact ⟨_,rfl,hK _ _ hb' (fun t ht=>by cases ht;exact rfl)⟩))
  | 42,hi=>
    obtain rfl:lq6_42=o:=Option.some.inj hi;unfold lq6_42 at hK ⊢;have gw:liveIs (.bool true) w (a.eval (.tmp 78)):=hG 78 (by decide) (by kernel_rfl);have g81:(liveIs (.int .i64 (500))) w (a.eval (.tmp 81)):=hG 81 (by decide) (by kernel_rfl);have e81:a.eval (.tmp 81)=_:=g81;exact loose_run (loose_want (by rfl) (show liveOps6[38]?=some _ from rfl) (by rfl) gw) (w':=w) (v:=.bool true) (by have hk:∀ v,a.eval (Operand.const v)=v:=fun _=>rfl;generalize a.eval=ρ at *;(go_simp;done)) (hK _ _ (Below.refl _ _) (fun t ht=>by cases ht;exact rfl))
  | 43,hi=>
    obtain rfl:lq6_43=o:=Option.some.inj hi;unfold lq6_43 at hK ⊢;have g78:(liveIs (.bool true)) w (a.eval (.tmp 78)):=hG 78 (by decide) (by kernel_rfl);have g82:(liveIs (.bool true)) w (a.eval (.tmp 82)):=hG 82 (by decide) (by kernel_rfl);have e78:a.eval (.tmp 78)=_:=g78;have e82:a.eval (.tmp 82)=_:=g82;exact loose_run (by rfl) (w':=w) (v:=.bool true) (by have hk:∀ v,a.eval (Operand.const v)=v:=fun _=>rfl;generalize a.eval=ρ at *;(go_simp;done)) (hK _ _ (Below.refl _ _) (fun t ht=>by cases ht;exact rfl))
  | 44,hi=>
    obtain rfl:lq6_44=o:=Option.some.inj hi;unfold lq6_44 at hK ⊢;have g83:(liveIs (.bool true)) w (a.eval (.tmp 83)):=hG 83 (by decide) (by kernel_rfl);exact loose_run (by rfl) (w':=w) (v:=a.eval (.tmp 83)) (BigFrame.run_move _ (by rfl) _) (hK _ _ (Below.refl _ _) (fun t ht=>by cases ht;exact g83))
  | 45,hi=>
    obtain rfl:lq6_45=o:=Option.some.inj hi;unfold lq6_45 at hK ⊢;have gw:liveIs (.bool true) w (a.eval (.tmp 84)):=hG 84 (by decide) (by kernel_rfl);exact loose_call Try.func54 (by kernel_rfl) rfl #[] (loose_want (by rfl) (show liveOps6[44]?=some _ from rfl) (by rfl) gw) rfl (by simp) ((live_books w).mono (by rintro e w' ⟨v,rfl,hv,hb'⟩;exact ⟨_,rfl,hK _ _ hb' (fun t ht=>by cases ht;exact hv)⟩))
  | 46,hi=>
    obtain rfl:lq6_46=o:=Option.some.inj hi;unfold lq6_46 at hK ⊢;have gw:liveIs (.bool true) w (a.eval (.tmp 84)):=hG 84 (by decide) (by kernel_rfl);have g85:liveBooks w (a.eval (.tmp 85)):=hG 85 (by decide) (by kernel_rfl);obtain ⟨B0,d0,B1,d1,B2,d2,B17,d17,B18,d18,B19,d19,B20,d20,B21,d21,eb,q0,u0,q1,u1,q2,u2,q17,u17,q18,u18,q19,u19,q20,u20,q21,u21⟩:=g85;exact loose_call Try.func17 (by kernel_rfl) rfl #[liveAgg B0 d0 B1 d1 B2 d2 B17 d17 B18 d18 B19 d19 B20 d20 B21 d21,.int .i64 (1000)] (loose_want (by rfl) (show liveOps6[44]?=some _ from rfl) (by rfl) gw) rfl (by simp only [List.map_toArray,List.map_cons,List.map_nil,eb];rfl) ((report_Owner.calls k B0 d0 lb0 B1 d1 lb1 B2 d2 lb2 (0) (21) (0) (0) (0) (0) (0) (0) (0) (0) (0) (0) (0) (0) B17 d17 lb17 B18 d18 lb18 B19 d19 lb19 B20 d20 lb20 B21 d21 lb21 (1000) (21) w q0 u0 q1 u1 q2 u2 q17 u17 q18 u18 q19 u19 q20 u20 q21 u21  F86).mono (by rintro e w' ⟨rfl,hb'⟩;exact ⟨_,rfl,hK _ _ hb' (fun t ht=>by cases ht;exact rfl)⟩))
  | 47,hi=>
    obtain rfl:lq6_47=o:=Option.some.inj hi;unfold lq6_47 at hK ⊢;have gw:liveIs (.bool true) w (a.eval (.tmp 84)):=hG 84 (by decide) (by kernel_rfl);have g86:(liveIs (.int .i64 (21))) w (a.eval (.tmp 86)):=hG 86 (by decide) (by kernel_rfl);have e86:a.eval (.tmp 86)=_:=g86;exact loose_run (loose_want (by rfl) (show liveOps6[44]?=some _ from rfl) (by rfl) gw) (w':=w) (v:=.bool true) (by have hk:∀ v,a.eval (Operand.const v)=v:=fun _=>rfl;generalize a.eval=ρ at *;(go_simp;done)) (hK _ _ (Below.refl _ _) (fun t ht=>by cases ht;exact rfl))
  | 48,hi=>
    obtain rfl:lq6_48=o:=Option.some.inj hi;unfold lq6_48 at hK ⊢;have g84:(liveIs (.bool true)) w (a.eval (.tmp 84)):=hG 84 (by decide) (by kernel_rfl);have g87:(liveIs (.bool true)) w (a.eval (.tmp 87)):=hG 87 (by decide) (by kernel_rfl);have e84:a.eval (.tmp 84)=_:=g84;have e87:a.eval (.tmp 87)=_:=g87;exact loose_run (by rfl) (w':=w) (v:=.bool true) (by have hk:∀ v,a.eval (Operand.const v)=v:=fun _=>rfl;generalize a.eval=ρ at *;(go_simp;done)) (hK _ _ (Below.refl _ _) (fun t ht=>by cases ht;exact rfl))
  | 49,hi=>
    obtain rfl:lq6_49=o:=Option.some.inj hi;unfold lq6_49 at hK ⊢;have g88:(liveIs (.bool true)) w (a.eval (.tmp 88)):=hG 88 (by decide) (by kernel_rfl);exact loose_run (by rfl) (w':=w) (v:=a.eval (.tmp 88)) (BigFrame.run_move _ (by rfl) _) (hK _ _ (Below.refl _ _) (fun t ht=>by cases ht;exact g88))
  | 50,hi=>
    obtain rfl:lq6_50=o:=Option.some.inj hi;unfold lq6_50 at hK ⊢;have gw:liveIs (.bool true) w (a.eval (.tmp 89)):=hG 89 (by decide) (by kernel_rfl);exact loose_call Try.func54 (by kernel_rfl) rfl #[] (loose_want (by rfl) (show liveOps6[49]?=some _ from rfl) (by rfl) gw) rfl (by simp) ((live_books w).mono (by rintro e w' ⟨v,rfl,hv,hb'⟩;exact ⟨_,rfl,hK _ _ hb' (fun t ht=>by cases ht;exact hv)⟩))
  | 51,hi=>
    obtain rfl:lq6_51=o:=Option.some.inj hi;unfold lq6_51 at hK ⊢;have gw:liveIs (.bool true) w (a.eval (.tmp 89)):=hG 89 (by decide) (by kernel_rfl);have g90:liveBooks w (a.eval (.tmp 90)):=hG 90 (by decide) (by kernel_rfl);obtain ⟨B0,d0,B1,d1,B2,d2,B17,d17,B18,d18,B19,d19,B20,d20,B21,d21,eb,q0,u0,q1,u1,q2,u2,q17,u17,q18,u18,q19,u19,q20,u20,q21,u21⟩:=g90;exact loose_call Try.func17 (by kernel_rfl) rfl #[liveAgg B0 d0 B1 d1 B2 d2 B17 d17 B18 d18 B19 d19 B20 d20 B21 d21,.int .i64 (1001)] (loose_want (by rfl) (show liveOps6[49]?=some _ from rfl) (by rfl) gw) rfl (by simp only [List.map_toArray,List.map_cons,List.map_nil,eb];rfl) ((report_Owner.calls k B0 d0 lb0 B1 d1 lb1 B2 d2 lb2 (0) (21) (0) (0) (0) (0) (0) (0) (0) (0) (0) (0) (0) (0) B17 d17 lb17 B18 d18 lb18 B19 d19 lb19 B20 d20 lb20 B21 d21 lb21 (1001) (0) w q0 u0 q1 u1 q2 u2 q17 u17 q18 u18 q19 u19 q20 u20 q21 u21  F91).mono (by rintro e w' ⟨rfl,hb'⟩;exact ⟨_,rfl,hK _ _ hb' (fun t ht=>by cases ht;exact rfl)⟩))
  | 52,hi=>
    obtain rfl:lq6_52=o:=Option.some.inj hi;unfold lq6_52 at hK ⊢;have gw:liveIs (.bool true) w (a.eval (.tmp 89)):=hG 89 (by decide) (by kernel_rfl);have g91:(liveIs (.int .i64 (0))) w (a.eval (.tmp 91)):=hG 91 (by decide) (by kernel_rfl);have e91:a.eval (.tmp 91)=_:=g91;exact loose_run (loose_want (by rfl) (show liveOps6[49]?=some _ from rfl) (by rfl) gw) (w':=w) (v:=.bool true) (by have hk:∀ v,a.eval (Operand.const v)=v:=fun _=>rfl;generalize a.eval=ρ at *;(go_simp;done)) (hK _ _ (Below.refl _ _) (fun t ht=>by cases ht;exact rfl))
  | 53,hi=>
    obtain rfl:lq6_53=o:=Option.some.inj hi;unfold lq6_53 at hK ⊢;have g89:(liveIs (.bool true)) w (a.eval (.tmp 89)):=hG 89 (by decide) (by kernel_rfl);have g92:(liveIs (.bool true)) w (a.eval (.tmp 92)):=hG 92 (by decide) (by kernel_rfl);have e89:a.eval (.tmp 89)=_:=g89;have e92:a.eval (.tmp 92)=_:=g92;exact loose_run (by rfl) (w':=w) (v:=.bool true) (by have hk:∀ v,a.eval (Operand.const v)=v:=fun _=>rfl;generalize a.eval=ρ at *;(go_simp;done)) (hK _ _ (Below.refl _ _) (fun t ht=>by cases ht;exact rfl))
  | 54,hi=>
    obtain rfl:lq6_54=o:=Option.some.inj hi;unfold lq6_54 at hK ⊢;have g93:(liveIs (.bool true)) w (a.eval (.tmp 93)):=hG 93 (by decide) (by kernel_rfl);exact loose_run (by rfl) (w':=w) (v:=a.eval (.tmp 93)) (BigFrame.run_move _ (by rfl) _) (hK _ _ (Below.refl _ _) (fun t ht=>by cases ht;exact g93))
  | 55,hi=>
    obtain rfl:lq6_55=o:=Option.some.inj hi;unfold lq6_55 at hK ⊢;have gw:liveIs (.bool true) w (a.eval (.tmp 94)):=hG 94 (by decide) (by kernel_rfl);exact loose_call Try.func54 (by kernel_rfl) rfl #[] (loose_want (by rfl) (show liveOps6[54]?=some _ from rfl) (by rfl) gw) rfl (by simp) ((live_books w).mono (by rintro e w' ⟨v,rfl,hv,hb'⟩;exact ⟨_,rfl,hK _ _ hb' (fun t ht=>by cases ht;exact hv)⟩))
  | 56,hi=>
    obtain rfl:lq6_56=o:=Option.some.inj hi;unfold lq6_56 at hK ⊢;have gw:liveIs (.bool true) w (a.eval (.tmp 94)):=hG 94 (by decide) (by kernel_rfl);have g95:liveBooks w (a.eval (.tmp 95)):=hG 95 (by decide) (by kernel_rfl);obtain ⟨B0,d0,B1,d1,B2,d2,B17,d17,B18,d18,B19,d19,B20,d20,B21,d21,eb,q0,u0,q1,u1,q2,u2,q17,u17,q18,u18,q19,u19,q20,u20,q21,u21⟩:=g95;exact loose_call Try.func17 (by kernel_rfl) rfl #[liveAgg B0 d0 B1 d1 B2 d2 B17 d17 B18 d18 B19 d19 B20 d20 B21 d21,.int .i64 (11)] (loose_want (by rfl) (show liveOps6[54]?=some _ from rfl) (by rfl) gw) rfl (by simp only [List.map_toArray,List.map_cons,List.map_nil,eb];rfl) ((report_Owner.calls k B0 d0 lb0 B1 d1 lb1 B2 d2 lb2 (0) (21) (0) (0) (0) (0) (0) (0) (0) (0) (0) (0) (0) (0) B17 d17 lb17 B18 d18 lb18 B19 d19 lb19 B20 d20 lb20 B21 d21 lb21 (11) (11) w q0 u0 q1 u1 q2 u2 q17 u17 q18 u18 q19 u19 q20 u20 q21 u21  F96).mono (by rintro e w' ⟨rfl,hb'⟩;exact ⟨_,rfl,hK _ _ hb' (fun t ht=>by cases ht;exact rfl)⟩))
  | 57,hi=>
    obtain rfl:lq6_57=o:=Option.some.inj hi;unfold lq6_57 at hK ⊢;have gw:liveIs (.bool true) w (a.eval (.tmp 94)):=hG 94 (by decide) (by kernel_rfl);have g96:(liveIs (.int .i64 (11))) w (a.eval (.tmp 96)):=hG 96 (by decide) (by kernel_rfl);have e96:a.eval (.tmp 96)=_:=g96;exact loose_run (loose_want (by rfl) (show liveOps6[54]?=some _ from rfl) (by rfl) gw) (w':=w) (v:=.bool true) (by have hk:∀ v,a.eval (Operand.const v)=v:=fun _=>rfl;generalize a.eval=ρ at *;(go_simp;done)) (hK _ _ (Below.refl _ _) (fun t ht=>by cases ht;exact rfl))
  | 58,hi=>
    obtain rfl:lq6_58=o:=Option.some.inj hi;unfold lq6_58 at hK ⊢;have g94:(liveIs (.bool true)) w (a.eval (.tmp 94)):=hG 94 (by decide) (by kernel_rfl);have g97:(liveIs (.bool true)) w (a.eval (.tmp 97)):=hG 97 (by decide) (by kernel_rfl);have e94:a.eval (.tmp 94)=_:=g94;have e97:a.eval (.tmp 97)=_:=g97;exact loose_run (by rfl) (w':=w) (v:=.bool true) (by have hk:∀ v,a.eval (Operand.const v)=v:=fun _=>rfl;generalize a.eval=ρ at *;(go_simp;done)) (hK _ _ (Below.refl _ _) (fun t ht=>by cases ht;exact rfl))
  | 59,hi=>
    obtain rfl:lq6_59=o:=Option.some.inj hi;unfold lq6_59 at hK ⊢;have g98:(liveIs (.bool true)) w (a.eval (.tmp 98)):=hG 98 (by decide) (by kernel_rfl);exact loose_run (by rfl) (w':=w) (v:=a.eval (.tmp 98)) (BigFrame.run_move _ (by rfl) _) (hK _ _ (Below.refl _ _) (fun t ht=>by cases ht;exact g98))
  | 60,hi=>
    obtain rfl:lq6_60=o:=Option.some.inj hi;unfold lq6_60 at hK ⊢;have gw:liveIs (.bool true) w (a.eval (.tmp 99)):=hG 99 (by decide) (by kernel_rfl);exact loose_call Try.func54 (by kernel_rfl) rfl #[] (loose_want (by rfl) (show liveOps6[59]?=some _ from rfl) (by rfl) gw) rfl (by simp) ((live_books w).mono (by rintro e w' ⟨v,rfl,hv,hb'⟩;exact ⟨_,rfl,hK _ _ hb' (fun t ht=>by cases ht;exact hv)⟩))
  | 61,hi=>
    obtain rfl:lq6_61=o:=Option.some.inj hi;unfold lq6_61 at hK ⊢;have gw:liveIs (.bool true) w (a.eval (.tmp 99)):=hG 99 (by decide) (by kernel_rfl);exact loose_run (loose_want (by rfl) (show liveOps6[59]?=some _ from rfl) (by rfl) gw) (w':=w.alloc (.cells #[.int .i64 (1),.int .i64 (11)] 3)) (v:=.slice (some ⟨w.heap.size,0,none⟩) 2 2) (by have hk:∀ v,a.eval (Operand.const v)=v:=fun _=>rfl;generalize a.eval=ρ at *;(go_simp;done)) (hK _ _ (below_alloc (Below.refl _ _) _) (fun t ht=>by cases ht;exact ⟨_,_,rfl,Nat.le_refl _,(live_lit2 (Kd.int .i64) w 3 (1) (11) [.int .i64 (1)] [.int .i64 (11)] rfl rfl)⟩))
  | 62,hi=>
    obtain rfl:lq6_62=o:=Option.some.inj hi;unfold lq6_62 at hK ⊢;have gw:liveIs (.bool true) w (a.eval (.tmp 99)):=hG 99 (by decide) (by kernel_rfl);have g101:(liveSl (Kd.int .i64) ([1,11]:List Int)) w (a.eval (.tmp 101)):=hG 101 (by decide) (by kernel_rfl);obtain ⟨A,c,e,l,C⟩:=g101;exact loose_run (loose_want (by rfl) (show liveOps6[59]?=some _ from rfl) (by rfl) gw) (w':=w) (v:=.agg #[.string (⟨#[120]⟩:ByteArray),.int .i64 (1),.slice A 2 c]) (by have hk:∀ v,a.eval (Operand.const v)=v:=fun _=>rfl;generalize a.eval=ρ at *;(go_simp;done)) (hK _ _ (Below.refl _ _) (fun t ht=>by cases ht;exact ⟨A,c,rfl,l,C⟩))
  | 63,hi=>
    obtain rfl:lq6_63=o:=Option.some.inj hi;unfold lq6_63 at hK ⊢;have gw:liveIs (.bool true) w (a.eval (.tmp 99)):=hG 99 (by decide) (by kernel_rfl);have g102:(liveRow (⟨#[120]⟩:ByteArray) (1) [1,11]) w (a.eval (.tmp 102)):=hG 102 (by decide) (by kernel_rfl);obtain ⟨aA,c102,e102,l102,C102⟩:=g102;exact loose_run (loose_want (by rfl) (show liveOps6[59]?=some _ from rfl) (by rfl) gw) (w':=w.alloc (.cells #[.string (⟨#[120]⟩:ByteArray),.int .i64 (1),.slice aA 2 c102] 48)) (v:=.slice (some ⟨w.heap.size,0,none⟩) 1 1) (by have hk:∀ v,a.eval (Operand.const v)=v:=fun _=>rfl;generalize a.eval=ρ at *;(go_simp;done)) (hK _ _ (below_alloc (Below.refl _ _) _) (fun t ht=>by cases ht;exact ⟨_,_,rfl,Nat.le_refl _,(live_lit1 k48 w 48 (⟨(⟨#[120]⟩:ByteArray),1,[1,11]⟩:S48) [.string (⟨#[120]⟩:ByteArray),.int .i64 (1),.slice aA 2 c102] (k48_mk _ (⟨(⟨#[120]⟩:ByteArray),1,[1,11]⟩:S48) l102 (Kd.C_below C102 (below_alloc (Below.refl _ _) _))))⟩))
  | 64,hi=>
    obtain rfl:lq6_64=o:=Option.some.inj hi;unfold lq6_64 at hK ⊢;have gw:liveIs (.bool true) w (a.eval (.tmp 99)):=hG 99 (by decide) (by kernel_rfl);have g100:liveBooks w (a.eval (.tmp 100)):=hG 100 (by decide) (by kernel_rfl);have g103:(liveSl k48 [(⟨(⟨#[120]⟩:ByteArray),1,[1,11]⟩:S48)]) w (a.eval (.tmp 103)):=hG 103 (by decide) (by kernel_rfl);obtain ⟨B0,d0,B1,d1,B2,d2,B17,d17,B18,d18,B19,d19,B20,d20,B21,d21,eb,q0,u0,q1,u1,q2,u2,q17,u17,q18,u18,q19,u19,q20,u20,q21,u21⟩:=g100;obtain ⟨cA,c103,e103,l103,C103⟩:=g103;exact loose_call Try.func15 (by kernel_rfl) rfl #[liveAgg B0 d0 B1 d1 B2 d2 B17 d17 B18 d18 B19 d19 B20 d20 B21 d21,.slice cA 1 c103] (loose_want (by rfl) (show liveOps6[59]?=some _ from rfl) (by rfl) gw) rfl (by simp only [List.map_toArray,List.map_cons,List.map_nil,eb,e103];rfl) ((report_Check.calls k B0 d0 lb0 B1 d1 lb1 B2 d2 lb2 (0) (21) (0) (0) (0) (0) (0) (0) (0) (0) (0) (0) (0) (0) B17 d17 lb17 B18 d18 lb18 B19 d19 lb19 B20 d20 lb20 B21 d21 lb21 cA c103 [(⟨(⟨#[120]⟩:ByteArray),1,[1,11]⟩:S48)] (12) w q0 u0 q1 u1 q2 u2 q17 u17 q18 u18 q19 u19 q20 u20 q21 u21 C103 l103 F104).mono (by rintro e w' ⟨rfl,hb'⟩;exact ⟨_,rfl,hK _ _ hb' (fun t ht=>by cases ht;exact rfl)⟩))
  | 65,hi=>
    obtain rfl:lq6_65=o:=Option.some.inj hi;unfold lq6_65 at hK ⊢;have gw:liveIs (.bool true) w (a.eval (.tmp 99)):=hG 99 (by decide) (by kernel_rfl);have g104:(liveIs (.int .i64 (12))) w (a.eval (.tmp 104)):=hG 104 (by decide) (by kernel_rfl);have e104:a.eval (.tmp 104)=_:=g104;exact loose_run (loose_want (by rfl) (show liveOps6[59]?=some _ from rfl) (by rfl) gw) (w':=w) (v:=.bool true) (by have hk:∀ v,a.eval (Operand.const v)=v:=fun _=>rfl;generalize a.eval=ρ at *;(go_simp;done)) (hK _ _ (Below.refl _ _) (fun t ht=>by cases ht;exact rfl))
  | 66,hi=>
    obtain rfl:lq6_66=o:=Option.some.inj hi;unfold lq6_66 at hK ⊢;have g99:(liveIs (.bool true)) w (a.eval (.tmp 99)):=hG 99 (by decide) (by kernel_rfl);have g105:(liveIs (.bool true)) w (a.eval (.tmp 105)):=hG 105 (by decide) (by kernel_rfl);have e99:a.eval (.tmp 99)=_:=g99;have e105:a.eval (.tmp 105)=_:=g105;exact loose_run (by rfl) (w':=w) (v:=.bool true) (by have hk:∀ v,a.eval (Operand.const v)=v:=fun _=>rfl;generalize a.eval=ρ at *;(go_simp;done)) (hK _ _ (Below.refl _ _) (fun t ht=>by cases ht;exact rfl))
  | 67,hi=>
    obtain rfl:lq6_67=o:=Option.some.inj hi;unfold lq6_67 at hK ⊢;have g106:(liveIs (.bool true)) w (a.eval (.tmp 106)):=hG 106 (by decide) (by kernel_rfl);exact loose_run (by rfl) (w':=w) (v:=a.eval (.tmp 106)) (BigFrame.run_assign _ (by rfl) _) (hK _ _ (Below.refl _ _) (fun t ht=>by cases ht;exact g106))
  | i + 68,hi=>cases hi
instance liveDec58:DecidableEq S58:=fun x y=>if h:x.f0=y.f0∧x.f1=y.f1∧x.f2=y.f2 then .isTrue (by cases x;cases y;simp at h;simp [h]) else .isFalse (fun e=>h (by subst e;exact ⟨rfl,rfl,rfl⟩))
instance liveDec (k:Nat):Decidable (liveOk k):=by unfold liveOk;infer_instance
/-- The chapter's examples, as the contracts tell them. -/
def corebanklaw49_Live.f (k:Nat):Option Bool:=if liveOk k then some true else none
theorem liveOk_mono (k:Nat) (h:liveOk k):liveOk (k + 1):=by
  obtain ⟨hF104,hF18,hF25,hF31,hF37,hF47,hF72,hF81,hF86,hF91,hF96⟩:=h;exact ⟨report_Check.mono _ _ _ _ _ _ _ _ _ _ _ _ _ _ _ _ _ _ _ _ _ _ _  k _ hF104,report_Make.mono _ _ _ _ _ _ _ _ _ _ _ _ _ _ _ _ _ _ _ _ _ _ _ _  k _ hF18,report_Make.mono _ _ _ _ _ _ _ _ _ _ _ _ _ _ _ _ _ _ _ _ _ _ _ _  k _ hF25,report_Drill.mono _ _ _ _ _ _ _ _ _ _ _ _ _ _ _ _ _ _ _ _ _ _ _ _ _ _ _  k _ hF31,report_Drill.mono _ _ _ _ _ _ _ _ _ _ _ _ _ _ _ _ _ _ _ _ _ _ _ _ _ _ _  k _ hF37,corebankref49_SameCells.mono _ _  k _ hF47,corebankref07_SameInts.mono _ _  k _ hF72,report_Amount.mono _ _ _ _ _ _ _ _ _ _ _ _ _ _ _ _ _ _ _ _ _ _ _ _ _ _ _  k _ hF81,report_Owner.mono _ _ _ _ _ _ _ _ _ _ _ _ _ _ _ _ _ _ _ _ _ _ _  k _ hF86,report_Owner.mono _ _ _ _ _ _ _ _ _ _ _ _ _ _ _ _ _ _ _ _ _ _ _  k _ hF91,report_Owner.mono _ _ _ _ _ _ _ _ _ _ _ _ _ _ _ _ _ _ _ _ _ _ _  k _ hF96⟩
theorem corebanklaw49_Live.mono:∀ k,LeO (corebanklaw49_Live.f k) (corebanklaw49_Live.f (k + 1)):=by
  intro k r h;unfold corebanklaw49_Live.f at h ⊢;by_cases c:liveOk k
  · rw [if_pos c] at h;rw [if_pos (liveOk_mono k c)];exact h
  · rw [if_neg c] at h;cases h
set_option maxHeartbeats 8000000 in
set_option maxRecDepth 100000 in
theorem corebanklaw49_Live.calls (k:Nat) (r:Bool) (w:World) (h:corebanklaw49_Live.f k=some r):Calls Try.prog 19 #[] w fun e w'=>e=.returned (.bool r)∧Below w.heap.size w w':=by
  unfold corebanklaw49_Live.f at h;(by_cases c:liveOk k);rotate_left
  · rw [if_neg c] at h;cases h
  rw [if_pos c] at h;obtain rfl:=Option.some.inj h;clear h;obtain ⟨F104,F18,F25,F31,F37,F47,F72,F81,F86,F91,F96⟩:=c;have HBw:=aM (Below.refl w.heap.size w);have AF104:=aM F104;clear F104;have AF18:=aM F18;clear F18;have AF25:=aM F25;clear F25;have AF31:=aM F31;clear F31;have AF37:=aM F37;clear F37;have AF47:=aM F47;clear F47;have AF72:=aM F72;clear F72;have AF81:=aM F81;clear F81;have AF86:=aM F86;clear F86;have AF91:=aM F91;clear F91;have AF96:=aM F96;clear F96;have HA:=aM (below_alloc HBw.out (.cells #[.int .i64 2] 3));have HC:=aM (live_lit1 (Kd.int .i64) w 3 (2:Int) [.int .i64 2] rfl);(go_enter Try.func19,Try.ntmps19);(go_wp2_with (first | ((with_reducible refine gate_dst (N:=1) rfl ?_);refine box_event ?hg (N:=1) ?hd (cs:=#[.string (⟨#[]⟩:ByteArray),.int .i64 0,.slice none 0 0]) (t:=48) ?hr ?_;(case hd=>rfl);(case hg=>rfl);(case hr=>(go_simp;done));intro gb hg w8 hbox hb;have HX:=aM hbox;have HB:=aM (bS HA.out hb);have HBq:=aM hb;have GEq:=aM (Nat.le_of_eq hg.symm);have GE:=aM ((by rw [hg];exact below_size HA.out):w.heap.size≤gb);have hs0:=(blk_cell hbox 0);have hfs0:=bF hbox 0;have hs1:=(blk_cell hbox 1);have hfs1:=bF hbox 1;have hs2:=(blk_cell hbox 2);have hfs2:=bF hbox 2;clear hbox hb hg)));(rename_i K2 hK2);refine live_region2 k AF18.out rfl (fun t ht hn=>?_) ?_
  · unfold liveGr;split
    · rename_i hk
      have ht1:t=1:=by
        have h9:=liveNext_at (r:=1) (show liveNext liveOps2 1=true by kernel_rfl) ht hn hk;simpa [liveKnown] using h9
      subst ht1;exact ⟨gb,_,_,rfl,blk_put (blk_put (blk_put HX.out 0 _ rfl) 1 _ rfl) 2 _ rfl,Nat.le_refl _,Kd.C_below HC.out (below_set (below_set (below_set HBq.out GEq.out) GEq.out) GEq.out)⟩
    · trivial
  intro a2 w2 hb2 hsz2 hdf2 hG2;have HB2:=bS (by (with_reducible repeat (first | exact HB.out | refine below_set ?_ GE.out))) hb2;refine hK2 _ _ ?_;refine wp_seq ?_;refine live_region3 k AF25.out hsz2 (fun t ht hn=>liveGr_next (hG2 t ht) (liveNext_at (r:=2) (by kernel_rfl) ht hn)) ?_;intro a3 w3 hb3 hsz3 hdf3 hG3;have HB3:=bS HB2 hb3;refine wp_seq ?_;refine live_region4 k AF31.out hsz3 (fun t ht hn=>liveGr_next (hG3 t ht) (liveNext_at (r:=3) (by kernel_rfl) ht hn)) ?_;intro a4 w4 hb4 hsz4 hdf4 hG4;have HB4:=bS HB3 hb4;refine wp_seq ?_;refine live_region5 k AF37.out hsz4 (fun t ht hn=>liveGr_next (hG4 t ht) (liveNext_at (r:=4) (by kernel_rfl) ht hn)) ?_;intro a5 w5 hb5 hsz5 hdf5 hG5;have HB5:=bS HB4 hb5;refine wp_seq ?_;refine live_region6 k AF104.out AF47.out AF72.out AF81.out AF86.out AF91.out AF96.out hsz5 (fun t ht hn=>liveGr_next (hG5 t ht) (liveNext_at (r:=5) (by kernel_rfl) ht hn)) ?_;intro a6 w6 hb6 hsz6 hdf6 hG6;have HB6:=bS HB5 hb6;refine wp_ret ?_;refine bodyPost_ret (results_tmp rfl _ _ _) (hdf6.trans (hdf5.trans (hdf4.trans (hdf3.trans hdf2)))) ?_;have h9:liveIs (.bool true) w6 (a6.eval (.tmp 0)):=hG6 0 (by decide);exact ⟨congrArg Ending.returned h9,HB6⟩
mutual
def corebankref18_Path.l0:Nat→List (S62)→List Int→Bool→Int→Int→Int→ByteArray→Option (List Int)
 | 0,_,_,_,_,_,_,_=>none
 | k + 1,x0,x5,x7,rA,pA,uA,vA=>if x7=true then (corebankref18_Path.j1 k x0 x5 (decide ((x5.length:Int) < 40)) rA pA uA vA) else (corebankref18_Path.j1 k x0 x5 false rA pA uA vA)
def corebankref18_Path.j1:Nat→List (S62)→List Int→Bool→Int→Int→Int→ByteArray→Option (List Int)
 | 0,_,_,_,_,_,_,_=>none
 | k + 1,x0,x5,x19,rA,pA,uA,vA=>if x19=true then ((some (([rA]:List Int):List Int)).bind fun y183=>(if y183.length + x5.length < 17592186044416 then ((some (y183 ++ x5:List Int)).bind fun y186=>(if pA=0 then (some y186) else ((corebankref18_Find.f k x0 pA).bind fun fA=>(corebankref18_Path.l0 k x0 y186 fA.2.2.2.2 fA.1 fA.2.1 fA.2.2.1 fA.2.2.2.1)))) else (none))) else (some x5)
end
def corebankref18_Path.f (k:Nat) (l0:List (S62)) (a1:Int):Option (List Int):=(corebankref18_Find.f k l0 a1).bind fun mA=>(corebankref18_Path.l0 k l0 ([]:List Int) mA.2.2.2.2 mA.1 mA.2.1 mA.2.2.1 mA.2.2.2.1)
set_option maxHeartbeats 8000000 in
set_option maxRecDepth 100000 in
theorem corebankref18_Path.calls (k:Nat) (A0:Option Addr) (c0:Nat) (l0:List (S62)) (a1:Int) (r:List Int) (w:World) (hr0:Kd.C k62 w A0 l0.length l0) (hc0:l0.length≤c0) (h:corebankref18_Path.f k l0 a1=some r) :
  Calls Try.prog 36 #[.slice A0 l0.length c0,.int .i64 a1] w fun e w'=>∃ v0_:Value,e=.returned (v0_)∧Kd.R (Kd.int .i64) 3 w' w.heap.size (fun _=>True) v0_ r∧Below w.heap.size w w':=by
 have HR0:=aM hr0;have HC0:=aM hc0;clear hr0 hc0;have HB:=aM (Below.refl w.heap.size w);have H:((corebankref18_Find.f k l0 a1).bind fun mA=>(corebankref18_Path.l0 k l0 ([]:List Int) mA.2.2.2.2 mA.1 mA.2.1 mA.2.2.1 mA.2.2.2.1))=some r:=h;clear h;replace H:=Option.bind_eq_some_iff.mp H;obtain ⟨⟨t177,t178,t179,t180,t181⟩,rB,H⟩:=H;replace H:(corebankref18_Path.l0 k l0 ([]:List Int) t181 t177 t178 t179 t180)=some r:=H;have A3:=aM rB;clear rB;have H':=aM H;clear H;(go_enter Try.func36,Try.ntmps36);(go_wp2_with (first | ((with_reducible refine gate_callee (f:=33) rfl ?_);refine goesL_ (some 11) rfl rfl Try.func33 (by kernel_rfl) rfl #[.slice A0 l0.length c0,.int .i64 a1] rfl (by (try simp only [List.map_toArray,List.map_cons,List.map_nil]);(rfl)) ?_;(with_reducible refine (corebankref18_Find.calls k _ _ l0 a1 t177 t178 t179 t180 t181 _ ?yA HC0.out A3.out).mono ?_);(case yA=>repeat exact HR0.out);rintro e w4 ⟨rfl,hb⟩;refine ⟨_,rfl,?_⟩;have kA:=aM (bS HB.out hb);clear HB;have HB:=kA;clear kA;(try clear hb)) | ((with_reducible refine gate_dst (N:=6) rfl ?_);(try (refine gate_guard (by rfl) ?_;dsimp only));refine box_event ?hg (N:=6) ?hd (cs:=#[.int .i64 0,.int .i64 0,.int .i64 0,.string (⟨#[]⟩:ByteArray)]) (t:=62) ?hr ?_;(case hd=>rfl);(case hg=>rfl);(case hr=>(go_simp;done));intro hA hg w5 hbox hb;have kA:=aM (bS HB.out hb);have lA:=aM (hbox);have nA:=aM ((by rw [hg];exact (below_size HB.out):w.heap.size≤hA));have oA:=nA;clear HB;have HB:=kA;have bA:=lA;have dB:=oA;clear kA lA nA oA;clear hb hbox hg;have fB:w5.cell? ⟨hA,0,none⟩=some (.int .i64 0):=bC bA.out 0 rfl;have gB:w5.cell? ⟨hA,1,none⟩=some (.int .i64 0):=bC bA.out 1 rfl;have hB:w5.cell? ⟨hA,2,none⟩=some (.int .i64 0):=bC bA.out 2 rfl;have iB:w5.cell? ⟨hA,3,none⟩=some (.string (⟨#[]⟩:ByteArray)):=bC bA.out 3 rfl;have jB:=bF bA.out 0;have kB:=bF bA.out 1;have lB:=bF bA.out 2;have mB:=bF bA.out 3)));(go_loopg [5,7] k (fun kq v5 v7 w'=>∃ (iA:List Int) (zA:Bool) (cA:Int) (aA:Int) (eA:Int) (dA:ByteArray),v7=.bool zA∧Aside0 (corebankref18_Path.l0 kq l0 iA zA cA aA eA dA=some r)∧Aside0 (kq≤k)∧Aside0 (Kd.R (Kd.int .i64) 3 w' w.heap.size (fun _=>True) v5 iA)∧Aside0 (w'.heap[hA]?=some (.cells #[.int .i64 cA,.int .i64 aA,.int .i64 eA,.string dA] 62 (0,0)))∧Aside0 (Below w.heap.size w w')));case atStart=>exact ⟨(([]:List Int)),(t181),(t177),(t178),(t179),(t180),(by rfl),H',⟨Nat.le_refl _⟩,⟨by (exact Kd.R_nil _ _ _ _ _)⟩,⟨by refine blk_put (cs:=#[.int .i64 t177,.int .i64 t178,.int .i64 t179,.string (⟨#[]⟩:ByteArray)]) ?_ 3 _ rfl;refine blk_put (cs:=#[.int .i64 t177,.int .i64 t178,.int .i64 0,.string (⟨#[]⟩:ByteArray)]) ?_ 2 _ rfl;refine blk_put (cs:=#[.int .i64 t177,.int .i64 0,.int .i64 0,.string (⟨#[]⟩:ByteArray)]) ?_ 1 _ rfl;refine blk_put (cs:=#[.int .i64 0,.int .i64 0,.int .i64 0,.string (⟨#[]⟩:ByteArray)]) ?_ 0 _ rfl;exact bA.out⟩,⟨by repeat ((with_reducible first | exact HB.out | refine below_set ?_ dB.out))⟩⟩
 case round=>
  clear H';(try clear fB);(try clear gB);(try clear hB);(try clear iB);(try clear jB);(try clear kB);(try clear lB);(try clear mB);obtain ⟨iA,zA,cA,aA,eA,dA,rfl,HA,HK1,gA,bA,HB⟩:=hrel
  cases gk with
  | zero=>exact absurd HA.out (by simp [corebankref18_Path.l0])
  | succ k1=>
   have H:=HA.out;clear HA;simp only [corebankref18_Path.l0] at H;have HC7:=aM H;clear H;(go_upto_region 3 with (fail));go_cut [19] (fun v19 wc=>∃ (kq:Nat) (xA:Bool),v19=.bool xA∧Aside0 (corebankref18_Path.j1 kq l0 iA xA cA aA eA dA=some r)∧Aside0 (kq≤k1)∧Aside0 (Kd.R (Kd.int .i64) 3 wc w.heap.size (fun _=>True) u5 iA)∧Aside0 (wc.heap[hA]?=some (.cells #[.int .i64 cA,.int .i64 aA,.int .i64 eA,.string dA] 62 (0,0)))∧Aside0 (Below w.heap.size w wc))
   case first=>
    have H:=HC7.out;clear HC7;by_cases c8:zA=true
    ·subst c8;(have H1:(corebankref18_Path.j1 k1 l0 iA (decide ((iA.length:Int) < 40)) cA aA eA dA)=some r:=by rw [if_pos rfl] at H;exact H);clear H;have H:=H1;clear H1;have H':=aM H;clear H;obtain ⟨Ao9,co9,eo9⟩:=Kd.R_slice gA.out;subst eo9;go_wp2;(go_meet);case rel=>exact ⟨_,(decide ((iA.length:Int) < 40)),(by rfl),H',⟨by have:=HK1.out;(omega)⟩,⟨gA.out⟩,⟨bA.out⟩,⟨HB.out⟩⟩
    ·replace c8:=Bool.eq_false_iff.mpr c8;subst c8;(have H1:(corebankref18_Path.j1 k1 l0 iA false cA aA eA dA)=some r:=by rw [if_neg (show ¬ (false=true) by decide)] at H;exact H);clear H;have H:=H1;clear H1;have H':=aM H;clear H;go_wp2;(go_meet);case rel=>exact ⟨_,(false),(by rfl),H',⟨by have:=HK1.out;(omega)⟩,⟨gA.out⟩,⟨bA.out⟩,⟨HB.out⟩⟩
   case rest=>
    clear HC7;obtain ⟨kq,xA,rfl,HA,HJ6,gA,bA,HB⟩:=hcut
    cases kq with
    | zero=>exact absurd HA.out (by simp [corebankref18_Path.j1])
    | succ kj6=>
     have H:=HA.out;clear HA;simp only [corebankref18_Path.j1] at H;by_cases c10:xA=true
     ·subst c10;(have H1:((some (([cA]:List Int):List Int)).bind fun y183=>(if y183.length + iA.length < 17592186044416 then ((some (y183 ++ iA:List Int)).bind fun y186=>(if aA=0 then (some y186) else ((corebankref18_Find.f kj6 l0 aA).bind fun fA=>(corebankref18_Path.l0 kj6 l0 y186 fA.2.2.2.2 fA.1 fA.2.1 fA.2.2.1 fA.2.2.2.1)))) else (none)))=some r:=by rw [if_pos rfl] at H;exact H);clear H;have H:=H1;clear H1;obtain ⟨y183,hy183⟩:∃ y_:List Int,y_=(([cA]:List Int)):=⟨_,rfl⟩;(replace H:(if y183.length + iA.length < 17592186044416 then ((some (y183 ++ iA:List Int)).bind fun y186=>(if aA=0 then (some y186) else ((corebankref18_Find.f kj6 l0 aA).bind fun fA=>(corebankref18_Path.l0 kj6 l0 y186 fA.2.2.2.2 fA.1 fA.2.1 fA.2.2.1 fA.2.2.2.1)))) else (none))=some r:=by (have H2_:=(Option.bind_some _ _).symm.trans H;rw [hy183];with_reducible exact H2_));have Ny183:=aM hy183;clear hy183;by_cases c11:y183.length + iA.length < 17592186044416
      ·rw [if_pos c11] at H;have LMc11:=aM c11;clear c11;obtain ⟨y186,hy186⟩:∃ y_:List Int,y_=(y183 ++ iA):=⟨_,rfl⟩;(replace H:(if aA=0 then (some y186) else ((corebankref18_Find.f kj6 l0 aA).bind fun fA=>(corebankref18_Path.l0 kj6 l0 y186 fA.2.2.2.2 fA.1 fA.2.1 fA.2.2.1 fA.2.2.2.1)))=some r:=by (have H2_:=(Option.bind_some _ _).symm.trans H;rw [hy186];with_reducible exact H2_));have Ny186:=aM hy186;clear hy186;by_cases c12:aA=0
       ·rw [if_pos c12] at H;have oB:(aA == 0)=true:=beq_iff_eq.mpr c12;clear c12;obtain rfl:=Option.some.inj H;have wB:wc.cell? ⟨hA,0,none⟩=some (.int .i64 cA):=bC bA.out 0 rfl;(go_wp2_with (first | ((with_reducible refine gate_dst (N:=22) rfl ?_);(try (refine gate_guard (by rfl) ?_;dsimp only));refine Kd.R_lit (Kd.int .i64) _ 3 ?hg (N:=22) ?hd (xs:=([cA]:List Int)) (inner:=[.int .i64 cA]) (ok:=fun _=>True) (okp:=fun _=>True) ?hr ?hp (fun _ hk=>hk) trivial (Below.refl _ _) (Nat.le_refl _) (by simp) ?_;(case hd=>rfl);(case hg=>rfl);(case hr=>(go_simp;done));(case hp=>exact (Reps.one (show Kd.M (Kd.int .i64) _ _ _ cA [.int .i64 cA] from rfl) (Reps.none _ _)));intro v184 w14 ho15 hb hg_ hnew_;clear hg_ hnew_;(rw [← Ny183.out] at ho15);have kA:=aM (Kd.R_elder' gA.out (Kd.R_base ho15) hb);have lA:=aM (Kd.R_lower (Kd.R_new' ho15 (Kd.R_lt gA.out)) (below_size HB.out));have nA:=aM (bB bA.out hb);have oA:=aM (bS HB.out hb);clear gA;clear bA;clear HB;have gA:=kA;have qA:=lA;have bA:=nA;have HB:=oA;clear kA lA nA oA;clear hb ho15;obtain ⟨Ao17,co17,eo17⟩:=Kd.R_slice gA.out;subst eo17) | ((with_reducible refine gate_builtin (b:=.append) (xs:=#[.tmp 22,.tmp 23]) rfl ?_);(try (refine gate_guard (by rfl) ?_;dsimp only));at_builtin;refine Kd.R_append_rows (Kd.int .i64) (w0:=w) w.heap.size rfl (.tmp 22) (.tmp 23) 46 3 (.int .i64 0) 8 rfl Try.underlying46 info3 rfl (by decide) (by omega) v184 y183 iA _ _ _ (fun k_=>some k_ ≠ (.slice Ao17 iA.length co17:Value).ownBlock) (fun _=>False) rfl rfl ?aO ?aR (fun _ _ h=>h) (fun _ h=>h.elim) ?aF ?aB ?aS ?aL ?_;(case aR=>repeat (exact (Kd.R_reads' gA.out).2.2));(case aB=>exact HB.out);(case aF=>exact (fun k_ hk=>Kd.fresh' (Kd.R_lt gA.out) k_ hk));(case aO=>exact (by exact Kd.R_mono qA.out (fun _ hk=>hk.2)));(case aS=>exact (below_size HB.out));(case aL=>have:=LMc11.out;omega);intro v187 w16 ho hb hg hat;rw [← Ny186.out] at ho;have kA:=aM (Kd.R_after (ok:=(fun _=>True)) gA.out hg hat);have lA:=aM (blk_grown (g:=hA) (o:=.cells #[.int .i64 cA,.int .i64 aA,.int .i64 eA,.string dA] 62 (0,0)) bA.out hg (Kd.R_ne qA.out bA.out (by decide)));have nA:=aM (hb);have oA:=aM (ho);clear gA;clear bA;clear HB;clear qA;have gA:=kA;have bA:=lA;have HB:=nA;have tA:=oA;clear kA lA nA oA;clear ho hb hg hat;have xB:w16.cell? ⟨hA,1,none⟩=some (.int .i64 aA):=bC bA.out 1 rfl)));go_ret;exact ⟨_,by (rfl),by exact Kd.R_mono tA.out (fun _ hk=>trivial),HB.out⟩
       ·rw [if_neg c12] at H;have oB:(aA == 0)=false:=beq_eq_false_iff_ne.mpr c12;replace H:=Option.bind_eq_some_iff.mp H;obtain ⟨⟨t189,t190,t191,t192,t193⟩,nB,H⟩:=H;replace H:(corebankref18_Path.l0 kj6 l0 y186 t193 t189 t190 t191 t192)=some r:=H;have jC:=aM nB;clear nB;have H':=aM H;clear H;have yB:wc.cell? ⟨hA,0,none⟩=some (.int .i64 cA):=bC bA.out 0 rfl;(go_wp2_with (first | ((with_reducible refine gate_dst (N:=22) rfl ?_);(try (refine gate_guard (by rfl) ?_;dsimp only));refine Kd.R_lit (Kd.int .i64) _ 3 ?hg (N:=22) ?hd (xs:=([cA]:List Int)) (inner:=[.int .i64 cA]) (ok:=fun _=>True) (okp:=fun _=>True) ?hr ?hp (fun _ hk=>hk) trivial (Below.refl _ _) (Nat.le_refl _) (by simp) ?_;(case hd=>rfl);(case hg=>rfl);(case hr=>(go_simp;done));(case hp=>exact (Reps.one (show Kd.M (Kd.int .i64) _ _ _ cA [.int .i64 cA] from rfl) (Reps.none _ _)));intro v184 w21 ho22 hb hg_ hnew_;clear hg_ hnew_;(rw [← Ny183.out] at ho22);have kA:=aM (Kd.R_elder' gA.out (Kd.R_base ho22) hb);have lA:=aM (Kd.R_lower (Kd.R_new' ho22 (Kd.R_lt gA.out)) (below_size HB.out));have nA:=aM (bB bA.out hb);have oA:=aM (bS HB.out hb);clear gA;clear bA;clear HB;have gA:=kA;have qA:=lA;have bA:=nA;have HB:=oA;clear kA lA nA oA;clear hb ho22;obtain ⟨Ao24,co24,eo24⟩:=Kd.R_slice gA.out;subst eo24) | ((with_reducible refine gate_builtin (b:=.append) (xs:=#[.tmp 22,.tmp 23]) rfl ?_);(try (refine gate_guard (by rfl) ?_;dsimp only));at_builtin;refine Kd.R_append_rows (Kd.int .i64) (w0:=w) w.heap.size rfl (.tmp 22) (.tmp 23) 46 3 (.int .i64 0) 8 rfl Try.underlying46 info3 rfl (by decide) (by omega) v184 y183 iA _ _ _ (fun k_=>some k_ ≠ (.slice Ao24 iA.length co24:Value).ownBlock) (fun _=>False) rfl rfl ?aO ?aR (fun _ _ h=>h) (fun _ h=>h.elim) ?aF ?aB ?aS ?aL ?_;(case aR=>repeat (exact (Kd.R_reads' gA.out).2.2));(case aB=>exact HB.out);(case aF=>exact (fun k_ hk=>Kd.fresh' (Kd.R_lt gA.out) k_ hk));(case aO=>exact (by exact Kd.R_mono qA.out (fun _ hk=>hk.2)));(case aS=>exact (below_size HB.out));(case aL=>have:=LMc11.out;omega);intro v187 w23 ho hb hg hat;rw [← Ny186.out] at ho;have kA:=aM (Kd.R_after (ok:=(fun _=>True)) gA.out hg hat);have lA:=aM (blk_grown (g:=hA) (o:=.cells #[.int .i64 cA,.int .i64 aA,.int .i64 eA,.string dA] 62 (0,0)) bA.out hg (Kd.R_ne qA.out bA.out (by decide)));have nA:=aM (hb);have oA:=aM (ho);clear gA;clear bA;clear HB;clear qA;have gA:=kA;have bA:=lA;have HB:=nA;have tA:=oA;clear kA lA nA oA;clear ho hb hg hat;have zB:w23.cell? ⟨hA,1,none⟩=some (.int .i64 aA):=bC bA.out 1 rfl) | ((with_reducible refine gate_callee (f:=33) rfl ?_);refine goesL_ (some 33) rfl rfl Try.func33 (by kernel_rfl) rfl #[.slice A0 l0.length c0,.int .i64 aA] rfl (by (try simp only [List.map_toArray,List.map_cons,List.map_nil]);(rfl)) ?_;(with_reducible refine (corebankref18_Find.calls kj6 _ _ l0 aA t189 t190 t191 t192 t193 _ (Kd.C_below HR0.out HB.out) HC0.out jC.out).mono ?_);rintro e w26 ⟨rfl,hb⟩;refine ⟨_,rfl,?_⟩;have kA:=aM (Kd.R_below gA.out hb);have lA:=aM (Kd.R_below tA.out hb);have nA:=aM (bB bA.out hb);have oA:=aM (bS HB.out hb);clear gA;clear tA;clear bA;clear HB;have gA:=kA;have tA:=lA;have bA:=nA;have HB:=oA;clear kA lA nA oA;(try clear hb);have aC:w26.cell? ⟨hA,0,none⟩=some (.int .i64 cA):=bC bA.out 0 rfl;have cC:w26.cell? ⟨hA,1,none⟩=some (.int .i64 aA):=bC bA.out 1 rfl;have dC:w26.cell? ⟨hA,2,none⟩=some (.int .i64 eA):=bC bA.out 2 rfl;have eC:w26.cell? ⟨hA,3,none⟩=some (.string dA):=bC bA.out 3 rfl;have fC:=bF bA.out 0;have gC:=bF bA.out 1;have hC:=bF bA.out 2;have iC:=bF bA.out 3)));(go_roundg kj6);(case measure=>have:=HK1.out;have:=HJ6.out;omega);case rel=>exact ⟨(y186),(t193),(t189),(t190),(t191),(t192),(by rfl),H',⟨by have:=HK1.out;have:=HJ6.out;omega⟩,⟨by exact Kd.R_mono (Kd.R_far (p:=⟨hA,3,none⟩) (Kd.R_far (p:=⟨hA,2,none⟩) (Kd.R_far (p:=⟨hA,1,none⟩) (Kd.R_far (p:=⟨hA,0,none⟩) (Kd.R_types tA.out bA.out (by decide)) (fun _ hk=>hk.2) (.int .i64 t189)) (fun _ hk=>hk.2) (.int .i64 t190)) (fun _ hk=>hk.2) (.int .i64 t191)) (fun _ hk=>hk.2) (.string t192)) (fun _ hk=>trivial)⟩,⟨by refine blk_put (cs:=#[.int .i64 t189,.int .i64 t190,.int .i64 t191,.string dA]) ?_ 3 _ rfl;refine blk_put (cs:=#[.int .i64 t189,.int .i64 t190,.int .i64 eA,.string dA]) ?_ 2 _ rfl;refine blk_put (cs:=#[.int .i64 t189,.int .i64 aA,.int .i64 eA,.string dA]) ?_ 1 _ rfl;refine blk_put (cs:=#[.int .i64 cA,.int .i64 aA,.int .i64 eA,.string dA]) ?_ 0 _ rfl;exact bA.out⟩,⟨by repeat ((with_reducible first | exact HB.out | refine below_set ?_ dB.out))⟩⟩
      ·rw [if_neg c11] at H;exact absurd H (by simp)
     ·replace c10:=Bool.eq_false_iff.mpr c10;subst c10;(have H1:(some iA)=some r:=by rw [if_neg (show ¬ (false=true) by decide)] at H;exact H);clear H;have H:=H1;clear H1;obtain rfl:=Option.some.inj H;go_wp2;go_ret;exact ⟨_,by (rfl),gA.out,HB.out⟩
def corebankref18_Under.l0:Nat→Int→List Int→Int→Option (Bool)
  | 0,_,_,_=>none
  | k + 1,x2,x7,x8=>if x8 < (x7.length:Int) then (if 0≤x8 then (if (rd x7 x8)=x2 then (some true) else (corebankref18_Under.l0 k x2 x7 (wrap64 (x8 + 1)))) else (none)) else (some false)
def corebankref18_Under.f (k:Nat) (l0:List (S62)) (a1:Int) (a2:Int):Option (Bool):=(corebankref18_Path.f k l0 a1).bind fun t194=>(corebankref18_Under.l0 k a2 t194 0)
set_option maxHeartbeats 8000000 in
set_option maxRecDepth 100000 in
theorem corebankref18_Under.calls (k:Nat) (A0:Option Addr) (c0:Nat) (l0:List (S62)) (a1:Int) (a2:Int) (r:Bool) (w:World) (hr0:Kd.C k62 w A0 l0.length l0) (hc0:l0.length≤c0) (h:corebankref18_Under.f k l0 a1 a2=some r) :
    Calls Try.prog 38 #[.slice A0 l0.length c0,.int .i64 a1,.int .i64 a2] w fun e w'=>e=.returned (.bool r)∧Below w.heap.size w w':=by
  have HR0:=aM hr0;have HC0:=aM hc0;clear hr0 hc0;have HB:=aM (Below.refl w.heap.size w);have H:((corebankref18_Path.f k l0 a1).bind fun t194=>(corebankref18_Under.l0 k a2 t194 0))=some r:=h;clear h;replace H:=Option.bind_eq_some_iff.mp H;obtain ⟨t194,tB,H⟩:=H;replace H:(corebankref18_Under.l0 k a2 t194 0)=some r:=H;have A4:=aM tB;clear tB;have H':=aM H;clear H;(go_enter Try.func38,Try.ntmps38);(go_wp2_with (first | ((with_reducible refine gate_callee (f:=36) rfl ?_);refine goesL_ (some 11) rfl rfl Try.func36 (by kernel_rfl) rfl #[.slice A0 l0.length c0,.int .i64 a1] rfl (by (try simp only [List.map_toArray,List.map_cons,List.map_nil]);(rfl)) ?_;(with_reducible refine (corebankref18_Path.calls k _ _ l0 a1 t194 _ ?yA HC0.out A4.out).mono ?_);(case yA=>repeat exact HR0.out);rintro e w5 ⟨v195,rfl,ho0,hb⟩;refine ⟨_,rfl,?_⟩;have kA:=aM (Kd.R_lower ho0 (below_size HB.out));have lA:=aM (bS HB.out hb);clear HB;have pB:=kA;have HB:=lA;clear kA lA;(try clear hb);(try clear ho0))));(go_loopg [8] k (fun kq v8 w'=>∃ (jA:Int),v8=.int .i64 jA∧Aside0 (corebankref18_Under.l0 kq a2 t194 jA=some r)∧Aside0 (kq≤k)∧Aside0 (Kd.R (Kd.int .i64) 3 w' w.heap.size (fun _=>True) v195 t194)∧Aside0 (Below w.heap.size w w')));case atStart=>exact ⟨(0),(by rfl),H',⟨Nat.le_refl _⟩,⟨pB.out⟩,⟨HB.out⟩⟩
  case round=>
    clear H';obtain ⟨jA,rfl,HA,HK1,wA,HB⟩:=hrel
    cases gk with
    | zero=>exact absurd HA.out (by simp [corebankref18_Under.l0])
    | succ k1=>
      have H:=HA.out;clear HA;simp only [corebankref18_Under.l0] at H;by_cases c6:jA < (t194.length:Int)
      · rw [if_pos c6] at H;have uB:decide (jA < (t194.length:Int))=true:=decide_eq_true c6;clear c6;by_cases c7:0≤jA
        · rw [if_pos c7] at H;have kC:decide (0≤jA)=true:=decide_eq_true c7;clear c7;by_cases c8:(rd t194 jA)=a2
          · rw [if_pos c8] at H;have vB:((rd t194 jA) == a2)=true:=beq_iff_eq.mpr c8;clear c8;obtain rfl:=Option.some.inj H;obtain ⟨Ao9,co9,eo9⟩:=Kd.R_slice wA.out;subst eo9;have p197:0≤(jA:Int):=oD (by assumption);have q197:jA < (t194.length:Int):=oD (by assumption);obtain ⟨qB,e197,eB⟩:=Kd.at_int (Kd.R_reads' wA.out).2.2 jA p197 q197;cases e197;replace p197:=eq_true p197;replace q197:=eq_true q197;go_wp2;go_ret;exact ⟨by (rfl),HB.out⟩
          · rw [if_neg c8] at H;have vB:((rd t194 jA) == a2)=false:=beq_eq_false_iff_ne.mpr c8;have H':=aM H;clear H;obtain ⟨Ao10,co10,eo10⟩:=Kd.R_slice wA.out;subst eo10;have p197:0≤(jA:Int):=oD (by assumption);have q197:jA < (t194.length:Int):=oD (by assumption);obtain ⟨qB,e197,eB⟩:=Kd.at_int (Kd.R_reads' wA.out).2.2 jA p197 q197;cases e197;replace p197:=eq_true p197;replace q197:=eq_true q197;go_wp2;(go_roundg k1);(case measure=>have:=HK1.out;omega);case rel=>exact ⟨(wrap64 (jA + 1)),(by rfl),H',⟨by have:=HK1.out;omega⟩,⟨wA.out⟩,⟨HB.out⟩⟩
        · rw [if_neg c7] at H;exact absurd H (by simp)
      · rw [if_neg c6] at H;have uB:decide (jA < (t194.length:Int))=false:=decide_eq_false c6;clear c6;obtain rfl:=Option.some.inj H;obtain ⟨Ao11,co11,eo11⟩:=Kd.R_slice wA.out;subst eo11;go_wp2;go_ret;exact ⟨by (rfl),HB.out⟩
end Go.Proofs.Ytcmaifjmnpfmbaa.R
end
