/- A map keyed by texts whose elements are whole numbers, told by the number at each key alone. -/
import Derived.Test.YtcmaifjmnpfmbaaProg
import Derived.Maps.OwnOps
import Derived.Maps.Views
import Derived.Maps.RangeWalk
import Derived.StringKeys
import Derived.WalkKit
import Derived.RowKit
import Derived.KernelRfl
import Derived.Test.YtcmaifjmnpfmbaaWWords
namespace Go.Proofs.Ytcmaifjmnpfmbaa.R
open Go Go.RowKit Go.Maps Go.Proofs.YtcmaifjmnpfmbaaW.PrintWords
theorem mapLaw:Keyed Try.prog 9:=string_keyed Try.underlying9
theorem mapZero (w:World):(zeroValue 3).run Try.prog w=.ok (.int .i64 0) w:=by kernel_rfl
/-- Block B is a map of at most n entries; at each key stands the number that f tells (0: there is none). -/
def MapIs (w:World) (B n:Nat) (f:ByteArray→Int):Prop:=
  ∃ D:DataW Unit,w.ownsMap Try.prog 9 (plainElem Try.prog 3) B n D∧∀ x:ByteArray,D.atKey (.string x.data.toList) (.lit (.int .i64 0))=.lit (.int .i64 (f x))
theorem MapIs.same {w w':World} {B n:Nat} {f:ByteArray→Int} (h:MapIs w B n f) (e:w'.heap[B]?=w.heap[B]?):MapIs w' B n f:=by
  obtain ⟨D,⟨es,clock,hb,hF⟩,hD⟩:=h
  exact ⟨D,⟨es,clock,e.trans hb,hF⟩,hD⟩
theorem MapIs.lt {w:World} {B n:Nat} {f:ByteArray→Int} (h:MapIs w B n f):B < w.heap.size:=by
  obtain ⟨D,ho,_⟩:=h
  exact ho.lt
theorem MapIs.ne {w:World} {B n g:Nat} {f:ByteArray→Int} {cs:Array Value} {ty:TypeId} {fr:Nat × Nat} (h:MapIs w B n f) (hg:w.heap[g]?=some (.cells cs ty fr)):g ≠ B:=by
  rintro rfl
  obtain ⟨D,⟨es,clock,hb,_⟩,_⟩:=h
  rw [hg] at hb
  cases hb
theorem blk_grownM {w w':World} {g:Nat} {row:Option Nat} {o:Obj} (h:w.heap[g]?=some o) (hg:w.grownBy w' row) (hne:some g ≠ row):w'.heap[g]?=some o:=(hg.block g (blk_lt h) hne).trans h
theorem MapIs.mono {w:World} {B n n':Nat} {f:ByteArray→Int} (h:MapIs w B n f) (hn:n≤n'):MapIs w B n' f:=by
  obtain ⟨D,ho,hD⟩:=h
  exact ⟨D,ho.mono hn,hD⟩
theorem MapIs.below {w w':World} {B n:Nat} {f:ByteArray→Int} (h:MapIs w B n f) (hb:Below w.heap.size w w'):MapIs w' B n f:=h.same (hb.block B h.lt)
theorem MapIs.alloc {w:World} {B n:Nat} {f:ByteArray→Int} (h:MapIs w B n f) (o:Obj):MapIs (w.alloc o) B n f:=h.below (below_alloc (Below.refl _ _) _)
theorem MapIs.far {w:World} {B n g i:Nat} {f:ByteArray→Int} (h:MapIs w B n f) (hne:B ≠ g) (u:Value):MapIs (w.setCell ⟨g,i,none⟩ u) B n f:=h.same (Below.heap_setCell w ⟨g,i,none⟩ u B hne)
theorem MapIs.made (w:World):MapIs (w.alloc (.map #[] 0)) w.heap.size 0 (fun _=>0):=⟨.map [],World.ownsMap_made _ _ _ _,fun _=>rfl⟩
theorem MapIs.put {w:World} {B n:Nat} {f:ByteArray→Int} {D:DataW Unit} {w1:World} {s:ByteArray} {v:Int} (hown:w.ownsMap Try.prog 9 (plainElem Try.prog 3) B n D)
    (hD:∀ x:ByteArray,D.atKey (.string x.data.toList) (.lit (.int .i64 0))=.lit (.int .i64 (f x))) (hs:s.size≤maxLen)
    (h1:w1.ownsMap Try.prog 9 (plainElem Try.prog 3) B (n + 1) (D.put (.string s.data.toList) (.lit (.int .i64 v)))):MapIs w1 B (n + 1) (fun x=>if x=s then v else f x):=by
  refine ⟨_,h1,fun x=>?_⟩
  obtain ⟨es,_,_⟩:=hown.entries mapLaw
  show _=DataW.lit (.int .i64 (if x=s then v else f x))
  by_cases c:x=s
  · subst c
    rw [if_pos rfl,atKey_put_same ⟨es,by assumption⟩ (mapLaw.key (Go.WideMaps.keyOf_string_mk Try.underlying9 hs))]
  · rw [if_neg c,atKey_put_other (fun e=>c (by
      have e1:x.data.toList=s.data.toList:=by injection e
      have e2:x.data=s.data:=Array.toList_inj.mp e1
      exact ByteArray.ext e2))]
    exact hD x
/-- The contributions' sum at a key. -/
def sumOf (cs:List (ByteArray × Int)) (x:ByteArray):Int:=cs.foldl (fun acc p=>if x=p.1 then wrap64 (acc + p.2) else acc) 0
theorem sumOf_snoc (cs:List (ByteArray × Int)) (p:ByteArray × Int):sumOf (cs ++ [p])=fun x=>if x=p.1 then wrap64 (sumOf cs p.1 + p.2) else sumOf cs x:=by
  funext x
  unfold sumOf
  rw [List.foldl_append]
  simp only [List.foldl_cons,List.foldl_nil]
  by_cases c:x=p.1
  · rw [if_pos c,if_pos c,← c]
  · rw [if_neg c,if_neg c]
/-! ### a map ranged over, its numbers added to another map's -/
def keyL (x:ByteArray):Lit:=.string x.data.toList
theorem keyL_inj {x s:ByteArray} (h:keyL x=keyL s):x=s:=by
  have e1:x.data.toList=s.data.toList:=by injection h
  exact ByteArray.ext (Array.toList_inj.mp e1)
theorem wpList_next_str {ops:Array Oper} {rest:List Oper} {o:Oper} {a:Act} {Q:Exit→Act→World→Prop} {w:World} (hg:o.guard=none) (it:Operand) (hop:o.op=Op.next it false) (b r n:Nat) (D:DataW Unit) (left:Lit→Bool) (cnt:Nat)
    (hit:a.eval it=.pointer (some ⟨r,0,none⟩)) (h:w.ranges Try.prog 9 (plainElem Try.prog 3) b r n D left cnt)
    (hDone:(∀ kl,left kl=false)→wpList Try.prog ops Q rest (a.put o.dst (.tuple #[.bool false])) w)
    (hMore:∀ (x:ByteArray) (c:Int) (w':World) (cnt':Nat),x.size≤maxLen→left (keyL x)=true→(∀ zd,D.atKey (keyL x) zd=.lit (.int .i64 c))→w'.ranges Try.prog 9 (plainElem Try.prog 3) b r n D (fun z=>left z && !z.sameKey (keyL x)) cnt'→cnt' < cnt →
      w.grownBy w' (some r)→(Instr.entry (.pointer (some ⟨r,0,none⟩))).run Try.prog w'=.ok (.tuple #[.string x,.int .i64 c]) w'→wpList Try.prog ops Q rest (a.put o.dst (.tuple #[.bool true,.string x,.int .i64 c])) w') :
    wpList Try.prog ops Q (o :: rest) a w:=by
  refine wpList_next_ranges w hg it hop 9 mapLaw (plainElem Try.prog 3) Value.string (Value.int .i64) (fun key kl hk=>?_) (fun v y hv=>?_) b r n D left cnt hit h (fun _ hl=>hDone hl) ?_
  · obtain ⟨s,rfl,_⟩:=Go.WideMaps.string_of_keyOf Try.underlying9 hk
    exact ⟨s,rfl⟩
  · obtain ⟨c,rfl,_⟩:=plainElem_int_inv Try.underlying3 hv
    exact ⟨c,rfl⟩
  · intro x c kl y w' cnt' hkey hlk hv hat hrg hlt hgr hsz hen
    obtain ⟨s,e1,rfl,hs⟩:=Go.WideMaps.string_of_keyOf Try.underlying9 hkey
    injection e1 with e1
    subst e1
    obtain ⟨c',e2,rfl,_⟩:=plainElem_int_inv Try.underlying3 hv
    injection e2 with _ e2
    subst e2
    exact hMore x c w' cnt' hs hlk hat hrg hlt hgr hen
def AddRel (f:ByteArray→Int) (cs:List (ByteArray × Int)) (left:Lit→Bool) (g:ByteArray→Int):Prop:=∀ x,g x=if left (keyL x)=true then f x else wrap64 (f x + sumOf cs x)
def InRange (f:ByteArray→Int):Prop:=∀ x,wrap64 (f x)=f x
theorem AddRel.start {f:ByteArray→Int} {cs:List (ByteArray × Int)} {D:DataW Unit} (hf:InRange f) (hD:∀ x:ByteArray,D.atKey (.string x.data.toList) (.lit (.int .i64 0))=.lit (.int .i64 (sumOf cs x))):AddRel f cs (Maps.has D) f:=by
  intro x
  cases hh:Maps.has D (keyL x) with
  | true=>rw [if_pos rfl]
  | false=>
    rw [if_neg (by decide)]
    have h1:D.atKey (keyL x) (.lit (.int .i64 0))=.lit (.int .i64 (sumOf cs x)):=hD x
    rw [atKey_of_not_has hh] at h1
    simp only [DataW.lit.injEq,Lit.int.injEq,true_and] at h1
    rw [← h1,Int.add_zero,hf x]
theorem AddRel.step {f g:ByteArray→Int} {cs:List (ByteArray × Int)} {left:Lit→Bool} {D:DataW Unit} {s:ByteArray} {c:Int} (h:AddRel f cs left g) (hs:s.size≤maxLen) (hl:left (keyL s)=true)
    (hat:∀ zd,D.atKey (keyL s) zd=.lit (.int .i64 c)) (hD:∀ x:ByteArray,D.atKey (.string x.data.toList) (.lit (.int .i64 0))=.lit (.int .i64 (sumOf cs x))) :
    AddRel f cs (fun z=>left z && !z.sameKey (keyL s)) (fun x=>if x=s then wrap64 (g s + c) else g x):=by
  have hc:c=sumOf cs s:=by
    have h1:=(hat (.lit (.int .i64 0))).symm.trans (hD s)
    simpa using h1
  have hk:WideAt.IsKeyLit (keyL s):=mapLaw.key (Go.WideMaps.keyOf_string_mk Try.underlying9 hs)
  intro x
  show (if x=s then wrap64 (g s + c) else g x)=if (left (keyL x) && !(keyL x).sameKey (keyL s))=true then f x else wrap64 (f x + sumOf cs x)
  by_cases e:x=s
  · subst e
    rw [if_pos rfl,WideAt.sameKey_self hk]
    simp only [Bool.not_true,Bool.and_false]
    rw [if_neg (by decide),h x,if_pos hl,hc]
  · rw [if_neg e,Maps.sameKey_ne (fun e2=>e (keyL_inj e2)),h x]
    simp
theorem AddRel.done {f g:ByteArray→Int} {cs:List (ByteArray × Int)} {left:Lit→Bool} (h:AddRel f cs left g) (hl:∀ kl,left kl=false):g=fun x=>wrap64 (f x + sumOf cs x):=by
  funext x
  rw [h x,hl,if_neg (by decide)]
theorem wrap64_twice (n:Int):wrap64 (wrap64 n)=wrap64 n:=by unfold wrap64;omega
theorem InRange.add (f:ByteArray→Int) (cs:List (ByteArray × Int)):InRange (fun x=>wrap64 (f x + sumOf cs x)):=fun _=>wrap64_twice _
theorem InRange.zero:InRange (fun _=>0):=fun _=>by show wrap64 0=0;unfold wrap64;omega
theorem MapIs.size {w:World} {B n:Nat} {D:DataW Unit} (h:w.ownsMap Try.prog 9 (plainElem Try.prog 3) B n D):Maps.size D≤n:=by
  obtain ⟨es,clock,hb,F,hs,rfl⟩:=h
  rw [Maps.size_eq,length_sorted]
  simpa using hs
theorem keepB_step {w0 w w':World} {B:Nat} {row:Option Nat} (h:KeepBut w0 w B none) (hg:w.grownBy w' row) (hr:∀ j,row=some j→j=B ∨ w0.heap.size≤j):KeepBut w0 w' B none:=by
  refine ⟨Nat.le_trans h.1 hg.size,fun i hi hne _=>?_⟩
  rw [hg.block i (Nat.lt_of_lt_of_le hi h.1) (fun e=>by rcases hr i e.symm with h1 | h1 <;> omega)]
  exact h.2 i hi hne (by simp)
theorem R_map {α:Type} {d:Kd α} {e:Nat} {w:World} {base:Nat} {ok:Nat→Prop} {v:Value} {xs:List α} {B n:Nat} {f:ByteArray→Int} (h:d.R e w base ok v xs) (hM:MapIs w B n f):d.R e w base (fun k=>ok k∧k ≠ B) v xs:=
  Kd.R_mono (Kd.R_bound h) (fun k hk=>⟨hk.1,by obtain ⟨q,_,cells,hc⟩:=hk.2.2.2;exact hM.ne hc⟩)
theorem keep_heap {w w':World} {B g:Nat} {o:Obj} (h:w.heap[g]?=some o) (hk:KeepBut w w' B none) (hne:g ≠ B):w'.heap[g]?=some o:=(hk.2 g (blk_lt h) hne (by simp)).trans h
end Go.Proofs.Ytcmaifjmnpfmbaa.R
