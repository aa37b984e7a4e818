/- The load of a whole wide struct, by a law of its own: out of its cells, in whatever world holds them. -/
import Derived.Laws.Rows
import Derived.WalkKit
import Derived.Below
import Derived.Laws.Tables
import Derived.Test.YtcmaifjmnpfmbaaWWords
namespace Go.Proofs.Ytcmaifjmnpfmbaa.R
open Go Go.RowKit Go.Proofs.YtcmaifjmnpfmbaaW.PrintWords
/-- The cells of block g from j on hold these values. -/
def CellsAt (w:World) (g:Nat):Nat→List Value→Prop
  | _,[]=>True
  | j,v :: vs=>w.cell? ⟨g,j,none⟩=some v∧CellsAt w g (j + 1) vs
theorem CellsAt.get {w:World} {g:Nat}:∀ {vs:List Value} {i:Nat},CellsAt w g i vs→∀ (j:Nat) (v:Value),vs[j]?=some v→w.cell? ⟨g,i + j,none⟩=some v
  | [],_,_,j,v,h=>by simp at h
  | x :: xs,i,hc,0,v,h=>by
    simp at h
    subst h
    exact hc.1
  | x :: xs,i,hc,j + 1,v,h=>by
    have h1:=CellsAt.get hc.2 j v (by simpa using h)
    have e:i + 1 + j=i + (j + 1):=by omega
    rw [← e];exact h1
theorem run_load_wide {P:Program} {o:Oper} {a:Act} {w:World} (ty:TypeId) (x:Operand) (ho:o.op=.load ty x) (g:Nat) (hx:a.eval x=.pointer (some ⟨g,0,none⟩)) (cs:Array Value) {d:TypeDesc}
    (hu:P.underlying ty=some d) (hd:(match d with | .struct _ | .array _ _=>true | _=>false)=true) (hi:(P.info? ty).map (·.size)=some cs.size) (hc:CellsAt w g 0 cs.toList) :
    (execOp a.eval o).run P w=.ok (.value (.agg cs)) w:=by
  have hl:(loadCells ⟨g,0,none⟩ cs.toList.length).run P w=.ok cs.toList.toArray w:=
    run_loadCells_list (P:=P) w ⟨g,0,none⟩ cs.toList (fun j v hv=>by
      have hadd:(⟨g,0,none⟩:Addr).add j=⟨g,0 + j,none⟩:=by unfold Addr.add;split <;> simp_all
      rw [hadd]
      exact hc.get j v hv)
  have hlv:(loadVar ty ⟨g,0,none⟩).run P w=.ok (.agg cs) w:=by
    cases hq:P.info? ty with
    | none=>simp [hq] at hi
    | some i=>
      have hs:i.size=cs.size:=by simpa [hq] using hi
      have hagg:(isAgg ty).run P w=.ok true w:=by
        unfold isAgg
        rw [Sem.run_bind,run_underlying hu w]
        cases d <;> simp_all
      simp only [Array.length_toList,Array.toArray_toList] at hl
      simp [loadVar,Sem.run_bind,hagg,sizeOf,typeInfo,hq,hs,hl]
  unfold execOp
  simp only [ho,hx,Instr.loadAt,Instr.sureAddr,Sem.run_bind,Sem.run_pure,Result.andThen_ok,hlv]
theorem build_wide {P:Program} {ops:Array Oper} {rest:List Oper} {o:Oper} {a:Act} {w:World} {Q:Exit→Act→World→Prop} (hg:o.guard=none) (t:TypeId) (parts:Array (Nat × Operand)) (ho:o.op=.build t parts) (cs:Array Value)
    (ps:List (Nat × Value)) (hp:(parts.map fun (i,x)=>(i,a.eval x)).toList=ps)
    (hf:P.built t ps=some cs) (h:wpList P ops Q rest (a.put o.dst (.agg cs)) w):wpList P ops Q (o :: rest) a w:=by
  subst hp
  refine wpList_build hg t parts ho (by rw [hf];rfl) ?_
  rw [hf]
  exact h
/-- A store of a whole struct: what stands behind it is told of any world in which that block alone is new. -/
theorem store_wide {P:Program} {ops:Array Oper} {rest:List Oper} {o:Oper} {a:Act} {w:World} {Q:Exit→Act→World→Prop} (hgd:o.guard=none) (ty:TypeId) (x y:Operand) (ho:o.op=.store ty x y)
    (g:Nat) (cells:Array Value) (hx:a.eval x=.pointer (some ⟨g,0,none⟩)) (hy:a.eval y=.agg cells) (B:Nat) (hB:B≤g)
    (t:TypeId) (old:Array Value) (hg:w.heap[g]?=some (.cells old t (0,0))) (hi:(P.info? ty).map (·.size)=some cells.size)
    (hold:old.size=cells.size) (h1:cells.all (·.oneCell')=true)
    (h:∀ w1:World,w1.heap[g]?=some (.cells cells t (0,0))→KeepBut w w1 g none→Below B w w1→wpList P ops Q rest (a.put o.dst undef) w1):wpList P ops Q (o :: rest) a w:=by
  refine wpList_store_row hgd ty x y ho g cells hx hy t old hg hi hold h1 (h _ (setRow_heap w g old cells t (0,0) hg) ⟨by simp [World.setRow],fun i _ hne _=>setRow_other w g i cells hne⟩ ?_)
  exact ⟨rfl,rfl,rfl,by simp [World.setRow],fun k hk=>setRow_other w g k cells (by omega)⟩
/-- The cells of an element: the first at p, the rest behind it. -/
def ElemAt (w:World) (p:Addr):List Value→Prop
  | []=>True
  | v :: vs=>w.cell? p=some v∧CellsAt w p.block (p.off + 1) vs
theorem wpList_load_elem {P:Program} {ops:Array Oper} {rest:List Oper} {o:Oper} {a:Act} {w:World} {Q:Exit→Act→World→Prop} (hgd:o.guard=none) (ty:TypeId) (x:Operand) (ho:o.op=.load ty x) (p:Addr) (hx:a.eval x=.pointer (some p)) (cs:Array Value) {d:TypeDesc}
    (hc:ElemAt w p cs.toList) (hu:P.underlying ty=some d) (hd:(match d with | .struct _ | .array _ _=>true | _=>false)=true) (hi:(P.info? ty).map (·.size)=some cs.size)
    (h:wpList P ops Q rest (a.put o.dst (.agg cs)) w):wpList P ops Q (o :: rest) a w:=by
  have hl:(loadCells p cs.toList.length).run P w=.ok cs.toList.toArray w:=
    run_loadCells_list (P:=P) w p cs.toList (fun j v hv=>by
      cases hcs:cs.toList with
      | nil=>rw [hcs] at hv;simp at hv
      | cons v0 vs=>
        rw [hcs] at hv hc
        match j with
        | 0=>
          have e:p.add 0=p:=by unfold Addr.add;rw [if_pos rfl]
          rw [e]
          simp at hv
          subst hv
          exact hc.1
        | j + 1=>
          have e:p.add (j + 1)=⟨p.block,p.off + 1 + j,none⟩:=by unfold Addr.add;rw [if_neg (by omega)];congr 1;omega
          rw [e]
          exact hc.2.get j v (by simpa using hv))
  have hlv:(loadVar ty p).run P w=.ok (.agg cs) w:=by
    cases hq:P.info? ty with
    | none=>simp [hq] at hi
    | some i=>
      have hs:i.size=cs.size:=by simpa [hq] using hi
      have hagg:(isAgg ty).run P w=.ok true w:=by
        unfold isAgg
        rw [Sem.run_bind,run_underlying hu w]
        cases d <;> simp_all
      simp only [Array.length_toList,Array.toArray_toList] at hl
      simp [loadVar,Sem.run_bind,hagg,sizeOf,typeInfo,hq,hs,hl]
  refine wpList_plain hgd fun K hK=>?_
  unfold Oper.wp execOp
  simp only [ho,hx,Instr.loadAt,Instr.sureAddr,Sem.run_bind,Sem.run_pure,Result.andThen_ok,hlv]
  exact hK _ _ h
/-! ### short names, for long texts -/
theorem aM {p:Prop} (h:p):Aside0 p:=⟨h⟩
theorem cB {w w':World} {p:Addr} {v:Value} (h:Below w.heap.size w w') (hx:w.cell? p=some v):w'.cell? p=some v:=(h.cell (World.block_lt_of_cell? w _ hx)).trans hx
theorem bC {w:World} {g:Nat} {t:TypeId} {cs:Array Value} (h:w.heap[g]?=some (.cells cs t (0,0))) (i:Nat) {r:Option Value} (hv:cs[i]?=r):w.cell? ⟨g,i,none⟩=r:=(blk_cell h i).trans hv
theorem bF {w:World} {g:Nat} {t:TypeId} {cs:Array Value} (h:w.heap[g]?=some (.cells cs t (0,0))) (i:Nat):w.frozen? ⟨g,i,none⟩=false:=blk_frozen h i
theorem bB {w w1:World} {g:Nat} {o:Obj} (h:w.heap[g]?=some o) (hb:Below w.heap.size w w1):w1.heap[g]?=some o:=blk_below h hb
theorem bS {w W w2:World} (h:Below w.heap.size w W) (k:Below W.heap.size W w2):Below w.heap.size w w2:=below_step h k
theorem oD {p:Prop} [Decidable p] (h:decide p=true):p:=of_decide_eq_true h
theorem sA {α:Type} {l:List α} {i:Nat} {a:α}:l.toArray.setIfInBounds i a=(l.set i a).toArray:=List.setIfInBounds_toArray ..
theorem sB {α:Type} {x:α} {xs:List α} {a:α}:(x :: xs).set 0 a=a :: xs:=rfl
theorem sC {α:Type} {x:α} {xs:List α} {i:Nat} {a:α}:(x :: xs).set (i + 1) a=x :: xs.set i a:=rfl
abbrev tT:Bool:=true
abbrev fF:Bool:=false
end Go.Proofs.Ytcmaifjmnpfmbaa.R
