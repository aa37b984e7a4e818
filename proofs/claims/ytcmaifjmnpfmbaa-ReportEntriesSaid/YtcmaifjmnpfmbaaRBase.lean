/- What the functions of charts come to: Find, Path, Under, of the program and of the reference, as plain functions on lists. -/
import Derived.Test.YtcmaifjmnpfmbaaRE22
import Derived.Test.YtcmaifjmnpfmbaaRE18
import Derived.Test.YtcmaifjmnpfmbaaRE17
namespace Go.Proofs.Ytcmaifjmnpfmbaa.R.Proof
open Go.RowKit Go.Proofs.Ytcmaifjmnpfmbaa.R Go.Proofs.YtcmaifjmnpfmbaaW.PrintWords Go.Proofs.YtcmaifjmnpfmbaaW.PrintLast
theorem wrap_inc {i n:Nat} (h:i < n) (hn:n≤9223372036854775807):wrap64 ((i:Int) + 1)=((i + 1:Nat):Int):=by
  unfold wrap64
  omega
theorem Ev.some_ {α:Type} {a b:α} (h:a=b):Ev (fun _=>some a) b:=h ▸ Ev.now a
/-- Behind a call that has its answer: what follows. -/
theorem Ev.then_ {α β:Type} {g:Nat→Option α} {f:Nat→α→Option β} {a:α} {r:β} (h:Ev g a) (k:Ev (fun n=>f n a) r):Ev (fun n=>(g n).bind (fun t=>f n t)) r:=Ev.bind h k
theorem drop_at {α:Type} {l:List α} {i:Nat} (h:i < l.length):l.drop i=l[i] :: l.drop (i + 1):=List.drop_eq_getElem_cons h
theorem rd62_at {l:List S62} {i:Nat} (h:i < l.length):rd_T62 l (i:Int)=l[i]:=by
  simp [rd_T62,List.getD_eq_getElem?_getD,List.getElem?_eq_getElem h]
theorem rd_at {l:List Int} {i:Nat} (h:i < l.length):rd l (i:Int)=l[i]:=by
  simp [rd,List.getD_eq_getElem?_getD,List.getElem?_eq_getElem h]
/-! ### Find -/
abbrev Tup:=Int × Int × Int × ByteArray × Bool
def tup:Option S62→Tup
  | some g=>(g.f0,g.f1,g.f2,g.f3,true)
  | none=>(0,0,0,(⟨#[]⟩:ByteArray),false)
def findG (l:List S62) (id:Int):Option S62:=l.find? (fun g=>g.f0 == id)
theorem find_l0 (l:List S62) (id:Int) (hn:l.length≤9223372036854775807) (d:Nat):∀ i:Nat,l.length - i=d→i≤l.length →
    Ev (fun k=>chart_Find.l0 k id l (l.length:Int) i) (tup ((l.drop i).find? (fun g=>g.f0 == id))):=by
  induction d with
  | zero=>
    intro i hd hi
    refine Ev.step (f:=fun _=>some (tup none)) (fun k=>?_) (Ev.some_ ?_)
    · simp only [chart_Find.l0];rw [if_neg (by omega)];rfl
    · rw [List.drop_of_length_le (by omega)];rfl
  | succ d ih=>
    intro i hd hi
    have hlt:i < l.length:=by omega
    rw [drop_at hlt,List.find?_cons]
    by_cases c:l[i].f0=id
    · refine Ev.step (f:=fun _=>some (tup (some l[i]))) (fun k=>?_) (Ev.some_ ?_)
      · simp only [chart_Find.l0];rw [if_pos (by omega),if_pos (by omega),if_pos (by omega),rd62_at hlt,if_pos c];rfl
      · simp [c]
    · refine Ev.step (f:=fun k=>chart_Find.l0 k id l (l.length:Int) ((i + 1:Nat):Int)) (fun k=>?_) ?_
      · simp only [chart_Find.l0];rw [if_pos (by omega),if_pos (by omega),if_pos (by omega),rd62_at hlt,if_neg c,wrap_inc hlt hn]
      · have e:(l[i].f0 == id)=false:=by simpa using c
        rw [e]
        exact ih (i + 1) (by omega) (by omega)
theorem find_ev (l:List S62) (id:Int) (hn:l.length≤9223372036854775807):Ev (fun k=>chart_Find.f k l id) (tup (findG l id)):=
  Ev.congr (fun _=>rfl) (find_l0 l id hn l.length 0 rfl (Nat.zero_le _))
theorem rfind_l0 (l:List S62) (id:Int) (hn:l.length≤9223372036854775807) (d:Nat):∀ i:Nat,l.length - i=d→i≤l.length →
    Ev (fun k=>corebankref18_Find.l0 k l id i) (tup ((l.drop i).find? (fun g=>g.f0 == id))):=by
  induction d with
  | zero=>
    intro i hd hi
    refine Ev.step (f:=fun _=>some (tup none)) (fun k=>?_) (Ev.some_ ?_)
    · simp only [corebankref18_Find.l0];rw [if_neg (by omega)];rfl
    · rw [List.drop_of_length_le (by omega)];rfl
  | succ d ih=>
    intro i hd hi
    have hlt:i < l.length:=by omega
    rw [drop_at hlt,List.find?_cons]
    by_cases c:l[i].f0=id
    · refine Ev.step (f:=fun _=>some (tup (some l[i]))) (fun k=>?_) (Ev.some_ ?_)
      · simp only [corebankref18_Find.l0];rw [if_pos (by omega),if_pos (by omega),rd62_at hlt,if_pos c];rfl
      · simp [c]
    · refine Ev.step (f:=fun k=>corebankref18_Find.l0 k l id ((i + 1:Nat):Int)) (fun k=>?_) ?_
      · simp only [corebankref18_Find.l0];rw [if_pos (by omega),if_pos (by omega),rd62_at hlt,if_neg c,wrap_inc hlt hn]
      · have e:(l[i].f0 == id)=false:=by simpa using c
        rw [e]
        exact ih (i + 1) (by omega) (by omega)
theorem rfind_ev (l:List S62) (id:Int) (hn:l.length≤9223372036854775807):Ev (fun k=>corebankref18_Find.f k l id) (tup (findG l id)):=
  Ev.congr (fun _=>rfl) (rfind_l0 l id hn l.length 0 rfl (Nat.zero_le _))
theorem tup_is (o:Option S62):(tup o).2.2.2.2=o.isSome:=by cases o <;> rfl
/-! ### texts -/
theorem tl_loop (bs:ByteArray):∀ (d i:Nat) (r:List UInt8),bs.size - i=d→ByteArray.toList.loop bs i r=r.reverse ++ bs.data.toList.drop i:=by
  have hs:bs.data.toList.length=bs.size:=by rw [Array.length_toList];rfl
  intro d
  induction d with
  | zero=>
    intro i r hd
    unfold ByteArray.toList.loop
    rw [if_neg (by omega),List.drop_of_length_le (by omega),List.append_nil]
  | succ d ih=>
    intro i r hd
    unfold ByteArray.toList.loop
    have hi:i < bs.data.toList.length:=by omega
    rw [if_pos (by omega),ih (i + 1) _ (by omega),List.reverse_cons,List.append_assoc,List.drop_eq_getElem_cons hi]
    have e:bs.get! i=bs.data.toList[i]:=by
      have hi2:i < bs.data.size:=by omega
      show bs.data[i]! = _
      rw [getElem!_pos bs.data i hi2,Array.getElem_toList]
    rw [e]
    rfl
theorem tl_eq (bs:ByteArray):bs.toList=bs.data.toList:=by
  show ByteArray.toList.loop bs 0 []=_
  rw [tl_loop bs _ 0 [] rfl]
  rfl
theorem tl_inj {a b:ByteArray}:a.toList=b.toList ↔ a=b:=
  ⟨fun h=>ByteArray.ext (Array.toList_inj.mp (by rw [tl_eq,tl_eq] at h;exact h)),fun h=>by rw [h]⟩
/-! ### Reverse -/
theorem reverse_l0 (d:Nat):∀ (A M B:List Int),M.length=d→(A ++ M ++ B).length≤9223372036854775807→Ev (fun k=>slices_Reverse_int_int.l0 k (A ++ M ++ B) (A.length:Int) ((A.length:Int) + M.length - 1)) (A ++ M.reverse ++ B):=by
  induction d using Nat.strongRecOn with
  | _ d ih=>
  intro A M B hd hn
  match M,hd with
  | [],_=>
    refine Ev.step (f:=fun _=>some (A ++ [] ++ B)) (fun k=>?_) (Ev.some_ (by simp))
    simp only [slices_Reverse_int_int.l0];rw [if_neg (by simp;omega)]
  | [a],_=>
    refine Ev.step (f:=fun _=>some (A ++ [a] ++ B)) (fun k=>?_) (Ev.some_ (by simp))
    simp only [slices_Reverse_int_int.l0];rw [if_neg (by simp)]
  | a :: b' :: M0,hd=>
    obtain ⟨M1,b,hM⟩:∃ M1 b,b' :: M0=M1 ++ [b]:=⟨(b' :: M0).dropLast,(b' :: M0).getLast (by simp),(List.dropLast_concat_getLast (by simp)).symm⟩
    rw [hM] at hd hn ⊢
    have hl:(A ++ (a :: (M1 ++ [b])) ++ B).length=A.length + M1.length + 2 + B.length:=by simp;omega
    rw [hl] at hn
    have h1:rd (A ++ (a :: (M1 ++ [b])) ++ B) ((A.length:Int) + (a :: (M1 ++ [b])).length - 1)=b:=by
      have e:((A.length:Int) + ((a :: (M1 ++ [b])).length:Int) - 1)=((A.length + (M1.length + 1):Nat):Int):=by simp;omega
      rw [e,rd_at (by rw [hl];omega)]
      simp
    have h2:rd (A ++ (a :: (M1 ++ [b])) ++ B) (A.length:Int)=a:=by
      rw [rd_at (by rw [hl];omega)]
      simp
    have h3:((A ++ (a :: (M1 ++ [b])) ++ B).set (A.length:Int).toNat b).set ((A.length:Int) + (a :: (M1 ++ [b])).length - 1).toNat a=(A ++ [b]) ++ M1 ++ ([a] ++ B):=by
      have e:((A.length:Int) + ((a :: (M1 ++ [b])).length:Int) - 1).toNat=A.length + (M1.length + 1):=by simp;omega
      rw [e,Int.toNat_natCast]
      simp
    refine Ev.step (f:=fun k=>slices_Reverse_int_int.l0 k ((A ++ [b]) ++ M1 ++ ([a] ++ B)) ((A ++ [b]).length:Int) (((A ++ [b]).length:Int) + M1.length - 1)) (fun k=>?_) ?_
    · simp only [slices_Reverse_int_int.l0]
      rw [if_pos (by simp;omega),if_pos (by simp;omega),if_pos (by rw [hl];simp;omega),if_pos (by omega),if_pos (by rw [hl];omega),h1,h2,h3]
      congr 1
      · unfold wrap64;simp;omega
      · unfold wrap64;simp;omega
    · have:=ih M1.length (by simp at hd;omega) (A ++ [b]) M1 ([a] ++ B) rfl (by simp;omega)
      simpa using this
theorem reverse_ev (l:List Int) (hn:l.length≤9223372036854775807):Ev (fun k=>slices_Reverse_int_int.f k l) l.reverse:=by
  have h:=reverse_l0 l.length [] l [] rfl (by simpa using hn)
  refine Ev.congr (fun k=>?_) (by simpa using h)
  unfold slices_Reverse_int_int.f
  have e:wrap64 ((l.length:Int) - 1)=((0:Nat):Int) + (l.length:Int) - 1:=by unfold wrap64;omega
  rw [e]
  simp
/-! ### Path and Under -/
/-- The Ids from an account up, at most n. -/
def upI (l:List S62):Nat→Option S62→List Int
  | 0,_=>[]
  | _,none=>[]
  | n + 1,some g=>g.f0 :: (if g.f1=0 then [] else upI l n (findG l g.f1))
theorem upI_length (l:List S62):∀ n o,(upI l n o).length≤n
  | 0,_=>by simp [upI]
  | n + 1,none=>by simp [upI]
  | n + 1,some g=>by
    simp only [upI,List.length_cons]
    split
    · simp
    · have:=upI_length l n (findG l g.f1);omega
def pathG (l:List S62) (id:Int):List Int:=(upI l 40 (findG l id)).reverse
theorem path_l0 (l:List S62) (hn:l.length≤9223372036854775807) (n:Nat):∀ (out:List Int) (o:Option S62),out.length + n=40 →
    Ev (fun k=>chart_Path.l0 k l out (tup o).2.2.2.2 (tup o).1 (tup o).2.1 (tup o).2.2.1 (tup o).2.2.2.1) (out ++ upI l n o).reverse:=by
  induction n with
  | zero=>
    intro out o hl
    have hout:out.length=40:=by omega
    have hr:=reverse_ev out (by omega)
    refine Ev.step (f:=fun k=>chart_Path.j1 k l out false (tup o).1 (tup o).2.1 (tup o).2.2.1 (tup o).2.2.2.1) (fun k=>?_) (Ev.step (f:=fun k=>(slices_Reverse_int_int.f k out).bind fun t=>some t) (fun k=>?_) ?_)
    · have e:decide ((out.length:Int) < 40)=false:=by rw [hout];rfl
      simp only [chart_Path.l0,e]
      split <;> rfl
    · simp only [chart_Path.j1];rfl
    · refine Ev.bind hr (Ev.some_ (by simp [upI]))
  | succ n ih=>
    intro out o hl
    cases o with
    | none=>
      have hr:=reverse_ev out (by omega)
      refine Ev.step (f:=fun k=>chart_Path.j1 k l out false 0 0 0 (⟨#[]⟩:ByteArray)) (fun k=>?_) (Ev.step (f:=fun k=>(slices_Reverse_int_int.f k out).bind fun t=>some t) (fun k=>?_) ?_)
      · simp only [chart_Path.l0,tup];rfl
      · simp only [chart_Path.j1];rfl
      · refine Ev.bind hr (Ev.some_ (by simp [upI]))
    | some g=>
      refine Ev.step (f:=fun k=>chart_Path.j1 k l out true g.f0 g.f1 g.f2 g.f3) (fun k=>?_) ?_
      · have e:decide ((out.length:Int) < 40)=true:=by simp;omega
        simp only [chart_Path.l0,tup,e,if_true]
      · by_cases c:g.f1=0
        · have hr:=reverse_ev (out ++ [g.f0]) (by simp;omega)
          refine Ev.step (f:=fun k=>(slices_Reverse_int_int.f k (out ++ [g.f0])).bind fun t=>some t) (fun k=>?_) ?_
          · simp only [chart_Path.j1,if_true,Option.bind_some];rw [if_pos (by omega),if_pos c]
          · exact Ev.bind hr (Ev.some_ (by simp [upI,c]))
        · refine Ev.step (f:=fun k=>(chart_Find.f k l g.f1).bind fun t=>chart_Path.l0 k l (out ++ [g.f0]) t.2.2.2.2 t.1 t.2.1 t.2.2.1 t.2.2.2.1) (fun k=>?_) ?_
          · simp only [chart_Path.j1,if_true,Option.bind_some];rw [if_pos (by omega),if_neg c]
          · refine Ev.bind (find_ev l g.f1 hn) ?_
            have:=ih (out ++ [g.f0]) (findG l g.f1) (by simp;omega)
            simpa [upI,c] using this
theorem path_ev (l:List S62) (id:Int) (hn:l.length≤9223372036854775807):Ev (fun k=>chart_Path.f k l id) (pathG l id):=
  Ev.bind (find_ev l id hn) (by simpa [pathG] using path_l0 l hn 40 [] (findG l id) rfl)
theorem rpath_l0 (l:List S62) (hn:l.length≤9223372036854775807) (n:Nat):∀ (out:List Int) (o:Option S62),out.length + n=40 →
    Ev (fun k=>corebankref18_Path.l0 k l out (tup o).2.2.2.2 (tup o).1 (tup o).2.1 (tup o).2.2.1 (tup o).2.2.2.1) ((upI l n o).reverse ++ out):=by
  induction n with
  | zero=>
    intro out o hl
    have hout:out.length=40:=by omega
    refine Ev.step (f:=fun k=>corebankref18_Path.j1 k l out false (tup o).1 (tup o).2.1 (tup o).2.2.1 (tup o).2.2.2.1) (fun k=>?_) (Ev.step (f:=fun k=>some out) (fun k=>?_) (Ev.some_ (by simp [upI])))
    · have e:decide ((out.length:Int) < 40)=false:=by rw [hout];rfl
      simp only [corebankref18_Path.l0,e]
      split <;> rfl
    · simp only [corebankref18_Path.j1];rfl
  | succ n ih=>
    intro out o hl
    cases o with
    | none=>
      refine Ev.step (f:=fun k=>corebankref18_Path.j1 k l out false 0 0 0 (⟨#[]⟩:ByteArray)) (fun k=>?_) (Ev.step (f:=fun k=>some out) (fun k=>?_) (Ev.some_ (by simp [upI])))
      · simp only [corebankref18_Path.l0,tup];rfl
      · simp only [corebankref18_Path.j1];rfl
    | some g=>
      refine Ev.step (f:=fun k=>corebankref18_Path.j1 k l out true g.f0 g.f1 g.f2 g.f3) (fun k=>?_) ?_
      · have e:decide ((out.length:Int) < 40)=true:=by simp;omega
        simp only [corebankref18_Path.l0,tup,e,if_true]
      · by_cases c:g.f1=0
        · refine Ev.step (f:=fun k=>some ([g.f0] ++ out)) (fun k=>?_) (Ev.some_ (by simp [upI,c]))
          simp only [corebankref18_Path.j1,if_true,Option.bind_some];rw [if_pos (by simp;omega),if_pos c]
        · refine Ev.step (f:=fun k=>(corebankref18_Find.f k l g.f1).bind fun t=>corebankref18_Path.l0 k l ([g.f0] ++ out) t.2.2.2.2 t.1 t.2.1 t.2.2.1 t.2.2.2.1) (fun k=>?_) ?_
          · simp only [corebankref18_Path.j1,if_true,Option.bind_some];rw [if_pos (by simp;omega),if_neg c]
          · refine Ev.bind (rfind_ev l g.f1 hn) ?_
            have:=ih ([g.f0] ++ out) (findG l g.f1) (by simp;omega)
            simpa [upI,c] using this
theorem rpath_ev (l:List S62) (id:Int) (hn:l.length≤9223372036854775807):Ev (fun k=>corebankref18_Path.f k l id) (pathG l id):=
  Ev.bind (rfind_ev l id hn) (by simpa [pathG] using rpath_l0 l hn 40 [] (findG l id) rfl)
theorem pathG_length (l:List S62) (id:Int):(pathG l id).length≤40:=by
  unfold pathG;rw [List.length_reverse];exact upI_length _ _ _
/-! ### Contains -/
theorem index_l0 (l:List Int) (x:Int) (hn:l.length≤9223372036854775807) (d:Nat):∀ i:Nat,l.length - i=d→i≤l.length →
    Ev (fun k=>slices_Index_int_int.l0 k l x (l.length:Int) i) (idxFrom (fun y=>x == y) (l.drop i) i):=by
  induction d with
  | zero=>
    intro i hd hi
    refine Ev.step (f:=fun _=>some (-1)) (fun k=>?_) (Ev.some_ ?_)
    · simp only [slices_Index_int_int.l0];rw [if_neg (by omega)]
    · rw [idxFrom_end _ _ _ (by omega)]
  | succ d ih=>
    intro i hd hi
    have hlt:i < l.length:=by omega
    rw [drop_at hlt,idxFrom]
    by_cases c:x=l[i]
    · refine Ev.step (f:=fun _=>some (i:Int)) (fun k=>?_) (Ev.some_ ?_)
      · simp only [slices_Index_int_int.l0];rw [if_pos (by omega),if_pos (by omega),if_pos (by omega),rd_at hlt,if_pos c]
      · simp [c]
    · refine Ev.step (f:=fun k=>slices_Index_int_int.l0 k l x (l.length:Int) ((i + 1:Nat):Int)) (fun k=>?_) ?_
      · simp only [slices_Index_int_int.l0];rw [if_pos (by omega),if_pos (by omega),if_pos (by omega),rd_at hlt,if_neg c,wrap_inc hlt hn]
      · have e:(x == l[i])=false:=by simpa using c
        rw [e]
        exact ih (i + 1) (by omega) (by omega)
theorem contains_ev (l:List Int) (x:Int) (hn:l.length≤9223372036854775807):Ev (fun k=>slices_Contains_int_int.f k l x) (l.contains x):=by
  refine Ev.bind (g:=fun k=>slices_Index_int_int.f k l x) (f:=fun _ t=>some (decide (t ≥ 0))) (Ev.congr (fun _=>rfl) (index_l0 l x hn l.length 0 rfl (Nat.zero_le _))) (Ev.some_ ?_)
  have:=idxFrom_any (fun y=>x == y) (l.drop 0) 0
  rw [List.drop_zero] at this ⊢
  show decide (0≤_)=_
  rw [this,List.contains_eq_any_beq]
def underG (l:List S62) (id root:Int):Bool:=(pathG l id).contains root
theorem under_ev (l:List S62) (id root:Int) (hn:l.length≤9223372036854775807):Ev (fun k=>chart_Under.f k l id root) (underG l id root):=
  Ev.bind (path_ev l id hn) (Ev.bind (f:=fun _ t=>some t) (contains_ev _ root (by have:=pathG_length l id;omega)) (Ev.now _))
theorem runder_l0 (p:List Int) (x:Int) (hn:p.length≤9223372036854775807) (d:Nat):∀ i:Nat,p.length - i=d→i≤p.length →
    Ev (fun k=>corebankref18_Under.l0 k x p i) ((p.drop i).contains x):=by
  induction d with
  | zero=>
    intro i hd hi
    refine Ev.step (f:=fun _=>some false) (fun k=>?_) (Ev.some_ ?_)
    · simp only [corebankref18_Under.l0];rw [if_neg (by omega)]
    · rw [List.drop_of_length_le (by omega)];rfl
  | succ d ih=>
    intro i hd hi
    have hlt:i < p.length:=by omega
    rw [drop_at hlt,List.contains_cons]
    by_cases c:p[i]=x
    · refine Ev.step (f:=fun _=>some true) (fun k=>?_) (Ev.some_ ?_)
      · simp only [corebankref18_Under.l0];rw [if_pos (by omega),if_pos (by omega),rd_at hlt,if_pos c]
      · simp [c]
    · refine Ev.step (f:=fun k=>corebankref18_Under.l0 k x p ((i + 1:Nat):Int)) (fun k=>?_) ?_
      · simp only [corebankref18_Under.l0];rw [if_pos (by omega),if_pos (by omega),rd_at hlt,if_neg c,wrap_inc hlt hn]
      · have e:(x == p[i])=false:=by simpa using Ne.symm c
        rw [e,Bool.false_or]
        exact ih (i + 1) (by omega) (by omega)
theorem runder_ev (l:List S62) (id root:Int) (hn:l.length≤9223372036854775807):Ev (fun k=>corebankref18_Under.f k l id root) (underG l id root):=
  Ev.bind (rpath_ev l id hn) (runder_l0 (pathG l id) root (by have:=pathG_length l id;omega) _ 0 rfl (Nat.zero_le _))
end Go.Proofs.Ytcmaifjmnpfmbaa.R.Proof
