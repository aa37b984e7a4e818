-- Made by wip/tools/ext.py (this project's) over the kit's print, with external functions' contracts by hand. Not trusted: Lean checks it.
import Derived.Test.YtajephmamebcgaaKx0
namespace Go.Proofs.Ytajephmamebcgaa.K
open Go.RowKit Go.Proofs.YtajephmamebcgaaW.PrintWords Go.Proofs.YtajephmamebcgaaW.PrintLast Go.Proofs.YtajephmamebcgaaW.PrintMore
attribute [local go_sem] max2_int min2_int max_two min_two max_three min_three max_four min_four   -- for this text's walks alone
set_option linter.unusedVariables false
set_option linter.unusedSimpArgs false

-- EXT: slices_Sort_int_int (this project's own)
/-! ### slices_Sort_int_int: function 62 -/
/-- What the row's block holds behind a sort or the like. -/
theorem put_heap {w : World} {g q : Nat} {os : Array Obj} {cur : Array Value} {t : TypeId} {ys : List Int} (hh : w.heap[g]? = some (.cells cur t (0, 0))) :
    (Sort.grow (Sort.putRow (Value.int .i64) (Sort.ahead w q) g 0 ys.toArray) os).heap[g]? = some (.cells (Sort.putCells (Value.int .i64) 0 ys.toArray cur) t (0, 0)) := by
  have hlt : g < w.heap.size := blk_lt hh
  rw [Sort.heap_grow_old _ _ (by simp [Sort.putRow, Sort.mapBlock, Sort.ahead]; exact hlt)]
  simp only [Sort.putRow, Sort.mapBlock, Sort.ahead, Array.getElem?_modify, if_true, hh, Option.map_some, Sort.onCells]
theorem put_other {w : World} {g q : Nat} {os : Array Obj} {ys : List Int} {i : Nat} (hi : i < w.heap.size) (hne : i ≠ g) :
    (Sort.grow (Sort.putRow (Value.int .i64) (Sort.ahead w q) g 0 ys.toArray) os).heap[i]? = w.heap[i]? := by
  rw [Sort.heap_grow_old _ _ (by simp [Sort.putRow, Sort.mapBlock, Sort.ahead]; exact hi)]
  simp [Sort.putRow, Sort.mapBlock, Sort.ahead, Array.getElem?_modify, Ne.symm hne]
theorem put_size {w : World} {g q : Nat} {os : Array Obj} {ys : List Int} : w.heap.size ≤ (Sort.grow (Sort.putRow (Value.int .i64) (Sort.ahead w q) g 0 ys.toArray) os).heap.size := by
  simp [Sort.putRow, Sort.mapBlock, Sort.ahead]
theorem put_below {w0 w : World} {g q : Nat} {os : Array Obj} {ys : List Int} (hB : Below w0.heap.size w0 w) (hg : w0.heap.size ≤ g) :
    Below w0.heap.size w0 (Sort.grow (Sort.putRow (Value.int .i64) (Sort.ahead w q) g 0 ys.toArray) os) :=
  ⟨hB.os, hB.tape, hB.output, Nat.le_trans hB.size put_size, fun i hi => (put_other (Nat.lt_of_lt_of_le hi hB.size) (by omega)).trans (hB.block i hi)⟩
theorem put_kept {w : World} {g q : Nat} {os : Array Obj} {ys : List Int} {S : Nat → Prop} (hS : S g) : Kept w (Sort.grow (Sort.putRow (Value.int .i64) (Sort.ahead w q) g 0 ys.toArray) os) S :=
  ⟨put_size, fun i hi hn => put_other hi (fun e => hn (e ▸ hS))⟩
theorem put_take {cur : Array Value} {ys : List Int} (m : Nat) (hm : m ≤ ys.length) (hc : ys.length ≤ cur.size) : (Sort.putCells (Value.int .i64) 0 ys.toArray cur).toList.take m = (ys.take m).map (Value.int .i64) := by
  apply List.ext_getElem
  · simp [Sort.putCells]; omega
  · intro i h1 h2
    simp only [List.length_map, List.length_take] at h2
    have hi : i < ys.length := by omega
    simp [Sort.putCells, hi]
theorem put_R {w : World} {base g n cap q m : Nat} {ok : Nat → Prop} {os : Array Obj} {xs ys : List Int} (h : Kd.R (Kd.int .i64) 3 w base ok (.slice (some ⟨g, 0, none⟩) n cap) xs) (hy : ys.length = n) (hm : m ≤ n) :
    Kd.R (Kd.int .i64) 3 (Sort.grow (Sort.putRow (Value.int .i64) (Sort.ahead w q) g 0 ys.toArray) os) base ok (.slice (some ⟨g, 0, none⟩) m cap) (ys.take m) := by
  have ho := Kd.own_of_R h
  refine Kd.R_of_own ?_ (fun k hk => h.1 k (by simpa [Value.ownBlock] using hk))
  rcases ho.2 with ⟨hv, _⟩ | ⟨g', cap', cur, hv, hb, hh, hn, hcm, hs, _⟩
  · cases hv
  · injection hv with h1 h2 h3
    injection h1 with h1
    injection h1 with h1
    subst h1 h2 h3
    have hl : (ys.take m).length = m := by simp; omega
    refine ⟨by simp [encs], .inr ⟨g, cap, _, by rw [hl], hb, put_heap hh, by omega, hcm, by simp [Sort.putCells, hs], ?_⟩⟩
    rw [hl, Nat.mul_one, put_take m (by omega) (by omega)]
    rfl
theorem put_holds {w : World} {base g n cap : Nat} {ok : Nat → Prop} {xs : List Int} (h : Kd.R (Kd.int .i64) 3 w base ok (.slice (some ⟨g, 0, none⟩) n cap) xs) : Sort.Holds (Value.int .i64) w g 0 xs.toArray ∧ g < w.heap.size ∧ n = xs.length ∧ n ≤ cap ∧ n ≤ 9223372036854775807 ∧ base ≤ g ∧ ok g := by
  have ho := Kd.own_of_R h
  rcases ho.2 with ⟨hv, _⟩ | ⟨g', cap', cur, hv, hb, hh, hn, hcm, hs, ht⟩
  · cases hv
  · injection hv with h1 h2 h3
    injection h1 with h1
    injection h1 with h1
    subst h1 h2 h3
    refine ⟨fun j hj => ⟨?_, ?_⟩, blk_lt hh, rfl, hn, by unfold maxLen at hcm; omega, hb, h.1 g rfl⟩
    · have hj' : j < xs.length := by simpa using hj
      rw [Nat.zero_add, blk_cell hh]
      have h3 : (cur.toList.take (xs.length * 1))[j]? = (encs (Value.int .i64) xs)[j]? := by rw [ht]
      rw [Nat.mul_one, List.getElem?_take_of_lt hj', Array.getElem?_toList] at h3
      rw [h3]
      simp [encs, hj']
    · rw [Nat.zero_add]
      exact blk_frozen hh j
/-- Sorted, by insertion. -/
def insI (x : Int) : List Int → List Int
  | [] => [x]
  | y :: ys => if x ≤ y then x :: y :: ys else y :: insI x ys
def srt : List Int → List Int
  | [] => []
  | x :: xs => insI x (srt xs)
theorem insI_perm (x : Int) : ∀ l : List Int, (insI x l).Perm (x :: l)
  | [] => .refl _
  | y :: ys => by
    unfold insI
    split
    · exact .refl _
    · exact (List.Perm.cons y (insI_perm x ys)).trans (List.Perm.swap x y ys)
theorem srt_perm : ∀ l : List Int, (srt l).Perm l
  | [] => .refl _
  | x :: xs => (insI_perm x (srt xs)).trans (List.Perm.cons x (srt_perm xs))
theorem insI_sorted (x : Int) : ∀ l : List Int, l.Pairwise (· ≤ ·) → (insI x l).Pairwise (· ≤ ·)
  | [], _ => by simp [insI]
  | y :: ys, h => by
    rw [List.pairwise_cons] at h
    unfold insI
    split
    · rename_i hxy
      rw [List.pairwise_cons]
      refine ⟨fun a ha => ?_, List.pairwise_cons.2 h⟩
      rcases List.mem_cons.1 ha with rfl | ha
      · exact hxy
      · exact Int.le_trans hxy (h.1 a ha)
    · rename_i hxy
      rw [List.pairwise_cons]
      refine ⟨fun a ha => ?_, insI_sorted x ys h.2⟩
      rcases List.mem_cons.1 ((insI_perm x ys).mem_iff.1 ha) with rfl | ha
      · omega
      · exact h.1 a ha
theorem srt_sorted : ∀ l : List Int, (srt l).Pairwise (· ≤ ·)
  | [] => .nil
  | x :: xs => insI_sorted x _ (srt_sorted xs)
theorem mergeSort_srt (l : List Int) : (l.mergeSort fun x y => decide (x ≤ y)) = srt l := by
  refine List.Perm.eq_of_pairwise (le := (· ≤ ·)) (fun a b _ _ h1 h2 => Int.le_antisymm h1 h2) ?_ (srt_sorted l) ((List.mergeSort_perm l _).trans (srt_perm l).symm)
  exact (List.pairwise_mergeSort (fun a b c h1 h2 => by simp at *; omega) (fun a b => by simp; omega) l).imp (fun h => by simpa using h)
def slices_Sort_int_int.f (l0 : List Int) : Option (List Int) := if l0.length < 4611686018427387904 then some (srt l0) else none
set_option maxHeartbeats 2000000 in
set_option maxRecDepth 100000 in
theorem slices_Sort_int_int.calls (P0_ : Nat → Prop) (u9000_ : Value) (l0 : List Int) (r : List Int) (w0 w : World) (hB : Below w0.heap.size w0 w) (ho0 : Kd.R (Kd.int .i64) 3 w w0.heap.size P0_ u9000_ l0) (h : slices_Sort_int_int.f l0 = some r) :
    Calls Try.prog 62 #[u9000_] w fun e w' => e = .returned (.tuple #[]) ∧ Kd.R (Kd.int .i64) 3 w' w0.heap.size (fun k_ => (P0_ k_ ∨ w.heap.size ≤ k_)) u9000_ r ∧ Below w0.heap.size w0 w' ∧ Kept w w' (fun k_ => P0_ k_) := by
  unfold slices_Sort_int_int.f at h
  by_cases hlen : l0.length < 4611686018427387904
  case neg => rw [if_neg hlen] at h; cases h
  rw [if_pos hlen] at h
  obtain rfl := Option.some.inj h
  clear h
  obtain ⟨A, c, rfl⟩ := Kd.R_slice ho0
  rcases l0 with _ | ⟨x, l0⟩
  · refine (Try.slices_Sort_int_none A c w).mono ?_
    rintro e w' ⟨rfl, rfl⟩
    exact ⟨rfl, Kd.R_mono (show Kd.R (Kd.int .i64) 3 w' w0.heap.size P0_ (.slice A 0 c) [] from ho0) (fun _ hk => .inl hk), hB, Kept.refl _ _⟩
  · obtain ⟨g, cap, hv, hg⟩ := Kd.R_form ho0 (by simp)
    injection hv with h1 h2 h3
    subst h1 h3
    obtain ⟨hH, hlt, hn, hcap, hmax, hb, hok⟩ := put_holds ho0
    refine (Try.slices_Sort_int g 0 c (x :: l0) w hH hlt hlen).mono ?_
    rintro e w' ⟨rfl, q, os, rfl⟩
    rw [mergeSort_srt]
    have hl : (srt (x :: l0)).length = (x :: l0).length := (srt_perm _).length_eq
    have hr := put_R (q := q) (os := os) ho0 hl (Nat.le_refl _)
    rw [← hl, List.take_length, hl] at hr
    exact ⟨rfl, Kd.R_mono hr (fun _ hk => .inl hk), put_below hB hb, put_kept hok⟩

end Go.Proofs.Ytajephmamebcgaa.K
