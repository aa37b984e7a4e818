/- Leaves of the program and of the reference come to the same list: strictly ascending, with the same members. -/
import Derived.Test.YtcmaifjmnpfmbaaCx10
import Derived.Test.YtcmaifjmnpfmbaaCx13
import Derived.Test.YtcmaifjmnpfmbaaCBase
namespace Go.Proofs.Ytcmaifjmnpfmbaa.C.Proof
open Go.RowKit Go.Proofs.Ytcmaifjmnpfmbaa.C Go.Proofs.YtcmaifjmnpfmbaaW.PrintWords Go.Proofs.YtcmaifjmnpfmbaaW.PrintLast

/-! ### strictly ascending lists -/
def Asc (l : List Int) : Prop := l.Pairwise (· < ·)
theorem Asc.nodup {l : List Int} (h : Asc l) : l.Nodup := List.Pairwise.imp (fun h => Int.ne_of_lt h) h
theorem asc_ext {a b : List Int} (ha : Asc a) (hb : Asc b) (h : ∀ x, x ∈ a ↔ x ∈ b) : a = b := by
  refine List.Perm.eq_of_pairwise (le := (· < ·)) (fun x y _ _ h1 h2 => absurd h1 (Int.not_lt.2 (Int.le_of_lt h2))) ha hb ?_
  rw [List.perm_ext_iff_of_nodup ha.nodup hb.nodup]
  exact h
/-- x put into a strictly ascending list. -/
def insA (x : Int) (l : List Int) : List Int := l.filter (· < x) ++ x :: l.filter (x < ·)
theorem mem_insA (x y : Int) (l : List Int) : y ∈ insA x l ↔ y = x ∨ y ∈ l := by
  unfold insA
  simp only [List.mem_append, List.mem_cons, List.mem_filter, decide_eq_true_eq]
  constructor
  · rintro (⟨h, _⟩ | h | ⟨h, _⟩)
    · exact .inr h
    · exact .inl h
    · exact .inr h
  · rintro (h | h)
    · exact .inr (.inl h)
    · rcases Int.lt_trichotomy y x with c | c | c
      · exact .inl ⟨h, c⟩
      · exact .inr (.inl c)
      · exact .inr (.inr ⟨h, c⟩)
theorem asc_insA (x : Int) {l : List Int} (h : Asc l) : Asc (insA x l) := by
  unfold insA Asc
  rw [List.pairwise_append, List.pairwise_cons]
  refine ⟨List.Pairwise.filter _ h, ⟨fun y hy => ?_, List.Pairwise.filter _ h⟩, fun a ha b hb => ?_⟩
  · simpa using (List.mem_filter.1 hy).2
  · have h1 : a < x := by simpa using (List.mem_filter.1 ha).2
    rcases List.mem_cons.1 hb with rfl | hb
    · exact h1
    · have h2 : x < b := by simpa using (List.mem_filter.1 hb).2
      omega
theorem length_insA (x : Int) (l : List Int) : (insA x l).length ≤ l.length + 1 := by
  unfold insA
  rw [List.length_append, List.length_cons]
  have h := List.length_filter_le (· < x) l
  have : ∀ l : List Int, (l.filter (· < x)).length + (l.filter (x < ·)).length ≤ l.length := by
    intro l
    induction l with
    | nil => simp
    | cons a l ih =>
      by_cases c : a < x
      · have c' : ¬ x < a := by omega
        simp [c, c']; omega
      · by_cases c' : x < a
        · simp [c, c']; omega
        · simp [c, c']; omega
  have := this l
  omega
theorem insA_split (x : Int) (a b : List Int) (ha : ∀ y ∈ a, y < x) (hb : ∀ y ∈ b, x < y) : insA x (a ++ b) = a ++ x :: b := by
  unfold insA
  rw [List.filter_append, List.filter_append]
  have h1 : a.filter (· < x) = a := List.filter_eq_self.2 (fun y hy => by simpa using ha y hy)
  have h2 : b.filter (· < x) = [] := List.filter_eq_nil_iff.2 (fun y hy => by have := hb y hy; simp; omega)
  have h3 : a.filter (x < ·) = [] := List.filter_eq_nil_iff.2 (fun y hy => by have := ha y hy; simp; omega)
  have h4 : b.filter (x < ·) = b := List.filter_eq_self.2 (fun y hy => by simpa using hb y hy)
  rw [h1, h2, h3, h4]; simp
theorem insA_have (x : Int) (a b : List Int) (ha : ∀ y ∈ a, y < x) (hb : ∀ y ∈ b, x < y) : insA x (a ++ x :: b) = a ++ x :: b := by
  unfold insA
  rw [List.filter_append, List.filter_append]
  have h1 : a.filter (· < x) = a := List.filter_eq_self.2 (fun y hy => by simpa using ha y hy)
  have h2 : (x :: b).filter (· < x) = [] := List.filter_eq_nil_iff.2 (fun y hy => by
    rcases List.mem_cons.1 hy with rfl | hy
    · simp
    · have := hb y hy; simp; omega)
  have h3 : a.filter (x < ·) = [] := List.filter_eq_nil_iff.2 (fun y hy => by have := ha y hy; simp; omega)
  have h4 : (x :: b).filter (x < ·) = b := by
    rw [List.filter_cons_of_neg (by simp)]
    exact List.filter_eq_self.2 (fun y hy => by simpa using hb y hy)
  rw [h1, h2, h3, h4]; simp

/-! ### compact of a sorted list -/
theorem compact_asc (l : List Int) (hs : l.Pairwise (· ≤ ·)) : ∀ m, m ≤ l.length → Asc (Lib.compactUpTo l.toArray m) ∧ (∀ y, y ∈ Lib.compactUpTo l.toArray m ↔ ∃ j, j < m ∧ l.getD j 0 = y) := by
  intro m
  have hget : ∀ j, j < l.length → l.toArray[j]! = l.getD j 0 := by
    intro j hj
    rw [getElem!_pos _ j (by simpa using hj)]
    simp [List.getD_eq_getElem?_getD, List.getElem?_eq_getElem hj]
  have hle : ∀ i j, i < j → j < l.length → l.getD i 0 ≤ l.getD j 0 := by
    intro i j hij hj
    have := List.pairwise_iff_getElem.1 hs i j (by omega) hj hij
    simpa [List.getD_eq_getElem?_getD, List.getElem?_eq_getElem hj, List.getElem?_eq_getElem (show i < l.length by omega)] using this
  induction m with
  | zero => intro _; exact ⟨List.Pairwise.nil, fun y => by simp [Lib.compactUpTo]⟩
  | succ m ih =>
    intro hm
    obtain ⟨h1, h2⟩ := ih (by omega)
    rw [Lib.compactUpTo_succ]
    by_cases c : m = 0 ∨ l.getD m 0 ≠ l.getD (m - 1) 0
    · have hk : Lib.keeps l.toArray m = true := by
        rcases c with rfl | c
        · simp [Lib.keeps]
        · exact Lib.keeps_pos (by rw [hget m (by omega), hget (m - 1) (by omega)]; exact c)
      rw [hk, if_pos rfl, hget m (by omega)]
      have hlt : ∀ y ∈ Lib.compactUpTo l.toArray m, y < l.getD m 0 := by
        intro y hy
        obtain ⟨j, hj, rfl⟩ := (h2 y).1 hy
        rcases c with rfl | c
        · omega
        · have h3 := hle (m - 1) m (by omega) (by omega)
          rcases Nat.lt_or_ge j (m - 1) with h | h
          · have := hle j (m - 1) h (by omega)
            omega
          · obtain rfl : j = m - 1 := by omega
            omega
      refine ⟨?_, fun y => ?_⟩
      · unfold Asc
        rw [List.pairwise_append]
        exact ⟨h1, List.pairwise_singleton _ _, fun a ha b hb => by rw [List.mem_singleton.1 hb]; exact hlt a ha⟩
      · rw [List.mem_append, List.mem_singleton, h2]
        constructor
        · rintro (⟨j, hj, e⟩ | rfl)
          · exact ⟨j, by omega, e⟩
          · exact ⟨m, by omega, rfl⟩
        · rintro ⟨j, hj, e⟩
          rcases Nat.lt_or_ge j m with h | h
          · exact .inl ⟨j, h, e⟩
          · obtain rfl : j = m := by omega
            exact .inr e.symm
    · have hm0 : 0 < m := by omega
      have he : l.getD m 0 = l.getD (m - 1) 0 := by
        rcases Decidable.em (l.getD m 0 = l.getD (m - 1) 0) with h | h
        · exact h
        · exact absurd (.inr h) c
      have hk : Lib.keeps l.toArray m = false := Lib.keeps_neg hm0 (by rw [hget m (by omega), hget (m - 1) (by omega)]; exact he)
      rw [hk, if_neg (by simp), List.append_nil]
      refine ⟨h1, fun y => ?_⟩
      rw [h2]
      constructor
      · rintro ⟨j, hj, e⟩
        exact ⟨j, by omega, e⟩
      · rintro ⟨j, hj, e⟩
        rcases Nat.lt_or_ge j m with h | h
        · exact ⟨j, h, e⟩
        · obtain rfl : j = m := by omega
          exact ⟨j - 1, by omega, he.symm.trans e⟩
theorem sorted_asc (l : List Int) : Asc (Lib.compact (srt l)) ∧ ∀ y, y ∈ Lib.compact (srt l) ↔ y ∈ l := by
  obtain ⟨h1, h2⟩ := compact_asc (srt l) (srt_sorted l) (srt l).length (Nat.le_refl _)
  refine ⟨h1, fun y => ?_⟩
  show y ∈ Lib.compactUpTo (srt l).toArray (srt l).length ↔ _
  rw [h2, ← (srt_perm l).mem_iff]
  constructor
  · rintro ⟨j, hj, rfl⟩
    simp only [List.getD_eq_getElem?_getD, List.getElem?_eq_getElem hj, Option.getD_some]
    exact List.getElem_mem _
  · intro h
    obtain ⟨j, hj, e⟩ := List.getElem_of_mem h
    exact ⟨j, hj, by simp only [List.getD_eq_getElem?_getD, List.getElem?_eq_getElem hj, Option.getD_some]; exact e⟩

/-! ### Leaves -/
def parentG (l : List S62) (id : Int) : Bool := l.any fun g => g.f1 == id
/-- An account without children below the root. -/
def leafQ (l : List S62) (root : Int) (g : S62) : Bool := !parentG l g.f0 && underG l g.f0 root
def leavesG (l : List S62) (root : Int) : List Int := Lib.compact (srt ((l.filter (leafQ l root)).map (·.f0)))

theorem leaves_l0 (l : List S62) (root : Int) (hn : l.length ≤ 1000) (d : Nat) : ∀ (i : Nat) (out : List Int), l.length - i = d → i ≤ l.length → out.length ≤ i →
    Ev (fun k => chart_Leaves.l0 k l root out l (l.length : Int) i) (Lib.compact (srt (out ++ ((l.drop i).filter (leafQ l root)).map (·.f0)))) := by
  induction d with
  | zero =>
    intro i out hd hi ho
    refine Ev.step (f := fun _ => some (Lib.compact (srt out))) (fun k => ?_) (Ev.some_ ?_)
    · simp only [chart_Leaves.l0]; rw [if_neg (by omega), slices_Sort_int_int.f, if_pos (by omega)]; rfl
    · rw [List.drop_of_length_le (by omega)]; simp
  | succ d ih =>
    intro i out hd hi ho
    have hlt : i < l.length := by omega
    rw [drop_at hlt, List.filter_cons]
    by_cases c : parentG l l[i].f0 = true
    · have hq : leafQ l root l[i] = false := by simp [leafQ, c]
      rw [hq, if_neg (by simp)]
      refine Ev.step (f := fun k => chart_Leaves.l0 k l root out l (l.length : Int) ((i + 1 : Nat) : Int)) (fun k => ?_) (ih (i + 1) out (by omega) (by omega) (by omega))
      simp only [chart_Leaves.l0, chart_parent.f, Option.bind_some]
      rw [if_pos (by omega), if_pos (by omega), if_pos (by omega), rd62_at hlt, if_pos (show (l.any fun g => g.f1 == l[i].f0) = true from c), wrap_inc hlt (by omega)]
    · refine Ev.step (f := fun k => (chart_Under.f k l l[i].f0 root).bind fun t => if t = true then (if out.length < 17592186044416 then chart_Leaves.l0 k l root (out ++ [l[i].f0]) l (l.length : Int) ((i + 1 : Nat) : Int) else none) else chart_Leaves.l0 k l root out l (l.length : Int) ((i + 1 : Nat) : Int)) (fun k => ?_) ?_
      · simp only [chart_Leaves.l0, chart_parent.f, Option.bind_some]
        rw [if_pos (by omega), if_pos (by omega), if_pos (by omega), rd62_at hlt, if_neg (show ¬ (l.any fun g => g.f1 == l[i].f0) = true from c), wrap_inc hlt (by omega)]
      · refine Ev.bind (under_ev l _ root (by omega)) ?_
        cases hu : underG l l[i].f0 root with
        | true =>
          have hq : leafQ l root l[i] = true := by simp [leafQ, hu]; simpa using c
          rw [hq, if_pos rfl]
          refine Ev.congr (fun k => by rw [if_pos rfl, if_pos (by omega)]) ?_
          have := ih (i + 1) (out ++ [l[i].f0]) (by omega) (by omega) (by simp; omega)
          simpa using this
        | false =>
          have hq : leafQ l root l[i] = false := by simp [leafQ, hu]
          rw [hq, if_neg (by simp)]
          exact Ev.congr (fun k => by rw [if_neg (by simp)]) (ih (i + 1) out (by omega) (by omega) (by omega))
theorem leaves_ev (l : List S62) (root : Int) (hn : l.length ≤ 1000) : Ev (fun k => chart_Leaves.f k l root) (leavesG l root) := by
  have h := leaves_l0 l root hn l.length 0 [] rfl (Nat.zero_le _) (by simp)
  rw [List.nil_append, List.drop_zero] at h
  exact Ev.congr (fun _ => rfl) h
theorem leavesG_asc (l : List S62) (root : Int) : Asc (leavesG l root) := (sorted_asc _).1
theorem mem_leavesG (l : List S62) (root y : Int) : y ∈ leavesG l root ↔ ∃ g ∈ l, leafQ l root g = true ∧ g.f0 = y := by
  rw [leavesG, (sorted_asc _).2]
  simp only [List.mem_map, List.mem_filter, and_assoc]

theorem rparent_l0 (l : List S62) (id : Int) (hn : l.length ≤ 9223372036854775807) (d : Nat) : ∀ i : Nat, l.length - i = d → i ≤ l.length →
    Ev (fun k => corebankref18_Parent.l0 k l id i) ((l.drop i).any fun g => g.f1 == id) := by
  induction d with
  | zero =>
    intro i hd hi
    refine Ev.step (f := fun _ => some false) (fun k => ?_) (Ev.some_ ?_)
    · simp only [corebankref18_Parent.l0]; rw [if_neg (by omega)]
    · rw [List.drop_of_length_le (by omega)]; rfl
  | succ d ih =>
    intro i hd hi
    have hlt : i < l.length := by omega
    rw [drop_at hlt, List.any_cons]
    by_cases c : l[i].f1 = id
    · refine Ev.step (f := fun _ => some true) (fun k => ?_) (Ev.some_ ?_)
      · simp only [corebankref18_Parent.l0]; rw [if_pos (by omega), if_pos (by omega), rd62_at hlt, if_pos c]
      · simp [c]
    · refine Ev.step (f := fun k => corebankref18_Parent.l0 k l id ((i + 1 : Nat) : Int)) (fun k => ?_) ?_
      · simp only [corebankref18_Parent.l0]; rw [if_pos (by omega), if_pos (by omega), rd62_at hlt, if_neg c, wrap_inc hlt hn]
      · have e : (l[i].f1 == id) = false := by simpa using c
        rw [e, Bool.false_or]
        exact ih (i + 1) (by omega) (by omega)
theorem rparent_ev (l : List S62) (id : Int) (hn : l.length ≤ 9223372036854775807) : Ev (fun k => corebankref18_Parent.f k l id) (parentG l id) :=
  Ev.congr (fun _ => rfl) (rparent_l0 l id hn l.length 0 rfl (Nat.zero_le _))

end Go.Proofs.Ytcmaifjmnpfmbaa.C.Proof
