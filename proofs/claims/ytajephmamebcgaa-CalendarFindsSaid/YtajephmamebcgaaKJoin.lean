/- Join of the program and of the reference: strictly ascending lists with the numbers of both. -/
import Derived.Test.YtajephmamebcgaaKx10
import Derived.Test.YtajephmamebcgaaKx11
import Derived.Test.YtajephmamebcgaaKx12
import Derived.Test.YtajephmamebcgaaKx22
import Derived.Test.YtajephmamebcgaaKx9
import Derived.Test.YtajephmamebcgaaKBase
namespace Go.Proofs.Ytajephmamebcgaa.K.Proof
open Go.RowKit Go.Proofs.Ytajephmamebcgaa.K Go.Proofs.YtajephmamebcgaaW.PrintWords Go.Proofs.YtajephmamebcgaaW.PrintLast Go.Proofs.YtajephmamebcgaaW.PrintMore

/-! ### strictly ascending lists -/
def Asc (l : List Int) : Prop := l.Pairwise (· < ·)
theorem Asc.nodup {l : List Int} (h : Asc l) : l.Nodup := List.Pairwise.imp (fun h => Int.ne_of_lt h) h
theorem asc_ext {a b : List Int} (ha : Asc a) (hb : Asc b) (h : ∀ x, x ∈ a ↔ x ∈ b) : a = b := by
  refine List.Perm.eq_of_pairwise (le := (· < ·)) (fun x y _ _ h1 h2 => absurd h1 (Int.not_lt.2 (Int.le_of_lt h2))) ha hb ?_
  rw [List.perm_ext_iff_of_nodup ha.nodup hb.nodup]
  exact h
/-- x put into a strictly ascending list. -/
def insA (x : Int) (l : List Int) : List Int := l.filter (· < x) ++ x :: l.filter (x < ·)
theorem mem_insA (x y : Int) (l : List Int) : y ∈ insA x l ↔ y = x ∨ y ∈ l := by
  unfold insA
  simp only [List.mem_append, List.mem_cons, List.mem_filter, decide_eq_true_eq]
  constructor
  · rintro (⟨h, _⟩ | h | ⟨h, _⟩)
    · exact .inr h
    · exact .inl h
    · exact .inr h
  · rintro (h | h)
    · exact .inr (.inl h)
    · rcases Int.lt_trichotomy y x with c | c | c
      · exact .inl ⟨h, c⟩
      · exact .inr (.inl c)
      · exact .inr (.inr ⟨h, c⟩)
theorem asc_insA (x : Int) {l : List Int} (h : Asc l) : Asc (insA x l) := by
  unfold insA Asc
  rw [List.pairwise_append, List.pairwise_cons]
  refine ⟨List.Pairwise.filter _ h, ⟨fun y hy => ?_, List.Pairwise.filter _ h⟩, fun a ha b hb => ?_⟩
  · simpa using (List.mem_filter.1 hy).2
  · have h1 : a < x := by simpa using (List.mem_filter.1 ha).2
    rcases List.mem_cons.1 hb with rfl | hb
    · exact h1
    · have h2 : x < b := by simpa using (List.mem_filter.1 hb).2
      omega
theorem length_insA (x : Int) (l : List Int) : (insA x l).length ≤ l.length + 1 := by
  unfold insA
  rw [List.length_append, List.length_cons]
  have h := List.length_filter_le (· < x) l
  have : ∀ l : List Int, (l.filter (· < x)).length + (l.filter (x < ·)).length ≤ l.length := by
    intro l
    induction l with
    | nil => simp
    | cons a l ih =>
      by_cases c : a < x
      · have c' : ¬ x < a := by omega
        simp [c, c']; omega
      · by_cases c' : x < a
        · simp [c, c']; omega
        · simp [c, c']; omega
  have := this l
  omega
theorem insA_split (x : Int) (a b : List Int) (ha : ∀ y ∈ a, y < x) (hb : ∀ y ∈ b, x < y) : insA x (a ++ b) = a ++ x :: b := by
  unfold insA
  rw [List.filter_append, List.filter_append]
  have h1 : a.filter (· < x) = a := List.filter_eq_self.2 (fun y hy => by simpa using ha y hy)
  have h2 : b.filter (· < x) = [] := List.filter_eq_nil_iff.2 (fun y hy => by have := hb y hy; simp; omega)
  have h3 : a.filter (x < ·) = [] := List.filter_eq_nil_iff.2 (fun y hy => by have := ha y hy; simp; omega)
  have h4 : b.filter (x < ·) = b := List.filter_eq_self.2 (fun y hy => by simpa using hb y hy)
  rw [h1, h2, h3, h4]; simp
theorem insA_have (x : Int) (a b : List Int) (ha : ∀ y ∈ a, y < x) (hb : ∀ y ∈ b, x < y) : insA x (a ++ x :: b) = a ++ x :: b := by
  unfold insA
  rw [List.filter_append, List.filter_append]
  have h1 : a.filter (· < x) = a := List.filter_eq_self.2 (fun y hy => by simpa using ha y hy)
  have h2 : (x :: b).filter (· < x) = [] := List.filter_eq_nil_iff.2 (fun y hy => by
    rcases List.mem_cons.1 hy with rfl | hy
    · simp
    · have := hb y hy; simp; omega)
  have h3 : a.filter (x < ·) = [] := List.filter_eq_nil_iff.2 (fun y hy => by have := ha y hy; simp; omega)
  have h4 : (x :: b).filter (x < ·) = b := by
    rw [List.filter_cons_of_neg (by simp)]
    exact List.filter_eq_self.2 (fun y hy => by simpa using hb y hy)
  rw [h1, h2, h3, h4]; simp

/-! ### compact of a sorted list -/
theorem compact_asc (l : List Int) (hs : l.Pairwise (· ≤ ·)) : ∀ m, m ≤ l.length → Asc (Lib.compactUpTo l.toArray m) ∧ (∀ y, y ∈ Lib.compactUpTo l.toArray m ↔ ∃ j, j < m ∧ l.getD j 0 = y) := by
  intro m
  have hget : ∀ j, j < l.length → l.toArray[j]! = l.getD j 0 := by
    intro j hj
    rw [getElem!_pos _ j (by simpa using hj)]
    simp [List.getD_eq_getElem?_getD, List.getElem?_eq_getElem hj]
  have hle : ∀ i j, i < j → j < l.length → l.getD i 0 ≤ l.getD j 0 := by
    intro i j hij hj
    have := List.pairwise_iff_getElem.1 hs i j (by omega) hj hij
    simpa [List.getD_eq_getElem?_getD, List.getElem?_eq_getElem hj, List.getElem?_eq_getElem (show i < l.length by omega)] using this
  induction m with
  | zero => intro _; exact ⟨List.Pairwise.nil, fun y => by simp [Lib.compactUpTo]⟩
  | succ m ih =>
    intro hm
    obtain ⟨h1, h2⟩ := ih (by omega)
    rw [Lib.compactUpTo_succ]
    by_cases c : m = 0 ∨ l.getD m 0 ≠ l.getD (m - 1) 0
    · have hk : Lib.keeps l.toArray m = true := by
        rcases c with rfl | c
        · simp [Lib.keeps]
        · exact Lib.keeps_pos (by rw [hget m (by omega), hget (m - 1) (by omega)]; exact c)
      rw [hk, if_pos rfl, hget m (by omega)]
      have hlt : ∀ y ∈ Lib.compactUpTo l.toArray m, y < l.getD m 0 := by
        intro y hy
        obtain ⟨j, hj, rfl⟩ := (h2 y).1 hy
        rcases c with rfl | c
        · omega
        · have h3 := hle (m - 1) m (by omega) (by omega)
          rcases Nat.lt_or_ge j (m - 1) with h | h
          · have := hle j (m - 1) h (by omega)
            omega
          · obtain rfl : j = m - 1 := by omega
            omega
      refine ⟨?_, fun y => ?_⟩
      · unfold Asc
        rw [List.pairwise_append]
        exact ⟨h1, List.pairwise_singleton _ _, fun a ha b hb => by rw [List.mem_singleton.1 hb]; exact hlt a ha⟩
      · rw [List.mem_append, List.mem_singleton, h2]
        constructor
        · rintro (⟨j, hj, e⟩ | rfl)
          · exact ⟨j, by omega, e⟩
          · exact ⟨m, by omega, rfl⟩
        · rintro ⟨j, hj, e⟩
          rcases Nat.lt_or_ge j m with h | h
          · exact .inl ⟨j, h, e⟩
          · obtain rfl : j = m := by omega
            exact .inr e.symm
    · have hm0 : 0 < m := by omega
      have he : l.getD m 0 = l.getD (m - 1) 0 := by
        rcases Decidable.em (l.getD m 0 = l.getD (m - 1) 0) with h | h
        · exact h
        · exact absurd (.inr h) c
      have hk : Lib.keeps l.toArray m = false := Lib.keeps_neg hm0 (by rw [hget m (by omega), hget (m - 1) (by omega)]; exact he)
      rw [hk, if_neg (by simp), List.append_nil]
      refine ⟨h1, fun y => ?_⟩
      rw [h2]
      constructor
      · rintro ⟨j, hj, e⟩
        exact ⟨j, by omega, e⟩
      · rintro ⟨j, hj, e⟩
        rcases Nat.lt_or_ge j m with h | h
        · exact ⟨j, h, e⟩
        · obtain rfl : j = m := by omega
          exact ⟨j - 1, by omega, he.symm.trans e⟩
theorem sorted_asc (l : List Int) : Asc (Lib.compact (srt l)) ∧ ∀ y, y ∈ Lib.compact (srt l) ↔ y ∈ l := by
  obtain ⟨h1, h2⟩ := compact_asc (srt l) (srt_sorted l) (srt l).length (Nat.le_refl _)
  refine ⟨h1, fun y => ?_⟩
  show y ∈ Lib.compactUpTo (srt l).toArray (srt l).length ↔ _
  rw [h2, ← (srt_perm l).mem_iff]
  constructor
  · rintro ⟨j, hj, rfl⟩
    simp only [List.getD_eq_getElem?_getD, List.getElem?_eq_getElem hj, Option.getD_some]
    exact List.getElem_mem _
  · intro h
    obtain ⟨j, hj, e⟩ := List.getElem_of_mem h
    exact ⟨j, hj, by simp only [List.getD_eq_getElem?_getD, List.getElem?_eq_getElem hj, Option.getD_some]; exact e⟩


/-! ### The union -/
def unionG (a b : List Int) : List Int := Lib.compact (srt (a ++ b))
theorem union_asc (a b : List Int) : Asc (unionG a b) := (sorted_asc _).1
theorem mem_union (a b : List Int) (x : Int) : x ∈ unionG a b ↔ x ∈ a ∨ x ∈ b := by
  unfold unionG; rw [(sorted_asc _).2, List.mem_append]
theorem union_length (a b : List Int) : (unionG a b).length ≤ a.length + b.length := by
  have := List.Nodup.length_le_of_subset (l₂ := a ++ b) (union_asc a b).nodup (fun x hx => List.mem_append.2 ((mem_union a b x).1 hx))
  rwa [List.length_append] at this
theorem union_eq (a b : List Int) (h : a.length + b.length ≤ 1000) : calendar_union.f a b = some (unionG a b) := by
  have e : ([a, b] : List (List Int)).flatten = a ++ b := by simp
  unfold calendar_union.f slices_Concat_int_int.f
  rw [e, if_pos (by rw [List.length_append]; omega), Option.bind_some]
  unfold slices_Sort_int_int.f
  rw [if_pos (by rw [List.length_append]; omega)]
  rfl

/-- The least one of those that have q, and of the one at hand. -/
def best (q : Int → Bool) : Option Int → List Int → Option Int
  | cur, [] => cur
  | none, e :: r => best q (if q e = true then some e else none) r
  | some c, e :: r => best q (if q e = true then (if e < c then some e else some c) else some c) r
theorem best_spec (q : Int → Bool) : ∀ (r : List Int) (cur : Option Int), (best q cur r = none → cur = none ∧ ∀ e ∈ r, q e = false) ∧
    (∀ c, best q cur r = some c → (cur = some c ∨ (c ∈ r ∧ q c = true)) ∧ (∀ e ∈ r, q e = true → c ≤ e) ∧ ∀ c0, cur = some c0 → c ≤ c0)
  | [], cur => by
    have e : best q cur [] = cur := by cases cur <;> rfl
    rw [e]
    exact ⟨fun h => ⟨h, fun x hx => by cases hx⟩, fun c h => ⟨.inl h, fun x hx => (by cases hx), fun c0 h0 => by rw [h] at h0; injection h0 with h0; omega⟩⟩
  | e :: r, none => by
    obtain ⟨h1, h2⟩ := best_spec q r (if q e = true then some e else none)
    simp only [best]
    by_cases ce : q e = true
    · rw [if_pos ce] at h1 h2 ⊢
      refine ⟨fun h => absurd (h1 h).1 (by simp), fun c h => ?_⟩
      obtain ⟨g1, g2, g3⟩ := h2 c h
      refine ⟨.inr ?_, fun x hx hq => ?_, fun c0 h0 => by cases h0⟩
      · rcases g1 with g1 | g1
        · obtain rfl := Option.some.inj g1; exact ⟨List.mem_cons_self, ce⟩
        · exact ⟨List.mem_cons_of_mem _ g1.1, g1.2⟩
      · rcases List.mem_cons.1 hx with rfl | hx
        · exact g3 _ rfl
        · exact g2 x hx hq
    · rw [if_neg ce] at h1 h2 ⊢
      refine ⟨fun h => ⟨trivial, fun x hx => ?_⟩, fun c h => ?_⟩
      · rcases List.mem_cons.1 hx with rfl | hx
        · simpa using ce
        · exact (h1 h).2 x hx
      · obtain ⟨g1, g2, g3⟩ := h2 c h
        refine ⟨.inr ?_, fun x hx hq => ?_, fun c0 h0 => by cases h0⟩
        · rcases g1 with g1 | g1
          · cases g1
          · exact ⟨List.mem_cons_of_mem _ g1.1, g1.2⟩
        · rcases List.mem_cons.1 hx with rfl | hx
          · exact absurd hq ce
          · exact g2 x hx hq
  | e :: r, some c1 => by
    obtain ⟨h1, h2⟩ := best_spec q r (if q e = true then (if e < c1 then some e else some c1) else some c1)
    simp only [best]
    by_cases ce : q e = true
    · by_cases cl : e < c1
      · rw [if_pos ce, if_pos cl] at h1 h2 ⊢
        refine ⟨fun h => absurd (h1 h).1 (by simp), fun c h => ?_⟩
        obtain ⟨g1, g2, g3⟩ := h2 c h
        have g4 := g3 e rfl
        refine ⟨.inr ?_, fun x hx hq => ?_, fun c0 h0 => by obtain rfl := Option.some.inj h0; omega⟩
        · rcases g1 with g1 | g1
          · obtain rfl := Option.some.inj g1; exact ⟨List.mem_cons_self, ce⟩
          · exact ⟨List.mem_cons_of_mem _ g1.1, g1.2⟩
        · rcases List.mem_cons.1 hx with rfl | hx
          · exact g4
          · exact g2 x hx hq
      · rw [if_pos ce, if_neg cl] at h1 h2 ⊢
        refine ⟨fun h => absurd (h1 h).1 (by simp), fun c h => ?_⟩
        obtain ⟨g1, g2, g3⟩ := h2 c h
        have g4 := g3 c1 rfl
        refine ⟨?_, fun x hx hq => ?_, g3⟩
        · rcases g1 with g1 | g1
          · exact .inl g1
          · exact .inr ⟨List.mem_cons_of_mem _ g1.1, g1.2⟩
        · rcases List.mem_cons.1 hx with rfl | hx
          · omega
          · exact g2 x hx hq
    · rw [if_neg ce] at h1 h2 ⊢
      refine ⟨fun h => absurd (h1 h).1 (by simp), fun c h => ?_⟩
      obtain ⟨g1, g2, g3⟩ := h2 c h
      refine ⟨?_, fun x hx hq => ?_, g3⟩
      · rcases g1 with g1 | g1
        · exact .inl g1
        · exact .inr ⟨List.mem_cons_of_mem _ g1.1, g1.2⟩
      · rcases List.mem_cons.1 hx with rfl | hx
        · exact absurd hq ce
        · exact g2 x hx hq
/-- Larger than the last one of a list. -/
def past (out : List Int) (e : Int) : Bool := if out.length = 0 then true else decide (e > rd out ((out.length - 1 : Nat) : Int))
theorem past_asc {out : List Int} (h : Asc out) (e : Int) : past out e = true ↔ ∀ o ∈ out, o < e := by
  unfold past
  by_cases c : out.length = 0
  · rw [if_pos c]; have : out = [] := List.length_eq_zero_iff.1 c; subst this; simp
  · rw [if_neg c, rd_at (by omega), decide_eq_true_iff]
    constructor
    · intro hl o ho
      obtain ⟨i, hi, rfl⟩ := List.getElem_of_mem ho
      by_cases ci : i = out.length - 1
      · subst ci; exact hl
      · have := List.pairwise_iff_getElem.1 h i (out.length - 1) hi (by omega) (by omega)
        omega
    · intro hl; exact hl _ (List.getElem_mem _)
/-- An index stands for the one at hand. -/
def stands (all : List Int) (at_ : Int) : Option Int → Prop
  | none => at_ = -1
  | some c => ∃ j : Nat, ∃ h : j < all.length, at_ = j ∧ all[j] = c
theorem join_l1 (all out : List Int) (hn : all.length ≤ 1000) (ho : out.length ≤ 1000) (r : List Int) (d : Nat) : ∀ (i : Nat) (at_ : Int) (cur : Option Int), i ≤ all.length → all.length - i = d → stands all at_ cur →
    (best (past out) cur (all.drop i) = none → r = out) → (∀ c, best (past out) cur (all.drop i) = some c → Ev (fun k => corebankref05_join.l0 k all (out ++ [c])) r) →
    Ev (fun k => corebankref05_join.l1 k all out at_ i) r := by
  induction d with
  | zero =>
    intro i at_ cur hi hd hs h1 h2
    rw [List.drop_of_length_le (by omega)] at h1 h2
    cases cur with
    | none =>
      obtain rfl : at_ = -1 := hs
      have hr := h1 rfl
      subst hr
      refine Ev.step (f := fun _ => some r) (fun k => ?_) (Ev.now _)
      simp only [corebankref05_join.l1]; rw [if_neg (by omega), if_pos (by decide)]
    | some c =>
      obtain ⟨j, hj, rfl, rfl⟩ := hs
      refine Ev.step (f := fun k => corebankref05_join.l0 k all (out ++ [all[j]])) (fun k => ?_) (h2 _ rfl)
      simp only [corebankref05_join.l1]; rw [if_neg (by omega), if_neg (by omega), if_pos (by omega), if_pos (by omega), if_pos (by omega), rd_at hj]
  | succ d ih =>
    intro i at_ cur hi hd hs h1 h2
    have hlt : i < all.length := by omega
    have hw := wrap_inc (n := all.length) hlt (by omega)
    rw [drop_at hlt] at h1 h2
    -- one round: the index at hand stays or becomes i
    have stay : ∀ {cur' : Option Int}, cur' = cur → (best (past out) cur (all[i] :: all.drop (i + 1)) = best (past out) cur' (all.drop (i + 1))) → Ev (fun k => corebankref05_join.l1 k all out at_ ((i + 1 : Nat) : Int)) r := by
      intro cur' e1 e2
      subst e1
      exact ih (i + 1) at_ cur' (by omega) (by omega) hs (fun h => h1 (e2.trans h)) (fun c h => h2 c (e2.trans h))
    have move : (best (past out) cur (all[i] :: all.drop (i + 1)) = best (past out) (some all[i]) (all.drop (i + 1))) → Ev (fun k => corebankref05_join.l1 k all out (i : Int) ((i + 1 : Nat) : Int)) r := by
      intro e2
      exact ih (i + 1) i (some all[i]) (by omega) (by omega) ⟨i, hlt, rfl, rfl⟩ (fun h => h1 (e2.trans h)) (fun c h => h2 c (e2.trans h))
    have hwd : out.length ≠ 0 → wrap64 ((out.length : Int) - 1) = ((out.length - 1 : Nat) : Int) := by intro h; unfold wrap64; omega
    by_cases cp : past out all[i] = true
    · -- it is past the last one
      have go : ∀ {g : Nat → Option (List Int)}, (∀ k, g (k + 1) = if at_ < 0 then corebankref05_join.l1 k all out (i : Int) ((i + 1 : Nat) : Int) else if 0 ≤ at_ then (if at_ < (all.length : Int) then (if all[i] < rd all at_ then corebankref05_join.l1 k all out (i : Int) ((i + 1 : Nat) : Int) else corebankref05_join.l1 k all out at_ ((i + 1 : Nat) : Int)) else none) else none) → Ev g r := by
        intro g hg
        cases cur with
        | none =>
          obtain rfl : at_ = -1 := hs
          refine Ev.step (fun k => (hg k).trans (if_pos (by decide))) (move ?_)
          simp only [best]; rw [if_pos cp]
        | some c =>
          obtain ⟨j, hj, rfl, rfl⟩ := hs
          by_cases cl : all[i] < all[j]
          · refine Ev.step (f := fun k => corebankref05_join.l1 k all out (i : Int) ((i + 1 : Nat) : Int)) (fun k => ?_) (move ?_)
            · rw [hg k, if_neg (by omega), if_pos (by omega), if_pos (by omega), rd_at hj, if_pos cl]
            · simp only [best]; rw [if_pos cp, if_pos cl]
          · refine Ev.step (f := fun k => corebankref05_join.l1 k all out (j : Int) ((i + 1 : Nat) : Int)) (fun k => ?_) (stay rfl ?_)
            · rw [hg k, if_neg (by omega), if_pos (by omega), if_pos (by omega), rd_at hj, if_neg cl]
            · simp only [best]; rw [if_pos cp, if_neg cl]
      refine go (fun k => ?_)
      simp only [corebankref05_join.l1]
      rw [if_pos (by omega)]
      by_cases c0 : out.length = 0
      · rw [if_pos (by omega), if_pos (show (0 : Int) ≤ (i : Int) by omega), rd_at hlt, hw]
      · have hp : all[i] > rd out ((out.length - 1 : Nat) : Int) := by
          unfold past at cp; rw [if_neg c0] at cp; exact of_decide_eq_true cp
        rw [if_neg (by omega), if_pos (by omega), hwd c0, if_pos (by omega), if_pos (by omega), rd_at hlt, if_pos hp, hw]
    · -- it is not
      have c0 : out.length ≠ 0 := by intro h; apply cp; unfold past; rw [if_pos h]
      have hp : ¬ all[i] > rd out ((out.length - 1 : Nat) : Int) := by
        unfold past at cp; rw [if_neg c0] at cp; exact fun h => cp (decide_eq_true h)
      refine Ev.step (f := fun k => corebankref05_join.l1 k all out at_ ((i + 1 : Nat) : Int)) (fun k => ?_) (stay rfl ?_)
      · simp only [corebankref05_join.l1]
        rw [if_pos (by omega), if_neg (by omega), if_pos (by omega), hwd c0, if_pos (by omega), if_pos (by omega), rd_at hlt, if_neg hp, hw]
      · cases cur with
        | none => simp only [best]; rw [if_neg cp]
        | some c => simp only [best]; rw [if_neg cp]
theorem asc_snoc {l : List Int} {x : Int} (h : Asc l) (hx : ∀ y ∈ l, y < x) : Asc (l ++ [x]) := by
  refine List.pairwise_append.2 ⟨h, by simp, fun a ha b hb => ?_⟩
  obtain rfl := List.mem_singleton.1 hb
  exact hx a ha
theorem join_l0 (all : List Int) (hn : all.length ≤ 1000) (d : Nat) : ∀ out : List Int, all.length - out.length = d → Asc out → (∀ o ∈ out, o ∈ all) → (∀ e ∈ all, e ∈ out ∨ ∀ o ∈ out, o < e) →
    ∃ r, Ev (fun k => corebankref05_join.l0 k all out) r ∧ Asc r ∧ ∀ x, x ∈ r ↔ x ∈ all := by
  induction d with
  | zero =>
    intro out hd ha hs hb
    have hl := List.Nodup.length_le_of_subset ha.nodup hs
    refine ⟨out, Ev.step (f := fun _ => some out) (fun k => ?_) (Ev.now _), ha, fun x => ⟨hs x, fun hx => ?_⟩⟩
    · simp only [corebankref05_join.l0]; rw [if_neg (by omega)]
    · rcases hb x hx with h | h
      · exact h
      · exfalso
        have h2 := List.Nodup.length_le_of_subset (asc_snoc ha h).nodup (l₂ := all) (fun y hy => by
          rcases List.mem_append.1 hy with hy | hy
          · exact hs y hy
          · obtain rfl := List.mem_singleton.1 hy; exact hx)
        rw [List.length_append, List.length_singleton] at h2; omega
  | succ d ih =>
    intro out hd ha hs hb
    have hlt : out.length < all.length := by omega
    obtain ⟨s1, s2⟩ := best_spec (past out) all none
    have step : ∀ k, corebankref05_join.l0 (k + 1) all out = corebankref05_join.l1 k all out (-1) ((0 : Nat) : Int) := fun k => by
      simp only [corebankref05_join.l0]; rw [if_pos (by omega)]; rfl
    cases hbst : best (past out) none all with
    | none =>
      refine ⟨out, Ev.step step (join_l1 all out hn (by omega) out _ 0 (-1) none (Nat.zero_le _) rfl rfl (fun _ => rfl) (fun c h => by rw [List.drop_zero, hbst] at h; cases h)), ha, fun x => ⟨hs x, fun hx => ?_⟩⟩
      rcases hb x hx with h | h
      · exact h
      · have := (s1 hbst).2 x hx
        rw [(past_asc ha x).2 h] at this; cases this
    | some c =>
      obtain ⟨g1, g2, _⟩ := s2 c hbst
      have g1' : c ∈ all ∧ past out c = true := g1.resolve_left (by simp)
      have hc := (past_asc ha c).1 g1'.2
      obtain ⟨r, h1, h2, h3⟩ := ih (out ++ [c]) (by rw [List.length_append, List.length_singleton]; omega) (asc_snoc ha hc) (fun o ho => by
          rcases List.mem_append.1 ho with ho | ho
          · exact hs o ho
          · obtain rfl := List.mem_singleton.1 ho; exact g1'.1) (fun e he => by
          rcases hb e he with h | h
          · exact .inl (List.mem_append_left _ h)
          · have hle := g2 e he ((past_asc ha e).2 h)
            by_cases ce : e = c
            · subst ce; exact .inl (List.mem_append_right _ (by simp))
            · refine .inr (fun o ho => ?_)
              rcases List.mem_append.1 ho with ho | ho
              · exact h o ho
              · obtain rfl := List.mem_singleton.1 ho; omega)
      refine ⟨r, Ev.step step (join_l1 all out hn (by omega) r _ 0 (-1) none (Nat.zero_le _) rfl rfl (fun h => by rw [List.drop_zero, hbst] at h; cases h) (fun c' h => ?_)), h2, h3⟩
      rw [List.drop_zero, hbst] at h
      obtain rfl := Option.some.inj h
      exact h1
theorem rjoin_ev (a b : List Int) (h : a.length + b.length ≤ 1000) : Ev (fun k => corebankref05_join.f k a b) (unionG a b) := by
  obtain ⟨r, h1, h2, h3⟩ := join_l0 (a ++ b) (by rw [List.length_append]; omega) _ [] rfl .nil (fun o ho => by cases ho) (fun e _ => .inr (fun o ho => by cases ho))
  have e : r = unionG a b := asc_ext h2 (union_asc a b) (fun x => by rw [h3, mem_union, List.mem_append])
  subst e
  refine Ev.congr (fun k => ?_) h1
  unfold corebankref05_join.f
  rw [Option.bind_some, if_pos (by simp; omega), Option.bind_some, if_pos (by simp; omega)]
  rfl

/-! ### Same -/
theorem ints_l0 (a b : List Int) (hab : a.length = b.length) (hn : a.length ≤ 9223372036854775807) (d : Nat) : ∀ i : Nat, a.length - i = d → i ≤ a.length →
    Ev (fun k => corebankref05_Ints.l0 k a b i) (decide (a.drop i = b.drop i)) := by
  induction d with
  | zero =>
    intro i hd hi
    refine Ev.step (f := fun _ => some true) (fun k => ?_) (Ev.some_ ?_)
    · simp only [corebankref05_Ints.l0]; rw [if_neg (by omega)]
    · rw [List.drop_of_length_le (by omega), List.drop_of_length_le (by omega)]; simp
  | succ d ih =>
    intro i hd hi
    have hlt : i < a.length := by omega
    have hlt' : i < b.length := by omega
    rw [drop_at hlt, drop_at hlt']
    by_cases c : a[i] = b[i]
    · refine Ev.step (f := fun k => corebankref05_Ints.l0 k a b ((i + 1 : Nat) : Int)) (fun k => ?_) ?_
      · simp only [corebankref05_Ints.l0]; rw [if_pos (by omega), if_pos (by omega), if_pos (by omega), rd_at hlt, rd_at hlt', if_pos c, wrap_inc hlt hn]
      · have e : (a[i] :: a.drop (i + 1) = b[i] :: b.drop (i + 1)) = (a.drop (i + 1) = b.drop (i + 1)) := by rw [List.cons.injEq]; simp only [c, true_and]
        simp only [e]
        exact ih (i + 1) (by omega) (by omega)
    · refine Ev.step (f := fun _ => some false) (fun k => ?_) (Ev.some_ ?_)
      · simp only [corebankref05_Ints.l0]; rw [if_pos (by omega), if_pos (by omega), if_pos (by omega), rd_at hlt, rd_at hlt', if_neg c]
      · symm; rw [decide_eq_false_iff_not]; intro e; injection e with e; exact c e
theorem ints_self (a : List Int) (hn : a.length ≤ 9223372036854775807) : Ev (fun k => corebankref05_Ints.f k a a) true := by
  have := ints_l0 a a rfl hn a.length 0 rfl (Nat.zero_le _)
  rw [decide_eq_true rfl] at this
  exact Ev.congr (fun k => by unfold corebankref05_Ints.f; rw [if_pos rfl]; rfl) this
theorem same_self (n : ByteArray) (x y : List Int) (hx : x.length ≤ 9223372036854775807) (hy : y.length ≤ 9223372036854775807) : Ev (fun k => corebankref05_Same.f k n x y n x y) true := by
  refine Ev.congr (fun k => by unfold corebankref05_Same.f; rw [if_pos rfl]) (Ev.bind (ints_self x hx) ?_)
  exact Ev.congr (fun k => if_pos rfl) (Ev.bind (ints_self y hy) (Ev.now _))
end Go.Proofs.Ytajephmamebcgaa.K.Proof
