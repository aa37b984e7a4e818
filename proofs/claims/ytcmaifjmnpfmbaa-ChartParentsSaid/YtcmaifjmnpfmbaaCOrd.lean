/- Order of the program and of the reference: both come to an end, and to the same list. -/
import Derived.Test.YtcmaifjmnpfmbaaCx11
import Derived.Test.YtcmaifjmnpfmbaaCBase
namespace Go.Proofs.Ytcmaifjmnpfmbaa.C.Proof
open Go.RowKit Go.Proofs.Ytcmaifjmnpfmbaa.C Go.Proofs.YtcmaifjmnpfmbaaW.PrintWords Go.Proofs.YtcmaifjmnpfmbaaW.PrintLast

/-- The accounts that are the first ones with their Ids, behind those of pre. -/
def firstsG : List S62 → List S62 → List S62
  | _, [] => []
  | pre, g :: r => if (findG pre g.f0).isSome then firstsG (pre ++ [g]) r else g :: firstsG (pre ++ [g]) r
def kids (l : List S62) (p : Int) : List S62 := (firstsG [] l).filter (fun g => g.f1 == p)
def ordG (l : List S62) : Nat → Int → List Int
  | 0, _ => []
  | n + 1, p => (kids l p).flatMap fun g => g.f0 :: (if g.f0 = 0 then [] else ordG l n g.f0)
/-- The depth below p is at most n. -/
def fits (l : List S62) : Nat → Int → Prop
  | 0, _ => False
  | n + 1, p => ∀ g ∈ kids l p, g.f0 ≠ 0 → fits l n g.f0

theorem findG_some {l : List S62} {id : Int} {g : S62} (h : findG l id = some g) : g ∈ l ∧ g.f0 = id := by
  unfold findG at h
  exact ⟨List.mem_of_find?_eq_some h, by simpa using List.find?_some h⟩
theorem findG_none {l : List S62} {id : Int} (h : findG l id = none) : ∀ g ∈ l, g.f0 ≠ id := by
  unfold findG at h
  rw [List.find?_eq_none] at h
  intro g hg e
  exact h g hg (by simpa using e)
theorem firstsG_spec : ∀ (l pre : List S62), (∀ g ∈ firstsG pre l, g ∈ l ∧ ∀ h ∈ pre, h.f0 ≠ g.f0) ∧ (firstsG pre l).Pairwise (fun a b => a.f0 ≠ b.f0)
  | [], _ => ⟨fun g h => by simp [firstsG] at h, .nil⟩
  | x :: r, pre => by
    obtain ⟨h1, h2⟩ := firstsG_spec r (pre ++ [x])
    unfold firstsG
    split
    · exact ⟨fun g hg => ⟨List.mem_cons_of_mem _ (h1 g hg).1, fun h hh => (h1 g hg).2 h (List.mem_append_left _ hh)⟩, h2⟩
    · rename_i hn
      have hn' : findG pre x.f0 = none := by
        cases hf : findG pre x.f0 with
        | none => rfl
        | some y => rw [hf] at hn; exact absurd rfl hn
      refine ⟨fun g hg => ?_, List.pairwise_cons.2 ⟨fun b hb => (h1 b hb).2 x (by simp), h2⟩⟩
      rcases List.mem_cons.1 hg with rfl | hg
      · exact ⟨List.mem_cons_self, fun h hh => findG_none hn' h hh⟩
      · exact ⟨List.mem_cons_of_mem _ (h1 g hg).1, fun h hh => (h1 g hg).2 h (List.mem_append_left _ hh)⟩
theorem firsts_nodup (l : List S62) : ((firstsG [] l).map (·.f0)).Nodup := by
  have := (firstsG_spec l []).2
  exact List.Pairwise.map _ (fun _ _ h => h) this
theorem firsts_unique {l : List S62} {a b : S62} (ha : a ∈ firstsG [] l) (hb : b ∈ firstsG [] l) (h : a.f0 = b.f0) : a = b := by
  have hp := (firstsG_spec l []).2
  obtain ⟨i, hi, rfl⟩ := List.getElem_of_mem ha
  obtain ⟨j, hj, rfl⟩ := List.getElem_of_mem hb
  rcases Nat.lt_trichotomy i j with c | c | c
  · exact absurd h (List.pairwise_iff_getElem.1 hp i j hi hj c)
  · subst c; rfl
  · exact absurd h.symm (List.pairwise_iff_getElem.1 hp j i hj hi c)
theorem firsts_length (l : List S62) : ∀ pre, (firstsG pre l).length ≤ l.length := by
  induction l with
  | nil => intro pre; simp [firstsG]
  | cons x r ih =>
    intro pre
    have := ih (pre ++ [x])
    unfold firstsG
    split <;> simp <;> omega
theorem mem_kids {l : List S62} {p : Int} {g : S62} : g ∈ kids l p ↔ g ∈ firstsG [] l ∧ g.f1 = p := by
  simp [kids]

/-! ### The depth is bounded -/
/-- A way up from p to the root 0. -/
inductive Way (l : List S62) : List Int → Prop
  | root : Way l [0]
  | up (g : S62) (q : Int) (r : List Int) : g ∈ firstsG [] l → g.f1 = q → g.f0 ≠ 0 → Way l (q :: r) → Way l (g.f0 :: q :: r)
theorem Way.up_of {l : List S62} {A : List Int} (h : Way l A) : ∀ x ∈ A, x ≠ 0 → ∃ g ∈ firstsG [] l, g.f0 = x ∧ g.f1 ∈ A.tail := by
  induction h with
  | root => intro x hx h0; simp at hx; exact absurd hx h0
  | up g q r hg hq h0 hw ih =>
    intro x hx hx0
    rcases List.mem_cons.1 hx with rfl | hx
    · exact ⟨g, hg, rfl, by simp [hq]⟩
    · obtain ⟨g', h1, h2, h3⟩ := ih x hx hx0
      exact ⟨g', h1, h2, List.mem_cons_of_mem _ h3⟩
theorem Way.length {l : List S62} {A : List Int} (h : Way l A) (hn : A.Nodup) : A.length ≤ (firstsG [] l).length + 1 := by
  have := List.Nodup.length_le_of_subset (l₂ := 0 :: (firstsG [] l).map (·.f0)) hn (fun x hx => by
    by_cases h0 : x = 0
    · simp [h0]
    · obtain ⟨g, hg, e, _⟩ := h.up_of x hx h0
      exact List.mem_cons_of_mem _ (List.mem_map.2 ⟨g, hg, e⟩))
  simpa using this
theorem fits_way (l : List S62) : ∀ (n : Nat) (p : Int) (r : List Int), Way l (p :: r) → (p :: r).Nodup → (p :: r).length + n = (firstsG [] l).length + 2 → fits l n p
  | 0, p, r, hw, hn, hl => by
    have := hw.length hn
    omega
  | n + 1, p, r, hw, hn, hl => by
    intro g hg h0
    obtain ⟨h1, h2⟩ := mem_kids.1 hg
    refine fits_way l n g.f0 (p :: r) (.up g p r h1 h2 h0 hw) ?_ (by simp at hl ⊢; omega)
    rw [List.nodup_cons]
    refine ⟨fun hm => ?_, hn⟩
    obtain ⟨g', h3, h4, h5⟩ := hw.up_of g.f0 hm h0
    obtain rfl := firsts_unique h3 h1 h4
    rw [h2] at h5
    exact (List.nodup_cons.1 hn).1 h5
theorem fits_root (l : List S62) : fits l ((firstsG [] l).length + 1) 0 := fits_way l _ 0 [] .root (by simp) (by simp; omega)

/-! ### The length is bounded -/
theorem kids_all (l : List S62) : ∀ S : List Int, S.Nodup → ((S.flatMap (kids l)).map (·.f0)).Nodup
  | [], _ => by simp
  | p :: S, h => by
    rw [List.nodup_cons] at h
    have ih := kids_all l S h.2
    rw [List.flatMap_cons, List.map_append, List.nodup_append]
    refine ⟨?_, ih, fun a ha b hb e => ?_⟩
    · exact List.Pairwise.map _ (fun _ _ h => h) ((firstsG_spec l []).2.filter _)
    · obtain ⟨x, hx, rfl⟩ := List.mem_map.1 ha
      obtain ⟨y, hy, rfl⟩ := List.mem_map.1 hb
      obtain ⟨q, hq, hy⟩ := List.mem_flatMap.1 hy
      have h1 := mem_kids.1 hx
      have h2 := mem_kids.1 hy
      obtain rfl := firsts_unique h1.1 h2.1 e
      exact h.1 (by rw [← h1.2, h2.2]; exact hq)
theorem kids_all_length (l : List S62) (S : List Int) (h : S.Nodup) : (S.flatMap (kids l)).length ≤ (firstsG [] l).length := by
  have := List.Nodup.length_le_of_subset (l₂ := (firstsG [] l).map (·.f0)) (kids_all l S h) (fun x hx => by
    obtain ⟨g, hg, rfl⟩ := List.mem_map.1 hx
    obtain ⟨p, _, hg⟩ := List.mem_flatMap.1 hg
    exact List.mem_map.2 ⟨g, (mem_kids.1 hg).1, rfl⟩)
  simpa using this
theorem flat_if (l : List S62) (n : Nat) : ∀ K : List S62, (K.flatMap fun g => g.f0 :: (if g.f0 = 0 then [] else ordG l n g.f0)).length = K.length + (((K.map (·.f0)).filter (· ≠ 0)).flatMap (ordG l n)).length
  | [] => by simp
  | g :: K => by
    have ih := flat_if l n K
    rw [List.flatMap_cons, List.length_append, ih, List.map_cons, List.filter_cons]
    by_cases h : g.f0 = 0
    · simp [h]; omega
    · simp [h]; omega
theorem flat_two (l : List S62) (n : Nat) : ∀ S : List Int, S.flatMap (ordG l (n + 1)) = (S.flatMap (kids l)).flatMap fun g => g.f0 :: (if g.f0 = 0 then [] else ordG l n g.f0)
  | [] => rfl
  | p :: S => by rw [List.flatMap_cons, List.flatMap_cons, List.flatMap_append, flat_two l n S]; rfl
theorem ord_length (l : List S62) : ∀ (n : Nat) (S : List Int), S.Nodup → (S.flatMap (ordG l n)).length ≤ n * (firstsG [] l).length
  | 0, S, _ => by
    have : S.flatMap (ordG l 0) = [] := by simp [ordG]
    rw [this]; simp
  | n + 1, S, h => by
    rw [flat_two, flat_if]
    have h1 := kids_all_length l S h
    have h2 := ord_length l n (((S.flatMap (kids l)).map fun g : S62 => g.f0).filter (· ≠ 0)) ((kids_all l S h).filter _)
    rw [Nat.succ_mul]
    omega

/-! ### The two walks -/
theorem findG_isSome (pre : List S62) (id : Int) : (tup (findG pre id)).2.2.2.2 = (findG pre id).isSome := by
  cases findG pre id <;> rfl
/-- The accounts with the parent p from element i on. -/
def kidsFrom (l : List S62) (p : Int) (i : Nat) : List S62 := (firstsG (l.take i) (l.drop i)).filter (fun g => g.f1 == p)
theorem kidsFrom_end (l : List S62) (p : Int) (i : Nat) (h : l.length ≤ i) : kidsFrom l p i = [] := by
  unfold kidsFrom; rw [List.drop_of_length_le h]; rfl
theorem kidsFrom_at (l : List S62) (p : Int) (i : Nat) (h : i < l.length) : kidsFrom l p i = if (findG (l.take i) l[i].f0).isSome = false ∧ l[i].f1 = p then l[i] :: kidsFrom l p (i + 1) else kidsFrom l p (i + 1) := by
  unfold kidsFrom
  rw [drop_at h, firstsG, List.take_succ_eq_append_getElem h]
  by_cases c : (findG (l.take i) l[i].f0).isSome = true
  · rw [if_pos c, if_neg (by simp [c])]
  · have c' : (findG (l.take i) l[i].f0).isSome = false := by simpa using c
    rw [if_neg c, List.filter_cons]
    by_cases c2 : l[i].f1 = p
    · rw [if_pos (by simpa using c2), if_pos ⟨c', c2⟩]
    · rw [if_neg (by simpa using c2), if_neg (fun h => c2 h.2)]
theorem walk_l0 (l : List S62) (hl : l.length ≤ 9223372036854775807) (n : Nat) (p : Int) (ih : ∀ q out, fits l n q → out.length + (ordG l n q).length < 17592186044416 → Ev (fun k => chart_walk.f k l q out) (out ++ ordG l n q)) (d : Nat) :
    ∀ (i : Nat) (out : List Int), l.length - i = d → i ≤ l.length → (∀ g ∈ kidsFrom l p i, g.f0 ≠ 0 → fits l n g.f0) → out.length + ((kidsFrom l p i).flatMap fun g => g.f0 :: (if g.f0 = 0 then [] else ordG l n g.f0)).length < 17592186044416 →
    Ev (fun k => chart_walk.l0 k l p out i) (out ++ (kidsFrom l p i).flatMap fun g => g.f0 :: (if g.f0 = 0 then [] else ordG l n g.f0)) := by
  induction d with
  | zero =>
    intro i out hd hi hf ho
    refine Ev.step (f := fun _ => some out) (fun k => ?_) (Ev.some_ ?_)
    · simp only [chart_walk.l0]; rw [if_neg (by omega)]
    · rw [kidsFrom_end l p i (by omega)]; simp
  | succ d ihd =>
    intro i out hd hi hf ho
    have hlt : i < l.length := by omega
    have hi1 : ((i : Int) + 1) = ((i + 1 : Nat) : Int) := by omega
    refine Ev.step (f := fun k => (chart_Find.f k (l.take i) l[i].f0).bind fun t => (if (l[i].f1) = p then (if t.2.2.2.2 = true then (chart_walk.l0 k l p out ((i + 1 : Nat) : Int)) else (if out.length < 17592186044416 then (if (l[i].f0) = 0 then (chart_walk.l0 k l p (out ++ [l[i].f0]) ((i + 1 : Nat) : Int)) else ((chart_walk.f k l (l[i].f0) (out ++ [l[i].f0])).bind fun t1 => (chart_walk.l0 k l p t1 ((i + 1 : Nat) : Int)))) else none)) else (chart_walk.l0 k l p out ((i + 1 : Nat) : Int)))) (fun k => ?_) ?_
    · simp only [chart_walk.l0]; rw [if_pos (by omega), rd62_at hlt, hi1, Int.toNat_natCast]
    · refine Ev.bind (find_ev (l.take i) l[i].f0 (by rw [List.length_take]; omega)) ?_
      rw [kidsFrom_at l p i hlt] at hf ho ⊢
      by_cases c : l[i].f1 = p
      · refine Ev.congr (fun k => by rw [if_pos c, findG_isSome]) ?_
        cases hs : (findG (l.take i) l[i].f0).isSome with
        | true =>
          rw [if_neg (by simp [hs])] at hf ho ⊢
          exact Ev.congr (fun k => by rw [if_pos rfl]) (ihd (i + 1) out (by omega) (by omega) hf ho)
        | false =>
          rw [if_pos ⟨hs, c⟩] at hf ho
          rw [if_pos ⟨rfl, c⟩]
          rw [List.flatMap_cons, List.length_append, List.length_cons] at ho
          rw [List.flatMap_cons]
          have hf' : ∀ g ∈ kidsFrom l p (i + 1), g.f0 ≠ 0 → fits l n g.f0 := fun g hg => hf g (List.mem_cons_of_mem _ hg)
          by_cases c0 : l[i].f0 = 0
          · rw [if_pos c0] at ho ⊢
            refine Ev.congr (fun k => by rw [if_neg (by simp), if_pos (by omega), if_pos c0]) ?_
            have := ihd (i + 1) (out ++ [l[i].f0]) (by omega) (by omega) hf' (by simp at ho ⊢; omega)
            simpa using this
          · rw [if_neg c0] at ho ⊢
            refine Ev.congr (fun k => by rw [if_neg (by simp), if_pos (by omega), if_neg c0]) ?_
            refine Ev.bind (ih l[i].f0 (out ++ [l[i].f0]) (hf _ List.mem_cons_self c0) (by simp; omega)) ?_
            have := ihd (i + 1) (out ++ [l[i].f0] ++ ordG l n l[i].f0) (by omega) (by omega) hf' (by simp at ho ⊢; omega)
            simpa using this
      · rw [if_neg (fun h => c h.2)] at hf ho ⊢
        exact Ev.congr (fun k => by rw [if_neg c]) (ihd (i + 1) out (by omega) (by omega) hf ho)
theorem walk_ev (l : List S62) (hl : l.length ≤ 9223372036854775807) : ∀ (n : Nat) (p : Int) (out : List Int), fits l n p → out.length + (ordG l n p).length < 17592186044416 → Ev (fun k => chart_walk.f k l p out) (out ++ ordG l n p)
  | 0, p, out, h, _ => h.elim
  | n + 1, p, out, h, ho => by
    refine Ev.step (f := fun k => chart_walk.l0 k l p out ((0 : Nat) : Int)) (fun k => rfl) ?_
    have e : kidsFrom l p 0 = kids l p := rfl
    have := walk_l0 l hl n p (fun q out h1 h2 => walk_ev l hl n q out h1 h2) l.length 0 out rfl (Nat.zero_le _) (by rw [e]; exact h) (by rw [e]; exact ho)
    rw [e] at this
    exact this

/-- What Order comes to. -/
def orderG (l : List S62) : List Int := ordG l ((firstsG [] l).length + 1) 0
theorem orderG_length (l : List S62) (hn : l.length ≤ 1000) : (orderG l).length ≤ 1001000 := by
  have h1 := ord_length l ((firstsG [] l).length + 1) [0] (by simp)
  have h2 := firsts_length l []
  have h3 : ((firstsG [] l).length + 1) * (firstsG [] l).length ≤ 1001 * 1000 := Nat.mul_le_mul (by omega) (by omega)
  simp at h1
  unfold orderG
  omega
theorem order_ev (l : List S62) (hn : l.length ≤ 1000) : Ev (fun k => chart_Order.f k l) (orderG l) := by
  have := orderG_length l hn
  exact Ev.congr (fun _ => rfl) (walk_ev l (by omega) _ 0 [] (fits_root l) (by show [].length + (orderG l).length < _; simp; omega))
end Go.Proofs.Ytcmaifjmnpfmbaa.C.Proof
