/- Order in an accepted chart: each Id once, behind that of its parent. -/
import Derived.Test.YtcmaifjmnpfmbaaCTree
namespace Go.Proofs.Ytcmaifjmnpfmbaa.C.Proof
open Go.RowKit Go.Proofs.Ytcmaifjmnpfmbaa.C Go.Proofs.YtcmaifjmnpfmbaaW.PrintWords Go.Proofs.YtcmaifjmnpfmbaaW.PrintLast

theorem kids_mem {l : List S62} (H : Chart l) {p : Int} {g : S62} : g ∈ kids l p ↔ g ∈ l ∧ g.f1 = p := by rw [mem_kids, H.firsts]
theorem ord_succ {l : List S62} (H : Chart l) (n : Nat) (p : Int) : ordG l (n + 1) p = (kids l p).flatMap fun g => g.f0 :: ordG l n g.f0 := by
  simp only [ordG]
  have : ∀ ks : List S62, (∀ g ∈ ks, g.f0 ≠ 0) → (ks.flatMap fun g => g.f0 :: (if g.f0 = 0 then [] else ordG l n g.f0)) = ks.flatMap fun g => g.f0 :: ordG l n g.f0 := by
    intro ks
    induction ks with
    | nil => intro _; rfl
    | cons g ks ih =>
      intro h
      simp only [List.flatMap_cons]
      rw [if_neg (h g (by simp)), ih (fun a ha => h a (List.mem_cons_of_mem _ ha))]
  exact this _ (fun g hg => by have := H.ids g ((kids_mem H).1 hg).1; omega)
theorem kids_count {l : List S62} (H : Chart l) {i : Nat} (hi : i < l.length) (p : Int) : ((kids l p).map (·.f0)).count l[i].f0 = if l[i].f1 = p then 1 else 0 := by
  have hn : ((kids l p).map (·.f0)).Nodup := by
    rw [H.kidsEq]
    exact List.Sublist.nodup (List.Sublist.map _ List.filter_sublist) H.ids_nodup
  rw [hn.count]
  have : l[i].f0 ∈ (kids l p).map (·.f0) ↔ l[i].f1 = p := by
    rw [List.mem_map]
    constructor
    · rintro ⟨g, hg, e⟩
      obtain ⟨hm, hp⟩ := (kids_mem H).1 hg
      obtain ⟨j, hj, rfl⟩ := List.getElem_of_mem hm
      obtain rfl := H.inj hj hi e
      exact hp
    · intro h
      exact ⟨l[i], (kids_mem H).2 ⟨List.getElem_mem _, h⟩, rfl⟩
  simp only [this]
theorem ord_count {l : List S62} (H : Chart l) {i : Nat} (hi : i < l.length) : ∀ (n : Nat) (p : Int), (ordG l (n + 1) p).count l[i].f0 = (if l[i].f1 = p then 1 else 0) + (ordG l n p).count l[i].f1
  | 0, p => by
    rw [ord_succ H, ← kids_count H hi p]
    simp only [ordG, List.count_nil, Nat.add_zero]
    generalize kids l p = ks
    induction ks with
    | nil => rfl
    | cons g ks ih => simp only [List.flatMap_cons, List.map_cons, List.count_append, List.count_cons, List.count_nil] at ih ⊢; omega
  | n + 1, p => by
    rw [ord_succ H (n + 1), ord_succ H n, ← kids_count H hi p]
    generalize kids l p = ks
    induction ks with
    | nil => rfl
    | cons g ks ih =>
      have h1 := ord_count H hi n g.f0
      have h2 : (if l[i].f1 = g.f0 then 1 else 0) = (if (g.f0 == l[i].f1) = true then 1 else (0 : Nat)) := by
        by_cases c : l[i].f1 = g.f0
        · simp [c]
        · have : ¬ g.f0 = l[i].f1 := fun e => c e.symm
          simp [c, this]
      rw [h2] at h1
      simp only [List.flatMap_cons, List.map_cons, List.count_append, List.count_cons] at ih ⊢
      omega
theorem ord_mem {l : List S62} (H : Chart l) : ∀ (n : Nat) (p : Int), ∀ x ∈ ordG l n p, ∃ i, ∃ h : i < l.length, l[i].f0 = x
  | 0, p, x, hx => by simp [ordG] at hx
  | n + 1, p, x, hx => by
    rw [ord_succ H, List.mem_flatMap] at hx
    obtain ⟨g, hg, hx⟩ := hx
    rcases List.mem_cons.1 hx with rfl | hx
    · obtain ⟨i, hi, e⟩ := List.getElem_of_mem ((kids_mem H).1 hg).1
      exact ⟨i, hi, by rw [e]⟩
    · exact ord_mem H n _ x hx
theorem ord_one {l : List S62} (H : Chart l) (i : Nat) (hi : i < l.length) : ∀ n, i < n → (ordG l n 0).count l[i].f0 = 1 := by
  induction i using Nat.strongRecOn with
  | _ i ih =>
    intro n hn
    obtain ⟨m, rfl⟩ : ∃ m, n = m + 1 := ⟨n - 1, by omega⟩
    rw [ord_count H hi]
    rcases H.up i hi with c | ⟨j, hj, hji, e⟩
    · rw [if_pos c, c, List.count_eq_zero.2]
      intro h0
      obtain ⟨j, hj, e⟩ := ord_mem H m 0 0 h0
      have := H.ids _ (List.getElem_mem hj); omega
    · have c : l[i].f1 ≠ 0 := by have := H.ids _ (List.getElem_mem hj); omega
      rw [if_neg c, ← e, ih j hji hj m (by omega)]
theorem order_perm {l : List S62} (H : Chart l) : (orderG l).Perm (l.map (·.f0)) := by
  rw [List.perm_iff_count]
  intro x
  rw [H.ids_nodup.count]
  by_cases c : x ∈ l.map (·.f0)
  · rw [if_pos c]
    obtain ⟨g, hg, rfl⟩ := List.mem_map.1 c
    obtain ⟨i, hi, rfl⟩ := List.getElem_of_mem hg
    exact ord_one H i hi _ (by rw [H.firsts]; omega)
  · rw [if_neg c, List.count_eq_zero]
    intro h
    obtain ⟨i, hi, rfl⟩ := ord_mem H _ _ x h
    exact c (List.mem_map.2 ⟨l[i], List.getElem_mem _, rfl⟩)
theorem order_nodup {l : List S62} (H : Chart l) : (orderG l).Nodup := (order_perm H).nodup_iff.2 H.ids_nodup
theorem order_len {l : List S62} (H : Chart l) : (orderG l).length = l.length := by rw [(order_perm H).length_eq, List.length_map]

/-- Each one's parent is in S or ahead of it. -/
def Led (l : List S62) : (Int → Prop) → List Int → Prop
  | _, [] => True
  | S, x :: r => (∀ g, findG l x = some g → S g.f1) ∧ Led l (fun y => S y ∨ y = x) r
theorem Led.imp {l : List S62} : ∀ {L : List Int} {S S' : Int → Prop}, (∀ y, S y → S' y) → Led l S L → Led l S' L
  | [], _, _, _, _ => trivial
  | _ :: _, _, _, h, ⟨h1, h2⟩ => ⟨fun g hg => h _ (h1 g hg), h2.imp (fun y hy => hy.imp (h y) id)⟩
theorem Led.append {l : List S62} : ∀ {L M : List Int} {S : Int → Prop}, Led l S L → Led l S M → Led l S (L ++ M)
  | [], _, _, _, h => h
  | _ :: _, _, _, ⟨h1, h2⟩, h => ⟨h1, h2.append (h.imp (fun _ hy => .inl hy))⟩
theorem ord_led {l : List S62} (H : Chart l) : ∀ (n : Nat) (p : Int), Led l (· = p) (ordG l n p)
  | 0, p => by simp only [ordG]; exact trivial
  | n + 1, p => by
    rw [ord_succ H]
    have : ∀ ks : List S62, (∀ g ∈ ks, g ∈ l ∧ g.f1 = p) → Led l (· = p) (ks.flatMap fun g => g.f0 :: ordG l n g.f0) := by
      intro ks
      induction ks with
      | nil => intro _; exact trivial
      | cons g ks ih =>
        intro h
        simp only [List.flatMap_cons]
        refine Led.append ⟨fun b hb => ?_, (ord_led H n g.f0).imp (fun y hy => .inr hy)⟩ (ih (fun a ha => h a (List.mem_cons_of_mem _ ha)))
        obtain ⟨hm, hp⟩ := h g (by simp)
        obtain ⟨i, hi, rfl⟩ := List.getElem_of_mem hm
        rw [H.find hi] at hb
        obtain rfl := Option.some.inj hb
        exact hp
    exact this _ (fun g hg => (kids_mem H).1 hg)
theorem Led.at {l : List S62} : ∀ {L : List Int} {S : Int → Prop}, Led l S L → ∀ i (hi : i < L.length) g, findG l L[i] = some g → S g.f1 ∨ ∃ k, ∃ hk : k < i, L[k] = g.f1
  | x :: r, S, ⟨h1, h2⟩, 0, hi, g, hg => .inl (h1 g hg)
  | x :: r, S, ⟨h1, h2⟩, i + 1, hi, g, hg => by
    rcases Led.at h2 i (by simpa using hi) g (by simpa using hg) with (h | h) | ⟨k, hk, e⟩
    · exact .inl h
    · exact .inr ⟨0, by omega, by simpa using h.symm⟩
    · exact .inr ⟨k + 1, by omega, by simpa using e⟩

/-! ### Leaves below roots -/
/-- How often an Id is among the leaves below the roots of a list. -/
def cnt (l : List S62) (id : Int) : List S62 → Nat
  | [] => 0
  | g :: r => (if g.f1 = 0 then (leavesG l g.f0).count id else 0) + cnt l id r
theorem leaves_count {l : List S62} (H : Chart l) {i : Nat} (hi : i < l.length) (root : Int) : (leavesG l root).count l[i].f0 = if parentG l l[i].f0 = false ∧ root ∈ pathG l l[i].f0 then 1 else 0 := by
  rw [(leavesG_asc l root).nodup.count]
  have : l[i].f0 ∈ leavesG l root ↔ (parentG l l[i].f0 = false ∧ root ∈ pathG l l[i].f0) := by
    rw [mem_leavesG]
    constructor
    · rintro ⟨g, hg, hq, e⟩
      unfold leafQ underG at hq
      rw [e] at hq
      simpa using hq
    · intro h
      refine ⟨l[i], List.getElem_mem _, ?_, rfl⟩
      unfold leafQ underG
      simpa using h
  simp only [this]
/-- How many roots a list has on the path of an Id. -/
def roots (l : List S62) (p : List Int) : List S62 → Nat
  | [] => 0
  | g :: r => (if g.f1 = 0 ∧ g.f0 ∈ p then 1 else 0) + roots l p r
theorem cnt_eq {l : List S62} (H : Chart l) {i : Nat} (hi : i < l.length) : ∀ r, cnt l l[i].f0 r = if parentG l l[i].f0 = false then roots l (pathG l l[i].f0) r else 0
  | [] => by simp [cnt, roots]
  | g :: r => by
    simp only [cnt, roots, cnt_eq H hi r, leaves_count H hi]
    by_cases c : parentG l l[i].f0 = false
    · by_cases c1 : g.f1 = 0 <;> simp [c, c1]
    · simp [c]
theorem roots_single (l : List S62) {x : Int} : ∀ r : List S62, (r.map (·.f0)).Nodup → (∀ g ∈ r, g.f0 = x → g.f1 = 0) → roots l [x] r = if x ∈ r.map (·.f0) then 1 else 0
  | [], _, _ => by simp [roots]
  | g :: r, hn, h => by
    have hn' := List.nodup_cons.1 hn
    simp only [roots, roots_single l r hn'.2 (fun a ha => h a (List.mem_cons_of_mem _ ha))]
    by_cases c : g.f0 = x
    · have h0 := h g (by simp) c
      have hx : x ∉ r.map (·.f0) := c ▸ hn'.1
      rw [if_pos ⟨h0, by simp [c]⟩, if_neg hx, if_pos (by simp [c])]
    · have e : (x ∈ (g :: r).map (·.f0)) ↔ x ∈ r.map (·.f0) := by
        rw [List.map_cons, List.mem_cons]; exact ⟨fun h => h.resolve_left (fun e => c e.symm), .inr⟩
      rw [if_neg (fun hh => c (by simpa using hh.2)), Nat.zero_add]
      simp only [e]
theorem roots_snoc (l : List S62) {x : Int} (p : List Int) : ∀ r : List S62, (∀ g ∈ r, g.f0 = x → g.f1 ≠ 0) → roots l (p ++ [x]) r = roots l p r
  | [], _ => rfl
  | g :: r, h => by
    simp only [roots, roots_snoc l p r (fun a ha => h a (List.mem_cons_of_mem _ ha))]
    congr 1
    have : (g.f1 = 0 ∧ g.f0 ∈ p ++ [x]) ↔ (g.f1 = 0 ∧ g.f0 ∈ p) := by
      rw [List.mem_append, List.mem_singleton]
      constructor
      · rintro ⟨h0, h1 | h1⟩
        · exact ⟨h0, h1⟩
        · exact absurd h0 (h g (by simp) h1)
      · rintro ⟨h0, h1⟩; exact ⟨h0, .inl h1⟩
    simp only [this]
theorem roots_one {l : List S62} (H : Chart l) (i : Nat) (hi : i < l.length) : roots l (pathG l l[i].f0) l = 1 := by
  induction i using Nat.strongRecOn with
  | _ i ih =>
    have hu : ∀ g ∈ l, g.f0 = l[i].f0 → g = l[i] := by
      intro g hg e
      obtain ⟨j, hj, rfl⟩ := List.getElem_of_mem hg
      obtain rfl := H.inj hj hi e
      rfl
    rcases H.up i hi with c | ⟨j, hj, hji, e⟩
    · rw [path_root H hi c, roots_single l l H.ids_nodup (fun g hg e => by rw [hu g hg e]; exact c), if_pos (List.mem_map.2 ⟨l[i], List.getElem_mem _, rfl⟩)]
    · have c : l[i].f1 ≠ 0 := by have := H.ids _ (List.getElem_mem hj); omega
      rw [path_up H hi, roots_snoc l _ l (fun g hg e => by rw [hu g hg e]; exact c), ← e]
      exact ih j hji hj
theorem cnt_all {l : List S62} (H : Chart l) {i : Nat} (hi : i < l.length) : cnt l l[i].f0 l = if parentG l l[i].f0 = false then 1 else 0 := by
  rw [cnt_eq H hi, roots_one H i hi]
end Go.Proofs.Ytcmaifjmnpfmbaa.C.Proof
