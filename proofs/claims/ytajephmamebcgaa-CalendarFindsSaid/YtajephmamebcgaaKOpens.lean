-- This project's own (wip/tools/rows.py): how the laws' arguments are opened; each law's one pure statement.
import Derived.Test.YtajephmamebcgaaKx0
import Derived.ChangeArms
import Derived.SizedLaws
import Derived.OpenShut
namespace Go.Proofs.Ytajephmamebcgaa.K
open Go.RowKit Go.ChangeShapes Go.WideShapes Go.Proofs.YtajephmamebcgaaW.PrintWords Go.Proofs.YtajephmamebcgaaW.PrintLast
set_option linter.unusedVariables false
/-! ### Opening: what is read as data is read by a kind -/
section
variable {H : Type} {enc : TypeId × Value → H} {P : Program} {W : World} {sp : Nat → Bool}

/-- At this fuel: whatever is trod as data of type t is an x of kind d with ok x. -/
def OpensN {α : Type} (enc : TypeId × Value → H) (P : Program) (W : World) (sp : Nat → Bool) (n : Nat) (d : Kd α) (t : TypeId) (ok : α → Prop) : Prop :=
  ∀ cs x, DataW.trod enc P W 0 sp true n t cs = some x → (∀ m ∈ DataW.weights P t x.1, m ≤ reachBytes) → ∃ a, ok a ∧ d.K W a cs

theorem OpensN.imp {α : Type} {n : Nat} {d : Kd α} {t : TypeId} {ok ok' : α → Prop} (h : OpensN enc P W sp n d t ok) (hi : ∀ a, ok a → ok' a) : OpensN enc P W sp n d t ok' := fun cs x hx hw => by
  obtain ⟨a, ha, hk⟩ := h cs x hx hw
  exact ⟨a, hi a ha, hk⟩

/-- A number of its kind; a string that is not too long. -/
def okI (k : IntKind) (a : Int) : Prop := (Lit.int k a).wf = true
def okStr (s : ByteArray) : Prop := s.size ≤ 140737488351232
def okB (_ : Bool) : Prop := True

theorem opens_int {n : Nat} {t : TypeId} {k : IntKind} (ht : P.underlying t = some (.int k)) : OpensN enc P W sp n (Kd.int k) t (okI k) := fun cs x hx _ => by
  obtain ⟨m, rfl, _, hw⟩ := DataW.trod_int ht hx
  exact ⟨m, hw, rfl⟩

theorem opens_bool {n : Nat} {t : TypeId} (ht : P.underlying t = some .bool) : OpensN enc P W sp n Kd.bool t okB := fun cs x hx _ => by
  obtain ⟨m, rfl, _⟩ := DataW.trod_bool ht hx
  exact ⟨m, trivial, rfl⟩

theorem opens_string {n : Nat} {t : TypeId} (ht : P.underlying t = some .string) : OpensN enc P W sp n Kd.string t okStr := fun cs x hx hw => by
  obtain ⟨s, rfl, rfl, _⟩ := DataW.trod_string ht hx
  refine ⟨s, ?_, rfl⟩
  have := hw s.data.toList.length (by simp [DataW.weights])
  rw [Array.length_toList] at this
  exact this

theorem list_of {α : Type} {p : Nat → α → Prop} : ∀ n : Nat, (∀ i, i < n → ∃ a, p i a) → ∃ l : List α, l.length = n ∧ ∀ i a, l[i]? = some a → p i a
  | 0, _ => ⟨[], rfl, fun i a h => by simp at h⟩
  | n + 1, h => by
    obtain ⟨l, hl, hp⟩ := list_of n (fun i hi => h i (by omega))
    obtain ⟨a, ha⟩ := h n (by omega)
    refine ⟨l ++ [a], by simp [hl], fun i b hb => ?_⟩
    by_cases hi : i < l.length
    · rw [List.getElem?_append_left hi] at hb
      exact hp i b hb
    · have hlt := (List.getElem?_eq_some_iff.1 hb).1
      simp at hlt
      have : i = n := by omega
      subst this
      rw [List.getElem?_append_right (by omega), hl] at hb
      simp at hb
      exact hb ▸ ha

theorem weights_all_mem {e : TypeId} : ∀ {l : List (DataW H)} {d : DataW H} {m : Nat}, d ∈ l → m ∈ DataW.weights P e d → m ∈ DataW.weightsAll P e l
  | [], d, m, h, _ => by simp at h
  | x :: l, d, m, h, hm => by
    simp only [DataW.weightsAll, List.mem_append]
    rcases List.mem_cons.1 h with rfl | h
    · exact .inl hm
    · exact .inr (weights_all_mem h hm)

theorem opens_slice {α : Type} {n : Nat} {t e : TypeId} {d : Kd α} {ok : α → Prop} (ht : P.underlying t = some (.slice e)) (hc : P.cellsOf e = d.sz) {B : Nat} (hB : P.bytesOf e = B)
    (h : OpensN enc P W sp n d e ok) : OpensN enc P W sp (n + 1) (Kd.slice e d) t (fun l => l.length * B ≤ 140737488351232 ∧ l.length ≤ 9223372036854775807 ∧ ∀ a ∈ l, ok a) := fun cs x hx hw => by
  rcases DataW.trod_slice ht hx with ⟨rfl, _⟩ | ⟨a, len, cap, elems, rest, m, hn, rfl, rfl, _, hl, hm, hlen, hel, _, _⟩
  · exact ⟨[], ⟨by simp, by simp, fun a ha => by simp at ha⟩, none, 0, rfl, Nat.le_refl _, rfl, by simp, fun h => absurd h (Nat.lt_irrefl 0)⟩
  · obtain rfl : n = m := by omega
    have hmax : len ≤ 9223372036854775807 := by unfold maxLen at hm; omega
    have each : ∀ i, i < len → ∃ b, ok b ∧ ∃ c, c.length = d.sz ∧ d.K W b c ∧ ∀ j u, c[j]? = some u → W.cell? (a.add (i * d.sz + j)) = some u := by
      intro i hi
      have h1 := hel i hi
      have h2 : elems[i]? = some (elems[i]'(by omega)) := List.getElem?_eq_getElem (by omega)
      rw [h2, Option.bind_eq_some_iff] at h1
      obtain ⟨c, hc1, hc2⟩ := h1
      have hmem : elems[i]'(by omega) ∈ elems := List.getElem_mem _
      obtain ⟨b, hb, hk⟩ := h c _ hc2 (fun q hq => hw q (by
        simp only [DataW.weights, ht]
        exact List.mem_cons_of_mem _ (List.mem_append_left _ (weights_all_mem (List.mem_map_of_mem hmem) hq))))
      obtain ⟨h3, h4, h5⟩ := World.cells?_some hc1
      refine ⟨b, hb, c, d.K_len hk, hk, fun j u hu => ?_⟩
      have hj : j < c.length := (List.getElem?_eq_some_iff.1 hu).1
      have h6 := h5 j (by rw [d.K_len hk, ← hc] at hj; exact hj)
      rw [hc] at h6
      have h7 : ((a.add (i * d.sz)).add j) = a.add (i * d.sz + j) := by
        simp only [Addr.add]
        by_cases h1 : i * d.sz = 0
        · simp [h1]
        · simp [h1, Nat.add_assoc]
      rw [h7] at h6
      rw [h6, hu]
    obtain ⟨l, hll, hlp⟩ := list_of len each
    refine ⟨l, ⟨?_, by omega, fun b hb => ?_⟩, some a, cap, by rw [hll], by omega, rfl, by omega, fun _ => ⟨a, rfl, fun j b hb => (hlp j b hb).2⟩⟩
    · have h1 := hw ((elems.length + rest.length) * B) (by simp [DataW.weights, ht, hB])
      have h2 : reachBytes = 140737488351232 := rfl
      have h3 : l.length * B ≤ (elems.length + rest.length) * B := Nat.mul_le_mul_right _ (by omega)
      omega
    · obtain ⟨i, hi⟩ := List.getElem?_of_mem hb
      exact (hlp i b hi).1

/-- The fields from one place on, one behind the other. -/
def Fields {α : Type} (enc : TypeId × Value → H) (P : Program) (W : World) (sp : Nat → Bool) (n : Nat) (d : Kd α) (fs : List Field) (off : Nat) (ok : α → Prop) : Prop :=
  ∀ (cs : List Value) (xs : List (DataW H × List MemPlace)), xs.length = fs.length → cs.length = off + d.sz →
    (∀ (i : Nat) (f : Field), fs[i]? = some f → DataW.trod enc P W 0 sp true n f.type ((cs.drop f.offset).take (P.cellsOf f.type)) = xs[i]?) →
    (∀ m ∈ DataW.weightsEach P (fs.map (·.type)) (xs.map (·.1)), m ≤ reachBytes) → ∃ a, ok a ∧ d.K W a (cs.drop off)

theorem fields_last {α : Type} {n : Nat} {d : Kd α} {f : Field} {t off : Nat} {ok : α → Prop} (h : OpensN enc P W sp n d t ok) (ht : f.type = t) (ho : f.offset = off) (hc : P.cellsOf t = d.sz) : Fields enc P W sp n d [f] off ok := by
  subst ht ho
  intro cs xs hx hl hf hw
  match xs, hx with
  | [x], _ =>
    have h1 := hf 0 f rfl
    rw [hc, List.take_of_length_le (by rw [List.length_drop]; omega)] at h1
    exact h _ x h1 (fun m hm => hw m (by simp [DataW.weightsEach, hm]))

theorem fields_cons {α β : Type} {n : Nat} {d : Kd α} {d' : Kd β} {f : Field} {fs : List Field} {t off off' : Nat} {ok : α → Prop} {ok' : β → Prop} (h : OpensN enc P W sp n d t ok) (ht : f.type = t) (ho : f.offset = off)
    (hc : P.cellsOf t = d.sz) (h' : Fields enc P W sp n d' fs off' ok') (hoff : off' = off + d.sz) : Fields enc P W sp n (Kd.pair d d') (f :: fs) off (fun a => ok a.1 ∧ ok' a.2) := by
  subst ht ho hoff
  intro cs xs hx hl hf hw
  match xs, hx with
  | x :: xs, hx =>
    have h1 := hf 0 f rfl
    rw [hc] at h1
    obtain ⟨a, ha, hk⟩ := h _ x h1 (fun m hm => hw m (by simp [DataW.weightsEach, hm]))
    have hsz : (Kd.pair d d').sz = d.sz + d'.sz := rfl
    obtain ⟨b, hb, hk'⟩ := h' cs xs (by simpa using hx) (by rw [hl, hsz]; omega) (fun i g hg => hf (i + 1) g hg) (fun m hm => hw m (by simp [DataW.weightsEach, hm]))
    refine ⟨(a, b), ⟨ha, hb⟩, (cs.drop f.offset).take d.sz, cs.drop (f.offset + d.sz), ?_, hk, hk'⟩
    rw [← List.drop_drop, List.take_append_drop]

theorem opens_struct {α β : Type} {n : Nat} {d : Kd α} {t : TypeId} {fs : Array Field} {f : β → α} {g : α → β} {ok : α → Prop} (ht : P.underlying t = some (.struct fs)) (hc : P.cellsOf t = d.sz) (hg : ∀ a, f (g a) = a)
    (h : Fields enc P W sp n d fs.toList 0 ok) : OpensN enc P W sp (n + 1) (Kd.iso d f) t (fun b => ok (f b)) := fun cs x hx hw => by
  obtain ⟨xs, m, hm, rfl, hl, hxl, hf⟩ := DataW.trod_struct ht hx
  obtain rfl : n = m := by omega
  obtain ⟨a, ha, hk⟩ := h cs xs (by simpa using hxl) (by omega) (fun i fl hfl => hf i fl (by simpa using hfl)) (fun m hm => hw m (by simpa [DataW.weights, ht] using hm))
  exact ⟨g a, by show ok (f (g a)); rw [hg]; exact ha, by rw [List.drop_zero] at hk; show d.K W (f (g a)) cs; rw [hg]; exact hk⟩

/-- What is asked of a slice. -/
def okSl {α : Type} (B : Nat) (ok : α → Prop) (l : List α) : Prop := l.length * B ≤ 140737488351232 ∧ l.length ≤ 9223372036854775807 ∧ ∀ a ∈ l, ok a

theorem opens_slice' {α : Type} {t e : TypeId} {d : Kd α} {ok : α → Prop} (ht : P.underlying t = some (.slice e)) (hc : P.cellsOf e = d.sz) {B : Nat} (hB : P.bytesOf e = B)
    (h : ∀ n, OpensN enc P W sp n d e ok) : ∀ n, OpensN enc P W sp n (Kd.slice e d) t (okSl B ok)
  | 0 => fun cs x hx _ => by simp [DataW.trod] at hx
  | n + 1 => opens_slice ht hc hB (h n)

theorem opens_struct' {α β : Type} {d : Kd α} {t : TypeId} {fs : Array Field} {f : β → α} {g : α → β} {ok : α → Prop} (ht : P.underlying t = some (.struct fs)) (hc : P.cellsOf t = d.sz) (hg : ∀ a, f (g a) = a)
    (h : ∀ n, Fields enc P W sp n d fs.toList 0 ok) : ∀ n, OpensN enc P W sp n (Kd.iso d f) t (fun b => ok (f b))
  | 0 => fun cs x hx _ => by simp [DataW.trod] at hx
  | n + 1 => opens_struct ht hc hg (h n)

/-- An argument, opened. -/
theorem opens_trod {α : Type} {d : Kd α} {t : TypeId} {ok : α → Prop} {v : Value} {x : DataW H} {ps : List MemPlace} {ts : List TypeId} {ds : List (DataW H)} {j : Nat}
    (hsz : (DataW.weightsEach P ts ds).all (· ≤ reachBytes) = true) (ht : ts[j]? = some t) (hd : ds[j]? = some x) (h : ∀ n, OpensN enc P W sp n d t ok) (hx : DataW.Trod enc P W 0 sp true t v x ps) :
    ∃ a, ok a ∧ d.K W a v.cells.toList := by
  obtain ⟨n, hn⟩ := hx
  exact h n _ _ hn (fun m hm => by simpa using List.all_eq_true.1 hsz m (DataW.weights_mem_each ht hd m hm))
end

section
variable {H : Type} {enc : TypeId × Value → H} {W : World} {sp : Nat → Bool}
def ok24 (x : S24) : Prop := okStr x.f0 ∧ (okSl 8 (okI .i64)) x.f1 ∧ (okSl 8 (okI .i64)) x.f2
theorem opens_24 (n : Nat) : OpensN enc Try.prog W sp n k24 24 ok24 := by
  refine (opens_struct' (g := (fun a => ⟨a.1, a.2.1, a.2.2⟩)) Try.underlying24 (by kernel_rfl) (fun _ => rfl) (fun n => (fields_cons ((fun _ => opens_string Try.underlying9) n) rfl rfl (by kernel_rfl) (fields_cons ((opens_slice' Try.underlying22 (by kernel_rfl) (by kernel_rfl) (fun _ => opens_int Try.underlying3)) n) rfl rfl (by kernel_rfl) (fields_last ((opens_slice' Try.underlying22 (by kernel_rfl) (by kernel_rfl) (fun _ => opens_int Try.underlying3)) n) rfl rfl (by kernel_rfl)) rfl) rfl)) n).imp (fun _ h => h)
def ok35 (x : S35) : Prop := (okI .i64) x.f0 ∧ (okI .i64) x.f1 ∧ (okI .i64) x.f2
theorem opens_35 (n : Nat) : OpensN enc Try.prog W sp n k35 35 ok35 := by
  refine (opens_struct' (g := (fun a => ⟨a.1, a.2.1, a.2.2⟩)) Try.underlying35 (by kernel_rfl) (fun _ => rfl) (fun n => (fields_cons ((fun _ => opens_int Try.underlying3) n) rfl rfl (by kernel_rfl) (fields_cons ((fun _ => opens_int Try.underlying3) n) rfl rfl (by kernel_rfl) (fields_last ((fun _ => opens_int Try.underlying3) n) rfl rfl (by kernel_rfl)) rfl) rfl)) n).imp (fun _ h => h)
end
end Go.Proofs.Ytajephmamebcgaa.K
