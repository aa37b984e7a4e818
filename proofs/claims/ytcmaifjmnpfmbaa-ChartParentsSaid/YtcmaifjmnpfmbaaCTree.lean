/- An accepted chart is a forest: what Order, Path and Leaves are there. -/
import Derived.Test.YtcmaifjmnpfmbaaCCheck
import Derived.Test.YtcmaifjmnpfmbaaCOrd
namespace Go.Proofs.Ytcmaifjmnpfmbaa.C.Proof
open Go.RowKit Go.Proofs.Ytcmaifjmnpfmbaa.C Go.Proofs.YtcmaifjmnpfmbaaW.PrintWords Go.Proofs.YtcmaifjmnpfmbaaW.PrintLast

/-- What is known of an accepted chart. -/
structure Chart (l : List S62) : Prop where
  len : l.length ≤ 40
  ids : ∀ g ∈ l, 1 ≤ g.f0
  inc : ∀ i j (hi : i < l.length) (hj : j < l.length), i < j → l[i].f0 < l[j].f0
  up : ∀ i (hi : i < l.length), l[i].f1 = 0 ∨ ∃ j, ∃ hj : j < l.length, j < i ∧ l[j].f0 = l[i].f1

theorem scan_zero (l : List S62) (u : Int) : ∀ d, d ≤ l.length → scanG l u d = 0 → ∀ i, l.length - d ≤ i → ∀ h : i < l.length, elemG l i l[i] = 0
  | 0, _, _, i, hi, h => by omega
  | d + 1, hd, hz, i, hi, h => by
    simp only [scanG] at hz
    split at hz
    · rename_i he
      by_cases c : i = l.length - (d + 1)
      · subst c; rw [rd62_at h] at he; exact he
      · exact scan_zero l u d (by omega) hz i (by omega) h
    · rename_i he; exact absurd hz he
theorem elem_zero {l : List S62} {i : Nat} {a : S62} (h : elemG l i a = 0) : 1 ≤ a.f0 ∧ (0 < i → (rd_T62 l ((i - 1 : Nat) : Int)).f0 < a.f0) ∧ (a.f1 = 0 ∨ ∃ b, findG (l.take i) a.f1 = some b) := by
  unfold elemG at h
  split at h
  · exact absurd h (by decide)
  · rename_i hb
    have hb' : ¬ (a.f0 < 1 ∨ a.f0 > 999 ∨ a.f2 < 1 ∨ a.f2 > 5) := fun h => hb (decide_eq_true h)
    unfold elemB at h
    split at h
    · exact absurd h (by decide)
    · rename_i ho
      have ho' : ¬ (0 < i ∧ a.f0 ≤ (rd_T62 l ((i - 1 : Nat) : Int)).f0) := fun h => ho (decide_eq_true h)
      refine ⟨by omega, fun h0 => by omega, ?_⟩
      split at h
      · exact absurd h (by decide)
      · split at h
        · rename_i h1; exact .inl h1
        · right
          split at h
          · exact absurd h (by decide)
          · rename_i b hf; exact ⟨b, hf⟩
theorem chart_of {l : List S62} {ps : List (Int × Int)} (h : checkG l ps = 0) : Chart l := by
  unfold checkG at h
  split at h
  · exact absurd h (by decide)
  · rename_i hl
    have hz := scan_zero l _ l.length (Nat.le_refl _) h
    have hz' : ∀ i (hi : i < l.length), elemG l i l[i] = 0 := fun i hi => hz i (by omega) hi
    have hinc : ∀ d i (hi : i < l.length) (hj : i + d + 1 < l.length), l[i].f0 < l[i + d + 1].f0 := by
      intro d
      induction d with
      | zero =>
        intro i hi hj
        have := (elem_zero (hz' (i + 0 + 1) hj)).2.1 (by omega)
        have e : i + 0 + 1 - 1 = i := by omega
        rw [e, rd62_at hi] at this; exact this
      | succ d ih =>
        intro i hi hj
        have h1 := ih i hi (by omega)
        have := (elem_zero (hz' (i + (d + 1) + 1) hj)).2.1 (by omega)
        have e : i + (d + 1) + 1 - 1 = i + d + 1 := by omega
        rw [e, rd62_at (by omega)] at this; omega
    refine ⟨by omega, fun g hg => ?_, fun i j hi hj hij => ?_, fun i hi => ?_⟩
    · obtain ⟨i, hi, rfl⟩ := List.getElem_of_mem hg
      exact (elem_zero (hz' i hi)).1
    · obtain ⟨d, rfl⟩ : ∃ d, j = i + d + 1 := ⟨j - i - 1, by omega⟩
      exact hinc d i hi hj
    · rcases (elem_zero (hz' i hi)).2.2 with h0 | ⟨b, hb⟩
      · exact .inl h0
      · right
        obtain ⟨hm, e⟩ := findG_some hb
        obtain ⟨j, hj, hjb⟩ := List.getElem_of_mem hm
        have hj' : j < i ∧ j < l.length := by simp at hj; omega
        refine ⟨j, hj'.2, hj'.1, ?_⟩
        rw [List.getElem_take] at hjb
        rw [hjb, e]

namespace Chart
variable {l : List S62} (H : Chart l)
include H
theorem inj {i j : Nat} (hi : i < l.length) (hj : j < l.length) (h : l[i].f0 = l[j].f0) : i = j := by
  rcases Nat.lt_trichotomy i j with c | c | c
  · have := H.inc i j hi hj c; omega
  · exact c
  · have := H.inc j i hj hi c; omega
theorem find {i : Nat} (hi : i < l.length) : findG l l[i].f0 = some l[i] := by
  cases h : findG l l[i].f0 with
  | none => exact absurd rfl (findG_none h l[i] (List.getElem_mem _))
  | some b =>
    obtain ⟨hm, e⟩ := findG_some h
    obtain ⟨j, hj, rfl⟩ := List.getElem_of_mem hm
    obtain rfl := H.inj hj hi e
    rfl
theorem find0 : findG l 0 = none := by
  cases h : findG l 0 with
  | none => rfl
  | some b =>
    obtain ⟨hm, e⟩ := findG_some h
    have := H.ids b hm; omega
theorem firsts_pre : ∀ (r pre : List S62), l = pre ++ r → firstsG pre r = r
  | [], _, _ => rfl
  | g :: r, pre, e => by
    unfold firstsG
    have hn : findG pre g.f0 = none := by
      cases h : findG pre g.f0 with
      | none => rfl
      | some b =>
        obtain ⟨hm, e2⟩ := findG_some h
        obtain ⟨j, hj, rfl⟩ := List.getElem_of_mem hm
        have hlen : pre.length < l.length := by rw [e]; simp
        have h1 : l[j]'(by omega) = pre[j] := by simp only [e]; rw [List.getElem_append_left hj]
        have h2 : l[pre.length] = g := by simp only [e]; simp
        have := H.inc j pre.length (by omega) hlen hj
        rw [h1, h2] at this; omega
    rw [hn, if_neg (by simp), firsts_pre r (pre ++ [g]) (by rw [e]; simp)]
theorem firsts : firstsG [] l = l := H.firsts_pre l [] rfl
theorem kidsEq (p : Int) : kids l p = l.filter (fun g => g.f1 == p) := by unfold kids; rw [H.firsts]
theorem ids_nodup : (l.map (·.f0)).Nodup := by have := firsts_nodup l; rwa [H.firsts] at this
end Chart

/-! ### The way up -/
theorem upI_fix {l : List S62} (H : Chart l) (j : Nat) (hj : j < l.length) (m : Nat) (hm : j < m) : upI l m (some l[j]) = upI l (j + 1) (some l[j]) := by
    induction j using Nat.strongRecOn generalizing m with
    | _ j ih =>
      obtain ⟨q, rfl⟩ : ∃ q, m = q + 1 := ⟨m - 1, by omega⟩
      simp only [upI]
      by_cases c : l[j].f1 = 0
      · rw [if_pos c, if_pos c]
      · rw [if_neg c, if_neg c]
        rcases H.up j hj with h0 | ⟨i, hi, hij, e⟩
        · exact absurd h0 c
        · rw [← e, H.find hi, ih i hij hi q (by omega), ih i hij hi j hij]
theorem path_root {l : List S62} (H : Chart l) {i : Nat} (hi : i < l.length) (c : l[i].f1 = 0) : pathG l l[i].f0 = [l[i].f0] := by
  unfold pathG; rw [H.find hi]; simp [upI, c]
theorem path_none {l : List S62} (H : Chart l) : pathG l 0 = [] := by
  unfold pathG; rw [H.find0]; simp [upI]
theorem path_up {l : List S62} (H : Chart l) {i : Nat} (hi : i < l.length) : pathG l l[i].f0 = pathG l l[i].f1 ++ [l[i].f0] := by
  rcases H.up i hi with c | ⟨j, hj, hji, e⟩
  · rw [path_root H hi c, c, path_none H]; rfl
  · have c : l[i].f1 ≠ 0 := by have := H.ids _ (List.getElem_mem hj); omega
    have := H.len
    have h2 : pathG l l[i].f0 = (upI l 39 (findG l l[i].f1)).reverse ++ [l[i].f0] := by
      unfold pathG; rw [H.find hi]; simp [upI, c]
    rw [h2]
    congr 1
    unfold pathG
    rw [← e, H.find hj, upI_fix H j hj 39 (by omega), upI_fix H j hj 40 (by omega)]
end Go.Proofs.Ytcmaifjmnpfmbaa.C.Proof
