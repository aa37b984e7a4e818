/- The pure statement of ChartPartition: in an accepted chart each account without children is below exactly one root. -/
import Derived.Test.YtcmaifjmnpfmbaaCLives
import Derived.Test.YtcmaifjmnpfmbaaCForest
import Derived.Test.YtcmaifjmnpfmbaaCStateChartPartition
namespace Go.Proofs.Ytcmaifjmnpfmbaa.C.Proof
open Go.RowKit Go.Proofs.Ytcmaifjmnpfmbaa.C Go.Proofs.YtcmaifjmnpfmbaaW.PrintWords Go.Proofs.YtcmaifjmnpfmbaaW.PrintLast

theorem part_l2 (l : List S62) (i : Nat) (hi : i < l.length) (leaf : Bool) (k : Nat) (m : List Int) (hm : m.length ≤ 1000) (r : Bool) (d : Nat) : ∀ (j n : Nat), j ≤ m.length → m.length - j = d → n ≤ 1000000 →
    n + (m.drop j).count l[i].f0 ≤ 1000000 →
    Ev (fun q => corebanklaw18_ChartPartition.l1 q l i ((n + (m.drop j).count l[i].f0 : Nat) : Int) leaf (wrap64 ((k : Int) + 1))) r →
    Ev (fun q => corebanklaw18_ChartPartition.l2 q l i n leaf k m j) r := by
  induction d with
  | zero =>
    intro j n hj hd hn hb h
    rw [List.drop_of_length_le (by omega)] at h
    refine Ev.step (f := fun q => corebanklaw18_ChartPartition.l1 q l i (n : Int) leaf (wrap64 ((k : Int) + 1))) (fun q => ?_) (by simpa using h)
    simp only [corebanklaw18_ChartPartition.l2]; rw [if_neg (by omega)]
  | succ d ih =>
    intro j n hj hd hn hb h
    have hlt : j < m.length := by omega
    rw [drop_at hlt, List.count_cons] at h hb
    by_cases c : m[j] = l[i].f0
    · have e : (m[j] == l[i].f0) = true := by simpa using c
      simp only [e, if_true] at h hb
      refine Ev.step (f := fun q => corebanklaw18_ChartPartition.l2 q l i ((n + 1 : Nat) : Int) leaf k m ((j + 1 : Nat) : Int)) (fun q => ?_) ?_
      · simp only [corebanklaw18_ChartPartition.l2]
        rw [if_pos (by omega), if_pos (by omega), if_pos (by omega), if_pos (by omega), rd_at hlt, rd62_at hi, if_pos c, wrap_inc hlt (by omega), wrap_inc (n := n + 1) (by omega) (by omega)]
      · refine ih (j + 1) (n + 1) (by omega) (by omega) (by omega) (by omega) ?_
        have e2 : n + 1 + (m.drop (j + 1)).count l[i].f0 = n + ((m.drop (j + 1)).count l[i].f0 + 1) := by omega
        rw [e2]; exact h
    · have e : (m[j] == l[i].f0) = false := by simpa using c
      simp only [e, Bool.false_eq_true, if_false, Nat.add_zero] at h hb
      refine Ev.step (f := fun q => corebanklaw18_ChartPartition.l2 q l i (n : Int) leaf k m ((j + 1 : Nat) : Int)) (fun q => ?_) (ih (j + 1) n (by omega) (by omega) hn hb h)
      simp only [corebanklaw18_ChartPartition.l2]
      rw [if_pos (by omega), if_pos (by omega), if_pos (by omega), if_pos (by omega), rd_at hlt, rd62_at hi, if_neg c, wrap_inc hlt (by omega)]

/-- None of a list is a child of this account. -/
def noKid (id : Int) (r : List S62) : Bool := r.all fun g => g.f1 != id
theorem part_l1 (l : List S62) (hl : l.length ≤ 40) (hlen : ∀ root, (leavesG l root).length ≤ 1000) (i : Nat) (hi : i < l.length) (r : Bool)
    (d : Nat) : ∀ (k n : Nat) (leaf : Bool), k ≤ l.length → l.length - k = d → n + cnt l l[i].f0 (l.drop k) ≤ 1000 →
    n + cnt l l[i].f0 (l.drop k) = (if (leaf && noKid l[i].f0 (l.drop k)) = true then 1 else 0) →
    Ev (fun q => corebanklaw18_ChartPartition.l0 q l ((i + 1 : Nat) : Int)) r →
    Ev (fun q => corebanklaw18_ChartPartition.l1 q l i n leaf k) r := by
  induction d with
  | zero =>
    intro k n leaf hk hd hb h hr
    rw [List.drop_of_length_le (by omega)] at h
    simp only [cnt, noKid, List.all_nil, Bool.and_true, Nat.add_zero] at h
    refine Ev.step (f := fun q => corebanklaw18_ChartPartition.l0 q l ((i + 1 : Nat) : Int)) (fun q => ?_) hr
    simp only [corebanklaw18_ChartPartition.l1]; rw [if_neg (by omega), wrap_inc hi (by omega)]
    cases leaf with
    | true => rw [if_pos rfl, if_pos (by simp at h; omega)]
    | false => rw [if_neg (by decide), if_pos (by simp at h; omega)]
  | succ d ih =>
    intro k n leaf hk hd hb h hr
    have hlt : k < l.length := by omega
    rw [drop_at hlt] at h hb
    simp only [cnt, noKid, List.all_cons] at h hb
    have hw := wrap_inc (i := k) (n := l.length) hlt (by omega)
    have hj : Ev (fun q => corebanklaw18_ChartPartition.j3 q l i n (leaf && (l[k].f1 != l[i].f0)) k) r := by
      by_cases c : l[k].f1 = 0
      · rw [if_pos c] at h hb
        refine Ev.step (f := fun q => (chart_Leaves.f q l l[k].f0).bind fun t => corebanklaw18_ChartPartition.l2 q l i n (leaf && (l[k].f1 != l[i].f0)) k t 0) (fun q => ?_) ?_
        · simp only [corebanklaw18_ChartPartition.j3]; rw [if_pos (by omega), if_pos (by omega), rd62_at hlt, if_pos c]
        · refine Ev.bind (leaves_ev l l[k].f0 (by omega)) ?_
          refine part_l2 l i hi _ k (leavesG l l[k].f0) (hlen _) r _ 0 n (Nat.zero_le _) rfl (by omega) (by rw [List.drop_zero]; omega) ?_
          rw [List.drop_zero, hw]
          refine ih (k + 1) _ _ (by omega) (by omega) (by omega) ?_ hr
          rw [Bool.and_assoc]
          have : n + (leavesG l l[k].f0).count l[i].f0 + cnt l l[i].f0 (l.drop (k + 1)) = n + ((leavesG l l[k].f0).count l[i].f0 + cnt l l[i].f0 (l.drop (k + 1))) := by omega
          rw [this]; exact h
      · rw [if_neg c, Nat.zero_add] at h hb
        refine Ev.step (f := fun q => corebanklaw18_ChartPartition.l1 q l i n (leaf && (l[k].f1 != l[i].f0)) ((k + 1 : Nat) : Int)) (fun q => ?_) ?_
        · simp only [corebanklaw18_ChartPartition.j3]; rw [if_pos (by omega), if_pos (by omega), rd62_at hlt, if_neg c, hw]
        · refine ih (k + 1) _ _ (by omega) (by omega) hb ?_ hr
          rw [Bool.and_assoc]; exact h
    refine Ev.step (f := fun q => corebanklaw18_ChartPartition.j3 q l i n (leaf && (l[k].f1 != l[i].f0)) k) (fun q => ?_) hj
    simp only [corebanklaw18_ChartPartition.l1]; rw [if_pos (by omega)]
    cases leaf with
    | true => rw [if_pos rfl, if_pos (by omega), if_pos (by omega), if_pos (by omega), rd62_at hlt, rd62_at hi]; rfl
    | false => rw [if_neg (by decide)]; rfl

theorem ChartPartition : corebanklaw18_ChartPartition.Pure := by
  intro l p hl _
  have hlv : Ev (fun k => (corebanklaw18_lives.f k).bind fun t => some t) true := Ev.bind lives_ev (Ev.now _)
  have hn : l.length ≤ 140737488351232 := by have := hl.1; omega
  have hs : ∀ a ∈ l, a.f3.size ≤ 140737488351232 := fun a ha => (hl.2.2 a ha).2.2.2
  have hj : Ev (fun k => corebanklaw18_ChartPartition.j0 k l true) true := Ev.step (f := fun k => (corebanklaw18_lives.f k).bind fun t => some t) (fun k => by simp only [corebanklaw18_ChartPartition.j0]; rfl) hlv
  refine Ev.rounds ?_
  refine Ev.bind (check_ev _ _ _ _ _ _ _ _ _ _ _ _ _ _ l hn hs) ?_
  by_cases h : checkG l (planG p.f0 p.f1 p.f2 p.f3 p.f4 p.f5 p.f6 p.f7 p.f8 p.f9 p.f10 p.f11 p.f12 p.f13) = 0
  · refine Ev.congr (fun k => by rw [if_pos h]) (Ev.bind (rcheck_ev _ _ _ _ _ _ _ _ _ _ _ _ _ _ l hn hs) ?_)
    have H := chart_of h
    have hlen : ∀ root, (leavesG l root).length ≤ 1000 := by
      intro root
      have h1 := List.Nodup.length_le_of_subset (l₂ := l.map fun g : S62 => g.f0) (leavesG_asc l root).nodup (fun y hy => by
        obtain ⟨g, hg, _, e⟩ := (mem_leavesG l root y).1 hy
        exact List.mem_map.2 ⟨g, hg, e⟩)
      have := H.len
      simp at h1; omega
    have hloop : ∀ (d i : Nat), i ≤ l.length → l.length - i = d → Ev (fun k => corebanklaw18_ChartPartition.l0 k l i) true := by
      intro d
      induction d with
      | zero =>
        intro i hi hd
        refine Ev.step (f := fun k => (corebanklaw18_lives.f k).bind fun t => some t) (fun k => ?_) hlv
        simp only [corebanklaw18_ChartPartition.l0]; rw [if_neg (by omega)]
      | succ d ih =>
        intro i hi hd
        have hlt : i < l.length := by omega
        refine Ev.step (f := fun k => corebanklaw18_ChartPartition.l1 k l i ((0 : Nat) : Int) true ((0 : Nat) : Int)) (fun k => ?_) ?_
        · simp only [corebanklaw18_ChartPartition.l0]; rw [if_pos (by omega)]; rfl
        · have hc := cnt_all H hlt
          have hk : noKid l[i].f0 l = !parentG l l[i].f0 := by
            unfold noKid parentG
            rw [List.not_any_eq_all_not]; rfl
          refine part_l1 l H.len hlen i hlt true _ 0 0 true (Nat.zero_le _) rfl ?_ ?_ (ih (i + 1) (by omega) (by omega))
          · rw [List.drop_zero, hc]; split <;> omega
          · rw [List.drop_zero, hc, hk]
            cases parentG l l[i].f0 <;> rfl
    refine Ev.step (f := fun k => corebanklaw18_ChartPartition.l0 k l ((0 : Nat) : Int)) (fun k => ?_) (hloop _ 0 (Nat.zero_le _) rfl)
    rw [h]
    simp only [corebanklaw18_ChartPartition.j0]; rfl
  · exact Ev.congr (fun k => by rw [if_neg h]) hj
end Go.Proofs.Ytcmaifjmnpfmbaa.C.Proof
