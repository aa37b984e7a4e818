/- The pure statement of ChartParents: in an accepted chart Order has each Id once and behind that of its parent, and a path is that of the parent and itself. -/
import Derived.Test.YtcmaifjmnpfmbaaCLives
import Derived.Test.YtcmaifjmnpfmbaaCForest
import Derived.Test.YtcmaifjmnpfmbaaCStateChartParents
namespace Go.Proofs.Ytcmaifjmnpfmbaa.C.Proof
open Go.RowKit Go.Proofs.Ytcmaifjmnpfmbaa.C Go.Proofs.YtcmaifjmnpfmbaaW.PrintWords Go.Proofs.YtcmaifjmnpfmbaaW.PrintLast

theorem par_l1 {l : List S62} (H : Chart l) (o : List Int) (ho : o.length ≤ 1000) (hnd : o.Nodup) (i : Nat) (hi : i < o.length) (g : S62) (hp : pathG l g.f0 = pathG l g.f1 ++ [g.f0]) (r : Bool)
    (hr : Ev (fun q => corebanklaw18_ChartParents.l0 q l o ((i + 1 : Nat) : Int)) r) (d : Nat) : ∀ (j : Nat) (b : Bool), j ≤ i → i - j = d → (b = true ∨ ∃ k, ∃ hk : k < i, j ≤ k ∧ o[k] = g.f1) →
    Ev (fun q => corebanklaw18_ChartParents.l1 q l o i b j g.f0 g.f1 g.f2 g.f3) r := by
  have hl := H.len
  induction d with
  | zero =>
    intro j b hj hd hb
    have hbt : b = true := by
      rcases hb with h | ⟨k, hk, h1, _⟩
      · exact h
      · omega
    subst hbt
    refine Ev.step (f := fun q => (chart_Path.f q l g.f0).bind fun t => ((chart_Path.f q l g.f1).bind fun u => (if u.length + [g.f0].length < 17592186044416 then ((corebankref18_Same.f q t (u ++ [g.f0])).bind fun s => (if s = true then (corebanklaw18_ChartParents.l0 q l o ((i + 1 : Nat) : Int)) else (some false))) else none))) (fun q => ?_) ?_
    · simp only [corebanklaw18_ChartParents.l1]; rw [if_neg (by omega), if_pos trivial, wrap_inc hi (by omega)]
      rfl
    · refine Ev.bind (path_ev l g.f0 (by omega)) (Ev.bind (path_ev l g.f1 (by omega)) ?_)
      refine Ev.congr (fun q => by rw [if_pos (by have := pathG_length l g.f1; simp; omega)]) ?_
      refine Ev.bind (same_ev _ _ (by have := pathG_length l g.f0; omega)) ?_
      exact Ev.congr (fun q => by rw [if_pos (decide_eq_true hp)]) hr
  | succ d ih =>
    intro j b hj hd hb
    have hlt : j < i := by omega
    have hlo : j < o.length := by omega
    have hne : ¬ o[j] = o[i] := List.pairwise_iff_getElem.1 hnd j i hlo hi hlt
    have hw := wrap_inc (i := j) (n := i) hlt (by omega)
    cases b with
    | true =>
      refine Ev.step (f := fun q => corebanklaw18_ChartParents.l1 q l o i true ((j + 1 : Nat) : Int) g.f0 g.f1 g.f2 g.f3) (fun q => ?_) (ih (j + 1) true (by omega) (by omega) (.inl rfl))
      simp only [corebanklaw18_ChartParents.l1]
      rw [if_pos (by omega), if_pos trivial, if_pos (by omega), if_pos (by omega), if_pos (by omega), if_pos (by omega), rd_at hlo, rd_at hi, if_neg hne, hw]
    | false =>
      refine Ev.step (f := fun q => corebanklaw18_ChartParents.l1 q l o i (o[j] == g.f1) ((j + 1 : Nat) : Int) g.f0 g.f1 g.f2 g.f3) (fun q => ?_) (ih (j + 1) _ (by omega) (by omega) ?_)
      · simp only [corebanklaw18_ChartParents.l1]
        rw [if_pos (by omega), if_neg (by decide), if_pos (by omega), if_pos (by omega), if_pos (by omega), if_pos (by omega), rd_at hlo, rd_at hi, if_neg hne, hw]
      · rcases hb with h | ⟨k, hk, h1, h2⟩
        · exact absurd h (by decide)
        · by_cases c : k = j
          · subst c; left; simpa using h2
          · exact .inr ⟨k, hk, by omega, h2⟩
theorem ChartParents : corebanklaw18_ChartParents.Pure := by
  intro l p hl _
  have hlv : Ev (fun k => (corebanklaw18_lives.f k).bind fun t => some t) true := Ev.bind lives_ev (Ev.now _)
  have hn : l.length ≤ 140737488351232 := by have := hl.1; omega
  have hs : ∀ a ∈ l, a.f3.size ≤ 140737488351232 := fun a ha => (hl.2.2 a ha).2.2.2
  refine Ev.rounds ?_
  refine Ev.bind (rcheck_ev _ _ _ _ _ _ _ _ _ _ _ _ _ _ l hn hs) ?_
  by_cases h : checkG l (planG p.f0 p.f1 p.f2 p.f3 p.f4 p.f5 p.f6 p.f7 p.f8 p.f9 p.f10 p.f11 p.f12 p.f13) = 0
  · have H := chart_of h
    have hl40 := H.len
    have hol := order_len H
    refine Ev.congr (fun k => by rw [if_pos h]) (Ev.bind (order_ev l (by omega)) ?_)
    refine Ev.congr (fun k => by rw [if_pos (by omega)]) ?_
    have hloop : ∀ (d i : Nat), i ≤ (orderG l).length → (orderG l).length - i = d → Ev (fun k => corebanklaw18_ChartParents.l0 k l (orderG l) i) true := by
      intro d
      induction d with
      | zero =>
        intro i hi hd
        refine Ev.step (f := fun k => (corebanklaw18_lives.f k).bind fun t => some t) (fun k => ?_) hlv
        simp only [corebanklaw18_ChartParents.l0]; rw [if_neg (by omega)]
      | succ d ih =>
        intro i hi hd
        have hlt : i < (orderG l).length := by omega
        obtain ⟨m, hm, e⟩ := ord_mem H _ _ _ (List.getElem_mem hlt : (orderG l)[i] ∈ orderG l)
        have hf : findG l (orderG l)[i] = some l[m] := by rw [← e]; exact H.find hm
        refine Ev.step (f := fun k => (chart_Find.f k l (orderG l)[i]).bind fun b => (if b.2.2.2.2 = true then (corebanklaw18_ChartParents.l1 k l (orderG l) i (b.2.1 == 0) 0 b.1 b.2.1 b.2.2.1 b.2.2.2.1) else (some false))) (fun k => ?_) ?_
        · simp only [corebanklaw18_ChartParents.l0]; rw [if_pos (by omega), if_pos (by omega), rd_at hlt]
        · refine Ev.bind (find_ev l _ (by omega)) ?_
          rw [hf]
          refine Ev.congr (f := fun k => corebanklaw18_ChartParents.l1 k l (orderG l) i (l[m].f1 == 0) ((0 : Nat) : Int) l[m].f0 l[m].f1 l[m].f2 l[m].f3) (fun k => by simp [tup]) ?_
          refine par_l1 H (orderG l) (by omega) (order_nodup H) i hlt l[m] (path_up H hm) true (ih (i + 1) (by omega) (by omega)) _ 0 _ (Nat.zero_le _) rfl ?_
          rcases Led.at (ord_led H _ 0) i hlt l[m] hf with h0 | ⟨k, hk, e⟩
          · left; simpa using h0
          · exact .inr ⟨k, hk, Nat.zero_le _, e⟩
    exact hloop _ 0 (Nat.zero_le _) rfl
  · exact Ev.congr (fun k => by rw [if_neg h]) hlv
end Go.Proofs.Ytcmaifjmnpfmbaa.C.Proof
