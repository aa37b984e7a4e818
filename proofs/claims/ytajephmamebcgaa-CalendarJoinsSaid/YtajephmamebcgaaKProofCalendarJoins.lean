/- The pure statement of CalendarJoins. -/
import Derived.Test.YtajephmamebcgaaKLives
import Derived.Test.YtajephmamebcgaaKJoin
import Derived.Test.YtajephmamebcgaaKCheck
import Derived.Test.YtajephmamebcgaaKStateCalendarJoins
namespace Go.Proofs.Ytajephmamebcgaa.K.Proof
open Go.RowKit Go.Proofs.Ytajephmamebcgaa.K Go.Proofs.YtajephmamebcgaaW.PrintWords Go.Proofs.YtajephmamebcgaaW.PrintLast

theorem union_contains (a b : List Int) (x : Int) : (unionG a b).contains x = (a.contains x || b.contains x) := by
  rw [Bool.eq_iff_iff, Bool.or_eq_true, List.contains_iff_mem, List.contains_iff_mem, List.contains_iff_mem, mem_union]
theorem open_union (x y x' y' : List Int) (d : Int) : openG (unionG x x') (unionG y y') d = (openG x y d && openG x' y' d) := by
  unfold openG
  rw [union_contains, union_contains]
  cases validG d <;> cases x.contains (Int.tmod (wrap64 (d + 5)) 7) <;> cases x'.contains (Int.tmod (wrap64 (d + 5)) 7) <;> cases y.contains d <;> cases y'.contains d <;> rfl
theorem in_union (lo hi : Int) (a b : List Int) (h : inG lo hi a = true) (h' : inG lo hi b = true) : inG lo hi (unionG a b) = true := by
  unfold inG at *
  rw [Bool.not_eq_true', List.any_eq_false] at *
  intro x hx
  rcases (mem_union a b x).1 hx with hx | hx
  · exact h x hx
  · exact h' x hx
theorem rise_asc {l : List Int} (h : Asc l) : riseG l = true := by
  have : ∀ d, d < l.length ∨ d = 0 → riseTail l d = true := by
    intro d
    induction d with
    | zero => intro _; rfl
    | succ d ih =>
      intro hd
      simp only [riseTail]
      have := List.pairwise_iff_getElem.1 h (l.length - (d + 1) - 1) (l.length - (d + 1)) (by omega) (by omega) (by omega)
      rw [rd_at (by omega), rd_at (by omega), if_neg (by omega)]
      exact ih (by omega)
  exact this _ (by omega)
theorem check_zero {n : ByteArray} {x y : List Int} (h : checkG n x y = 0) : nameG n = true ∧ inG 0 6 x = true ∧ inG 0 73048 y = true := by
  unfold checkG at h
  split at h
  · exact absurd h (by decide)
  · rename_i h1
    split at h
    · exact absurd h (by decide)
    · rename_i h2
      split at h
      · exact absurd h (by decide)
      · split at h
        · exact absurd h (by decide)
        · rename_i h3
          refine ⟨by simpa using h1, ?_, by simpa using h3⟩
          rw [Bool.not_eq_true, Bool.or_eq_false_iff, Bool.or_eq_false_iff] at h2
          simpa using h2.2.1
theorem CalendarJoins : corebanklaw05_CalendarJoins.Pure := by
  intro a b d ha hb _
  have hx := ha.2.1.2.1
  have hy := ha.2.2.2.1
  have hx' := hb.2.1.2.1
  have hy' := hb.2.2.2.1
  have hjt : Ev (fun k => corebanklaw05_CalendarJoins.j0 k d true a.f0 a.f1 a.f2 b.f0 b.f1 b.f2) true := Ev.step (f := fun k => (corebanklaw05_live.f k).bind fun t => some t) (fun k => by simp only [corebanklaw05_CalendarJoins.j0]; rfl) live_then
  refine ev_rounds ?_
  refine Ev.bind (few_ev _ _ _) ?_
  cases f1 : fewG a.f1 a.f2 with
  | false => exact Ev.congr (fun k => if_neg (by decide)) hjt
  | true =>
    refine Ev.congr (fun k => if_pos rfl) (Ev.bind (few_ev _ _ _) ?_)
    cases f2 : fewG b.f1 b.f2 with
    | false => exact hjt
    | true =>
      have l1 := of_decide_eq_true f1
      have l2 := of_decide_eq_true f2
      have u1 := union_length a.f1 b.f1
      have u2 := union_length a.f2 b.f2
      have hU1 : (unionG a.f1 b.f1).length ≤ 9223372036854775807 := by omega
      have hU2 : (unionG a.f2 b.f2).length ≤ 9223372036854775807 := by omega
      have hj1 : Ev (fun k => corebanklaw05_CalendarJoins.j1 k false a.f0 a.f1 a.f2 b.f0 b.f1 b.f2 a.f0 (unionG a.f1 b.f1) (unionG a.f2 b.f2)) true := by
        refine Ev.step (f := fun k => (calendar_Check.f k a.f0 a.f1 a.f2).bind fun t => (if t = 0 then ((calendar_Check.f k b.f0 b.f1 b.f2).bind fun t => (if t = 0 then (if (((unionG a.f1 b.f1).length : Int) < 7) then ((calendar_Check.f k a.f0 (unionG a.f1 b.f1) (unionG a.f2 b.f2)).bind fun t => (if t = 0 then ((corebanklaw05_live.f k).bind fun t => (some t)) else (some false))) else ((corebanklaw05_live.f k).bind fun t => (some t))) else ((corebanklaw05_live.f k).bind fun t => (some t)))) else ((corebanklaw05_live.f k).bind fun t => (some t)))) (fun k => by simp only [corebanklaw05_CalendarJoins.j1]; rfl) ?_
        refine Ev.bind (check_ev _ _ _ ha.1 hx hy) ?_
        by_cases c1 : checkG a.f0 a.f1 a.f2 = 0
        · refine Ev.congr (fun k => if_pos c1) (Ev.bind (check_ev _ _ _ hb.1 hx' hy') ?_)
          by_cases c2 : checkG b.f0 b.f1 b.f2 = 0
          · refine Ev.congr (fun k => if_pos c2) ?_
            by_cases c3 : ((unionG a.f1 b.f1).length : Int) < 7
            · refine Ev.congr (fun k => if_pos c3) (Ev.bind (check_ev _ _ _ ha.1 hU1 hU2) ?_)
              refine Ev.congr (fun k => if_pos ?_) live_then
              obtain ⟨z1, z2, z3⟩ := check_zero c1
              obtain ⟨_, z2', z3'⟩ := check_zero c2
              unfold checkG
              rw [if_neg (by rw [z1]; decide), if_neg, if_neg (by omega), if_neg (by rw [in_union _ _ _ _ z3 z3']; decide), if_pos (rise_asc (union_asc _ _))]
              rw [in_union _ _ _ _ z2 z2', rise_asc (union_asc _ _), decide_eq_false (by omega)]; decide
            · exact Ev.congr (fun k => if_neg c3) live_then
          · exact Ev.congr (fun k => if_neg c2) live_then
        · exact Ev.congr (fun k => if_neg c1) live_then
      have hJ : calendar_Join.f a.f0 a.f1 a.f2 b.f0 b.f1 b.f2 = some (a.f0, unionG a.f1 b.f1, unionG a.f2 b.f2) := by
        unfold calendar_Join.f
        rw [union_eq _ _ (by omega), Option.bind_some, union_eq _ _ (by omega), Option.bind_some]
      have hRJ : Ev (fun k => corebankref05_Join.f k a.f0 a.f1 a.f2 b.f0 b.f1 b.f2) (a.f0, unionG a.f1 b.f1, unionG a.f2 b.f2) :=
        Ev.bind (rjoin_ev _ _ (by omega)) (Ev.bind (rjoin_ev _ _ (by omega)) (Ev.now _))
      refine Ev.step (f := fun k => (corebankref05_Join.f k a.f0 a.f1 a.f2 b.f0 b.f1 b.f2).bind fun j => ((corebankref05_Same.f k a.f0 (unionG a.f1 b.f1) (unionG a.f2 b.f2) j.1 j.2.1 j.2.2).bind fun t => (if t = true then ((calendar_Open.f k a.f0 (unionG a.f1 b.f1) (unionG a.f2 b.f2) d).bind fun t363 => ((calendar_Open.f k a.f0 a.f1 a.f2 d).bind fun t364 => (if t364 = true then ((calendar_Open.f k b.f0 b.f1 b.f2 d).bind fun t365 => (corebanklaw05_CalendarJoins.j1 k (t363 != t365) a.f0 a.f1 a.f2 b.f0 b.f1 b.f2 a.f0 (unionG a.f1 b.f1) (unionG a.f2 b.f2))) else (corebanklaw05_CalendarJoins.j1 k (t363 != false) a.f0 a.f1 a.f2 b.f0 b.f1 b.f2 a.f0 (unionG a.f1 b.f1) (unionG a.f2 b.f2))))) else (corebanklaw05_CalendarJoins.j1 k true a.f0 a.f1 a.f2 b.f0 b.f1 b.f2 a.f0 (unionG a.f1 b.f1) (unionG a.f2 b.f2))))) (fun k => by simp only [corebanklaw05_CalendarJoins.j0]; rw [hJ]; rfl) ?_
      refine Ev.bind hRJ (Ev.bind (same_self _ _ _ hU1 hU2) ?_)
      refine Ev.congr (fun k => if_pos rfl) (Ev.bind (open_ev _ _ _ hU1 hU2 d) (Ev.bind (open_ev _ _ _ hx hy d) ?_))
      rw [open_union]
      cases o1 : openG a.f1 a.f2 d with
      | true =>
        refine Ev.congr (fun k => if_pos rfl) (Ev.bind (open_ev _ _ _ hx' hy' d) ?_)
        rw [Bool.true_and, bne_self_eq_false]; exact hj1
      | false => exact Ev.congr (fun k => if_neg (by decide)) hj1
end Go.Proofs.Ytajephmamebcgaa.K.Proof
