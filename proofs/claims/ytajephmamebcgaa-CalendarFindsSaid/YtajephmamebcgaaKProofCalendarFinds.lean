/- The pure statement of CalendarFinds. -/
import Derived.Test.YtajephmamebcgaaKLives
import Derived.Test.YtajephmamebcgaaKBase
import Derived.Test.YtajephmamebcgaaKJoin
import Derived.Test.YtajephmamebcgaaKStateCalendarFinds
namespace Go.Proofs.Ytajephmamebcgaa.K.Proof
open Go.RowKit Go.Proofs.Ytajephmamebcgaa.K Go.Proofs.YtajephmamebcgaaW.PrintWords Go.Proofs.YtajephmamebcgaaW.PrintLast
def findR (l : List S24) (i : Int) : ByteArray × List Int × List Int × Bool :=
  if i < 0 then ((⟨#[]⟩ : ByteArray), ([] : List Int), ([] : List Int), false) else ((rd_T24 l i).f0, (rd_T24 l i).f1, (rd_T24 l i).f2, true)
theorem rfind_l0 (l : List S24) (a : ByteArray) (hn : l.length ≤ 9223372036854775807) (d : Nat) : ∀ i : Nat, l.length - i = d → i ≤ l.length →
    Ev (fun k => corebankref05_Find.l0 k l a i) (findR l (idxFrom (calendar_Find.p a) (l.drop i) i)) := by
  induction d with
  | zero =>
    intro i hd hi
    refine Ev.step (f := fun _ => some (findR l (-1))) (fun k => ?_) (Ev.some_ ?_)
    · simp only [corebankref05_Find.l0]; rw [if_neg (by omega)]; rfl
    · rw [idxFrom_end _ _ _ (by omega)]
  | succ d ih =>
    intro i hd hi
    have hlt : i < l.length := by omega
    rw [idxFrom_at _ l i z24 hlt]
    have hrd : l.getD i z24 = rd_T24 l (i : Int) := rfl
    rw [hrd]
    by_cases c : ((rd_T24 l (i : Int)).f0).toList = a.toList
    · have hp : calendar_Find.p a (rd_T24 l (i : Int)) = true := by simpa [calendar_Find.p] using c
      rw [if_pos hp]
      refine Ev.step (f := fun _ => some (findR l (i : Int))) (fun k => ?_) (Ev.now _)
      simp only [corebankref05_Find.l0]
      rw [if_pos (by omega), if_pos (by omega), if_pos c]
      unfold findR
      rw [if_neg (by omega)]
    · have hp : ¬ calendar_Find.p a (rd_T24 l (i : Int)) = true := by simpa [calendar_Find.p] using c
      rw [if_neg hp]
      refine Ev.step (f := fun k => corebankref05_Find.l0 k l a ((i + 1 : Nat) : Int)) (fun k => ?_) (ih (i + 1) (by omega) (by omega))
      simp only [corebankref05_Find.l0]
      rw [if_pos (by omega), if_pos (by omega), if_neg c, wrap_inc hlt hn]
theorem find_eq (l : List S24) (a : ByteArray) (hl : (okSl 64 ok24) l) : calendar_Find.f l a = some (findR l (idxFrom (calendar_Find.p a) l 0)) := by
  unfold calendar_Find.f
  rcases calendar_Find.cases (calendar_Find.p a) l 0 with hI | ⟨j, hj, hI⟩
  · rw [hI, if_pos (by decide)]; rfl
  · rw [hI, if_neg (by omega)]
    have hx : ok24 (rd_T24 l ((0 + j : Nat) : Int)) := by
      have h := hl.2.2 l[j] (List.getElem_mem hj)
      have e : rd_T24 l ((0 + j : Nat) : Int) = l[j] := by
        show l.getD _ z24 = l[j]
        rw [List.getD_eq_getElem?_getD]
        simp [List.getElem?_eq_getElem hj]
      rw [e]; exact h
    have h1 := hx.2.1.1
    have h2 := hx.2.2.1
    unfold calendar_Find.at findR
    rw [if_pos (by omega), if_pos (by omega), if_neg (by omega)]
theorem findR_ok (l : List S24) (i : Int) (hl : (okSl 64 ok24) l) : (findR l i).2.1.length ≤ 9223372036854775807 ∧ (findR l i).2.2.1.length ≤ 9223372036854775807 := by
  unfold findR
  split
  · simp
  · by_cases h : i.toNat < l.length
    · have e : rd_T24 l i = l[i.toNat] := by
        show l.getD _ z24 = _
        rw [List.getD_eq_getElem?_getD, List.getElem?_eq_getElem h]; rfl
      rw [e]
      have := hl.2.2 _ (List.getElem_mem h)
      exact ⟨this.2.1.2.1, this.2.2.2.1⟩
    · have e : rd_T24 l i = z24 := by
        show l.getD _ z24 = _
        rw [List.getD_eq_getElem?_getD, List.getElem?_eq_none (by omega)]; rfl
      rw [e]
      exact ⟨by decide, by decide⟩
theorem CalendarFinds : corebanklaw05_CalendarFinds.Pure := by
  intro l a hl _
  refine ev_rounds ?_
  have hn := hl.2.1
  have hlive : Ev (fun k => corebanklaw05_CalendarFinds.j0 k l a true) true := by
    refine Ev.step (f := fun k => (corebanklaw05_live.f k).bind fun t => some t) (fun k => ?_) live_then
    simp only [corebanklaw05_CalendarFinds.j0]; rw [if_pos trivial]
  by_cases c : (l.length : Int) > 30
  · exact Ev.congr (fun k => by unfold corebanklaw05_CalendarFinds.f; rw [if_pos c]) hlive
  · refine Ev.congr (fun k => by unfold corebanklaw05_CalendarFinds.f; rw [if_neg c]) ?_
    by_cases c2 : (a.size : Int) > 100
    · refine Ev.congr (fun k => by rw [decide_eq_true c2]) hlive
    · refine Ev.congr (fun k => by rw [decide_eq_false c2]) ?_
      have hr := rfind_l0 l a hn _ 0 rfl (Nat.zero_le _)
      simp only [List.drop_zero] at hr
      have hok := findR_ok l (idxFrom (calendar_Find.p a) l 0) hl
      obtain ⟨R, hR⟩ : ∃ R, findR l (idxFrom (calendar_Find.p a) l 0) = R := ⟨_, rfl⟩
      have hf := find_eq l a hl
      rw [hR] at hr hf hok
      refine Ev.step (f := fun k => (calendar_Find.f l a).bind fun b => ((corebankref05_Find.f k l a).bind fun b' => ((corebankref05_Same.f k b.1 b.2.1 b.2.2.1 b'.1 b'.2.1 b'.2.2.1).bind fun t => (if t = true then (if (b.2.2.2 == b'.2.2.2) = true then ((corebanklaw05_live.f k).bind fun t => (some t)) else (some false)) else (some false))))) (fun k => ?_) ?_
      · simp only [corebanklaw05_CalendarFinds.j0]; rw [if_neg (by decide)]
      · refine Ev.congr (fun k => by rw [hf]; rfl) (Ev.bind (f := fun k b' => ((corebankref05_Same.f k R.1 R.2.1 R.2.2.1 b'.1 b'.2.1 b'.2.2.1).bind fun t => (if t = true then (if (R.2.2.2 == b'.2.2.2) = true then ((corebanklaw05_live.f k).bind fun t => (some t)) else (some false)) else (some false)))) (a := R) (Ev.congr (fun _ => rfl) hr) ?_)
        refine Ev.bind (same_self _ _ _ hok.1 hok.2) ?_
        refine Ev.congr (fun k => ?_) live_then
        rw [if_pos rfl, if_pos (by simp)]
end Go.Proofs.Ytajephmamebcgaa.K.Proof
