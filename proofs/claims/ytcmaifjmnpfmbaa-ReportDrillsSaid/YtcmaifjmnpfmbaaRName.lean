/- Names: the program's and the reference's tests come to the same. -/
import Derived.Test.YtcmaifjmnpfmbaaRBase
import Derived.Test.YtcmaifjmnpfmbaaRx6
import Derived.Test.YtcmaifjmnpfmbaaRx0
namespace Go.Proofs.Ytcmaifjmnpfmbaa.R.Proof
open Go.RowKit Go.Proofs.Ytcmaifjmnpfmbaa.R Go.Proofs.YtcmaifjmnpfmbaaW.PrintWords Go.Proofs.YtcmaifjmnpfmbaaW.PrintLast
/-- The letter at place i may stand there. -/
def letG (s : ByteArray) (i : Nat) : Bool := (decide (bt s (i : Int) ≥ 97) && decide (bt s (i : Int) ≤ 122)) || (decide (i ≠ 0) && (decide (bt s (i : Int) = 95) || (decide (bt s (i : Int) ≥ 48) && decide (bt s (i : Int) ≤ 57))))
def nameG (s : ByteArray) : Bool := decide (1 ≤ s.size) && (decide (s.size ≤ 16) && (List.range s.size).all (letG s))
theorem letG_iff (s : ByteArray) (i : Nat) : letG s i = true ↔ (97 ≤ bt s (i : Int) ∧ bt s (i : Int) ≤ 122) ∨ (i ≠ 0 ∧ (bt s (i : Int) = 95 ∨ (48 ≤ bt s (i : Int) ∧ bt s (i : Int) ≤ 57))) := by simp [letG]
theorem letG_no (s : ByteArray) (i : Nat) : letG s i = false ↔ ¬ ((97 ≤ bt s (i : Int) ∧ bt s (i : Int) ≤ 122) ∨ (i ≠ 0 ∧ (bt s (i : Int) = 95 ∨ (48 ≤ bt s (i : Int) ∧ bt s (i : Int) ≤ 57)))) := by rw [← letG_iff, Bool.not_eq_true]
/-- The letters from i on. -/
def letsG (s : ByteArray) : Nat → Nat → Bool
  | 0, _ => true
  | d + 1, i => letG s i && letsG s d (i + 1)
theorem letsG_all (s : ByteArray) : ∀ d i, letsG s d i = (List.range' i d).all (letG s)
  | 0, _ => rfl
  | d + 1, i => by rw [letsG, letsG_all s d (i + 1), List.range'_succ, List.all_cons]
theorem name_l0 (s : ByteArray) (hn : s.size ≤ 9223372036854775807) : ∀ d i : Nat, s.size - i = d → i ≤ s.size →
    Ev (fun k => report_name.l0 k s (s.size : Int) (i : Int)) (letsG s d i && (decide (1 ≤ s.size) && decide (s.size ≤ 16))) := by
  intro d
  induction d with
  | zero =>
    intro i hd hi
    by_cases c : (s.size : Int) ≥ 1
    · refine Ev.step (f := fun _ => some (decide ((s.size : Int) ≤ 16))) (fun k => by simp only [report_name.l0]; rw [if_neg (by omega), if_pos c]) (Ev.some_ ?_)
      rw [letsG, Bool.true_and, decide_eq_true (show 1 ≤ s.size by omega), Bool.true_and]
      exact decide_eq_decide.mpr (by omega)
    · refine Ev.step (f := fun _ => some false) (fun k => by simp only [report_name.l0]; rw [if_neg (by omega), if_neg c]) (Ev.some_ ?_)
      rw [letsG, decide_eq_false (show ¬ 1 ≤ s.size by omega)]; rfl
  | succ d ih =>
    intro i hd hi
    have hlt : i < s.size := by omega
    have hnext := ih (i + 1) (by omega) (by omega)
    have hbad : letG s i = false → Ev (fun _ => some false) (letsG s (d + 1) i && (decide (1 ≤ s.size) && decide (s.size ≤ 16))) := fun h => Ev.some_ (by rw [letsG, h]; rfl)
    have hgood : letG s i = true → Ev (fun k => report_name.l0 k s (s.size : Int) (((i + 1 : Nat)) : Int)) (letsG s (d + 1) i && (decide (1 ≤ s.size) && decide (s.size ≤ 16))) := fun h => by rw [letsG, h, Bool.true_and]; exact hnext
    have hz : ((i : Int) = 0) ↔ i = 0 := by omega
    by_cases c1 : bt s (i : Int) ≥ 97
    · by_cases c2 : bt s (i : Int) ≤ 122
      · exact Ev.step (fun k => by simp only [report_name.l0]; rw [if_pos (by omega), if_pos (by omega), if_pos (by omega), if_pos c1, if_pos c2, wrap_inc hlt hn]) (hgood (by rw [letG_iff]; omega))
      · by_cases c3 : (i : Int) = 0
        · exact Ev.step (f := fun _ => some false) (fun k => by simp only [report_name.l0]; rw [if_pos (by omega), if_pos (by omega), if_pos (by omega), if_pos c1, if_neg c2, if_pos c3]) (hbad (by rw [letG_no]; omega))
        · have c3' : i ≠ 0 := fun e => c3 (hz.mpr e)
          by_cases c4 : bt s (i : Int) = 95
          · exact Ev.step (fun k => by simp only [report_name.l0]; rw [if_pos (by omega), if_pos (by omega), if_pos (by omega), if_pos c1, if_neg c2, if_neg c3, if_pos c4, wrap_inc hlt hn]) (hgood (by rw [letG_iff]; omega))
          · have c5 : ¬ bt s (i : Int) < 48 := by omega
            have c6 : bt s (i : Int) > 57 := by omega
            exact Ev.step (f := fun _ => some false) (fun k => by simp only [report_name.l0]; rw [if_pos (by omega), if_pos (by omega), if_pos (by omega), if_pos c1, if_neg c2, if_neg c3, if_neg c4, if_neg c5, if_pos c6]) (hbad (by rw [letG_no]; omega))
    · by_cases c3 : (i : Int) = 0
      · exact Ev.step (f := fun _ => some false) (fun k => by simp only [report_name.l0]; rw [if_pos (by omega), if_pos (by omega), if_pos (by omega), if_neg c1, if_pos c3]) (hbad (by rw [letG_no]; omega))
      · have c3' : i ≠ 0 := fun e => c3 (hz.mpr e)
        by_cases c4 : bt s (i : Int) = 95
        · exact Ev.step (fun k => by simp only [report_name.l0]; rw [if_pos (by omega), if_pos (by omega), if_pos (by omega), if_neg c1, if_neg c3, if_pos c4, wrap_inc hlt hn]) (hgood (by rw [letG_iff]; omega))
        · by_cases c5 : bt s (i : Int) < 48
          · exact Ev.step (f := fun _ => some false) (fun k => by simp only [report_name.l0]; rw [if_pos (by omega), if_pos (by omega), if_pos (by omega), if_neg c1, if_neg c3, if_neg c4, if_pos c5]) (hbad (by rw [letG_no]; omega))
          · by_cases c6 : bt s (i : Int) > 57
            · exact Ev.step (f := fun _ => some false) (fun k => by simp only [report_name.l0]; rw [if_pos (by omega), if_pos (by omega), if_pos (by omega), if_neg c1, if_neg c3, if_neg c4, if_neg c5, if_pos c6]) (hbad (by rw [letG_no]; omega))
            · exact Ev.step (fun k => by simp only [report_name.l0]; rw [if_pos (by omega), if_pos (by omega), if_pos (by omega), if_neg c1, if_neg c3, if_neg c4, if_neg c5, if_neg c6, wrap_inc hlt hn]) (hgood (by rw [letG_iff]; omega))
theorem name_ev (s : ByteArray) (hn : s.size ≤ 9223372036854775807) : Ev (fun k => report_name.f k s) (nameG s) := by
  have h := name_l0 s hn s.size 0 (by omega) (Nat.zero_le _)
  have e : (letsG s s.size 0 && (decide (1 ≤ s.size) && decide (s.size ≤ 16))) = nameG s := by
    unfold nameG
    rw [letsG_all, ← List.range_eq_range']
    cases (List.range s.size).all (letG s) <;> cases decide (1 ≤ s.size) <;> cases decide (s.size ≤ 16) <;> rfl
  rw [e] at h
  exact Ev.congr (fun k => by unfold report_name.f; rfl) h
/-! ### the reference -/
end Go.Proofs.Ytcmaifjmnpfmbaa.R.Proof
