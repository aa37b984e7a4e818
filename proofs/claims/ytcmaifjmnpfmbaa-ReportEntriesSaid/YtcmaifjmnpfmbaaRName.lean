/- Names: the program's and the reference's tests come to the same. -/
import Derived.Test.YtcmaifjmnpfmbaaRBase
import Derived.Test.YtcmaifjmnpfmbaaRE17
import Derived.Test.YtcmaifjmnpfmbaaRE18
namespace Go.Proofs.Ytcmaifjmnpfmbaa.R.Proof
open Go.RowKit Go.Proofs.Ytcmaifjmnpfmbaa.R Go.Proofs.YtcmaifjmnpfmbaaW.PrintWords Go.Proofs.YtcmaifjmnpfmbaaW.PrintLast
/-- The letter at place i may stand there. -/
def letG (s:ByteArray) (i:Nat):Bool:=(decide (bt s (i:Int) ≥ 97) && decide (bt s (i:Int)≤122)) || (decide (i ≠ 0) && (decide (bt s (i:Int)=95) || (decide (bt s (i:Int) ≥ 48) && decide (bt s (i:Int)≤57))))
def nameG (s:ByteArray):Bool:=decide (1≤s.size) && (decide (s.size≤16) && (List.range s.size).all (letG s))
theorem letG_iff (s:ByteArray) (i:Nat):letG s i=true ↔ (97≤bt s (i:Int)∧bt s (i:Int)≤122) ∨ (i ≠ 0∧(bt s (i:Int)=95 ∨ (48≤bt s (i:Int)∧bt s (i:Int)≤57))):=by simp [letG]
theorem letG_no (s:ByteArray) (i:Nat):letG s i=false ↔ ¬ ((97≤bt s (i:Int)∧bt s (i:Int)≤122) ∨ (i ≠ 0∧(bt s (i:Int)=95 ∨ (48≤bt s (i:Int)∧bt s (i:Int)≤57)))):=by rw [← letG_iff,Bool.not_eq_true]
/-- The letters from i on. -/
def letsG (s:ByteArray):Nat→Nat→Bool
  | 0,_=>true
  | d + 1,i=>letG s i && letsG s d (i + 1)
theorem letsG_all (s:ByteArray):∀ d i,letsG s d i=(List.range' i d).all (letG s)
  | 0,_=>rfl
  | d + 1,i=>by rw [letsG,letsG_all s d (i + 1),List.range'_succ,List.all_cons]
theorem name_l0 (s:ByteArray) (hn:s.size≤9223372036854775807):∀ d i:Nat,s.size - i=d→i≤s.size →
    Ev (fun k=>report_name.l0 k s (s.size:Int) (i:Int)) (letsG s d i && (decide (1≤s.size) && decide (s.size≤16))):=by
  intro d
  induction d with
  | zero=>
    intro i hd hi
    by_cases c:(s.size:Int) ≥ 1
    · refine Ev.step (f:=fun _=>some (decide ((s.size:Int)≤16))) (fun k=>by simp only [report_name.l0];rw [if_neg (by omega),if_pos c]) (Ev.some_ ?_)
      rw [letsG,Bool.true_and,decide_eq_true (show 1≤s.size by omega),Bool.true_and]
      exact decide_eq_decide.mpr (by omega)
    · refine Ev.step (f:=fun _=>some false) (fun k=>by simp only [report_name.l0];rw [if_neg (by omega),if_neg c]) (Ev.some_ ?_)
      rw [letsG,decide_eq_false (show ¬ 1≤s.size by omega)];rfl
  | succ d ih=>
    intro i hd hi
    have hlt:i < s.size:=by omega
    have hnext:=ih (i + 1) (by omega) (by omega)
    have hbad:letG s i=false→Ev (fun _=>some false) (letsG s (d + 1) i && (decide (1≤s.size) && decide (s.size≤16))):=fun h=>Ev.some_ (by rw [letsG,h];rfl)
    have hgood:letG s i=true→Ev (fun k=>report_name.l0 k s (s.size:Int) (((i + 1:Nat)):Int)) (letsG s (d + 1) i && (decide (1≤s.size) && decide (s.size≤16))):=fun h=>by rw [letsG,h,Bool.true_and];exact hnext
    have hz:((i:Int)=0) ↔ i=0:=by omega
    by_cases c1:bt s (i:Int) ≥ 97
    · by_cases c2:bt s (i:Int)≤122
      · exact Ev.step (fun k=>by simp only [report_name.l0];rw [if_pos (by omega),if_pos (by omega),if_pos (by omega),if_pos c1,if_pos c2,wrap_inc hlt hn]) (hgood (by rw [letG_iff];omega))
      · by_cases c3:(i:Int)=0
        · exact Ev.step (f:=fun _=>some false) (fun k=>by simp only [report_name.l0];rw [if_pos (by omega),if_pos (by omega),if_pos (by omega),if_pos c1,if_neg c2,if_pos c3]) (hbad (by rw [letG_no];omega))
        · have c3':i ≠ 0:=fun e=>c3 (hz.mpr e)
          by_cases c4:bt s (i:Int)=95
          · exact Ev.step (fun k=>by simp only [report_name.l0];rw [if_pos (by omega),if_pos (by omega),if_pos (by omega),if_pos c1,if_neg c2,if_neg c3,if_pos c4,wrap_inc hlt hn]) (hgood (by rw [letG_iff];omega))
          · have c5:¬ bt s (i:Int) < 48:=by omega
            have c6:bt s (i:Int) > 57:=by omega
            exact Ev.step (f:=fun _=>some false) (fun k=>by simp only [report_name.l0];rw [if_pos (by omega),if_pos (by omega),if_pos (by omega),if_pos c1,if_neg c2,if_neg c3,if_neg c4,if_neg c5,if_pos c6]) (hbad (by rw [letG_no];omega))
    · by_cases c3:(i:Int)=0
      · exact Ev.step (f:=fun _=>some false) (fun k=>by simp only [report_name.l0];rw [if_pos (by omega),if_pos (by omega),if_pos (by omega),if_neg c1,if_pos c3]) (hbad (by rw [letG_no];omega))
      · have c3':i ≠ 0:=fun e=>c3 (hz.mpr e)
        by_cases c4:bt s (i:Int)=95
        · exact Ev.step (fun k=>by simp only [report_name.l0];rw [if_pos (by omega),if_pos (by omega),if_pos (by omega),if_neg c1,if_neg c3,if_pos c4,wrap_inc hlt hn]) (hgood (by rw [letG_iff];omega))
        · by_cases c5:bt s (i:Int) < 48
          · exact Ev.step (f:=fun _=>some false) (fun k=>by simp only [report_name.l0];rw [if_pos (by omega),if_pos (by omega),if_pos (by omega),if_neg c1,if_neg c3,if_neg c4,if_pos c5]) (hbad (by rw [letG_no];omega))
          · by_cases c6:bt s (i:Int) > 57
            · exact Ev.step (f:=fun _=>some false) (fun k=>by simp only [report_name.l0];rw [if_pos (by omega),if_pos (by omega),if_pos (by omega),if_neg c1,if_neg c3,if_neg c4,if_neg c5,if_pos c6]) (hbad (by rw [letG_no];omega))
            · exact Ev.step (fun k=>by simp only [report_name.l0];rw [if_pos (by omega),if_pos (by omega),if_pos (by omega),if_neg c1,if_neg c3,if_neg c4,if_neg c5,if_neg c6,wrap_inc hlt hn]) (hgood (by rw [letG_iff];omega))
theorem name_ev (s:ByteArray) (hn:s.size≤9223372036854775807):Ev (fun k=>report_name.f k s) (nameG s):=by
  have h:=name_l0 s hn s.size 0 (by omega) (Nat.zero_le _)
  have e:(letsG s s.size 0 && (decide (1≤s.size) && decide (s.size≤16)))=nameG s:=by
    unfold nameG
    rw [letsG_all,← List.range_eq_range']
    cases (List.range s.size).all (letG s) <;> cases decide (1≤s.size) <;> cases decide (s.size≤16) <;> rfl
  rw [e] at h
  exact Ev.congr (fun k=>by unfold report_name.f;rfl) h
/-! ### the reference -/
def letR (s:ByteArray) (i:Nat):Bool:=(decide (bt s (i:Int) ≥ 97) && decide (bt s (i:Int)≤122)) || (decide (bt s (i:Int)=95) || (decide (bt s (i:Int) ≥ 48) && decide (bt s (i:Int)≤57)))
theorem letR_iff (s:ByteArray) (i:Nat):letR s i=true ↔ (97≤bt s (i:Int)∧bt s (i:Int)≤122) ∨ (bt s (i:Int)=95 ∨ (48≤bt s (i:Int)∧bt s (i:Int)≤57)):=by simp [letR]
theorem letR_no (s:ByteArray) (i:Nat):letR s i=false ↔ ¬ ((97≤bt s (i:Int)∧bt s (i:Int)≤122) ∨ (bt s (i:Int)=95 ∨ (48≤bt s (i:Int)∧bt s (i:Int)≤57))):=by rw [← letR_iff,Bool.not_eq_true]
def letsR (s:ByteArray):Nat→Nat→Bool
  | 0,_=>true
  | d + 1,i=>letR s i && letsR s d (i + 1)
theorem letsR_is (s:ByteArray):∀ d i,i ≠ 0→letsR s d i=letsG s d i
  | 0,_,_=>rfl
  | d + 1,i,h=>by
    rw [letsR,letsG,letsR_is s d (i + 1) (by omega)]
    unfold letR letG
    rw [decide_eq_true h,Bool.true_and]
theorem rname_l0 (s:ByteArray) (hn:s.size≤9223372036854775807):∀ d i:Nat,s.size - i=d→i≤s.size →
    Ev (fun k=>corebankref07_Name.l0 k s (i:Int)) (letsR s d i):=by
  intro d
  induction d with
  | zero=>
    intro i hd hi
    exact Ev.step (f:=fun _=>some true) (fun k=>by simp only [corebankref07_Name.l0];rw [if_neg (by omega)]) (Ev.now _)
  | succ d ih=>
    intro i hd hi
    have hlt:i < s.size:=by omega
    have hnext:=ih (i + 1) (by omega) (by omega)
    have hbad:letR s i=false→Ev (fun _=>some false) (letsR s (d + 1) i):=fun h=>Ev.some_ (by rw [letsR,h];rfl)
    have hgood:letR s i=true→Ev (fun k=>corebankref07_Name.l0 k s (((i + 1:Nat)):Int)) (letsR s (d + 1) i):=fun h=>by rw [letsR,h,Bool.true_and];exact hnext
    have hinner:¬ (bt s (i:Int) ≥ 97∧bt s (i:Int)≤122)→Ev (fun k=>if bt s (i:Int) < 48 then (if bt s (i:Int)=95 then corebankref07_Name.l0 k s (((i + 1:Nat)):Int) else some false) else (if bt s (i:Int) > 57 then (if bt s (i:Int)=95 then corebankref07_Name.l0 k s (((i + 1:Nat)):Int) else some false) else corebankref07_Name.l0 k s (((i + 1:Nat)):Int))) (letsR s (d + 1) i):=by
      intro c
      by_cases c5:bt s (i:Int) < 48
      · refine Ev.congr (fun k=>if_pos c5) (Ev.congr (fun k=>if_neg (by omega)) (hbad ?_))
        rw [letR_no];omega
      · refine Ev.congr (fun k=>if_neg c5) ?_
        by_cases c6:bt s (i:Int) > 57
        · refine Ev.congr (fun k=>if_pos c6) ?_
          by_cases c4:bt s (i:Int)=95
          · exact Ev.congr (fun k=>if_pos c4) (hgood (by rw [letR_iff];omega))
          · refine Ev.congr (fun k=>if_neg c4) (hbad ?_)
            rw [letR_no];omega
        · refine Ev.congr (fun k=>if_neg c6) (hgood ?_)
          rw [letR_iff];omega
    by_cases c1:bt s (i:Int) < 97
    · exact Ev.step (fun k=>by simp only [corebankref07_Name.l0];rw [if_pos (by omega),if_pos (by omega),if_pos c1,wrap_inc hlt hn]) (hinner (by omega))
    · by_cases c2:bt s (i:Int) > 122
      · exact Ev.step (fun k=>by simp only [corebankref07_Name.l0];rw [if_pos (by omega),if_pos (by omega),if_neg c1,if_pos c2,wrap_inc hlt hn]) (hinner (by omega))
      · exact Ev.step (fun k=>by simp only [corebankref07_Name.l0];rw [if_pos (by omega),if_pos (by omega),if_neg c1,if_neg c2,wrap_inc hlt hn]) (hgood (by rw [letR_iff];omega))
theorem rname_ev (s:ByteArray) (hn:s.size≤9223372036854775807):Ev (fun k=>corebankref07_Name.f k s) (nameG s):=by
  have e:nameG s=(decide (1≤s.size) && (decide (s.size≤16) && letsG s s.size 0)):=by
    unfold nameG
    rw [letsG_all,← List.range_eq_range']
  have hl:=rname_l0 s hn s.size 0 (by omega) (Nat.zero_le _)
  have hj0:∀ b:Bool,b=true→nameG s=false→Ev (fun k=>corebankref07_Name.j0 k s b) (nameG s):=fun b hb h=>by
    subst hb
    exact Ev.step (f:=fun _=>some false) (fun k=>by simp only [corebankref07_Name.j0];rfl) (Ev.some_ h.symm)
  unfold corebankref07_Name.f
  by_cases c1:(s.size:Int) < 1
  · exact Ev.congr (fun k=>if_pos c1) (hj0 _ rfl (by rw [e,decide_eq_false (show ¬ 1≤s.size by omega)];rfl))
  refine Ev.congr (fun k=>if_neg c1) ?_
  rw [decide_eq_true (show 1≤s.size by omega),Bool.true_and] at e
  by_cases c2:(s.size:Int) > 16
  · exact Ev.congr (fun k=>if_pos c2) (hj0 _ rfl (by rw [e,decide_eq_false (show ¬ s.size≤16 by omega)];rfl))
  refine Ev.congr (fun k=>if_neg c2) (Ev.congr (fun k=>if_pos (show (0:Int) < (s.size:Int) by omega)) ?_)
  rw [decide_eq_true (show s.size≤16 by omega),Bool.true_and] at e
  obtain ⟨d,hd⟩:∃ d,s.size=d + 1:=⟨s.size - 1,by omega⟩
  have hb0:letG s 0=false→nameG s=false:=fun h=>by rw [e,hd,letsG,h];rfl
  by_cases c3:bt s 0 < 97
  · exact Ev.congr (fun k=>if_pos c3) (hj0 _ rfl (hb0 (by rw [letG_no];simp only [Int.natCast_zero] at *;omega)))
  refine Ev.congr (fun k=>if_neg c3) ?_
  by_cases c4:bt s 0 > 122
  · exact hj0 _ (decide_eq_true c4) (hb0 (by rw [letG_no];simp only [Int.natCast_zero] at *;omega))
  · rw [decide_eq_false c4]
    refine Ev.step (f:=fun k=>corebankref07_Name.l0 k s ((0:Nat):Int)) (fun k=>by simp only [corebankref07_Name.j0];rw [if_neg (by decide)];rfl) ?_
    rw [e]
    rw [hd,letsR,letsR_is s d 1 (by omega)] at hl
    rw [hd,letsG]
    have g1:letG s 0=true:=by rw [letG_iff];exact .inl ⟨Int.not_lt.mp c3,Int.not_lt.mp c4⟩
    have g2:letR s 0=true:=by rw [letR_iff];exact .inl ⟨Int.not_lt.mp c3,Int.not_lt.mp c4⟩
    rw [g1]
    rw [g2] at hl
    exact hl
end Go.Proofs.Ytcmaifjmnpfmbaa.R.Proof
