-- Made by wip/tools/ext.py (this project's) over the kit's print, with external functions' contracts by hand. Not trusted: Lean checks it.
import Derived.Test.YtcmaifjmnpfmbaaRx0
namespace Go.Proofs.Ytcmaifjmnpfmbaa.R
open Go.RowKit Go.Proofs.YtcmaifjmnpfmbaaW.PrintWords Go.Proofs.YtcmaifjmnpfmbaaW.PrintLast Go.Proofs.YtcmaifjmnpfmbaaW.PrintMore
attribute [local go_sem] max2_int min2_int max_two min_two max_three min_three max_four min_four   -- for this text's walks alone
set_option linter.unusedVariables false
set_option linter.unusedSimpArgs false
/-! ### chart_parent: function 63 -/
/-- The first place, from i on, at which p holds. -/
def idxFrom {α:Type} (p:α→Bool):List α→Nat→Int
  | [],_=>-1
  | x :: xs,i=>if p x then (i:Int) else idxFrom p xs (i + 1)
theorem idxFrom_at {α:Type} (p:α→Bool) (l:List α) (i:Nat) (z:α) (h:i < l.length):idxFrom p (l.drop i) i=if p (l.getD i z) then (i:Int) else idxFrom p (l.drop (i + 1)) (i + 1):=by
  rw [List.drop_eq_getElem_cons h,idxFrom,List.getD_eq_getElem?_getD,List.getElem?_eq_getElem h];rfl
theorem idxFrom_end {α:Type} (p:α→Bool) (l:List α) (i:Nat) (h:l.length≤i):idxFrom p (l.drop i) i=-1:=by
  rw [List.drop_of_length_le h];rfl
theorem idxFrom_any {α:Type} (p:α→Bool):∀ (l:List α) (i:Nat),decide (0≤idxFrom p l i)=l.any p
  | [],_=>rfl
  | x :: xs,i=>by
    rw [idxFrom,List.any_cons]
    cases p x with
    | true=>simp
    | false=>simpa using idxFrom_any p xs (i + 1)
end Go.Proofs.Ytcmaifjmnpfmbaa.R
