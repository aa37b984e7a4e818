-- Made by wip/tools/ext.py (this project's) over the kit's print, with external functions' contracts by hand. Not trusted: Lean checks it.
import Derived.Test.YtcmaifjmnpfmbaaRx0
namespace Go.Proofs.Ytcmaifjmnpfmbaa.R
open Go.RowKit Go.Proofs.YtcmaifjmnpfmbaaW.PrintWords Go.Proofs.YtcmaifjmnpfmbaaW.PrintLast Go.Proofs.YtcmaifjmnpfmbaaW.PrintMore
attribute [local go_sem] max2_int min2_int max_two min_two max_three min_three max_four min_four   -- for this text's walks alone
set_option linter.unusedVariables false
set_option linter.unusedSimpArgs false
/-! ### money_Valid: function 56 -/
def money_Valid.f (a0:Int):Option (Bool):=if a0 ≥ (-1000000000000) then (some (decide (a0≤1000000000000))) else (some false)
set_option maxHeartbeats 8000000 in
set_option maxRecDepth 100000 in
theorem money_Valid.calls (a0:Int) (r:Bool) (w:World) (h:money_Valid.f a0=some r) :
    Calls Try.prog 56 #[.int .i64 a0] w fun e w'=>e=.returned (.bool r)∧Drawn0 w w':=by
  have H:(if a0 ≥ (-1000000000000) then (some (decide (a0≤1000000000000))) else (some false))=some r:=h;clear h;by_cases c2:a0 ≥ (-1000000000000)
  · rw [if_pos c2] at H;have aA:decide ((-1000000000000)≤a0)=true:=decide_eq_true c2;clear c2;obtain rfl:=Option.some.inj H;(go_enter Try.func56,Try.ntmps56);go_wp2;go_ret;exact ⟨by (rfl),by repeat (exact Drawn0.refl _)⟩
  · rw [if_neg c2] at H;have aA:decide ((-1000000000000)≤a0)=false:=decide_eq_false c2;clear c2;obtain rfl:=Option.some.inj H;(go_enter Try.func56,Try.ntmps56);go_wp2;go_ret;exact ⟨by (rfl),by repeat (exact Drawn0.refl _)⟩
end Go.Proofs.Ytcmaifjmnpfmbaa.R
