/- The entries behind a row and their amounts: both sides come to the same. -/
import Derived.Test.YtcmaifjmnpfmbaaRCheck
import Derived.Test.YtcmaifjmnpfmbaaRSum
import Derived.Test.YtcmaifjmnpfmbaaRGreat
import Derived.Test.YtcmaifjmnpfmbaaRM20
import Derived.Test.YtcmaifjmnpfmbaaRM37
import Derived.Test.YtcmaifjmnpfmbaaRx0
import Derived.Test.YtcmaifjmnpfmbaaRM23
import Derived.Test.YtcmaifjmnpfmbaaRM24
namespace Go.Proofs.Ytcmaifjmnpfmbaa.R.Proof
open Go.RowKit Go.Proofs.Ytcmaifjmnpfmbaa.R Go.Proofs.YtcmaifjmnpfmbaaW.PrintWords Go.Proofs.YtcmaifjmnpfmbaaW.PrintLast
theorem rd97_at {l:List S97} {i:Nat} (h:i < l.length):rd_T97 l (i:Int)=l[i]:=by
  show l.getD _ z97=_
  rw [List.getD_eq_getElem?_getD]
  simp [List.getElem?_eq_getElem h]
theorem rd84_at {l:List S84} {i:Nat} (h:i < l.length):rd_T84 l (i:Int)=l[i]:=by
  show l.getD _ z84=_
  rw [List.getD_eq_getElem?_getD]
  simp [List.getElem?_eq_getElem h]
/-! ### the entries behind a row -/
section
variable (l0:List S97) (l1:List S86) (l2:List S62) (a3:Int) (a4:Int) (a5:Int) (a6:Int) (a7:Int) (a8:Int) (a9:Int) (a10:Int) (a11:Int) (a12:Int) (a13:Int) (a14:Int) (a15:Int) (a16:Int) (l17:List S79) (l18:List S90) (l19:List S84) (l20:List S119) (l21:List S180)
def okJ (l:List S84):Prop:=l.length < 17592186044416∧∀ e ∈ l,e.f8.length≤9223372036854775807∧∀ g ∈ e.f8,g.f2.size≤140737488351232
theorem okJ_of {l:List S84} (h:okSl 112 ok84 l):okJ l:=by
  refine ⟨?_,fun e he=>?_⟩
  · have:=h.1;omega
  · obtain ⟨_,_,_,_,_,_,_,_,h8,_⟩:=h.2.2 e he
    exact ⟨h8.2.1,fun g hg=>(h8.2.2 g hg).2.2⟩
/-- The amount of an entry's legs in a row, of these books. -/
def amB (ch:List S62) (dep:Int) (acc:List S90) (s:Int) (roots:List Int) (x:ByteArray) (l:List S129):Int:=amtG (belG ch dep acc roots) s l x
/-! ### the reference -/
end
end Go.Proofs.Ytcmaifjmnpfmbaa.R.Proof
