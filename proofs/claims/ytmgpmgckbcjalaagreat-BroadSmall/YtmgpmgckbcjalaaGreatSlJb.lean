/-
  Operations on rows of bytes and of texts. Own work; plain Lean.
-/
import Derived.Test.YtmgpmgckbcjalaaGreatSlByte
import Derived.Laws.BytesArg
namespace Go.Sl
open Go.RowKit
section
variable {P:Program}{ro:Option Nat}{n:Nat}{ds:List Deferred}{β:Base}{Q:Exit→Act→World→Prop}{f:Fm}{L:List Res}{ops:Array Oper}{rest:List Oper}
variable {d:Option Tmp}{ty:TypeId}{ps:String}{af:Array Edge}{g:Option (Nat×Bool)}
def sla:Value→Option Addr| .slice a _ _=>a|_=>none
def slc:Value→Nat| .slice _ _ c=>c|_=>0
theorem l_re{L':List Res}(hL:L=L')(k:RunL P ro n ds β ops Q rest f L'):RunL P ro n ds β ops Q rest f L:=by subst hL;exact k
theorem c_re{c:Code}{L':List Res}(hL:L=L')(k:RunC P ro n ds β c Q f L'):RunC P ro n ds β c Q f L:=by subst hL;exact k
end
end Go.Sl
