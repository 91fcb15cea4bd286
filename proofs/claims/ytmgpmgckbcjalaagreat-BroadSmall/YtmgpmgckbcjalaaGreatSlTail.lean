/-
  Regions that draw their order, whose last operations stand in one line. Own work; plain Lean.
-/
import Derived.Test.YtmgpmgckbcjalaaGreatSlJn
namespace Go.Sl
section
variable {P:Program}{ro:Option Nat}{n:Nat}{ds:List Deferred}{β:Base}{Q:Exit→Act→World→Prop}
end
end Go.Sl
