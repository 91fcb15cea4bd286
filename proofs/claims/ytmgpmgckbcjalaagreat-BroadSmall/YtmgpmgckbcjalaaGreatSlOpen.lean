/-
  Arguments that came in: what can be read as data lies in memory as a Lean value. Own work; plain Lean.
-/
import Derived.Test.YtmgpmgckbcjalaaGreatSlFam
import Derived.ProofKit
import Derived.OpenShut
import Derived.Deep.Slices
namespace Go.Sl
section
variable {H:Type}{enc:TypeId×Value→H}{P:Program}{w:World}{base:Nat}{spare:Nat→Bool}{held:Bool}
end
end Go.Sl
