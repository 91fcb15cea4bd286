/-
  A part of an array of structs, by a number.
-/
import Derived.Test.YtmgpmgckbcjalaaSlFam
import Derived.Test.YtmgpmgckbcjalaaSlJb
namespace Go.Sl
open Go
section
variable {P : Program} {β : Base} {L : List Res} {f : Fm} {d : Option Tmp} {ty : TypeId} {ps : String} {af : Array Edge} {g : Option (Nat × Bool)}
end
end Go.Sl
namespace Go.Sl
open Go
section
variable {P : Program} {β : Base} {L : List Res} {f : Fm}
variable {d : Option Tmp} {ty : TypeId} {ps : String} {af : Array Edge} {g : Option (Nat × Bool)}
end
end Go.Sl
