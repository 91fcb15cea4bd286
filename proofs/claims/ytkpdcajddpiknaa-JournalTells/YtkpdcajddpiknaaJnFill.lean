/-
  Own work; plain Lean (JnIdx, JnFill).
-/
import Derived.Test.YtkpdcajddpiknaaSlFam
import Derived.Test.YtkpdcajddpiknaaSlJb
namespace Go.Sl
open Go
section
variable {P : Program} {β : Base} {L : List Res} {f : Fm} {d : Option Tmp} {ty : TypeId} {ps : String} {af : Array Edge} {g : Option (Nat × Bool)}
end
end Go.Sl
namespace Go.Sl
open Go
section
variable {P : Program} {β : Base} {L : List Res} {f : Fm}
variable {d : Option Tmp} {ty : TypeId} {ps : String} {af : Array Edge} {g : Option (Nat × Bool)}
end
end Go.Sl

namespace Go.Sl
open Go
end Go.Sl
