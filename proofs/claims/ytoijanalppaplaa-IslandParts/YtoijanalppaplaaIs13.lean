/-
  meets: walked. Printed by a program of my own.
-/
import Derived.Test.YtoijanalppaplaaIs11
namespace Go.Proofs
open Go Go.Sl Go.Brd Go.Stp Go.Isl
end Go.Proofs
