/-
  What spaces that are filled answer, in plain terms. Own work; plain Lean.
-/
import Derived.Test.YtmgpmgckbcjalaaBrLaw
namespace Go.Brd
open Go.Sl Go.Proofs
/-! Query -/
/-! pairs in their order -/
end Go.Brd
