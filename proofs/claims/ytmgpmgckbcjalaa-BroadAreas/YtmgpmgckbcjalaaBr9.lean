/-
  Forms, lists, filled spaces, differences of lists: walked. Printed by a program of my own.
-/
import Derived.Test.YtmgpmgckbcjalaaBr8
import Derived.Test.YtmgpmgckbcjalaaBrLaw
namespace Go.Brd
end Go.Brd
namespace Go.Proofs
open Go Go.Sl Go.Brd
end Go.Proofs
