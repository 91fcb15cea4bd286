/-
  BroadQuery: walked. Printed by a program of my own.
-/
import Derived.Test.YtmgpmgckbcjalaaBr10
import Derived.Test.YtmgpmgckbcjalaaBrLaw2
namespace Go.Proofs
open Go Go.Sl Go.Brd
end Go.Proofs
