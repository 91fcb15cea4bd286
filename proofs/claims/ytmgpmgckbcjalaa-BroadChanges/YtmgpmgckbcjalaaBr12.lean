/-
  BroadAll: walked. Printed by a program of my own.
-/
import Derived.Test.YtmgpmgckbcjalaaBr11
namespace Go.Brd
end Go.Brd
namespace Go.Proofs
open Go Go.Sl Go.Brd

end Go.Proofs
