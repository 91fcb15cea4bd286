/-
  The reference's areas, BroadAreas: walked. Printed by a program of my own.
-/
import Derived.Test.YtmgpmgckbcjalaaBr12
namespace Go.Brd
def rightI (x : Int) : Prop := -2097152 ≤ x ∧ x ≤ 2097152
instance (x : Int) : Decidable (rightI x) := by unfold rightI; infer_instance
end Go.Brd
namespace Go.Proofs
open Go Go.Sl Go.Brd
end Go.Proofs
