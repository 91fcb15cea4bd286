/-
 The steps of a script, and what a Journal should have: plain Lean. Own work.
-/
import Derived.Test.YtjejfkajcbdgjaaGreatJnMem
namespace Go.Jn
open Go.Sl
structure KOp where
 kind : UInt8
 power : UInt8
 body : Bs
structure KC where
 epoch : Nat
 next : Nat
 state : ByteArray
 recs : List ByteArray
def isP (c : KC) (i : KI) : Prop := i.epoch = c.epoch ∧ i.next = c.next ∧ str i.state = c.state ∧ i.recs.map str = c.recs
instance (c : KC) (i : KI) : Decidable (isP c i) := by unfold isP; infer_instance
end Go.Jn
