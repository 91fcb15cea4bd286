/-
  The steps of a script, and what a Journal should have: plain Lean. Own work.
-/
import Derived.Test.YtkpdcajddpiknaaJnMem
namespace Go.Jn
open Go.Sl
structure KOp where
  kind : UInt8
  power : UInt8
  body : Bs
def OpR : Rp KOp := ⟨3, fun h cs o => ∃ v, cs = [Bx o.kind, Bx o.power, v] ∧ Sl U8R h v o.body, fun _ _ _ ⟨_, e, _⟩ => by rw [e]; rfl, fun _ _ h h' hs ⟨v, e, hv⟩ => ⟨v, e, Sl.mono U8R v _ h h' hs hv⟩⟩
def powerF (o : KOp) : Int := if o.power.toNat % 200 = 199 then -1 else ((o.power.toNat % 200 : Nat) : Int)
structure KC where
  epoch : Nat
  next : Nat
  state : ByteArray
  recs : List ByteArray
def isP (c : KC) (i : KI) : Prop := i.epoch = c.epoch ∧ i.next = c.next ∧ str i.state = c.state ∧ i.recs.map str = c.recs
instance (c : KC) (i : KI) : Decidable (isP c i) := by unfold isP; infer_instance
end Go.Jn
