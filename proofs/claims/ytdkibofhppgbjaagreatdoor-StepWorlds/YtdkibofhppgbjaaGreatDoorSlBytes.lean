/-
  Bytes of one's own, made of a string and turned back. Own work; plain Lean.
-/
import Derived.Test.YtdkibofhppgbjaaGreatDoorSlFam
import Derived.Laws.IdiomStrings
namespace Go.Sl

/-- block b holds the bytes bs, and perhaps more room; behind its last cell lies the run-time's mark -/
def byt (b T : Nat) (bs : List UInt8) : Res := fun h => ∃ cs : Array Value, h b = some (.cells cs T (cs.size, cs.size + 1)) ∧ bs.length ≤ cs.size ∧ cs.toList.take bs.length = bs.map fun c => Bx c
theorem byt.mono (b T : Nat) (bs : List UInt8) : Mono (byt b T bs) := fun _ _ hs ⟨cs, h, k⟩ => ⟨cs, hs _ _ h, k⟩
section
variable {P : Program} {ro : Option Nat} {n : Nat} {ds : List Deferred} {β : Base} {Q : Exit → Act → World → Prop} {f : Fm} {L : List Res} {ops : Array Oper} {rest : List Oper}
variable {d : Option Tmp} {ty : TypeId} {ps : String} {af : Array Edge} {g : Option (Nat × Bool)}

end
end Go.Sl
namespace Go.Sl
end Go.Sl
