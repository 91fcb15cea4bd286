/-
  Operations on rows of bytes and of texts. Own work; plain Lean.
-/
import Derived.Test.YtoijanalppaplaaSlByte
import Derived.Laws.BytesArg
namespace Go.Sl
open Go.RowKit
section
variable {P : Program} {ro : Option Nat} {n : Nat} {ds : List Deferred} {β : Base} {Q : Exit → Act → World → Prop} {f : Fm} {L : List Res} {ops : Array Oper} {rest : List Oper}
variable {d : Option Tmp} {ty : TypeId} {ps : String} {af : Array Edge} {g : Option (Nat × Bool)}

/-- the parts of a slice, the block that a closure holds -/
def sla : Value → Option Addr | .slice a _ _ => a | _ => none
def slc : Value → Nat | .slice _ _ c => c | _ => 0
theorem c_re {c : Code} {L' : List Res} (hL : L = L') (k : RunC P ro n ds β c Q f L') : RunC P ro n ds β c Q f L := by subst hL; exact k
theorem map_at {α : Type} {enc : α → Value} {xs : List α} {k : Nat} {x : α} (h : xs[k]? = some x) : ((xs.map enc).drop (k * 1)).take [enc x].length = [enc x] := by
  have hlt := (List.getElem?_eq_some_iff.1 h).1
  have hx := (List.getElem?_eq_some_iff.1 h).2
  rw [Nat.mul_one, List.drop_eq_getElem_cons (by simpa using hlt)]
  simp [hx]
abbrev encR {α : Type} (enc : α → Value) : Rp α := Rp.flat 1 (fun x => [enc x]) (fun _ => rfl)
theorem k_ptE {α : Type} {enc : α → Value} {b T : Nat} {fr : Nat × Nat} {xs : List α} (i : Nat) (hi : L[i]? = some (pt b (.cells (xs.map enc).toArray T fr))) : Knows β L (fun h => Elems (encR enc) h (some ⟨b, 0, none⟩) xs) :=
  Knows.of_res i hi (Elems.mono _ _ _) fun a h j x hx => by
    refine ⟨rfl, [enc x], ?_, rfl⟩
    have e : (ba (some ⟨b, 0, none⟩)).add (j * (encR enc).n) = ⟨b, j, none⟩ := by
      show (⟨b, 0, none⟩ : Addr).add (j * 1) = _
      rw [Nat.mul_one]
      unfold Addr.add; split <;> simp_all
    rw [e]
    refine Cs.of_pt h ?_
    have := map_at (enc := enc) hx
    rw [Nat.mul_one] at this
    simpa using this

end
end Go.Sl
