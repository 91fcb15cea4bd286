/-
  IslandClasses: walked. Printed by a program of my own.
-/
import Derived.Test.YtoijanalppaplaaIs13
import Derived.Test.YtoijanalppaplaaIsLaw5
namespace Go.Isl
open Go.Sl Go.Brd Go.Stp Go.Proofs
end Go.Isl
namespace Go.Proofs
open Go Go.Sl Go.Brd Go.Stp Go.Isl
theorem tf87 : cfB Try.prog 12 = true := by kernel_rfl
theorem placeN_ok (β : Base) (w : World) (hw : St β [] w) (v : Value) (xss : List (List Int)) (hs : Sl IntF.R.slice β.heap v xss) (x : Int) (i : Nat) (hi : placeI xss x = ((i : Nat) : Int)) : Calls Try.prog 12 #[v, Ix x] w fun r w' => r = .returned (Nx i) ∧ St β [] w' := by
  have h := place_ok β w hw v xss hs x; rw [hi] at h; exact h
end Go.Proofs
