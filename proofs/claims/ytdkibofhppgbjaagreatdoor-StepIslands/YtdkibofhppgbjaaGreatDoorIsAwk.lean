/-
  The chapter's examples in plain terms. Own work; plain Lean.
-/
import Derived.Test.YtdkibofhppgbjaaGreatDoorIs6
namespace Go.Isl
open Go.Sl Go.Brd Go.Stp Go.Proofs
/-! lists of lists that are written out -/
inductive LitK (β : Base) (L : List Res) : List Value → List (List Int) → Prop
  | nil : LitK β L [] []
  | cons {v : Value} {xs : List Int} {vs : List Value} {xss : List (List Int)} : Knows β L (fun h => Sl IntF.R h v xs) → LitK β L vs xss → LitK β L (v :: vs) (xs :: xss)
theorem LitK.at {β : Base} {L : List Res} {vs : List Value} {xss : List (List Int)} (h : LitK β L vs xss) : vs.length = xss.length ∧ ∀ (j : Nat) (xs : List Int), xss[j]? = some xs → ∃ v : Value, vs[j]? = some v ∧ Knows β L (fun h => Sl IntF.R h v xs) := by
  induction h with
  | nil => exact ⟨rfl, fun j xs hj => by simp at hj⟩
  | cons h1 _ ih =>
    refine ⟨by rw [List.length_cons, List.length_cons, ih.1], fun j xs hj => ?_⟩
    cases j with
    | zero => have e := Option.some.inj hj; subst e; exact ⟨_, rfl, h1⟩
    | succ j => exact ih.2 j xs hj
end Go.Isl
