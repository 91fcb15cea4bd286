/-
  The data of layer 4: how components, entities and worlds lie in memory. Own work; plain Lean.
-/
import Derived.Test.YtbhkgodiencdlaaDoorSlNum
namespace Go.Sl

structure KComp where
  kind : UInt8
  v0 : Int
  v1 : Int
  v2 : Int
  v3 : Int
  deriving DecidableEq
structure KEnt where
  id : Int
  comps : List KComp
  deriving DecidableEq
structure KWorld where
  tick : Int
  ents : List KEnt
  deriving DecidableEq

def IntR : Rp Int := Rp.flat 1 (fun x => [Ix x]) (fun _ => rfl)
def U8R : Rp UInt8 := Rp.flat 1 (fun x => [Bx x]) (fun _ => rfl)
theorem list_ne {α : Type} {xs ys : List α} {k : Nat} {a b : α} (h1 : xs[k]? = some a) (h2 : ys[k]? = some b) (hne : a ≠ b) : xs ≠ ys := by
  rintro rfl
  rw [h1] at h2
  injection h2 with h
  exact hne h
theorem take_next {α : Type} {xs ys : List α} {k : Nat} {a : α} (h1 : xs[k]? = some a) (h2 : ys[k]? = some a) (h : xs.take k = ys.take k) : xs.take (k + 1) = ys.take (k + 1) := by
  rw [List.take_add_one, List.take_add_one, h, h1, h2]
theorem take_all {α : Type} {xs ys : List α} {k : Nat} (h : xs.take k = ys.take k) (h1 : xs.length ≤ k) (h2 : ys.length ≤ k) : xs = ys := by
  rwa [List.take_of_length_le h1, List.take_of_length_le h2] at h
theorem bool_f {p : Prop} [Decidable p] (h : ¬ p) : Ending.returned (.bool false) = .returned (.bool (decide p)) := by rw [decide_eq_false h]
theorem bool_t {p : Prop} [Decidable p] (h : p) : Ending.returned (.bool true) = .returned (.bool (decide p)) := by rw [decide_eq_true h]
theorem take_succ {α : Type} {xs : List α} {k : Nat} {a : α} (h : xs[k]? = some a) : xs.take (k + 1) = xs.take k ++ [a] := by
  rw [List.take_add_one, h]; rfl
theorem take_prefix {α : Type} {xs : List α} {k : Nat} {a : α} (h : xs[k]? = some a) : xs.take k ++ [a] <+: xs := by
  rw [← take_succ h]; exact List.take_prefix _ _
end Go.Sl
