/-
  The chapter's laws in plain terms. Own work; plain Lean.
-/
import Derived.Test.YtmgpmgckbcjalaaBrSp
namespace Go.Brd
open Go.Sl Go.Proofs
structure KF where
  x : UInt8
  y : UInt8
  w : UInt8
  h : UInt8
  deriving DecidableEq
abbrev FormF : Fl KF := ⟨4, fun f => [Bx f.x, Bx f.y, Bx f.w, Bx f.h], fun _ => rfl, fun _ => rfl, by decide⟩
def madeA (f : KF) : KA := ⟨((f.x.toNat % 128 : Nat) : Int) - 64, ((f.y.toNat % 128 : Nat) : Int) - 64, ((f.x.toNat % 128 : Nat) : Int) - 64 + (f.w.toNat : Int), ((f.y.toNat % 128 : Nat) : Int) - 64 + (f.h.toNat : Int)⟩
theorem u8_lt (x : UInt8) : x.toNat < 256 := x.toNat_lt
theorem made_okA (f : KF) : okA (madeA f) := by
  have h1 := u8_lt f.w; have h2 := u8_lt f.h
  unfold okA okSpan madeA; simp only; omega
/-! a space that is filled -/
/-! without -/
def inL (l m : List KP) : Int := ((l.filter fun p => decide (p ∈ m)).length : Nat)
theorem wo_yes {l m : List KP} {k : Nat} {x : KP} (hx : l[k]? = some x) (h : x ∈ m) : beganL m (l.take k) = beganL m (l.take (k + 1)) ∧ inL (l.take k) m + 1 = inL (l.take (k + 1)) m := by
  rw [List.take_add_one, hx]
  refine ⟨began_no h, ?_⟩
  unfold inL
  rw [List.filter_append]; simp [h]
theorem wo_no {l m : List KP} {k : Nat} {x : KP} (hx : l[k]? = some x) (h : x ∉ m) : beganL m (l.take k) ++ [x] = beganL m (l.take (k + 1)) ∧ inL (l.take k) m = inL (l.take (k + 1)) m := by
  rw [List.take_add_one, hx]
  refine ⟨began_yes h, ?_⟩
  unfold inL
  rw [List.filter_append]; simp [h]
theorem inL_le (l m : List KP) : 0 ≤ inL l m ∧ inL l m ≤ l.length := by
  unfold inL
  have := List.length_filter_le (fun p => decide (p ∈ m)) l
  omega
theorem some_next {m : List KP} {k : Nat} {x y : KP} (hy : m[k]? = some y) : (decide (x ∈ m.take k) || decide (x = y)) = decide (x ∈ m.take (k + 1)) := by
  rw [List.take_add_one, hy]; simp
/-! areas -/
end Go.Brd
