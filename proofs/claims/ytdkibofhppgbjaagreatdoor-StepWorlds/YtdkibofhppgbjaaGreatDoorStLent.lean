/-
  Slices that are lent out: with marks in the cells behind them. Own work.
-/
import Derived.Test.YtdkibofhppgbjaaGreatDoorStBase
import Derived.Test.YtdkibofhppgbjaaGreatDoorSlFlat
namespace Go.Stp
def markN (a i : Int) : Int := 1000003 * (a + 7) + i
def markB (a i : Int) : KB := ⟨markN a i, 0, 0, 0, 0, 0, 0, false, false⟩
def markR (a i : Int) : KR := ⟨0, 0, markN a i⟩
def lentL {α : Type} (m : Int → α) (xs : List α) : List α := xs ++ (List.range 12).map fun i => m (i : Nat)
theorem lentL_len {α : Type} (m : Int → α) (xs : List α) : (lentL m xs).length = xs.length + 12 := by simp [lentL]
theorem lentL_lo {α : Type} {m : Int → α} {xs : List α} {k : Nat} {a b : α} (h1 : (lentL m xs)[k]? = some a) (h2 : xs[k]? = some b) : a = b := by
  have hk := (List.getElem?_eq_some_iff.1 h2).1
  unfold lentL at h1; rw [List.getElem?_append_left hk, h2] at h1; injection h1 with h1; exact h1.symm
theorem lentL_hi {α : Type} {m : Int → α} {xs : List α} {k : Nat} {a : α} (h1 : (lentL m xs)[k]? = some a) (hk : xs.length ≤ k) : a = m ((k - xs.length : Nat) : Int) := by
  have hl := (List.getElem?_eq_some_iff.1 h1).1
  rw [lentL_len] at hl
  unfold lentL at h1
  rw [List.getElem?_append_right hk, List.getElem?_map, List.getElem?_range (by omega)] at h1
  simp at h1; rw [← h1, Int.ofNat_sub hk]
theorem lentL_next {α : Type} (m : Int → α) (xs : List α) (k : Nat) : (xs ++ (List.range k).map fun i => m (i : Nat)) ++ [m (k : Nat)] = xs ++ (List.range (k + 1)).map fun i => m (i : Nat) := by
  rw [List.range_succ, List.map_append, List.append_assoc]; rfl
end Go.Stp
namespace Go.Sl
open Go.Stp
theorem sl_pre {α : Type} {R : Rp α} {h : PHeap} {p : Option Addr} {n c : Nat} {xs ys : List α} (hs : Sl R h (.slice p n c) (xs ++ ys)) : Sl R h (.slice p xs.length c) xs := by
  obtain ⟨e, h1, h2, h3⟩ := hs.parts
  subst e
  refine ⟨_, _, rfl, by rw [List.length_append] at h1; omega, h2, fun j x hj => h3 j x ?_⟩
  rw [List.getElem?_append_left (List.getElem?_eq_some_iff.1 hj).1]; exact hj
section
variable {β : Base} {L : List Res} {α : Type} {F : Fl α}
theorem k_flPre {T c m : Nat} {p : Option Addr} {xs ys : List α} (i : Nat) (hi : L[i]? = some (rowF F T p c (xs ++ ys))) (hm : m = xs.length) : Knows β L (fun h => Sl F.R h (.slice p m c) xs) := by
  subst hm; exact Knows.imp (k_fl i hi) fun _ h => sl_pre h
end
end Go.Sl
namespace Go.Sl
section
variable {P : Program} {β : Base} {f : Fm} {L : List Res} {d : Option Tmp} {ty : TypeId} {ps : String} {af : Array Edge} {g : Option (Nat × Bool)}
theorem e_cap {x : Operand} {a : Option Addr} {n c : Nat} {t e : TypeId} (hx : ev f x = .slice a n c) (ht : P.underlying t = some (.slice e)) : EV P β L f ⟨d, .call ⟨.builtin .cap, #[x], #[t]⟩, ty, ps, af, g⟩ (.int .i64 (c : Int)) := fun w _ => by
  simp [execOp, resolve, invoke, builtin, hx, Builtin.cap_, goInt, run_underlying ht]
end
end Go.Sl
