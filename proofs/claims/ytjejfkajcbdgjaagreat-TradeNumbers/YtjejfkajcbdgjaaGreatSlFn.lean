/-
  Functions that are handed over; where the first element lies of which a test is true; comparing. Own work; plain Lean.
-/
import Derived.Test.YtjejfkajcbdgjaaGreatTdMap
namespace Go.Sl
/-- a function of values that answers what res says and turns nothing -/
def FnV (P : Program) {α : Type} (β : Base) (fn : Value) (enc : α → List Value) (S : α → Prop) (res : α → Value) : Prop :=
  ∃ g fst cap, fn = .func (.func g) fst.toArray cap.toArray ∧ cfB P g = true ∧ ∀ β₁, Sub β.heap β₁.heap → ∀ x, S x → ∀ w, St β₁ [] w → Calls P g (fst ++ enc x ++ cap).toArray w fun r w' => r = .returned (res x) ∧ St β₁ [] w'
theorem FnV.mono {P : Program} {α : Type} {β β' : Base} {fn : Value} {enc : α → List Value} {S : α → Prop} {res : α → Value} (h : FnV P β fn enc S res) (hs : Sub β.heap β'.heap) : FnV P β' fn enc S res := by
  obtain ⟨g, fst, cap, e, hc, hk⟩ := h
  exact ⟨g, fst, cap, e, hc, fun β₁ h1 => hk β₁ (hs.trans h1)⟩
theorem fnv_all {P : Program} {α : Type} {β : Base} {fn : Value} {enc : α → List Value} {S : α → Prop} {res : α → Value} (h : FnV P β fn enc (fun _ => True) res) : FnV P β fn enc S res := by
  obtain ⟨g, fst, cap, e, hc, hk⟩ := h
  exact ⟨g, fst, cap, e, hc, fun β₁ h1 x _ => hk β₁ h1 x trivial⟩
def idxI {α : Type} (p : α → Bool) (xs : List α) : Int := match xs.findIdx? p with | some i => (i : Int) | none => -1
theorem idx_found {α : Type} {p : α → Bool} {xs : List α} {k : Nat} {x : α} (hx : xs[k]? = some x) (hp : p x = true) (hno : ∀ y ∈ xs.take k, p y = false) : idxI p xs = k := by
  have : xs.findIdx? p = some k := by
    rw [List.findIdx?_eq_some_iff_getElem]
    obtain ⟨h, e⟩ := List.getElem?_eq_some_iff.1 hx
    refine ⟨h, by rw [e]; exact hp, fun j hj => ?_⟩
    have hj' : j < xs.length := by omega
    have := hno xs[j] (by rw [List.mem_take_iff_getElem]; exact ⟨j, by omega, rfl⟩)
    simpa using this
  unfold idxI; rw [this]
theorem idx_none {α : Type} {p : α → Bool} {xs : List α} {k : Nat} (hk : xs.length ≤ k) (hno : ∀ y ∈ xs.take k, p y = false) : idxI p xs = -1 := by
  rw [List.take_of_length_le hk] at hno
  have : xs.findIdx? p = none := List.findIdx?_eq_none_iff.2 hno
  unfold idxI; rw [this]
theorem idx_next {α : Type} {p : α → Bool} {xs : List α} {k : Nat} {x : α} (hx : xs[k]? = some x) (hp : p x = false) (hno : ∀ y ∈ xs.take k, p y = false) : ∀ y ∈ xs.take (k + 1), p y = false := by
  rw [List.take_add_one, hx]
  intro z hz
  rcases List.mem_append.1 hz with hz | hz
  · exact hno z hz
  · simp at hz; rw [hz]; exact hp
theorem idx_any {α : Type} (p : α → Bool) (xs : List α) : decide ((0 : Int) ≤ idxI p xs) = xs.any p := by
  unfold idxI
  cases h : xs.findIdx? p with
  | none =>
    have := List.findIdx?_eq_none_iff.1 h
    have e : xs.any p = false := List.any_eq_false.2 fun x hx => by simp [this x hx]
    rw [e]; rfl
  | some i =>
    obtain ⟨hi, hp, _⟩ := List.findIdx?_eq_some_iff_getElem.1 h
    have e : xs.any p = true := List.any_eq_true.2 ⟨_, List.getElem_mem hi, hp⟩
    rw [e]; exact decide_eq_true (Int.natCast_nonneg i)
/-! A row filtered in place: i elements are kept of the j that were looked at. -/
structure DelInv {α : Type} (p : α → Bool) (xs ws : List α) (i j : Nat) : Prop where
  len : ws.length = xs.length
  le : i ≤ j
  lj : j ≤ xs.length
  kept : ws.take i = (xs.take j).filter fun x => !p x
  rest : ws.drop j = xs.drop j
theorem DelInv.get {α : Type} {p : α → Bool} {xs ws : List α} {i j : Nat} (h : DelInv p xs ws i j) {x : α} (hx : ws[j]? = some x) : xs[j]? = some x := by
  have h1 : (ws.drop j)[0]? = (xs.drop j)[0]? := by rw [h.rest]
  rw [List.getElem?_drop, List.getElem?_drop, Nat.add_zero] at h1
  rw [← h1]; exact hx
theorem DelInv.skip {α : Type} {p : α → Bool} {xs ws : List α} {i j : Nat} {x : α} (h : DelInv p xs ws i j) (hx : ws[j]? = some x) (hp : p x = true) : DelInv p xs ws i (j + 1) := by
  have hx' := h.get hx
  have hl := (List.getElem?_eq_some_iff.1 hx').1
  refine ⟨h.len, by have := h.le; omega, by omega, ?_, ?_⟩
  · rw [List.take_add_one, hx', List.filter_append, ← h.kept]; simp [hp]
  · rw [← List.drop_drop, ← List.drop_drop, h.rest]
theorem DelInv.keep {α : Type} {p : α → Bool} {xs ws : List α} {i j : Nat} {x : α} (h : DelInv p xs ws i j) (hx : ws[j]? = some x) (hp : p x = false) : DelInv p xs (ws.set i x) (i + 1) (j + 1) := by
  have hx' := h.get hx
  have hl := (List.getElem?_eq_some_iff.1 hx').1
  have hle := h.le
  have hlen := h.len
  refine ⟨by rw [List.length_set]; exact h.len, by omega, by omega, ?_, ?_⟩
  · rw [List.take_add_one, List.take_add_one, hx', List.filter_append, ← h.kept]
    rw [List.take_set_of_le (by omega), List.getElem?_set_self (by omega)]
    simp [hp]
  · rw [List.drop_set_of_lt (by omega), ← List.drop_drop, ← List.drop_drop, h.rest]
theorem DelInv.done {α : Type} {p : α → Bool} {xs ws : List α} {i j : Nat} (h : DelInv p xs ws i j) (hj : xs.length ≤ j) : ws.take i = xs.filter fun x => !p x := by
  rw [h.kept, List.take_of_length_le hj]
end Go.Sl
