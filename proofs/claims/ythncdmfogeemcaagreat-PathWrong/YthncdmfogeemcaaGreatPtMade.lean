/-
  The meshes of the laws: squares of a board. Own work; plain Lean.
-/
import Derived.Test.YthncdmfogeemcaaGreatPtG
namespace Go.Pth
open Go.Sl Go.Brd
/-- where column or row i begins -/
def atN (bs : List UInt8) : Nat → Nat
  | 0 => 0
  | i + 1 => atN bs i + 1 + (bs.getD i 0).toNat % 16
theorem atN_in {bs : List UInt8} {k : Nat} {x : UInt8} (h : bs[k]? = some x) : atN bs (k + 1) = atN bs k + 1 + x.toNat % 16 := by
  show atN bs k + 1 + (bs.getD k 0).toNat % 16 = _
  rw [List.getD_eq_getElem?_getD, h]; rfl
theorem atN_out {bs : List UInt8} {k : Nat} (h : bs.length ≤ k) : atN bs (k + 1) = atN bs k + 1 := by
  show atN bs k + 1 + (bs.getD k 0).toNat % 16 = _
  rw [List.getD_eq_getElem?_getD, List.getElem?_eq_none h]; rfl
theorem atN_le (bs : List UInt8) : ∀ k, atN bs k ≤ 16 * k
  | 0 => Nat.le_refl _
  | k + 1 => by
    have := atN_le bs k
    show atN bs k + 1 + (bs.getD k 0).toNat % 16 ≤ _
    omega
theorem atN_lt (bs : List UInt8) (k : Nat) : atN bs k < atN bs (k + 1) := by
  show _ < atN bs k + 1 + (bs.getD k 0).toNat % 16
  omega
theorem atN_mono (bs : List UInt8) {i j : Nat} (h : i ≤ j) : atN bs i ≤ atN bs j := by
  induction h with
  | refl => exact Nat.le_refl _
  | step _ ih => exact Nat.le_trans ih (Nat.le_of_lt (atN_lt bs _))
/-- a square of the board -/
def sqr (bs : List UInt8) (x y : Nat) : KA := ⟨(atN bs x : Int), (atN bs y : Int), (atN bs (x + 1) : Int), (atN bs (y + 1) : Int)⟩
/-- a list of different squares -/
structure MeshB (bs : List UInt8) (out : List KA) : Prop where
  len : out.length ≤ 24
  nd : out.Nodup
  sq : ∀ a ∈ out, ∃ x y, x < 8 ∧ y < 8 ∧ a = sqr bs x y
theorem MeshB.nil (bs : List UInt8) : MeshB bs [] := ⟨by simp, List.nodup_nil, by simp⟩
theorem MeshB.add {bs : List UInt8} {out : List KA} {X Y : Nat} {R : KA} (h : MeshB bs out) (hx : X < 8) (hy : Y < 8) (hR : R = sqr bs X Y) (hl : out.length < 24) (hn : ¬ R ∈ out) : MeshB bs (out ++ [R]) := by
  refine ⟨by rw [List.length_append, List.length_singleton]; omega, ?_, fun a ha => ?_⟩
  · rw [List.nodup_append]
    exact ⟨h.nd, by simp, fun a ha b hb => by rw [List.mem_singleton.1 hb]; exact fun e => hn (e ▸ ha)⟩
  · rcases List.mem_append.1 ha with q | q
    · exact h.sq a q
    · exact ⟨X, Y, hx, hy, (List.mem_singleton.1 q).trans hR⟩
theorem mem_next {α : Type} {l : List α} {k : Nat} {x y : α} (_hy : l[k]? = some y) (h : x ∈ l.take k) : x ∈ l.take (k + 1) := (List.take_sublist_take_left (Nat.le_succ k)).subset h
theorem mem_eq {α : Type} {l : List α} {k : Nat} {x y : α} (hy : l[k]? = some y) (h : ¬ x ∈ l.take k) : y = x ↔ x ∈ l.take (k + 1) := by
  rw [List.take_add_one, hy, List.mem_append]
  constructor
  · rintro rfl; exact .inr (by simp)
  · rintro (q | q)
    · exact absurd q h
    · exact (List.mem_singleton.1 q).symm
/-- an area of the board -/
def smallA (a : KA) : Prop := 0 ≤ a.lx ∧ a.lx < a.hx ∧ a.hx ≤ 128 ∧ 0 ≤ a.ly ∧ a.ly < a.hy ∧ a.hy ≤ 128
theorem sqr_small (bs : List UInt8) {x y : Nat} (hx : x < 8) (hy : y < 8) : smallA (sqr bs x y) := by
  have a1 := atN_lt bs x; have a2 := atN_lt bs y
  have a3 := atN_le bs (x + 1); have a4 := atN_le bs (y + 1)
  unfold smallA sqr; simp only; omega
theorem MeshB.small {bs : List UInt8} {out : List KA} (h : MeshB bs out) : ∀ a ∈ out, smallA a := fun a ha => by
  obtain ⟨x, y, hx, hy, rfl⟩ := h.sq a ha; exact sqr_small bs hx hy
theorem small_room {a : KA} (h : smallA a) : roomOk a := by
  unfold smallA at h; refine ⟨?_, ?_⟩
  · unfold okA okSpan; omega
  · unfold flatA; omega
theorem sqr_apart {bs : List UInt8} {x y u v : Nat} (h : sqr bs x y ≠ sqr bs u v) (t : touchA (sqr bs x y) (sqr bs u v)) : flatA (comA (sqr bs x y) (sqr bs u v)) := by
  unfold touchA sqr at t
  unfold flatA comA sqr
  simp only at t ⊢
  rcases Nat.lt_trichotomy x u with q | q | q
  · have := atN_mono bs (show x + 1 ≤ u from q); have := atN_lt bs x; have := atN_lt bs u; left; omega
  · subst q
    rcases Nat.lt_trichotomy y v with q | q | q
    · have := atN_mono bs (show y + 1 ≤ v from q); have := atN_lt bs y; have := atN_lt bs v; right; omega
    · subst q; exact absurd rfl h
    · have := atN_mono bs (show v + 1 ≤ y from q); have := atN_lt bs y; have := atN_lt bs v; right; omega
  · have := atN_mono bs (show u + 1 ≤ x from q); have := atN_lt bs x; have := atN_lt bs u; left; omega
theorem nodup_ne {α : Type} {l : List α} (h : l.Nodup) {i k : Nat} {a b : α} (hi : l[i]? = some a) (hk : l[k]? = some b) (hik : i ≠ k) : a ≠ b := by
  intro e; subst e
  obtain ⟨h1, e1⟩ := List.getElem?_eq_some_iff.1 hi
  obtain ⟨h2, e2⟩ := List.getElem?_eq_some_iff.1 hk
  rcases Nat.lt_trichotomy i k with q | q | q
  · exact (List.pairwise_iff_getElem.1 h) i k h1 h2 q (e1.trans e2.symm)
  · exact hik q
  · exact (List.pairwise_iff_getElem.1 h) k i h2 h1 q (e2.trans e1.symm)
theorem MeshB.okM {bs : List UInt8} {out : List KA} (h : MeshB bs out) : okM out := by
  refine ⟨by have := h.len; omega, fun a ha => small_room (h.small a ha), fun p hp => ?_⟩
  obtain ⟨i, k, a, b, h1, h2, h3, h4, rfl, h5⟩ := pairs_two hp
  rw [comP_of h3 h4]
  obtain ⟨x, y, _, _, rfl⟩ := h.sq a (List.mem_of_getElem? h3)
  obtain ⟨u, v, _, _, rfl⟩ := h.sq b (List.mem_of_getElem? h4)
  exact sqr_apart (nodup_ne h.nd h3 h4 (by omega)) h5
end Go.Pth
