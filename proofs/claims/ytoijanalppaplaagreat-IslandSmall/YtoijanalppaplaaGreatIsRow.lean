/-
 64 boxes in a row are one island. Own work; plain Lean.
-/
import Derived.Test.YtoijanalppaplaaGreatIsRef
namespace Go.Isl
open Go.Sl Go.Brd Go.Stp Go.Proofs
def rowB (i : Nat) : KB := ⟨((i : Nat) : Int), ((20 * (i * 37 % 64) : Nat) : Int), 0, 0, 0, 10, 10, false, false⟩
def rowL (n : Nat) : List KB := (List.range n).map rowB
theorem rowL_len (n : Nat) : (rowL n).length = n := by unfold rowL; simp
theorem rowL_next (n : Nat) : rowL n ++ [rowB n] = rowL (n + 1) := by unfold rowL; rw [List.range_succ, List.map_append]; rfl
theorem rowL_at {n i : Nat} (h : i < n) : (rowL n)[i]? = some (rowB i) := by unfold rowL; simp [h]
theorem rowB_ok : ∀ i, i < 64 → okB (rowB i) := by decide +kernel
theorem row_ok : okS (rowL 64) [] 0 0 := by
 refine ⟨by rw [rowL_len]; omega, Nat.zero_le _, by unfold okV; omega, fun b hb => ?_, fun i a b ha hb => ?_, fun r hr => by cases hr⟩
 ·obtain ⟨i, hi, rfl⟩ := List.mem_map.1 hb
  exact rowB_ok i (List.mem_range.1 hi)
 ·have hi := (List.getElem?_eq_some_iff.1 hb).1
  rw [rowL_len] at hi
  rw [rowL_at (by omega)] at ha hb
  injection ha with ha
  injection hb with hb
  subst ha; subst hb
  show ((i : Nat) : Int) < ((i + 1 : Nat) : Int)
  omega
theorem row_touch : ∀ p, p < 63 → touchA (reachA (rowB (45 * p % 64)) 0 0) (reachA (rowB (45 * (p + 1) % 64)) 0 0) ∧ 45 * p % 64 ≠ 45 * (p + 1) % 64 := by
 unfold touchA; decide +kernel
theorem row_pos : ∀ i, i < 64 → 45 * (37 * i % 64) % 64 = i := by decide +kernel
theorem row_cn {p : Nat} (hp : p < 64) : CnI (LkI (freeB (rowL 64)) [] 0 0) 0 ((45 * p % 64 : Nat) : Int) := by
 induction p with
 | zero => exact .refl
 | succ p ih =>
  refine (ih (by omega)).step ?_
  obtain ⟨h1, h2⟩ := row_touch p (by omega)
  have m : ∀ j, j < 64 → rowB j ∈ freeB (rowL 64) := fun j hj => List.mem_filter.2 ⟨List.mem_of_getElem? (rowL_at hj), rfl⟩
  exact ⟨by omega, _, m _ (Nat.mod_lt _ (by decide)), _, m _ (Nat.mod_lt _ (by decide)), rfl, rfl, .inl h1⟩
theorem row_isl : ∃ r : List Int, islR (rowL 64) [] 0 0 = [r] ∧ r.length = 64 := by
 have hI := IsS.of row_ok rfl
 have ho : ordB (freeB (rowL 64)) := freeB_ord (okS_ord row_ok)
 have hids : (freeB (rowL 64)).map (·.id) = (List.range 64).map fun i => ((i : Nat) : Int) := by decide +kernel
 have h0 : (0 : Int) ∈ (freeB (rowL 64)).map (·.id) := by rw [hids]; exact List.mem_map.2 ⟨0, by simp, rfl⟩
 have hall : ∀ x, x ∈ (freeB (rowL 64)).map (·.id) → CnI (LkI (freeB (rowL 64)) [] 0 0) 0 x := fun x hx => by
  rw [hids] at hx
  obtain ⟨i, hi, rfl⟩ := List.mem_map.1 hx
  have hi := List.mem_range.1 hi
  have := row_cn (p := 37 * i % 64) (Nat.mod_lt _ (by decide))
  rwa [row_pos i hi] at this
 have hone : ∀ r ∈ islR (rowL 64) [] 0 0, r = clsI (freeB (rowL 64)) [] 0 0 0 := fun r hr => by
  obtain ⟨x, hx, rfl⟩ := (hI.mem r).1 hr
  exact (cls_of ho h0 ((cls_mem h0).2 (hall x hx))).2
 have hin : clsI (freeB (rowL 64)) [] 0 0 0 ∈ islR (rowL 64) [] 0 0 := (hI.mem _).2 ⟨0, h0, rfl⟩
 have hc : clsI (freeB (rowL 64)) [] 0 0 0 = (freeB (rowL 64)).map (·.id) := ints_ext (cls_sorted ho) (ids_sorted ho) fun x => ⟨fun h => (List.mem_filter.1 h).1, fun h => (cls_mem h0).2 (hall x h)⟩
 refine ⟨clsI (freeB (rowL 64)) [] 0 0 0, ?_, by rw [hc, hids]; simp⟩
 have hp := hI.heads
 cases e : islR (rowL 64) [] 0 0 with
 | nil => rw [e] at hin; cases hin
 | cons a l =>
  rw [e] at hone hp
  cases l with
  | nil => rw [hone a List.mem_cons_self]
  | cons b l =>
   obtain ⟨x, y, h1, h2, h3⟩ := (List.pairwise_cons.1 hp).1 b List.mem_cons_self
   rw [hone a List.mem_cons_self] at h1
   rw [hone b (List.mem_cons_of_mem _ List.mem_cons_self)] at h2
   rw [h1] at h2; injection h2 with h2; omega
end Go.Isl
