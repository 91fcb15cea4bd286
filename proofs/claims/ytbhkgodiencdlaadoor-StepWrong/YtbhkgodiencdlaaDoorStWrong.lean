/-
  Scenes that are not valid, and a world whose bodies are not. Own work; plain Lean.
-/
import Derived.Test.YtbhkgodiencdlaaDoorStWorld
namespace Go.Stp
open Go.Sl
def wb0 : KB := ⟨60, 0, 0, 0, 0, 5, 5, false, false⟩
def wb1 : KB := ⟨61, 0, 0, 0, 0, 5, 5, false, false⟩
def wbI : KB := ⟨60, 0, 0, 0, 0, 5, 5, false, false⟩
def wbW : KB := ⟨61, 0, 0, 0, 0, 0, 5, false, false⟩
def wbV : KB := ⟨61, 0, 0, -4097, 0, 5, 5, false, false⟩
theorem wrong_last {bs B : List KB} (hB : B = bs ++ [wb0, wb1]) : B.length = bs.length + 2 ∧ B[B.length - 1]? = some wb1 ∧ B[B.length - 2]? = some wb0 := by
  subst hB
  refine ⟨by simp, ?_, ?_⟩
  · rw [List.getElem?_append_right (by simp)]; simp
  · rw [List.getElem?_append_right (by simp)]; simp
theorem wrong_body {B : List KB} {rs : List KR} {k : Nat} {gx gy : Int} {b : KB} (hk : k < B.length) (hb : ¬ okB b) : ¬ okS (B.set k b) rs gx gy := fun h => hb (h.2.2.2.1 b (List.mem_of_getElem? (List.getElem?_set_self hk)))
theorem wrong_id {bs B : List KB} {rs : List KR} {gx gy : Int} (hB : B = bs ++ [wb0, wb1]) : ¬ okS (B.set (B.length - 1) wbI) rs gx gy := fun h => by
  obtain ⟨h1, h2, h3⟩ := wrong_last hB
  have := h.2.2.2.2.1 (B.length - 2) wb0 wbI (by rw [List.getElem?_set_ne (by omega)]; exact h3) (by rw [show B.length - 2 + 1 = B.length - 1 by omega]; exact List.getElem?_set_self (by omega))
  exact absurd this (by decide)
theorem wrong_pull {B : List KB} {rs : List KR} {gx : Int} : ¬ okS B rs gx 4097 := fun h => by have := h.2.2.1.2.2.2; omega
theorem wrong_rope {B : List KB} {rs : List KR} {gx gy : Int} : ¬ okS B (rs ++ [(⟨61, 60, 5⟩ : KR)]) gx gy := fun h => by
  have := (h.2.2.2.2.2 ⟨61, 60, 5⟩ (List.mem_append_right _ (List.mem_singleton.2 rfl))).2.2.1
  exact absurd this (by decide)
def wrongE : List KEnt := [⟨1, [⟨1, 0, 0, 0, 0⟩, ⟨3, 1, 1, 1, 0⟩]⟩, ⟨1, [⟨1, 50, 0, 0, 0⟩, ⟨3, 1, 1, 0, 1⟩]⟩]
theorem wrong_world : ¬ okS (bodiesOf wrongE) (ropesOf (bodiesOf wrongE) []) 0 0 := fun h => by
  have := h.2.2.2.2.1 0 ⟨1, 0, 0, 0, 0, 1, 1, true, true⟩ ⟨1, 50, 0, 0, 0, 1, 1, false, true⟩ (by decide) (by decide)
  exact absurd this (by decide)
theorem ents2 {b : Nat} {e1 e2 : KEnt} {v1 v2 : Value} {a : PHeap} (h : Cs a ⟨b, 0, none⟩ [Ix e1.id, v1, Ix e2.id, v2]) (h1 : Sl CompR a v1 e1.comps) (h2 : Sl CompR a v2 e2.comps) :
    Sl EntR a (.slice (some ⟨b, 0, none⟩) 2 2) [e1, e2] := by
  refine ⟨some ⟨b, 0, none⟩, 2, rfl, Nat.le_refl _, by omega, fun j x hj => ?_⟩
  match j with
  | 0 => injection hj with hj; subst hj; exact ⟨rfl, [Ix e1.id, v1], Cs.sub 0 h rfl, v1, rfl, h1⟩
  | 1 => injection hj with hj; subst hj; exact ⟨rfl, [Ix e2.id, v2], Cs.sub 2 h rfl, v2, rfl, h2⟩
  | j + 2 => cases hj
end Go.Stp
