/-
  Own work; plain Lean (HvOrd, HvWrong).
-/
import Derived.Test.YtmhlglginimmnaaGreatDoorHv27
set_option linter.unusedVariables false
set_option linter.unusedSimpArgs false
namespace Go.Hv
open Go Go.Sl Go.Proofs
end Go.Hv

namespace Go.Hv
open Go Go.Sl Go.Proofs
def wgX1 : KG := ⟨4, [thE 1 1], [], zero7, zero7⟩
def wgX2 : KG := ⟨4, [thE 1 1, thE 2 2], [], zero7, zero7⟩
def wgM : KMs := ⟨4, 6, 1, false, thE 2 2⟩
def wgX : KG := ⟨4, [thE 1 1], [wgM], ⟨0, 0, 0, 0, 0, 0, 1⟩, zero7⟩
theorem wg_p1 : putF (freshG 4) (thE 1 1) = none := by decide +kernel
theorem wg_y1 : playX (freshG 4) (.put (thE 1 1)) = wgX1 := by rfl
theorem wg_p2 : putF wgX1 (thE 2 2) = none := by decide +kernel
theorem wg_y2 : playX wgX1 (.put (thE 2 2)) = wgX2 := by rfl
theorem wg_p3 : giveF wgX2 2 6 = none := by decide +kernel
theorem wg_y3 : playX wgX2 (.give 2 6) = wgX := by rfl
theorem right_low {id tag : Int} (h : id ≤ 0) : rightE (thE id tag) = false := by
  unfold rightE
  rw [decide_eq_false (by show ¬ (1 : Int) ≤ id; omega)]; rfl
theorem wg_put1 : putF wgX (thE 1 5) = some 2 := by decide +kernel
theorem wg_put2 : putF wgX (thE 2 5) = some 2 := by decide +kernel
theorem wg_put3 {id : Int} (h : id ≤ 0) : putF wgX (thE id 1) = some 2 := by
  unfold putF
  rw [if_pos (by rw [right_low h]; rfl)]
theorem wg_save2 : saveF wgX (thE 2 5) = some 6 := by decide +kernel
theorem wg_save3 {id : Int} (h : id ≤ 0) : saveF wgX (thE id 5) = some 2 := by
  unfold saveF
  rw [if_pos (by rw [right_low h]; rfl)]
theorem wg_drop2 : dropF wgX 2 = some 6 := by decide +kernel
theorem wg_drop3 {id : Int} (h : id ≤ 0) : dropF wgX id = some 6 := by
  unfold dropF
  have : hereB wgX id = false := by
    show (decide ((1 : Int) = id) || false) = false
    rw [decide_eq_false (by omega)]; rfl
  rw [if_pos (by rw [this]; rfl)]
theorem other_no {z k : Int} (h : k ≤ 0 ∨ 7 ≤ k) : otherB z k = false := by
  cases e : otherB z k with
  | false => rfl
  | true => obtain ⟨h1, h2, _⟩ := other_iff.1 e; omega
theorem wg_give1 : giveF wgX 1 4 = some 2 := by decide +kernel
theorem wg_give2 {k : Int} (h : k ≤ 0 ∨ 7 ≤ k) : giveF wgX 1 k = some 2 := by
  unfold giveF
  rw [if_pos (by rw [other_no h]; rfl)]
theorem wg_give3 : giveF wgX 2 6 = some 6 := by decide +kernel
theorem wg_take1 : takeF wgX ⟨6, 5, 1, true, ⟨0, []⟩⟩ = some 2 := by decide +kernel
theorem wg_take2 : takeF wgX ⟨4, 4, 1, true, ⟨0, []⟩⟩ = some 2 := by decide +kernel
theorem wg_take3 {k : Int} (h : k ≤ 0 ∨ 7 ≤ k) : takeF wgX ⟨k, 4, 1, false, ⟨0, []⟩⟩ = some 2 := by
  unfold takeF
  rw [if_pos (by show (decide (¬ ((4 : Int) = 4)) || !otherB 4 k) = true; rw [other_no h]; decide)]
theorem wg_take4 {n : Int} (h : 2 ≤ n ∨ n < 0) : takeF wgX ⟨6, 4, n, true, ⟨0, []⟩⟩ = some 2 := by
  show (if _ then _ else if true = true then takeA _ _ else _) = _
  rw [if_neg (by show ¬ (decide (¬ ((4 : Int) = 4)) || !otherB 4 6) = true; decide), if_pos rfl]
  unfold takeA
  rw [if_pos (by show (decide (n < 0) || decide ((1 : Int) < n)) = true; simp; omega)]
theorem wg_take5 : takeF wgX ⟨5, 4, 1, true, ⟨0, []⟩⟩ = some 2 := by decide +kernel
theorem wg_take6 : takeF wgX ⟨5, 4, 1, false, thE 1 9⟩ = some 2 := by decide +kernel
theorem wg_take7 {id : Int} (h : id ≤ 0) : takeF wgX ⟨5, 4, 1, false, thE id 9⟩ = some 2 := by
  show (if _ then _ else if false = true then _ else takeE _ _) = _
  rw [if_neg (by show ¬ (decide (¬ ((4 : Int) = 4)) || !otherB 4 5) = true; decide), if_neg (by decide)]
  unfold takeE
  rw [if_neg (by show ¬ ((1 : Int) ≤ 0); decide), if_neg (by show ¬ ((0 : Int) + 1 < 1); decide), if_pos (by show (!rightE (thE id 9) || _) = true; rw [right_low h]; rfl)]
theorem wg_take8 {n : Int} (h : 2 ≤ n) : takeF wgX ⟨5, 4, n, false, thE 9 9⟩ = some 320 := by
  show (if _ then _ else if false = true then _ else takeE _ _) = _
  rw [if_neg (by show ¬ (decide (¬ ((4 : Int) = 4)) || !otherB 4 5) = true; decide), if_neg (by decide)]
  unfold takeE
  rw [if_neg (by show ¬ (n ≤ 0); omega), if_pos (by show (0 : Int) + 1 < n; omega)]
theorem wg_take9 {n : Int} (h : n ≤ 0) : takeF wgX ⟨5, 4, n, false, thE 9 9⟩ = some 0 := by
  show (if _ then _ else if false = true then _ else takeE _ _) = _
  rw [if_neg (by show ¬ (decide (¬ ((4 : Int) = 4)) || !otherB 4 5) = true; decide), if_neg (by decide)]
  unfold takeE
  rw [if_pos (by show n ≤ 0; omega)]
theorem wg_last {z : Int} (h : z ≤ 0 ∨ 7 ≤ z) : lastX wgX z = 0 := by
  unfold lastX
  rw [if_neg (by rw [other_no h]; decide)]
/-- what was answered, and what should have been -/
abbrev PrF : Fl (Int × Int) := ⟨2, fun x => [Ix x.1, Ix x.2], fun _ => rfl, fun _ => rfl, by decide⟩
def wgL : List (Int × Int) := [(2, 2), (2, 2), (2, 2), (6, 6), (2, 2), (6, 6), (6, 6), (2, 2), (2, 2), (2, 2), (6, 6), (2, 2), (2, 2), (2, 2), (2, 2), (2, 2), (2, 2), (2, 2), (2, 2), (320, 320), (0, 0)]
theorem wgL_same {k : Nat} {x : Int × Int} (h : wgL[k]? = some x) : x.1 = x.2 := by
  have : ∀ x ∈ wgL, x.1 = x.2 := by decide
  exact this x (List.mem_of_getElem? h)
end Go.Hv
