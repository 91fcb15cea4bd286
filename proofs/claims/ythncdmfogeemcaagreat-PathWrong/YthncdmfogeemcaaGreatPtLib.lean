/-
  The heap's steps in words of the code. Own work; plain Lean.
-/
import Derived.Test.YthncdmfogeemcaaGreatSlFn
import Derived.Test.YthncdmfogeemcaaGreatPtHeap
namespace Go.Pth
open Go.Sl
theorem before_lt (a b : KM) : orI [cmpI (a.len : Int) (b.len : Int), cmpI (a.pts : Int) (b.pts : Int)] < 0 ↔ ¬ leM b a := by
  rw [orI_two]; unfold cmpI leM
  split <;> (repeat' split) <;> omega
theorem swp_eq {l : List KM} {i j : Nat} {x y : KM} (hx : l[i]? = some x) (hy : l[j]? = some y) : swp l i j = (l.set i y).set j x := by
  unfold swp; rw [mAt_of hx, mAt_of hy]
theorem tdiv_half (j : Nat) : ((j : Int) - 1).tdiv ((2 : Nat) : Int) = (((j - 1) / 2 : Nat) : Int) := by
  cases j with
  | zero => rfl
  | succ j => rw [show (((j + 1 : Nat)) : Int) - 1 = (j : Int) by omega, show j + 1 - 1 = j by omega]; rfl
theorem dn_two {l : List KM} {n i j : Nat} (h : (j = 2 * i + 1 ∧ (2 * i + 1 + 1 < n → leM (mAt l (2 * i + 1)) (mAt l (2 * i + 1 + 1)))) ∨ (j = 2 * i + 1 + 1 ∧ leM (mAt l (2 * i + 1 + 1)) (mAt l (2 * i + 1)))) :
    ∀ k, 0 < k → k < n → (k - 1) / 2 = i → leM (mAt l j) (mAt l k) := by
  intro k k0 hk hp
  have hk' : k = 2 * i + 1 ∨ k = 2 * i + 1 + 1 := by omega
  rcases h with ⟨rfl, h⟩ | ⟨rfl, h⟩
  · rcases hk' with rfl | rfl
    · exact leM.refl _
    · exact h hk
  · rcases hk' with rfl | rfl
    · exact h
    · exact leM.refl _
theorem pop_law {xs ys : List KM} {m : Nat} (hn : xs.length = m + 1) (hh : Hp xs (m + 1)) (hp : ys.Perm (swp xs 0 m)) (hy : Hp ys m) (hm : mAt ys m = mAt (swp xs 0 m) m) :
    xs.Perm (mAt ys m :: ys.take m) ∧ (∀ y ∈ xs, leM (mAt ys m) y) ∧ Hp (ys.take m) m ∧ (ys.take m).length = m := by
  have hl : ys.length = m + 1 := by rw [hp.length_eq, swp_len]; exact hn
  have e : ys = ys.take m ++ [mAt ys m] := by
    refine List.ext_getElem? fun k => ?_
    rcases Nat.lt_trichotomy k m with h | h | h
    · rw [List.getElem?_append_left (by rw [List.length_take]; omega), List.getElem?_take, if_pos h]
    · subst h; rw [List.getElem?_append_right (by rw [List.length_take]; omega), List.length_take, show k - min k ys.length = 0 by omega, mAt_some (by omega)]; rfl
    · rw [List.getElem?_eq_none (by omega), List.getElem?_eq_none (by rw [List.length_append, List.length_take]; simp; omega)]
  have hx0 : mAt ys m = mAt xs 0 := by
    rw [hm, swp_at (by omega) (by omega) (by omega), if_pos rfl]
  refine ⟨?_, ?_, ?_, by rw [List.length_take]; omega⟩
  · have h1 : xs.Perm ys := ((swp_perm (l := xs) (i := 0) (j := m) (by omega) (by omega)).symm).trans hp.symm
    refine h1.trans ?_
    refine (List.Perm.of_eq e).trans ?_
    exact List.perm_append_comm
  · intro y hy'
    obtain ⟨k, hk, rfl⟩ := List.getElem_of_mem hy'
    rw [hx0]
    have := hh.min k (by omega)
    rwa [mAt_of (List.getElem?_eq_getElem hk)] at this
  · intro k k0 hk
    have a : ∀ j, j < m → mAt (ys.take m) j = mAt ys j := fun j hj => by
      unfold mAt; rw [List.getD_eq_getElem?_getD, List.getD_eq_getElem?_getD, List.getElem?_take, if_pos hj]
    rw [a _ (by omega), a _ hk]; exact hy k k0 hk
end Go.Pth
