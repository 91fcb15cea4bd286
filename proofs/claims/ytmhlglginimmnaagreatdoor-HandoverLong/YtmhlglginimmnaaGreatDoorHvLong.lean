/-
  Own work; plain Lean (HvOrd, HvLong).
-/
import Derived.Test.YtmhlglginimmnaaGreatDoorHv27
set_option linter.unusedVariables false
set_option linter.unusedSimpArgs false
namespace Go.Hv
open Go Go.Sl Go.Proofs
theorem insE_end {e : KEnt} : ∀ {l : List KEnt}, (∀ x ∈ l, x.id < e.id) → insE e l = l ++ [e]
  | [], _ => rfl
  | a :: l, h => by
    have := h a List.mem_cons_self
    unfold insE
    rw [if_neg (by omega), if_neg (by omega), insE_end fun y hy => h y (List.mem_cons_of_mem _ hy)]; rfl
end Go.Hv

namespace Go.Hv
open Go Go.Sl Go.Proofs
abbrev bigC0 : List KComp := [⟨1, 1048576, -1048576, 0, 0⟩, ⟨2, 4096, -4096, 0, 0⟩, ⟨3, 16384, 16384, 0, 1⟩, ⟨4, 8, 0, 0, 0⟩, ⟨5, 510, 0, 0, 0⟩, ⟨6, 15, 0, 0, 0⟩, ⟨7, 2147483647, 2147483647, 2147483647, 2147483647⟩, ⟨8, 1048576, 1048576, 0, 0⟩, ⟨9, 2147483647, 2147483647, 2147483647, 2147483647⟩]
def bigC (tag : Int) : List KComp := bigC0 ++ [⟨10, 2147483647, 2147483647, 2147483647, tag⟩]
abbrev bigE (id tag : Int) : KEnt := ⟨id, bigC tag⟩
theorem bigC_len (tag : Int) : (bigC tag).length = 10 := rfl
theorem right_bigE {id tag : Int} (h : 1 ≤ id ∧ id ≤ 65536) (h2 : 0 ≤ tag ∧ tag ≤ 2147483647) : rightE (bigE id tag) = true := by
  unfold rightE
  rw [decide_eq_true h.1, decide_eq_true h.2]
  have h3 : fitC ⟨10, 2147483647, 2147483647, 2147483647, tag⟩ = true := by
    unfold fitC
    rw [if_neg (show ¬ ((10 : UInt8).toNat < 1 ∨ 10 < (10 : UInt8).toNat) by decide)]
    show fitK (rg4 (-2147483648) 2147483647) ⟨10, 2147483647, 2147483647, 2147483647, tag⟩ = true
    unfold fitK outR
    have : -2147483648 ≤ tag := by omega
    simp [this, h2.2]
  have h4 : risB (bigC tag) = true := rfl
  have h5 : (bigC tag).any (fun c => !fitC c) = false := by
    unfold bigC
    rw [List.any_append, show bigC0.any (fun c => !fitC c) = false by decide +kernel]
    simp [h3]
  show (true && true && risB (bigC tag) && !(bigC tag).any fun c => !fitC c) = true
  rw [h4, h5]; rfl
def lgH (k : Nat) (T : Nat → Int) : List KEnt := (List.range k).map fun i => bigE ((i + 1 : Nat) : Int) (T (i + 1))
def lgM : KMs := ⟨3, 1, 1, false, bigE 20 0⟩
def lgP (j : Nat) : KG := ⟨3, lgH j (fun _ => 0), [], zero7, zero7⟩
/-- 19 entities, with tags out of a list -/
def lgX (L : List Int) : KG := ⟨3, lgH 19 (fun i => L.getD i 0), [lgM], ⟨0, 1, 0, 0, 0, 0, 0⟩, zero7⟩
theorem lgH_len (k : Nat) (T : Nat → Int) : (lgH k T).length = k := by unfold lgH; rw [List.length_map, List.length_range]
theorem lgH_mem {k : Nat} {T : Nat → Int} {e : KEnt} (h : e ∈ lgH k T) : ∃ i, i < k ∧ e = bigE ((i + 1 : Nat) : Int) (T (i + 1)) := by
  obtain ⟨i, hi, rfl⟩ := List.mem_map.1 h; exact ⟨i, List.mem_range.1 hi, rfl⟩
theorem lgH_get {k i : Nat} {T : Nat → Int} {e : KEnt} (h : (lgH k T)[i]? = some e) : e = bigE ((i + 1 : Nat) : Int) (T (i + 1)) ∧ i < k := by
  unfold lgH at h
  rw [List.getElem?_map] at h
  by_cases hi : i < k
  · rw [List.getElem?_range hi] at h; injection h with h; exact ⟨h.symm, hi⟩
  · rw [List.getElem?_eq_none (by rw [List.length_range]; omega)] at h; cases h
theorem lgP_put {j : Nat} (h : j < 20) : putF (lgP j) (bigE ((j + 1 : Nat) : Int) 0) = none := by
  unfold putF
  have h1 : rightE (bigE ((j + 1 : Nat) : Int) 0) = true := right_bigE ⟨by push_cast; omega, by push_cast; omega⟩ (by decide)
  have h2 : hereB (lgP j) (bigE ((j + 1 : Nat) : Int) 0).id = false := by
    refine List.any_eq_false.2 fun m hm => ?_
    obtain ⟨i, hi, rfl⟩ := lgH_mem (show m ∈ lgH j (fun _ => 0) from hm)
    have : ¬ (((i + 1 : Nat) : Int) = ((j + 1 : Nat) : Int)) := by omega
    show ¬ decide (((i + 1 : Nat) : Int) = ((j + 1 : Nat) : Int)) = true
    rw [decide_eq_false this]; decide
  have h3 : outB (lgP j) (bigE ((j + 1 : Nat) : Int) 0).id = false := rfl
  rw [if_neg (by rw [h1, h2, h3]; decide), if_neg (by show ¬ (64 : Int) ≤ (((lgH j (fun _ => 0)).length : Nat) : Int); rw [lgH_len]; omega)]
theorem lgP_put2 {j : Nat} : playX (lgP j) (.put (bigE ((j + 1 : Nat) : Int) 0)) = lgP (j + 1) := by
  have hi : insE (bigE ((j + 1 : Nat) : Int) 0) (lgH j fun _ => 0) = lgH (j + 1) fun _ => 0 := by
    rw [insE_end fun y hy => ?_]
    · unfold lgH; rw [List.range_succ, List.map_append]; rfl
    · obtain ⟨i, hi, rfl⟩ := lgH_mem hy
      show ((i + 1 : Nat) : Int) < ((j + 1 : Nat) : Int)
      omega
  show (⟨3, insE _ (lgH j fun _ => 0), [], zero7, zero7⟩ : KG) = _
  rw [hi]; rfl
theorem lg_give : giveF (lgP 20) 20 1 = none := by decide +kernel
theorem lg_give2 : playX (lgP 20) (.give 20 1) = lgX (List.replicate 21 0) := by kernel_rfl
theorem lgX_save {L : List Int} {k : Nat} {t : Int} (hk : 1 ≤ k ∧ k ≤ 19) (ht : 0 ≤ t ∧ t ≤ 2147483647) : saveF (lgX L) (bigE ((k : Nat) : Int) t) = none := by
  unfold saveF
  have h1 : rightE (bigE ((k : Nat) : Int) t) = true := right_bigE ⟨by omega, by omega⟩ ht
  have h2 : hereB (lgX L) (bigE ((k : Nat) : Int) t).id = true := by
    refine List.any_eq_true.2 ⟨bigE ((k - 1 + 1 : Nat) : Int) (L.getD (k - 1 + 1) 0), List.mem_map.2 ⟨k - 1, List.mem_range.2 (by omega), rfl⟩, decide_eq_true ?_⟩
    show ((k - 1 + 1 : Nat) : Int) = ((k : Nat) : Int)
    omega
  rw [if_neg (by rw [h1]; decide), if_neg (by rw [h2]; decide)]
theorem insE_set {e : KEnt} : ∀ {l : List KEnt} {k : Nat} {a : KEnt}, SortE l → l[k]? = some a → a.id = e.id → insE e l = l.set k e
  | [], _, _, _, h, _ => by simp at h
  | b :: l, 0, a, hs, h, hi => by
    injection h with h; subst h
    unfold insE
    rw [if_neg (by omega), if_pos hi.symm]; rfl
  | b :: l, k + 1, a, hs, h, hi => by
    rw [SortE, List.pairwise_cons] at hs
    have h' : l[k]? = some a := h
    have := hs.1 a (List.mem_of_getElem? h')
    unfold insE
    rw [if_neg (by omega), if_neg (by omega), insE_set hs.2 h' hi]; rfl
theorem lgH_sort (k : Nat) (T : Nat → Int) : SortE (lgH k T) := by
  unfold SortE lgH
  rw [List.pairwise_map]
  refine List.Pairwise.imp (R := fun a b => a < b) (fun h => ?_) List.pairwise_lt_range
  show ((_ + 1 : Nat) : Int) < ((_ + 1 : Nat) : Int)
  omega
theorem lgX_save2 {L : List Int} (hL : L.length = 21) {k : Nat} {t : Int} (hk : 1 ≤ k ∧ k ≤ 19) : playX (lgX L) (.put (bigE ((k : Nat) : Int) t)) = lgX (L.set k t) := by
  have hg : (lgH 19 fun i => L.getD i 0)[k - 1]? = some (bigE ((k - 1 + 1 : Nat) : Int) (L.getD (k - 1 + 1) 0)) := by
    unfold lgH; rw [List.getElem?_map, List.getElem?_range (by omega)]; rfl
  have hi : insE (bigE ((k : Nat) : Int) t) (lgH 19 fun i => L.getD i 0) = lgH 19 fun i => (L.set k t).getD i 0 := by
    rw [insE_set (lgH_sort _ _) hg (by show ((k - 1 + 1 : Nat) : Int) = ((k : Nat) : Int); omega)]
    refine List.ext_getElem? fun i => ?_
    rw [List.getElem?_set]
    unfold lgH
    rw [List.length_map, List.length_range, List.getElem?_map, List.getElem?_map]
    by_cases hi : i < 19
    · rw [List.getElem?_range hi]
      by_cases e : k - 1 = i
      · rw [if_pos e, if_pos (by omega)]
        have e2 : k = i + 1 := by omega
        subst e2
        show some _ = some (bigE _ ((L.set (i + 1) t).getD (i + 1) 0))
        rw [List.getD_eq_getElem?_getD, List.getElem?_set_self (by omega)]; rfl
      · rw [if_neg e]
        show some (bigE _ (L.getD (i + 1) 0)) = some (bigE _ ((L.set k t).getD (i + 1) 0))
        rw [List.getD_eq_getElem?_getD, List.getD_eq_getElem?_getD, List.getElem?_set_ne (by omega)]
    · rw [List.getElem?_eq_none (by rw [List.length_range]; omega), if_neg (by omega)]; rfl
  show (⟨3, insE _ (lgH 19 fun i => L.getD i 0), [lgM], _, zero7⟩ : KG) = _
  rw [hi]; rfl
theorem getD_of {L : List Int} {k : Nat} {x : Int} (h : L[k]? = some x) : L.getD k 0 = x := by rw [List.getD_eq_getElem?_getD, h]; rfl
end Go.Hv
