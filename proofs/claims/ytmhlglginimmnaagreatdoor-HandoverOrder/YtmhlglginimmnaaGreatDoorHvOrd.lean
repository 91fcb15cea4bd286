/-
  Entities that are taken in their order. Own work; plain Lean.
-/
import Derived.Test.YtmhlglginimmnaaGreatDoorHv27
set_option linter.unusedVariables false
set_option linter.unusedSimpArgs false
namespace Go.Hv
open Go Go.Sl Go.Proofs
theorem insB_end {α : Type} {lt : α → α → Bool} {a : α} : ∀ {l : List α}, (∀ y ∈ l, lt a y = false) → insB lt a l = l ++ [a]
  | [], _ => rfl
  | b :: l, h => by
    unfold insB
    rw [if_neg (by rw [h b List.mem_cons_self]; decide), insB_end fun y hy => h y (List.mem_cons_of_mem _ hy)]; rfl
theorem insE_end {e : KEnt} : ∀ {l : List KEnt}, (∀ x ∈ l, x.id < e.id) → insE e l = l ++ [e]
  | [], _ => rfl
  | a :: l, h => by
    have := h a List.mem_cons_self
    unfold insE
    rw [if_neg (by omega), if_neg (by omega), insE_end fun y hy => h y (List.mem_cons_of_mem _ hy)]; rfl
theorem right_thE {id tag : Int} (h : 1 ≤ id ∧ id ≤ 65536) (h2 : -2147483648 ≤ tag ∧ tag ≤ 2147483647) : rightE (thE id tag) = true := by
  unfold rightE
  rw [decide_eq_true h.1, decide_eq_true h.2]
  have h3 : fitC ⟨10, tag, 0, 0, 0⟩ = true := by
    unfold fitC
    rw [if_neg (show ¬ ((10 : UInt8).toNat < 1 ∨ 10 < (10 : UInt8).toNat) by decide)]
    show fitK (rg4 (-2147483648) 2147483647) ⟨10, tag, 0, 0, 0⟩ = true
    unfold fitK outR
    simp [h2.1, h2.2]
  simp [risB, h3]
abbrev odE (i : Nat) : KEnt := thE (10 * ((i : Nat) : Int)) ((i : Nat) : Int)
def odM (i : Nat) : KMs := ⟨1, 2, ((i : Nat) : Int), false, odE i⟩
def odL (k : Nat) : List KMs := (List.range k).map fun i => odM (i + 1)
def odH (t : Nat) : List KEnt := (List.range t).map fun i => odE (i + 1)
def odA (j : Nat) : KG := ⟨1, [], odL j, ⟨0, 0, ((j : Nat) : Int), 0, 0, 0, 0⟩, zero7⟩
def odA1 (j : Nat) : KG := ⟨1, [odE (j + 1)], odL j, ⟨0, 0, ((j : Nat) : Int), 0, 0, 0, 0⟩, zero7⟩
def odB (t : Nat) : KG := ⟨2, odH t, [], zero7, ⟨0, ((t : Nat) : Int), 0, 0, 0, 0, 0⟩⟩
def odK (t : Nat) : KMs := ⟨2, 1, ((t : Nat) : Int), true, ⟨0, []⟩⟩
def odA2 (k t : Nat) : KG := ⟨1, [], (odL k).drop t, ⟨0, 0, ((k : Nat) : Int), 0, 0, 0, 0⟩, zero7⟩
theorem odL_mem {j : Nat} {m : KMs} (h : m ∈ odL j) : ∃ i, i < j ∧ m = odM (i + 1) := by
  obtain ⟨i, hi, rfl⟩ := List.mem_map.1 h; exact ⟨i, List.mem_range.1 hi, rfl⟩
theorem odH_mem {j : Nat} {m : KEnt} (h : m ∈ odH j) : ∃ i, i < j ∧ m = odE (i + 1) := by
  obtain ⟨i, hi, rfl⟩ := List.mem_map.1 h; exact ⟨i, List.mem_range.1 hi, rfl⟩
theorem odL_len (k : Nat) : (odL k).length = k := by unfold odL; rw [List.length_map, List.length_range]
theorem odH_len (k : Nat) : (odH k).length = k := by unfold odH; rw [List.length_map, List.length_range]
theorem odL_get {k i : Nat} {m : KMs} (h : (odL k)[i]? = some m) : m = odM (i + 1) ∧ i < k := by
  unfold odL at h
  rw [List.getElem?_map] at h
  by_cases hi : i < k
  · rw [List.getElem?_range hi] at h; injection h with h; exact ⟨h.symm, hi⟩
  · rw [List.getElem?_eq_none (by rw [List.length_range]; omega)] at h; cases h
theorem odH_get {k i : Nat} {m : KEnt} (h : (odH k)[i]? = some m) : m = odE (i + 1) ∧ i < k := by
  unfold odH at h
  rw [List.getElem?_map] at h
  by_cases hi : i < k
  · rw [List.getElem?_range hi] at h; injection h with h; exact ⟨h.symm, hi⟩
  · rw [List.getElem?_eq_none (by rw [List.length_range]; omega)] at h; cases h
theorem odA_put {j : Nat} (h : j < 20) : putF (odA j) (odE (j + 1)) = none := by
  unfold putF
  have h1 : rightE (odE (j + 1)) = true := right_thE ⟨by push_cast; omega, by push_cast; omega⟩ ⟨by push_cast; omega, by push_cast; omega⟩
  have h2 : hereB (odA j) (odE (j + 1)).id = false := rfl
  have h3 : outB (odA j) (odE (j + 1)).id = false := by
    refine List.any_eq_false.2 fun m hm => ?_
    obtain ⟨i, hi, rfl⟩ := odL_mem hm
    have : ¬ (10 * ((i + 1 : Nat) : Int) = 10 * ((j + 1 : Nat) : Int)) := by push_cast; omega
    show ¬ decide (10 * ((i + 1 : Nat) : Int) = 10 * ((j + 1 : Nat) : Int)) = true
    rw [decide_eq_false this]; decide
  rw [if_neg (by rw [h1, h2, h3]; decide), if_neg (by show ¬ (64 : Int) ≤ ((0 : Nat) : Int); decide)]
theorem odA_put2 (j : Nat) : playX (odA j) (.put (odE (j + 1))) = odA1 j := rfl
theorem odA_give {j : Nat} (h : j < 20) : giveF (odA1 j) (10 * ((j + 1 : Nat) : Int)) 2 = none := by
  unfold giveF
  have h2 : hereB (odA1 j) (10 * ((j + 1 : Nat) : Int)) = true := by simp [hereB, odA1]
  rw [if_neg (by show ¬ (!otherB 1 2) = true; decide), if_neg (by rw [h2]; decide), if_neg (by show ¬ (64 : Int) ≤ (((odL j).length : Nat) : Int); rw [odL_len]; omega)]
theorem odA_give2 {j : Nat} : playX (odA1 j) (.give (10 * ((j + 1 : Nat) : Int)) 2) = odA (j + 1) := by
  have hf : findE (odA1 j) (10 * ((j + 1 : Nat) : Int)) = odE (j + 1) := by simp [findE, odA1]
  have hm : gMsg (odA1 j) (10 * ((j + 1 : Nat) : Int)) 2 = odM (j + 1) := by unfold gMsg; rw [hf]; rfl
  have hi : insB ltM (odM (j + 1)) (odL j) = odL (j + 1) := by
    rw [insB_end fun y hy => ?_]
    · unfold odL; rw [List.range_succ, List.map_append]; rfl
    · obtain ⟨i, hi, rfl⟩ := odL_mem hy
      unfold ltM odM
      simp; omega
  have hd : delE (10 * ((j + 1 : Nat) : Int)) (odA1 j).here = [] := by simp [delE, odA1]
  show (⟨1, delE _ (odA1 j).here, insB ltM (gMsg (odA1 j) _ 2) (odL j), _, _⟩ : KG) = _
  rw [hm, hi, hd]
  rfl
theorem odA_msgs (k : Nat) : msgsX (odA k) = odL k := List.append_nil _
theorem odB_msgs0 : msgsX (odB 0) = [] := by rfl
theorem odB_msgs {t : Nat} (h : 0 < t) : msgsX (odB t) = [odK t] := by
  have h1 : (decide (0 < ((t : Nat) : Int))) = true := decide_eq_true (by omega)
  unfold msgsX acksTo
  show [] ++ ((List.range 7).filter fun z => decide (0 < (⟨0, ((t : Nat) : Int), 0, 0, 0, 0, 0⟩ : KN7).at z)).map _ = _
  have h2 : ((List.range 7).filter fun z => decide (0 < (⟨0, ((t : Nat) : Int), 0, 0, 0, 0, 0⟩ : KN7).at z)) = [1] := by
    show List.filter _ [0, 1, 2, 3, 4, 5, 6] = _
    simp [List.filter, KN7.at, h]
  rw [h2]; rfl
theorem odB_old {t i : Nat} (h : i + 1 ≤ t) : takeF (odB t) (odM (i + 1)) = some 0 := by
  show (if _ then _ else if false = true then _ else takeE _ _) = _
  rw [if_neg (by show ¬ (decide (¬ ((2 : Int) = 2)) || !otherB 2 1) = true; decide), if_neg (by decide)]
  unfold takeE
  rw [if_pos (by show ((i + 1 : Nat) : Int) ≤ ((t : Nat) : Int); omega)]
theorem odB_early {t i : Nat} (h : t < i) : takeF (odB t) (odM (i + 1)) = some 320 := by
  show (if _ then _ else if false = true then _ else takeE _ _) = _
  rw [if_neg (by show ¬ (decide (¬ ((2 : Int) = 2)) || !otherB 2 1) = true; decide), if_neg (by decide)]
  unfold takeE
  rw [if_neg (by show ¬ ((i + 1 : Nat) : Int) ≤ ((t : Nat) : Int); omega), if_pos (by show ((t : Nat) : Int) + 1 < ((i + 1 : Nat) : Int); omega)]
theorem odB_new {t : Nat} (h : t < 20) : takeF (odB t) (odM (t + 1)) = none := by
  show (if _ then _ else if false = true then _ else takeE _ _) = _
  rw [if_neg (by show ¬ (decide (¬ ((2 : Int) = 2)) || !otherB 2 1) = true; decide), if_neg (by decide)]
  unfold takeE
  have h1 : rightE (odE (t + 1)) = true := right_thE ⟨by push_cast; omega, by push_cast; omega⟩ ⟨by push_cast; omega, by push_cast; omega⟩
  have h2 : hereB (odB t) (odE (t + 1)).id = false := by
    refine List.any_eq_false.2 fun m hm => ?_
    obtain ⟨i, hi, rfl⟩ := odH_mem hm
    have : ¬ (10 * ((i + 1 : Nat) : Int) = 10 * ((t + 1 : Nat) : Int)) := by push_cast; omega
    simpa using this
  rw [if_neg (by show ¬ ((t + 1 : Nat) : Int) ≤ ((t : Nat) : Int); omega), if_neg (by show ¬ ((t : Nat) : Int) + 1 < ((t + 1 : Nat) : Int); omega), if_neg (by show ¬ (!rightE (odE (t + 1)) || hereB (odB t) (odE (t + 1)).id) = true; rw [h1, h2]; decide), if_neg (by show ¬ (64 : Int) ≤ (((odH t).length : Nat) : Int); rw [odH_len]; omega)]
theorem odB_new2 {t : Nat} : playX (odB t) (takeO (odM (t + 1))) = odB (t + 1) := by
  have hi : insE (odE (t + 1)) (odH t) = odH (t + 1) := by
    rw [insE_end fun y hy => ?_]
    · unfold odH; rw [List.range_succ, List.map_append]; rfl
    · obtain ⟨i, hi, rfl⟩ := odH_mem hy
      show 10 * ((i + 1 : Nat) : Int) < 10 * ((t + 1 : Nat) : Int)
      push_cast; omega
  show (⟨2, insE (odE (t + 1)) (odH t), [], zero7, _⟩ : KG) = _
  rw [hi]; rfl
theorem odA_ack {k t : Nat} (h : 0 < t) (hk : t ≤ k) : takeF (odA k) (odK t) = none := by
  show (if _ then _ else if true = true then takeA _ _ else _) = _
  rw [if_neg (by show ¬ (decide (¬ ((1 : Int) = 1)) || !otherB 1 2) = true; decide), if_pos rfl]
  unfold takeA
  rw [if_neg (by show ¬ (decide (((t : Nat) : Int) < 0) || decide (((k : Nat) : Int) < ((t : Nat) : Int))) = true; simp; omega), if_neg]
  have : (odA k).out.any (ackB 2 ((t : Nat) : Int)) = true := by
    refine List.any_eq_true.2 ⟨odM 1, List.mem_map.2 ⟨0, List.mem_range.2 (by omega), rfl⟩, ?_⟩
    unfold ackB odM
    simp; omega
  show ¬ (!(odA k).out.any (ackB 2 ((t : Nat) : Int))) = true
  rw [this]; decide
theorem odA_ack2 {k t : Nat} (hk : t ≤ k) : playX (odA k) (takeO (odK t)) = odA2 k t := by
  have hf : (odL k).filter (fun m => !ackB 2 ((t : Nat) : Int) m) = (odL k).drop t := by
    have e : odL k = (odL k).take t ++ (odL k).drop t := (List.take_append_drop ..).symm
    have h1 : ∀ m ∈ (odL k).take t, ¬ (!ackB 2 ((t : Nat) : Int) m) = true := fun m hm => by
      obtain ⟨i, hi, hm⟩ := List.mem_take_iff_getElem.1 hm
      have h2 := odL_get (k := k) (i := i) (m := m) (by rw [List.getElem?_eq_getElem (by omega), hm])
      rw [h2.1]
      have : i < t := by omega
      unfold ackB odM
      simp; omega
    have h2 : ∀ m ∈ (odL k).drop t, (!ackB 2 ((t : Nat) : Int) m) = true := fun m hm => by
      obtain ⟨i, hi, hm⟩ := List.mem_drop_iff_getElem.1 hm
      have h2 := odL_get (k := k) (i := t + i) (m := m) (by rw [List.getElem?_eq_getElem (by omega), hm])
      rw [h2.1]
      unfold ackB odM
      simp; omega
    conv => lhs; rw [e]
    rw [List.filter_append, List.filter_eq_nil_iff.2 h1, List.filter_eq_self.2 h2]; rfl
  show (⟨1, [], (odL k).filter (fun m => !ackB 2 ((t : Nat) : Int) m), _, _⟩ : KG) = _
  rw [hf]; rfl
theorem odA2_len {k t : Nat} : (odA2 k t).out.length = k - t := by show ((odL k).drop t).length = _; rw [List.length_drop, odL_len]
theorem odB_last {t : Nat} : lastX (odB t) 1 = ((t : Nat) : Int) := rfl
end Go.Hv
