/-
  The reference's step, in plain terms. Own work; plain Lean.
-/
import Derived.Test.YtdkibofhppgbjaaGreatDoorStBase
namespace Go.Stp
open Go.Sl
def hitI (bs : List KB) (b nb : KB) : Int := (hit bs b nb).getD (-1)
theorem find_filter' {α : Type} (p q : α → Bool) (l : List α) : (l.filter p).find? q = l.find? (fun o => p o && q o) := by
  induction l with
  | nil => rfl
  | cons a l ih =>
    rw [List.filter_cons, List.find?_cons]
    cases hp : p a with
    | false => simp [ih]
    | true => simp only [if_true, Bool.true_and, List.find?_cons, ih]
theorem hit_at {bs : List KB} {b nb o : KB} {m : Nat} (hm : bs[m]? = some o) (hid : o.id ≠ b.id) (hno : ¬ over o b) (ho : over nb o) (hl : ∀ j, j < m → ∀ z, bs[j]? = some z → ¬ (z.id ≠ b.id ∧ ¬ over z b ∧ over nb z)) : hit bs b nb = some o.id := by
  have e : (others bs b).find? (fun o => decide (over nb o)) = some o := by
    unfold others
    rw [find_filter', List.find?_eq_some_iff_getElem]
    obtain ⟨hml, hme⟩ := List.getElem?_eq_some_iff.1 hm
    refine ⟨by simp [hid, hno, ho], m, hml, hme, fun j hj => ?_⟩
    have := hl j hj bs[j] (List.getElem?_eq_getElem (by omega))
    simp only [Bool.not_eq_true', Bool.eq_false_iff]
    intro hh
    simp at hh
    exact this ⟨hh.1.1, hh.1.2, hh.2⟩
  unfold hit; rw [e]; rfl
theorem hit_no {bs : List KB} {b nb : KB} {m : Nat} (hm : bs.length ≤ m) (hl : ∀ j, j < m → ∀ z, bs[j]? = some z → ¬ (z.id ≠ b.id ∧ ¬ over z b ∧ over nb z)) : hit bs b nb = none := by
  unfold hit others
  rw [find_filter', Option.map_eq_none_iff, List.find?_eq_none]
  intro z hz hh
  obtain ⟨j, hj⟩ := List.getElem?_of_mem hz
  simp at hh
  exact hl j (by have := (List.getElem?_eq_some_iff.1 hj).1; omega) z hj ⟨hh.1.1, hh.1.2, hh.2⟩
theorem hits_next {bs : List KB} {b nb o : KB} {m : Nat} (hm : bs[m]? = some o) (hl : ∀ j, j < m → ∀ z, bs[j]? = some z → ¬ (z.id ≠ b.id ∧ ¬ over z b ∧ over nb z)) (h : ¬ (o.id ≠ b.id ∧ ¬ over o b ∧ over nb o)) :
    ∀ j, j < m + 1 → ∀ z, bs[j]? = some z → ¬ (z.id ≠ b.id ∧ ¬ over z b ∧ over nb z) := fun j hj z hz => by
  by_cases e : j = m
  · subst e; rw [hm] at hz; injection hz with hz; rw [← hz]; exact h
  · exact hl j (by omega) z hz
theorem id_iff {bs : List KB} {i k : Nat} {o b : KB} (ho : ordB bs) (hi : bs[i]? = some o) (hk : bs[k]? = some b) : o.id ≠ b.id ↔ i ≠ k := by
  constructor
  · rintro h rfl; rw [hi] at hk; injection hk with hk; exact h (by rw [hk])
  · intro h e
    rcases Nat.lt_or_gt_of_ne h with h1 | h1
    · have := ho.lt h1 hi hk; omega
    · have := ho.lt h1 hk hi; omega
theorem held_snoc {bs : List KB} {rs : List KR} {b nb : KB} {k : Nat} {r : KR} (hr : rs[k]? = some r) : held bs (rs.take (k + 1)) b nb = (held bs (rs.take k) b nb || match endOf bs b r with | some p => decide (p.2 < dist nb p.1) | none => false) := by
  unfold held
  cases h : endOf bs b r with
  | none => rw [ends_skip hr h]; simp
  | some p => rw [ends_snoc hr h]; simp
theorem held_prefix {bs : List KB} {rs : List KR} {b nb : KB} {k : Nat} (h : held bs (rs.take k) b nb = true) : held bs rs b nb = true := by
  unfold held at *
  obtain ⟨p, hp, hq⟩ := List.any_eq_true.1 h
  refine List.any_eq_true.2 ⟨p, ?_, hq⟩
  obtain ⟨r, hr, he⟩ := List.mem_filterMap.1 hp
  exact List.mem_filterMap.2 ⟨r, List.mem_of_mem_take hr, he⟩
/-- what move answers behind m shifts -/
theorem move_end {bs : List KB} {rs : List KR} {b : KB} {y : Bool} {n : Int} {m : Nat} (h : ∀ i : Nat, 0 < i → i ≤ m → stopB bs rs b (sh y b (sgn n * i)) = none) (hm : m = n.natAbs) : runM bs rs b y n = (m, none) :=
  firstStop_eq (fun i a c => h i a c) (by omega) (by omega) (fun hf => by omega) (fun _ => rfl)
theorem move_stop {bs : List KB} {rs : List KR} {b : KB} {y : Bool} {n x : Int} {m : Nat} (h : ∀ i : Nat, 0 < i → i ≤ m → stopB bs rs b (sh y b (sgn n * i)) = none) (hm : m < n.natAbs) (hx : stopB bs rs b (sh y b (sgn n * ((m + 1 : Nat) : Int))) = some x) : runM bs rs b y n = (m, some x) :=
  firstStop_eq (fun i a c => h i a c) (by omega) (by omega) (fun _ => ⟨hx, by simp⟩) (fun hf => by omega)
theorem stop_out {bs : List KB} {rs : List KR} {b nb : KB} (h : ¬ inside nb) : stopB bs rs b nb = some (-1) := by unfold stopB; rw [if_neg h]
theorem stop_in {bs : List KB} {rs : List KR} {b nb : KB} (h : inside nb) (hid : ∀ o ∈ bs, 0 ≤ o.id) : stopB bs rs b nb = if 0 ≤ hitI bs b nb ∨ held bs rs b nb = true then some (hitI bs b nb) else none := by
  unfold stopB hitI
  rw [if_pos h]
  cases hh : hit bs b nb with
  | some i =>
    have : 0 ≤ i := by
      unfold hit at hh
      cases hf : (others bs b).find? (fun o => decide (over nb o)) with
      | none => rw [hf] at hh; cases hh
      | some o =>
        rw [hf] at hh
        have e : o.id = i := by simpa using hh
        rw [← e]; exact hid o (List.mem_filter.1 (List.mem_of_find?_eq_some hf)).1
    simp [this]
  | none =>
    cases hd : held bs rs b nb <;> simp
end Go.Stp
namespace Go.Stp
theorem move_lt {s n : Int} {m : Nat} (hs : s = sgn n) (hm : m ≤ n.natAbs) (h : s * ((m + 1 : Nat) : Int) ≠ n + s) : m < n.natAbs := by
  have : s = 1 ∧ 0 ≤ n ∨ s = -1 ∧ n < 0 := by rw [hs]; unfold sgn; split <;> omega
  rcases this with ⟨e, h2⟩ | ⟨e, h2⟩ <;> rw [e] at h <;> omega
theorem move_eq {s n : Int} {m : Nat} (hs : s = sgn n) (hm : m ≤ n.natAbs) (h : s * ((m + 1 : Nat) : Int) = n + s) : m = n.natAbs := by
  have : s = 1 ∧ 0 ≤ n ∨ s = -1 ∧ n < 0 := by rw [hs]; unfold sgn; split <;> omega
  rcases this with ⟨e, h2⟩ | ⟨e, h2⟩ <;> rw [e] at h <;> omega
theorem stops_next {bs : List KB} {rs : List KR} {b : KB} {y : Bool} {n : Int} {m : Nat} (h : ∀ i : Nat, 0 < i → i ≤ m → stopB bs rs b (sh y b (sgn n * i)) = none) (hx : stopB bs rs b (sh y b (sgn n * ((m + 1 : Nat) : Int))) = none) :
    ∀ i : Nat, 0 < i → i ≤ m + 1 → stopB bs rs b (sh y b (sgn n * i)) = none := fun i h1 h2 => by
  by_cases e : i = m + 1
  · subst e; exact hx
  · exact h i h1 (by omega)
end Go.Stp
namespace Go.Stp
theorem idx_neg {bs : List KB} {i : Int} : idxI (fun y : KB => decide (y.id = i)) bs < 0 ↔ (findB bs i).isSome = false := by
  cases h : findB bs i with
  | some o => obtain ⟨k, e, _⟩ := idx_body h; rw [e]; simp
  | none =>
    unfold findB at h; rw [List.find?_eq_none] at h
    rw [idx_none (k := bs.length) (Nat.le_refl _) fun y hy => by have := h y (List.mem_of_mem_take hy); simpa using this]
    simp
theorem idx_pos {bs : List KB} {i : Int} (h : ¬ idxI (fun y : KB => decide (y.id = i)) bs < 0) : (findB bs i).isSome = true := by
  cases e : (findB bs i).isSome with
  | true => rfl
  | false => exact absurd (idx_neg.2 e) h
theorem al_next {α : Type} {P : α → Prop} {bs : List α} {k : Nat} {x : α} (hx : bs[k]? = some x) (h : ∀ b ∈ bs.take k, P b) (hok : P x) : ∀ b ∈ bs.take (k + 1), P b := by
  intro b hb
  rw [List.take_add_one, hx] at hb
  rcases List.mem_append.1 hb with hb | hb
  · exact h b hb
  · have : b = x := by simpa using hb
    rw [this]; exact hok
theorem al_all {α : Type} {P : α → Prop} {bs : List α} {k : Nat} (hk : bs.length ≤ k) (h : ∀ b ∈ bs.take k, P b) : ∀ b ∈ bs, P b := by rwa [List.take_of_length_le hk] at h
end Go.Stp
namespace Go.Stp
/-- X first, then Y: the round of a movable body -/
theorem next8 {rs : List KR} {gx gy : Int} {bs B : List KB} {S : List KS} {k : Nat} {x C1 C2 : KB} {nx ny vx vy : Int} {T : List KS} {u v : Nat × Option Int} (hB : B = (stepsTo rs gx gy bs k).1) (hS : S = (stepsTo rs gx gy bs k).2) (hx : B[k]? = some x) (hf : x.fixed = false)
    (hnx : nx = speedX x gx gy) (hny : ny = speedY x gx gy) (hu : runM B rs x false nx = u) (hC1 : sh false x (sgn nx * (u.1 : Nat)) = C1) (hv : runM (B.set k C1) rs C1 true ny = v) (hC2 : sh true C1 (sgn ny * (v.1 : Nat)) = C2)
    (hvx : vx = keepV nx u.2) (hvy : vy = keepV ny v.2) (hT : T = (S ++ stopL x.id 1 u.2) ++ stopL x.id 2 v.2) : B.set k (withV C2 vx vy) = (stepsTo rs gx gy bs (k + 1)).1 ∧ T = (stepsTo rs gx gy bs (k + 1)).2 := by
  have e1 : innerK rs B k x nx ny 1 = (C1, stopL x.id 1 u.2, keepV nx u.2, ny) := by
    show innerStep rs B k x.id false (x, [], nx, ny) = _
    unfold innerStep
    simp only [set_self hx]
    simp only [Bool.false_eq_true, if_false, hu, hC1, List.nil_append]
  have e2 : innerK rs B k x nx ny 2 = (C2, stopL x.id 1 u.2 ++ stopL x.id 2 v.2, keepV nx u.2, keepV ny v.2) := by
    show innerStep rs B k x.id true (innerK rs B k x nx ny 1) = _
    rw [e1]
    unfold innerStep
    simp only [if_true, hv, hC2]
  exact next_move hB hS hx hf hnx hny (by rw [e2]) (by rw [e2, hT, List.append_assoc]) (by rw [e2, hvx]) (by rw [e2, hvy])
theorem stop_yes {id i : Int} {al : UInt8} {z : Option Int} (h : z.isSome = true) (hi : i = id) : [(⟨i, al, z.getD 0⟩ : KS)] = stopL id al z := by
  subst hi; cases z with
  | none => cases h
  | some x => rfl
theorem stop_none {id : Int} {al : UInt8} {z : Option Int} (h : z.isSome = false) : stopL id al z = [] := by cases z with
  | none => rfl
  | some x => cases h
theorem keep_yes {n : Int} {z : Option Int} (h : z.isSome = true) : (0 : Int) = keepV n z := by cases z with
  | none => cases h
  | some x => rfl
theorem keep_no {n : Int} {z : Option Int} (h : z.isSome = false) : n = keepV n z := by cases z with
  | none => rfl
  | some x => cases h
end Go.Stp
namespace Go.Stp
theorem keepV_bd {n : Int} (z : Option Int) (h : -4096 ≤ n ∧ n ≤ 4096) : -4096 ≤ keepV n z ∧ keepV n z ≤ 4096 := by
  cases z with
  | none => exact h
  | some _ => exact ⟨by show (-4096 : Int) ≤ 0; omega, by show (0 : Int) ≤ 4096; omega⟩
end Go.Stp
