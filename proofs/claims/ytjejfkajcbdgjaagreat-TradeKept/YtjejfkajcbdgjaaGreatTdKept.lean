/-
 Sums are kept: the law's plain part. Own work; plain Lean.
-/
import Derived.Test.YtjejfkajcbdgjaaGreatTdHouE
namespace Go.Td
open Go Go.Sl Go.Proofs Go.Jn
/-- the amounts of all purses and holds, as a house shows them -/
noncomputable def allX (X : KHs) : List KAm := (ownersX X).map (puA X.s.ps) ++ (holdsX X).map KHo.a
theorem vals_perm {ps : List (Int × KAm)} (hn : (ps.map (·.1)).Nodup) : ((sortI (ps.map (·.1))).map (puA ps)).Perm (ps.map (·.2)) := by
 refine ((sortI_perm _).map _).trans ?_
 rw [List.map_map]
 refine List.Perm.of_eq (List.map_congr_left fun p hp => ?_)
 show puA ps p.1 = p.2
 unfold puA
 rw [look_of_mem hn (k := p.1) (v := p.2) hp]; rfl
theorem hvals_perm {hs : List (Int × KHo)} (hn : (hs.map (·.1)).Nodup) : ((sortI (hs.map (·.1))).map (hoA hs)).Perm (hs.map (·.2)) := by
 refine ((sortI_perm _).map _).trans ?_
 rw [List.map_map]
 refine List.Perm.of_eq (List.map_congr_left fun p hp => ?_)
 show hoA hs p.1 = p.2
 unfold hoA
 rw [look_of_mem hn (k := p.1) (v := p.2) hp]; rfl
section
variable {X : KHs} (h : XOk X)
include h
theorem allX_sum : sumA (allX X) = X.s.su := by
 unfold allX ownersX holdsX
 rw [sumA_app, h.g.su, sumA_perm (vals_perm h.g.p.np), sumA_perm ((hvals_perm h.g.h.nh).map KHo.a), List.map_map]
 rfl
theorem allX_win : ∀ a ∈ allX X, a.within = true := fun a ha => by
 rcases List.mem_append.1 ha with ha | ha
 ·obtain ⟨n, _, rfl⟩ := List.mem_map.1 ha; exact h.g.p.at n
 ·obtain ⟨x, hx, rfl⟩ := List.mem_map.1 ha
  obtain ⟨p, hp, rfl⟩ := List.mem_map.1 ((hvals_perm h.g.h.nh).mem_iff.1 hx)
  exact (h.g.h.hk p hp).2.2.2.2
theorem own_few : (ownersX X).length ≤ 256 := by unfold ownersX; rw [(sortI_perm _).length_eq, List.length_map]; exact h.g.p.pn
theorem hold_few : (holdsX X).length ≤ 128 := by unfold holdsX; rw [List.length_map, (sortI_perm _).length_eq, List.length_map]; exact h.g.h.hn
theorem own_ne {n : Int} {k : Nat} (hk : (ownersX X)[k]? = some n) : puA X.s.ps n ≠ zeroA := by
 have h1 := List.mem_of_getElem? hk
 obtain ⟨p, hp, rfl⟩ := List.mem_map.1 ((sortI_perm (X.s.ps.map (·.1))).mem_iff.1 h1)
 unfold puA
 rw [look_of_mem h.g.p.np (k := p.1) (v := p.2) hp]
 exact (h.g.p.pk p hp).2.2
theorem allX_len : (allX X).length ≤ 384 := by
 have a := own_few h; have b := hold_few h
 unfold allX; rw [List.length_append, List.length_map, List.length_map]; omega
/-- a sum so far, and the next of the amounts -/
theorem all_next {k : Nat} {a : KAm} (hk : (allX X)[k]? = some a) : (sumA ((allX X).take k)).add a = sumA ((allX X).take (k + 1)) ∧ ((0 ≤ a.a0 ∧ a.a0 ≤ 2147483647) ∧ (0 ≤ a.a1 ∧ a.a1 ≤ 2147483647)) ∧ ((0 ≤ a.a2 ∧ a.a2 ≤ 2147483647) ∧ (0 ≤ a.a3 ∧ a.a3 ≤ 2147483647)) ∧ (sumA ((allX X).take k)).bd 1099511627776 := by
 refine ⟨?_, ?_⟩
 ·rw [List.take_add_one, hk, sumA_app]; show _ = (sumA _).add ((a).add zeroA); rw [add_zero']
 ·have w := win_iff.1 (allX_win h a (List.mem_of_getElem? hk))
  refine ⟨w.1, w.2, ?_⟩
  have b := (sum_bd (l := (allX X).take k) fun a ha => allX_win h a (List.mem_of_mem_take ha)).1
  have l := allX_len h
  rw [List.length_take] at b
  exact bd_le b (by omega)
end
theorem take_map {α β : Type} {l : List α} {f : α → β} {k : Nat} {x : α} (h : l[k]? = some x) : (l.take k).map f ++ [f x] = (l.take (k + 1)).map f := by rw [List.take_add_one, h, List.map_append]; rfl
theorem take_app {α β : Type} {l : List α} {m : List β} {f : α → β} {k : Nat} {x : α} (h : l[k]? = some x) : (m ++ (l.take k).map f) ++ [f x] = m ++ (l.take (k + 1)).map f := by rw [List.append_assoc, take_map h]
end Go.Td
