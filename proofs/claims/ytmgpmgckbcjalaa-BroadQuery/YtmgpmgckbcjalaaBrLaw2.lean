/-
  What spaces that are filled answer, in plain terms. Own work; plain Lean.
-/
import Derived.Test.YtmgpmgckbcjalaaBrLaw
namespace Go.Brd
open Go.Sl Go.Proofs
/-! Query -/
def hitL (l : List KA) (m : Int) (x : KA) : List Int := ((things l 0).filter fun t => decide (touchA t.ar x)).map fun t => t.id * m
theorem hitL_snoc (l : List KA) (m : Int) (x y : KA) : hitL (l ++ [y]) m x = hitL l m x ++ if touchA y x then [(l.length : Int) * m] else [] := by
  unfold hitL
  rw [things_snoc, List.filter_append, List.map_append, Nat.zero_add]
  by_cases h : touchA y x <;> simp [h]
theorem things_in {l : List KA} {t : KT} (h : t ∈ things l 0) : ∃ k : Nat, l[k]? = some t.ar ∧ t.id = k := by
  obtain ⟨k, hk⟩ := List.getElem?_of_mem h
  rw [things_get] at hk
  cases hl : l[k]? with
  | none => rw [hl] at hk; cases hk
  | some a => rw [hl] at hk; injection hk with hk; subst hk; exact ⟨k, hl, by simp⟩
theorem hitL_no {l : List KA} {m : Int} {x y : KA} {k n : Nat} {z : Int} (hm : 0 < m) (hy : l[k]? = some y) (h : ¬ touchA y x) (hz : (hitL l m x)[n]? = some z) : z ≠ (k : Int) * m := fun e => by
  obtain ⟨t, ht, he⟩ := List.mem_map.1 (List.mem_of_getElem? hz)
  obtain ⟨h1, h2⟩ := List.mem_filter.1 ht
  obtain ⟨j, hj, hi⟩ := things_in h1
  have e2 : t.id * m = (k : Int) * m := he.trans e
  have := Int.eq_of_mul_eq_mul_right (by omega) e2
  have hjk : j = k := by omega
  subst hjk
  rw [hy] at hj; injection hj with hj
  exact h (by rw [hj]; simpa using h2)
theorem hitL_pre (l r : List KA) (m : Int) (x : KA) : hitL l m x <+: hitL (l ++ r) m x := by
  induction r generalizing l with
  | nil => rw [List.append_nil]; exact List.prefix_refl _
  | cons y r ih =>
    have := ih (l ++ [y])
    rw [List.append_assoc] at this
    refine List.IsPrefix.trans ?_ this
    rw [hitL_snoc]; exact List.prefix_append _ _
theorem hitL_take {l : List KA} {k : Nat} {y : KA} (hy : l[k]? = some y) (m : Int) (x : KA) : hitL (l.take (k + 1)) m x = hitL (l.take k) m x ++ if touchA y x then [(k : Int) * m] else [] := by
  have hk := (List.getElem?_eq_some_iff.1 hy).1
  rw [List.take_add_one, hy]
  show hitL (l.take k ++ [y]) m x = _
  rw [hitL_snoc, List.length_take, Nat.min_eq_left (by omega)]
theorem hit_at {l : List KA} {m : Int} {x y : KA} {k n : Nat} (hy : l[k]? = some y) (h : touchA y x) (hn : n = (hitL (l.take k) m x).length) : (hitL l m x)[n]? = some ((k : Int) * m) := by
  have h1 := hitL_pre (l.take (k + 1)) (l.drop (k + 1)) m x
  rw [List.take_append_drop, hitL_take hy, if_pos h] at h1
  obtain ⟨r, hr⟩ := h1
  rw [← hr, hn, List.append_assoc, List.getElem?_append_right (Nat.le_refl _), Nat.sub_self]; rfl
theorem hit_yes_len {l : List KA} {m : Int} {x y : KA} {k n : Nat} (hy : l[k]? = some y) (h : touchA y x) (hn : n = (hitL (l.take k) m x).length) : n + 1 = (hitL (l.take (k + 1)) m x).length := by
  rw [hitL_take hy, if_pos h, List.length_append, ← hn]; rfl
theorem hit_no_len {l : List KA} {m : Int} {x y : KA} {k n : Nat} (hy : l[k]? = some y) (h : ¬ touchA y x) (hn : n = (hitL (l.take k) m x).length) : n = (hitL (l.take (k + 1)) m x).length := by
  rw [hitL_take hy, if_neg h, List.append_nil, hn]
theorem hit_lt {l : List KA} {m : Int} {x y : KA} {k n : Nat} (hy : l[k]? = some y) (h : touchA y x) (hn : n = (hitL (l.take k) m x).length) : n < (hitL l m x).length := (List.getElem?_eq_some_iff.1 (hit_at hy h hn)).1
theorem hitL_len (l : List KA) (m : Int) (x : KA) : (hitL l m x).length ≤ l.length := by
  unfold hitL; rw [List.length_map]
  have := List.length_filter_le (fun t : KT => decide (touchA t.ar x)) (things l 0)
  rwa [things_len] at this
theorem hitL_sorted {l : List KA} {m : Int} (hm : 0 < m) (x : KA) : (hitL l m x).Pairwise fun p q => p ≤ q := by
  unfold hitL
  rw [List.pairwise_map]
  exact ((things_ids l 0).filter _).imp fun {p q} h => Int.mul_le_mul_of_nonneg_right (by omega) (by omega)
theorem query_fill {l : List KA} {m : Int} {x : KA} (hm : 0 < m) (hl : ∀ a ∈ l, okA a) (hx : okA x) : queryX (fillS l m) x = hitL l m x := by
  rw [queryX, if_pos hx, queryS]
  have e : hitS (fillS l m) x = hitL l m x := by
    unfold hitS fillS hitL
    rw [List.filter_map, List.map_map]
    congr 1
    apply List.filter_congr
    intro t ht
    obtain ⟨k, hk, _⟩ := things_in ht
    have := hl _ (List.mem_of_getElem? hk)
    show decide (okA (comA x t.ar)) = decide (touchA t.ar x)
    rw [decide_eq_decide, touch_com hx this, touch_comm]
  rw [e]
  exact sortI_one (sortI_perm _) (sortI_sorted _) (hitL_sorted hm x)
theorem touch_join {a b y : KA} (ha : okA a) (hb : okA b) (h : touchA y a ∨ touchA y b) : touchA y (joinR a b) := by
  rw [joinR_ok ha hb]
  unfold touchA joinA okA okSpan at *; simp only; omega
theorem joinR_okA {a b : KA} (ha : okA a) (hb : okA b) : okA (joinR a b) := by rw [joinR_ok ha hb]; exact ok_join ha hb
/-! pairs in their order -/
end Go.Brd
