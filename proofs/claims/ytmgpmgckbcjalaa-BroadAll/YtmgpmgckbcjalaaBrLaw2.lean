/-
  What spaces that are filled answer, in plain terms. Own work; plain Lean.
-/
import Derived.Test.YtmgpmgckbcjalaaBrLaw
namespace Go.Brd
open Go.Sl Go.Proofs
/-! Query -/
/-! pairs in their order -/
/-- the pairs of the first i things with later ones -/
def headP (L : List KT) : Nat → List KP
  | 0 => []
  | i + 1 => headP L i ++ match L[i]? with | some x => hitsT x (L.drop (i + 1)) | none => []
theorem headP_drop (L : List KT) : ∀ i, i ≤ L.length → pairsT L = headP L i ++ pairsT (L.drop i)
  | 0, _ => rfl
  | i + 1, h => by
    have hi : i < L.length := by omega
    rw [headP_drop L i (by omega)]
    have hx : L[i]? = some L[i] := List.getElem?_eq_getElem hi
    rw [List.drop_eq_getElem_cons hi]
    show headP L i ++ (hitsT L[i] (L.drop (i + 1)) ++ pairsT (L.drop (i + 1))) = (headP L i ++ match L[i]? with | some x => hitsT x (L.drop (i + 1)) | none => []) ++ _
    rw [hx, List.append_assoc]
/-- the pairs of thing i with those behind it and ahead of k -/
def rowP (L : List KT) (i k : Nat) : List KP := match L[i]? with | some x => hitsT x ((L.drop (i + 1)).take (k - (i + 1))) | none => []
theorem rowP_zero (L : List KT) (i : Nat) : rowP L i (i + 1) = [] := by unfold rowP; rw [Nat.sub_self, List.take_zero]; split <;> rfl
theorem rowP_next {L : List KT} {i k : Nat} {x y : KT} (hx : L[i]? = some x) (hy : L[k]? = some y) (h : i + 1 ≤ k) : rowP L i (k + 1) = rowP L i k ++ if touchA x.ar y.ar then [mkP x y] else [] := by
  unfold rowP
  rw [hx]
  show hitsT x _ = hitsT x _ ++ _
  have e : (L.drop (i + 1)).take (k + 1 - (i + 1)) = (L.drop (i + 1)).take (k - (i + 1)) ++ [y] := by
    rw [show k + 1 - (i + 1) = (k - (i + 1)) + 1 by omega, List.take_add_one, List.getElem?_drop, show i + 1 + (k - (i + 1)) = k by omega, hy]; rfl
  rw [e, hits_append]
  congr 1
  unfold hitsT
  by_cases h : touchA x.ar y.ar <;> simp [h]
theorem rowP_end {L : List KT} {i : Nat} : headP L i ++ rowP L i L.length = headP L (i + 1) := by
  show _ = headP L i ++ match L[i]? with | some x => hitsT x (L.drop (i + 1)) | none => []
  unfold rowP
  rw [List.take_of_length_le (by rw [List.length_drop]; omega)]
theorem row_at {L : List KT} {i k n : Nat} {x y : KT} (hx : L[i]? = some x) (hy : L[k]? = some y) (h : i + 1 ≤ k) (ht : touchA x.ar y.ar) (hn : n = (headP L i ++ rowP L i k).length) : (pairsT L)[n]? = some (mkP x y) := by
  have hi := (List.getElem?_eq_some_iff.1 hx).1
  have hk := (List.getElem?_eq_some_iff.1 hy).1
  rw [headP_drop L (i + 1) (by omega), ← rowP_end]
  have e : rowP L i L.length = rowP L i (k + 1) ++ hitsT x (L.drop (k + 1)) := by
    unfold rowP
    rw [hx]
    show hitsT x _ = hitsT x _ ++ _
    rw [← hits_append]
    congr 1
    rw [List.take_of_length_le (by rw [List.length_drop]; exact Nat.le_refl _)]
    conv => lhs; rw [← List.take_append_drop (k + 1 - (i + 1)) (L.drop (i + 1))]
    rw [List.drop_drop, show i + 1 + (k + 1 - (i + 1)) = k + 1 by omega]
  rw [e, rowP_next hx hy h, if_pos ht, hn]
  rw [show headP L i ++ (rowP L i k ++ [mkP x y] ++ hitsT x (L.drop (k + 1))) ++ pairsT (L.drop (i + 1)) = (headP L i ++ rowP L i k) ++ ([mkP x y] ++ (hitsT x (L.drop (k + 1)) ++ pairsT (L.drop (i + 1)))) by simp [List.append_assoc]]
  rw [List.getElem?_append_right (Nat.le_refl _), Nat.sub_self]; rfl
/-- positions in the list of all pairs -/
def posP (l : List KA) (i k : Nat) : Nat := (headP (things l 0) i ++ rowP (things l 0) i k).length
theorem pos_start (l : List KA) : 0 = posP l 0 (0 + 1) := by unfold posP; rw [rowP_zero]; rfl
theorem pos_row (l : List KA) (i : Nat) : posP l i l.length = posP l (i + 1) (i + 2) := by
  unfold posP
  rw [rowP_zero, List.append_nil, ← rowP_end, things_len]
theorem thing_at {l : List KA} {i : Nat} {a : KA} (h : l[i]? = some a) : (things l 0)[i]? = some ⟨(i : Int), a⟩ := by rw [things_get, h, Nat.zero_add]; rfl
theorem pos_yes {l : List KA} {i k n : Nat} {a b : KA} (ha : l[i]? = some a) (hb : l[k]? = some b) (h : i + 1 ≤ k) (ht : touchA a b) (hn : n = posP l i k) : (pairsT (things l 0))[n]? = some ⟨(i : Int), (k : Int)⟩ ∧ n + 1 = posP l i (k + 1) := by
  have h1 := row_at (thing_at ha) (thing_at hb) h ht hn
  have h2 : mkP ⟨(i : Int), a⟩ ⟨(k : Int), b⟩ = ⟨(i : Int), (k : Int)⟩ := by unfold mkP; congr 1 <;> simp only <;> omega
  rw [h2] at h1
  refine ⟨h1, ?_⟩
  unfold posP at *
  have ht' : touchA (⟨(i : Int), a⟩ : KT).ar (⟨(k : Int), b⟩ : KT).ar := ht
  rw [rowP_next (thing_at ha) (thing_at hb) h, if_pos ht', ← List.append_assoc, List.length_append, ← hn]; rfl
theorem pos_no {l : List KA} {i k n : Nat} {a b : KA} (ha : l[i]? = some a) (hb : l[k]? = some b) (h : i + 1 ≤ k) (ht : ¬ touchA a b) (hn : n = posP l i k) : n = posP l i (k + 1) := by
  unfold posP at *
  have ht' : ¬ touchA (⟨(i : Int), a⟩ : KT).ar (⟨(k : Int), b⟩ : KT).ar := ht
  rw [rowP_next (thing_at ha) (thing_at hb) h, if_neg ht', List.append_nil, hn]
theorem pos_end (l : List KA) : posP l l.length (l.length + 1) = (pairsT (things l 0)).length := by
  unfold posP
  rw [rowP_zero, List.append_nil, headP_drop (things l 0) l.length (by rw [things_len]; exact Nat.le_refl _), List.drop_of_length_le (by rw [things_len]; exact Nat.le_refl _)]
  show _ = (_ ++ []).length
  rw [List.append_nil]
def scaleP (m : Int) (p : KP) : KP := ⟨p.a * m, p.b * m⟩
theorem scale_mk {m : Int} (hm : 0 < m) (x y : KT) : mkP ⟨x.id * m, x.ar⟩ ⟨y.id * m, y.ar⟩ = scaleP m (mkP x y) := by
  unfold mkP scaleP
  simp only
  rcases Int.le_total x.id y.id with h | h
  · have h2 : x.id * m ≤ y.id * m := Int.mul_le_mul_of_nonneg_right h (by omega)
    rw [Int.min_eq_left h2, Int.max_eq_right h2, Int.min_eq_left h, Int.max_eq_right h]
  · have h2 : y.id * m ≤ x.id * m := Int.mul_le_mul_of_nonneg_right h (by omega)
    rw [Int.min_eq_right h2, Int.max_eq_left h2, Int.min_eq_right h, Int.max_eq_left h]
theorem pairsT_scale {m : Int} (hm : 0 < m) : ∀ l : List KT, pairsT (l.map fun t => ⟨t.id * m, t.ar⟩) = (pairsT l).map (scaleP m)
  | [] => rfl
  | x :: l => by
    show hitsT _ _ ++ pairsT _ = (hitsT x l ++ pairsT l).map _
    rw [pairsT_scale hm l, List.map_append]
    congr 1
    unfold hitsT
    rw [List.filter_map, List.map_map, List.map_map]
    exact List.map_congr_left fun y _ => scale_mk hm x y
theorem pairs_fill {l : List KA} {m : Int} (hm : 0 < m) : pairsS (fillS l m) = (pairsT (things l 0)).map (scaleP m) := by
  unfold pairsS fillS
  show sortP (pairsT (((things l 0).map fun t => (t.id * m, t.ar)).map thg)) = _
  rw [List.map_map, ← pairsT_scale hm]
  show sortP (pairsT ((things l 0).map fun t => ⟨t.id * m, t.ar⟩)) = _
  refine (sortP_eq (.refl _) (pairs_sorted _ ?_)).symm
  rw [List.pairwise_map]
  exact (things_ids l 0).imp fun {p q} h => Int.mul_lt_mul_of_pos_right h hm
theorem pairs_len {l : List KA} (hl : l.length ≤ 40) : (pairsT (things l 0)).length ≤ 1600 := by
  have h1 : ∀ (l : List KT), (pairsT l).length ≤ l.length * l.length := by
    intro l
    induction l with
    | nil => simp [pairsT]
    | cons x l ih =>
      have h2 : (hitsT x l).length ≤ l.length := by unfold hitsT; rw [List.length_map]; exact List.length_filter_le _ _
      show (hitsT x l ++ pairsT l).length ≤ (l.length + 1) * (l.length + 1)
      rw [List.length_append, Nat.add_mul, Nat.mul_add]; omega
  have h2 := h1 (things l 0)
  rw [things_len] at h2
  have h3 : l.length * l.length ≤ 40 * 40 := Nat.mul_le_mul hl hl
  omega
end Go.Brd
