/-
  Where a portal stands among the portals. Own work; plain Lean.
-/
import Derived.Test.YthncdmfogeemcaaPtMade
namespace Go.Pth
open Go.Sl Go.Brd
def headP (L : List KT) : Nat → List KP
  | 0 => []
  | i + 1 => headP L i ++ match L[i]? with | some x => hitsT x (L.drop (i + 1)) | none => []
theorem headP_drop (L : List KT) : ∀ i, i ≤ L.length → pairsT L = headP L i ++ pairsT (L.drop i)
  | 0, _ => rfl
  | i + 1, h => by
    have hi : i < L.length := by omega
    rw [headP_drop L i (by omega)]
    have hx : L[i]? = some L[i] := List.getElem?_eq_getElem hi
    rw [List.drop_eq_getElem_cons hi]
    show headP L i ++ (hitsT L[i] (L.drop (i + 1)) ++ pairsT (L.drop (i + 1))) = (headP L i ++ match L[i]? with | some x => hitsT x (L.drop (i + 1)) | none => []) ++ _
    rw [hx, List.append_assoc]
/-- the pairs of thing i with those behind it and ahead of k -/
def rowP (L : List KT) (i k : Nat) : List KP := match L[i]? with | some x => hitsT x ((L.drop (i + 1)).take (k - (i + 1))) | none => []
theorem rowP_zero (L : List KT) (i : Nat) : rowP L i (i + 1) = [] := by unfold rowP; rw [Nat.sub_self, List.take_zero]; split <;> rfl
theorem rowP_next {L : List KT} {i k : Nat} {x y : KT} (hx : L[i]? = some x) (hy : L[k]? = some y) (h : i + 1 ≤ k) : rowP L i (k + 1) = rowP L i k ++ if touchA x.ar y.ar then [mkP x y] else [] := by
  unfold rowP
  rw [hx]
  show hitsT x _ = hitsT x _ ++ _
  have e : (L.drop (i + 1)).take (k + 1 - (i + 1)) = (L.drop (i + 1)).take (k - (i + 1)) ++ [y] := by
    rw [show k + 1 - (i + 1) = (k - (i + 1)) + 1 by omega, List.take_add_one, List.getElem?_drop, show i + 1 + (k - (i + 1)) = k by omega, hy]; rfl
  rw [e, hits_append]
  congr 1
  unfold hitsT
  by_cases h : touchA x.ar y.ar <;> simp [h]
theorem rowP_end {L : List KT} {i : Nat} : headP L i ++ rowP L i L.length = headP L (i + 1) := by
  show _ = headP L i ++ match L[i]? with | some x => hitsT x (L.drop (i + 1)) | none => []
  unfold rowP
  rw [List.take_of_length_le (by rw [List.length_drop]; omega)]
/-- portals of the pairs ahead of (i, k) -/
def posQ (l : List KA) (i k : Nat) : Nat := ((headP (things l 0) i ++ rowP (things l 0) i k).filterMap (portO l)).length
theorem posQ_start (l : List KA) : 0 = posQ l 0 (0 + 1) := by unfold posQ; rw [rowP_zero]; rfl
theorem posQ_row (l : List KA) (i : Nat) : posQ l i l.length = posQ l (i + 1) (i + 1 + 1) := by
  unfold posQ
  rw [rowP_zero, List.append_nil, ← rowP_end, things_len]
theorem thing_at {l : List KA} {i : Nat} {a : KA} (h : l[i]? = some a) : (things l 0)[i]? = some ⟨(i : Int), a⟩ := by rw [things_get, h, Nat.zero_add]; rfl
theorem mk_lt {i k : Nat} {a b : KA} (h : i + 1 ≤ k) : mkP ⟨(i : Int), a⟩ ⟨(k : Int), b⟩ = ⟨(i : Int), (k : Int)⟩ := by unfold mkP; congr 1 <;> simp only <;> omega
theorem posQ_skip {l : List KA} {i k n : Nat} {a b : KA} (ha : l[i]? = some a) (hb : l[k]? = some b) (h : i + 1 ≤ k) (ht : ¬ touchA a b ∨ ((comA a b).lx = (comA a b).hx ∧ (comA a b).ly = (comA a b).hy)) (hn : n = posQ l i k) : n = posQ l i (k + 1) := by
  rw [hn]; unfold posQ
  rw [rowP_next (thing_at ha) (thing_at hb) h]
  by_cases q : touchA a b
  · rw [if_pos (show touchA (⟨(i : Int), a⟩ : KT).ar (⟨(k : Int), b⟩ : KT).ar from q), mk_lt h, ← List.append_assoc, List.filterMap_append (l := headP (things l 0) i ++ rowP (things l 0) i k) (l' := [(⟨(i : Int), (k : Int)⟩ : KP)])]
    have : [(⟨(i : Int), (k : Int)⟩ : KP)].filterMap (portO l) = [] := by
      rw [List.filterMap_cons]; unfold portO; rw [comP_of ha hb, if_pos (ht.resolve_left fun z => z q)]; rfl
    rw [this, List.append_nil]
  · rw [if_neg (show ¬ touchA (⟨(i : Int), a⟩ : KT).ar (⟨(k : Int), b⟩ : KT).ar from q), List.append_nil]
theorem pairsT_split {L : List KT} {i k : Nat} {x y : KT} (hx : L[i]? = some x) (hy : L[k]? = some y) (h : i + 1 ≤ k) (ht : touchA x.ar y.ar) : ∃ r, pairsT L = (headP L i ++ rowP L i k) ++ (mkP x y :: r) := by
  have hi := (List.getElem?_eq_some_iff.1 hx).1
  rw [headP_drop L (i + 1) (by omega), ← rowP_end]
  have e : rowP L i L.length = rowP L i (k + 1) ++ hitsT x (L.drop (k + 1)) := by
    unfold rowP
    rw [hx]
    show hitsT x _ = hitsT x _ ++ _
    rw [← hits_append]
    congr 1
    rw [List.take_of_length_le (by rw [List.length_drop]; exact Nat.le_refl _)]
    conv => lhs; rw [← List.take_append_drop (k + 1 - (i + 1)) (L.drop (i + 1))]
    rw [List.drop_drop, show i + 1 + (k + 1 - (i + 1)) = k + 1 by omega]
  rw [e, rowP_next hx hy h, if_pos ht]
  exact ⟨hitsT x (L.drop (k + 1)) ++ pairsT (L.drop (i + 1)), by simp [List.append_assoc]⟩
theorem posQ_hit {l : List KA} {i k n : Nat} {a b : KA} (ha : l[i]? = some a) (hb : l[k]? = some b) (h : i + 1 ≤ k) (ht : touchA a b) (hf : ¬ ((comA a b).lx = (comA a b).hx ∧ (comA a b).ly = (comA a b).hy)) (hn : n = posQ l i k) :
    (portL l)[n]? = some ⟨i, k, ((comA a b).lx + (comA a b).hx) / 2, ((comA a b).ly + (comA a b).hy) / 2⟩ ∧ n + 1 = posQ l i (k + 1) := by
  have hp : portO l ⟨(i : Int), (k : Int)⟩ = some ⟨i, k, ((comA a b).lx + (comA a b).hx) / 2, ((comA a b).ly + (comA a b).hy) / 2⟩ := by
    unfold portO; rw [comP_of ha hb, if_neg hf]; rfl
  refine ⟨?_, ?_⟩
  · obtain ⟨r, hr⟩ := pairsT_split (thing_at ha) (thing_at hb) h ht
    unfold portL
    rw [pairsA_eq, hr, mk_lt h, List.filterMap_append, List.filterMap_cons, hp, hn]
    unfold posQ
    rw [List.getElem?_append_right (Nat.le_refl _), Nat.sub_self]; rfl
  · rw [hn]; unfold posQ
    rw [rowP_next (thing_at ha) (thing_at hb) h, if_pos (show touchA (⟨(i : Int), a⟩ : KT).ar (⟨(k : Int), b⟩ : KT).ar from ht), mk_lt h, ← List.append_assoc, List.filterMap_append (l := headP (things l 0) i ++ rowP (things l 0) i k) (l' := [(⟨(i : Int), (k : Int)⟩ : KP)]), List.length_append]
    rw [List.filterMap_cons, hp]; rfl
theorem posQ_end (l : List KA) : posQ l l.length (l.length + 1) = (portL l).length := by
  unfold posQ portL
  rw [pairsA_eq, rowP_zero, List.append_nil, headP_drop (things l 0) l.length (by rw [things_len]; exact Nat.le_refl _), List.drop_of_length_le (by rw [things_len]; exact Nat.le_refl _)]
  show _ = ((_ ++ []).filterMap _).length
  rw [List.append_nil]
theorem com_small {a b : KA} (ha : smallA a) (hb : smallA b) : -128 ≤ (comA a b).lx ∧ (comA a b).lx ≤ 128 ∧ -128 ≤ (comA a b).ly ∧ (comA a b).ly ≤ 128 ∧ -128 ≤ (comA a b).hx ∧ (comA a b).hx ≤ 128 ∧ -128 ≤ (comA a b).hy ∧ (comA a b).hy ≤ 128 ∧ (touchA a b ↔ (comA a b).lx ≤ (comA a b).hx ∧ (comA a b).ly ≤ (comA a b).hy) := by
  unfold smallA at ha hb
  unfold comA touchA; simp only; omega
end Go.Pth
