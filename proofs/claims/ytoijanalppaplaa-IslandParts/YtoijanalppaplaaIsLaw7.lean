/-
  IslandParts in plain terms: the islands of a part. Own work; plain Lean.
-/
import Derived.Test.YtoijanalppaplaaIsLaw6
namespace Go.Isl
open Go.Sl Go.Brd Go.Stp Go.Proofs
theorem partB_free {ids : List Int} {bs : List KB} : freeB (partB ids bs) = (freeB bs).filter fun b => decide (b.id ∈ ids) := by
  unfold freeB partB; rw [List.filter_filter, List.filter_filter]
  refine List.filter_congr fun b _ => ?_
  cases b.fixed <;> simp
theorem free_at {bs : List KB} {y : Int} (ho : ordB bs) (h : y ∈ (freeB bs).map (·.id)) : freeAt bs y := by
  obtain ⟨b, hb, rfl⟩ := List.mem_map.1 h
  obtain ⟨h1, h2⟩ := List.mem_filter.1 hb
  have hf := found_of h1
  obtain ⟨c, hc, e⟩ := lb_in ho hf
  refine ⟨hf, c, hc, ?_⟩
  obtain ⟨i, hi⟩ := List.getElem?_of_mem h1
  have := idAt_inj ho (List.getElem?_eq_some_iff.1 hc).1 (List.getElem?_eq_some_iff.1 hi).1 (by rw [idAt_eq hc, idAt_eq hi, e])
  rw [this, hi] at hc
  rw [← Option.some.inj hc]; simpa using h2
theorem part_okS {bs : List KB} {R : List KR} {gx gy : Int} (h : okS bs R gx gy) (ids : List Int) : okS (partB ids bs) (partR (partB ids bs) R) gx gy := by
  obtain ⟨h1, h2, h3, h4, h5, h6⟩ := h
  refine ⟨Nat.le_trans (partB_len _ _) h1, Nat.le_trans (partR_len _ _) h2, h3, fun b hb => h4 b (List.mem_filter.1 hb).1, pair_ordB ((ordB_pair h5).filter _), fun r hr => ?_⟩
  obtain ⟨hr1, hr2⟩ := List.mem_filter.1 hr
  rw [Bool.and_eq_true] at hr2
  obtain ⟨g1, g2, g3⟩ := h6 r hr1
  exact ⟨hr2.1, hr2.2, g3⟩
theorem part_ids {ids : List Int} {fb : List KB} {y : Int} : y ∈ (fb.filter fun b => decide (b.id ∈ ids)).map (·.id) ↔ y ∈ fb.map (·.id) ∧ y ∈ ids := by
  rw [List.mem_map, List.mem_map]
  constructor
  · rintro ⟨b, hb, rfl⟩
    obtain ⟨h1, h2⟩ := List.mem_filter.1 hb
    exact ⟨⟨b, h1, rfl⟩, of_decide_eq_true h2⟩
  · rintro ⟨⟨b, hb, rfl⟩, h⟩
    exact ⟨b, List.mem_filter.2 ⟨hb, decide_eq_true h⟩, rfl⟩
theorem lk_part {bs : List KB} {R : List KR} {gx gy y z : Int} {ids : List Int} : LkI (freeB (partB ids bs)) (partR (partB ids bs) R) gx gy y z ↔ LkI (freeB bs) R gx gy y z ∧ y ∈ ids ∧ z ∈ ids := by
  rw [partB_free]
  constructor
  · rintro ⟨h1, a, ha, b, hb, e1, e2, h⟩
    obtain ⟨ha1, ha2⟩ := List.mem_filter.1 ha
    obtain ⟨hb1, hb2⟩ := List.mem_filter.1 hb
    refine ⟨⟨h1, a, ha1, b, hb1, e1, e2, h.imp id fun ⟨r, hr, q⟩ => ⟨r, (List.mem_filter.1 hr).1, q⟩⟩, ?_, ?_⟩
    · rw [← e1]; exact of_decide_eq_true ha2
    · rw [← e2]; exact of_decide_eq_true hb2
  · rintro ⟨⟨h1, a, ha, b, hb, e1, e2, h⟩, hy, hz⟩
    refine ⟨h1, a, List.mem_filter.2 ⟨ha, decide_eq_true (by rw [e1]; exact hy)⟩, b, List.mem_filter.2 ⟨hb, decide_eq_true (by rw [e2]; exact hz)⟩, e1, e2, h.imp id fun ⟨r, hr, q⟩ => ⟨r, List.mem_filter.2 ⟨hr, ?_⟩, q⟩⟩
    have pa : a ∈ partB ids bs := List.mem_filter.2 ⟨(List.mem_filter.1 ha).1, by rw [e1]; simp [hy]⟩
    have pb : b ∈ partB ids bs := List.mem_filter.2 ⟨(List.mem_filter.1 hb).1, by rw [e2]; simp [hz]⟩
    have fa := found_of pa
    have fb := found_of pb
    rw [e1] at fa; rw [e2] at fb
    rw [Bool.and_eq_true]
    rcases q with ⟨q1, q2⟩ | ⟨q1, q2⟩
    · rw [q1, q2]; exact ⟨fa, fb⟩
    · rw [q1, q2]; exact ⟨fb, fa⟩
/-- the islands of the part that some islands are -/
theorem part_isl {bs : List KB} {R : List KR} {gx gy : Int} {xl xs pl : List (List Int)} (h : IsS (freeB bs) R gx gy xl) (hs : xs.Sublist xl) (hp : IsS (freeB (partB xs.flatten bs)) (partR (partB xs.flatten bs) R) gx gy pl) : pl = xs := by
  refine lists_ext hp.heads (h.heads.sublist hs) fun r => ?_
  -- a list of xs is the island of each of its own
  have cls : ∀ q ∈ xs, ∀ x ∈ q, x ∈ (freeB bs).map (·.id) ∧ q = clsI (freeB bs) R gx gy x := fun q hq x hx => by
    obtain ⟨i, hi⟩ := List.getElem?_of_mem (hs.subset hq)
    obtain ⟨h1, h2, _⟩ := h.at_ hi hx
    exact ⟨h1, h2⟩
  have same : ∀ q ∈ xs, ∀ x ∈ q, x ∈ (freeB (partB xs.flatten bs)).map (·.id) ∧ clsI (freeB (partB xs.flatten bs)) (partR (partB xs.flatten bs) R) gx gy x = q := fun q hq x hx => by
    obtain ⟨h1, h2⟩ := cls q hq x hx
    have hxp : x ∈ (freeB (partB xs.flatten bs)).map (·.id) := by rw [partB_free, part_ids]; exact ⟨h1, List.mem_flatten.2 ⟨q, hq, hx⟩⟩
    refine ⟨hxp, ?_⟩
    have e : clsI (freeB bs) R gx gy x = clsI (freeB (partB xs.flatten bs)) (partR (partB xs.flatten bs) R) gx gy x := cls_same h.ord hp.ord h1 hxp fun y z hy => by
      rw [lk_part]
      have inq : ∀ y, CnI (LkI (freeB bs) R gx gy) x y → y ∈ xs.flatten := fun y hy => List.mem_flatten.2 ⟨q, hq, by rw [h2]; exact (cls_mem h1).2 hy⟩
      exact ⟨fun g => ⟨g, inq y hy, inq z (hy.step g)⟩, fun g => g.1⟩
    rw [← e, ← h2]
  rw [hp.mem]
  constructor
  · rintro ⟨x, hx, rfl⟩
    rw [partB_free, part_ids] at hx
    obtain ⟨q, hq, hxq⟩ := List.mem_flatten.1 hx.2
    rw [(same q hq x hxq).2]; exact hq
  · intro hr
    obtain ⟨i, hi⟩ := List.getElem?_of_mem (hs.subset hr)
    have hl := h.first hi
    have hx : r[0] ∈ r := List.getElem_mem hl
    exact ⟨r[0], (same r hr _ hx).1, (same r hr _ hx).2.symm⟩
theorem part_one {bs : List KB} {R : List KR} {gx gy : Int} {xl pl : List (List Int)} {k : Nat} {r : List Int} (h : IsS (freeB bs) R gx gy xl) (hr : xl[k]? = some r) (hp : IsS (freeB (partB r bs)) (partR (partB r bs) R) gx gy pl) : pl = [r] := by
  have e : [r].flatten = r := by simp
  refine part_isl h (xs := [r]) (List.singleton_sublist.2 (List.mem_of_getElem? hr)) ?_
  rw [e]; exact hp
/-! islands that are chosen by bits -/
def bitAt (bits i : Nat) : Prop := bits / 2 ^ min i 16 % 2 = 1
instance (bits i : Nat) : Decidable (bitAt bits i) := by unfold bitAt; infer_instance
def pickX (bits : Nat) : Nat → List (List Int) → List (List Int)
  | _, [] => []
  | i, r :: l => if bitAt bits i then r :: pickX bits (i + 1) l else pickX bits (i + 1) l
theorem pick_sub (bits : Nat) : ∀ (i : Nat) (l : List (List Int)), (pickX bits i l).Sublist l
  | _, [] => List.Sublist.slnil
  | i, r :: l => by
    unfold pickX
    split
    · exact (pick_sub bits (i + 1) l).cons_cons r
    · exact (pick_sub bits (i + 1) l).cons r
theorem pick_snoc (bits : Nat) (r : List Int) : ∀ (i : Nat) (l : List (List Int)), pickX bits i (l ++ [r]) = pickX bits i l ++ if bitAt bits (i + l.length) then [r] else []
  | i, [] => by show (if bitAt bits i then r :: pickX bits (i + 1) [] else pickX bits (i + 1) []) = _; simp [pickX]
  | i, q :: l => by
    show (if bitAt bits i then q :: pickX bits (i + 1) (l ++ [r]) else pickX bits (i + 1) (l ++ [r])) = (if bitAt bits i then q :: pickX bits (i + 1) l else pickX bits (i + 1) l) ++ _
    rw [pick_snoc bits r (i + 1) l, List.length_cons, show i + 1 + l.length = i + (l.length + 1) by omega]
    split <;> rfl
theorem pick_yes {bits k : Nat} {xl : List (List Int)} {r : List Int} (h : xl[k]? = some r) (hb : bitAt bits k) : pickX bits 0 (xl.take (k + 1)) = pickX bits 0 (xl.take k) ++ [r] := by
  have hl := (List.getElem?_eq_some_iff.1 h).1
  rw [List.take_add_one, h, Option.toList_some, pick_snoc, List.length_take, Nat.min_eq_left (by omega), Nat.zero_add, if_pos hb]
theorem pick_no {bits k : Nat} {xl : List (List Int)} {r : List Int} (h : xl[k]? = some r) (hb : ¬ bitAt bits k) : pickX bits 0 (xl.take (k + 1)) = pickX bits 0 (xl.take k) := by
  have hl := (List.getElem?_eq_some_iff.1 h).1
  rw [List.take_add_one, h, Option.toList_some, pick_snoc, List.length_take, Nat.min_eq_left (by omega), Nat.zero_add, if_neg hb, List.append_nil]
theorem flat_le {xs ys : List (List Int)} (h : xs.Sublist ys) : xs.flatten.length ≤ ys.flatten.length := by
  induction h with
  | slnil => exact Nat.le_refl _
  | cons a _ ih => rw [List.flatten_cons, List.length_append]; omega
  | cons_cons a _ ih => rw [List.flatten_cons, List.flatten_cons, List.length_append, List.length_append]; omega
theorem IsS.flat {fb : List KB} {R : List KR} {gx gy : Int} {xl : List (List Int)} (h : IsS fb R gx gy xl) : xl.flatten.length = fb.length := by
  have := (class_flat (E := linkE fb R gx gy) linkE_symm fb.length).length_eq
  rw [h.eq, List.length_flatten]; unfold listsC
  rw [List.length_flatten, List.length_range] at this
  rw [List.map_map]
  have e : (List.length ∘ fun c : List Nat => List.map (idAt fb) c) = List.length := funext fun c => List.length_map _
  rw [e]; exact this
/-- how many numbers a choice has at most -/
theorem pick_flat {bits : Nat} {bs : List KB} {R : List KR} {gx gy : Int} {xl : List (List Int)} (h : IsS (freeB bs) R gx gy xl) (k : Nat) : (pickX bits 0 (xl.take k)).flatten.length ≤ (freeB bs).length := by
  rw [← h.flat]
  exact flat_le ((pick_sub bits 0 (xl.take k)).trans (List.take_sublist k xl))
theorem pick_free {bits k : Nat} {bs : List KB} {R : List KR} {gx gy : Int} {xl : List (List Int)} (h : IsS (freeB bs) R gx gy xl) (hP : MadeP bs R gx gy) : ∀ y ∈ (pickX bits 0 (xl.take k)).flatten, freeAt bs y := fun y hy => by
  obtain ⟨q, hq, hyq⟩ := List.mem_flatten.1 hy
  obtain ⟨i, hi⟩ := List.getElem?_of_mem ((pick_sub bits 0 (xl.take k)).trans (List.take_sublist k xl) |>.subset hq)
  exact free_at hP.ok.2.2.2.2.1 (h.at_ hi hyq).1
theorem row_free {k : Nat} {r : List Int} {bs : List KB} {R : List KR} {gx gy : Int} {xl : List (List Int)} (h : IsS (freeB bs) R gx gy xl) (hP : MadeP bs R gx gy) (hi : xl[k]? = some r) : ∀ y ∈ r, freeAt bs y := fun _ hy => free_at hP.ok.2.2.2.2.1 (h.at_ hi hy).1
theorem row_len {k : Nat} {r : List Int} {bs : List KB} {R : List KR} {gx gy : Int} {xl : List (List Int)} (h : IsS (freeB bs) R gx gy xl) (hi : xl[k]? = some r) : r.length ≤ (freeB bs).length := by
  have hr : [r].Sublist xl := List.singleton_sublist.2 (List.mem_of_getElem? hi)
  have := flat_le hr
  rw [List.flatten_cons, List.flatten_nil, List.append_nil, h.flat] at this
  exact this
/-- what is placed is in a list -/
theorem placed_in {xs : List (List Int)} {x : Int} : 0 ≤ placeI xs x ↔ x ∈ xs.flatten := by
  rw [List.mem_flatten]
  constructor
  · intro h
    refine Classical.byContradiction fun hn => ?_
    have := place_none (xss := xs) (x := x) fun r hr hx => hn ⟨r, hr, hx⟩
    omega
  · rintro ⟨r, hr, hx⟩
    unfold placeI
    rcases idxI_nat (fun r => decide (x ∈ r)) xs with h | ⟨k, h⟩
    · exfalso
      unfold idxI at h
      split at h
      · omega
      · rename_i hno
        rw [List.findIdx?_eq_none_iff] at hno
        have := hno r hr
        simp [hx] at this
    · rw [h]; omega
theorem part_at {ids : List Int} {bs : List KB} {k : Nat} {b : KB} (hb : bs[k]? = some b) (h : b.fixed = true ∨ b.id ∈ ids) : (partB ids bs)[(partB ids (bs.take k)).length]? = some b := by
  obtain ⟨h1, h2⟩ := List.getElem?_eq_some_iff.1 hb
  have h3 : bs.drop k = b :: bs.drop (k + 1) := by rw [List.drop_eq_getElem_cons h1, h2]
  have h4 : partB ids bs = partB ids (bs.take k) ++ b :: partB ids (bs.drop (k + 1)) := by
    have e : partB ids bs = partB ids (bs.take k ++ bs.drop k) := by rw [List.take_append_drop]
    rw [e]
    unfold partB
    rw [List.filter_append, h3, List.filter_cons, if_pos (by simpa using h)]
  rw [h4, List.getElem?_append_right (Nat.le_refl _), Nat.sub_self]; rfl
end Go.Isl
