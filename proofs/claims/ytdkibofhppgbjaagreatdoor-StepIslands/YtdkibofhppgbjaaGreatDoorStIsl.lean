/-
  Own work; plain Lean (IsLaw6, IsLaw7, IsCp, IsPt, StIsl).
-/
import Derived.Test.YtdkibofhppgbjaaGreatDoorIsId
import Derived.Test.YtdkibofhppgbjaaGreatDoorBrDef
namespace Go.Isl
open Go.Sl Go.Brd Go.Stp Go.Proofs
theorem found_of {bs : List KB} {b : KB} (h : b ∈ bs) : (findB bs b.id).isSome = true := by
  unfold findB; rw [List.find?_isSome]; exact ⟨b, h, by simp⟩
theorem alike {fb : List KB} {R : List KR} {gx gy p q : Int} {xl : List (List Int)} (h : IsS fb R gx gy xl) (hp : p ∈ fb.map (·.id)) (hq : q ∈ fb.map (·.id)) : placeI xl p = placeI xl q ↔ CnI (LkI fb R gx gy) p q := by
  obtain ⟨k, hk, hk2⟩ := h.place hp
  obtain ⟨l, hl, hl2⟩ := h.place hq
  constructor
  · intro e
    have : k = l := by omega
    subst this
    rw [hk2] at hl2
    have e2 := Option.some.inj hl2
    exact (cls_mem hp).1 (by rw [e2]; exact cls_self hq)
  · intro c
    have := (h.at_ hk2 ((cls_mem hp).2 c)).2.2
    rw [hk, this]
/-! a link more joins two classes -/
end Go.Isl

namespace Go.Isl
open Go.Sl Go.Brd Go.Stp Go.Proofs
theorem free_at {bs : List KB} {y : Int} (ho : ordB bs) (h : y ∈ (freeB bs).map (·.id)) : freeAt bs y := by
  obtain ⟨b, hb, rfl⟩ := List.mem_map.1 h
  obtain ⟨h1, h2⟩ := List.mem_filter.1 hb
  have hf := found_of h1
  obtain ⟨c, hc, e⟩ := lb_in ho hf
  refine ⟨hf, c, hc, ?_⟩
  obtain ⟨i, hi⟩ := List.getElem?_of_mem h1
  have := idAt_inj ho (List.getElem?_eq_some_iff.1 hc).1 (List.getElem?_eq_some_iff.1 hi).1 (by rw [idAt_eq hc, idAt_eq hi, e])
  rw [this, hi] at hc
  rw [← Option.some.inj hc]; simpa using h2
theorem part_okS {bs : List KB} {R : List KR} {gx gy : Int} (h : okS bs R gx gy) (ids : List Int) : okS (partB ids bs) (partR (partB ids bs) R) gx gy := by
  obtain ⟨h1, h2, h3, h4, h5, h6⟩ := h
  refine ⟨Nat.le_trans (partB_len _ _) h1, Nat.le_trans (partR_len _ _) h2, h3, fun b hb => h4 b (List.mem_filter.1 hb).1, pair_ordB ((ordB_pair h5).filter _), fun r hr => ?_⟩
  obtain ⟨hr1, hr2⟩ := List.mem_filter.1 hr
  rw [Bool.and_eq_true] at hr2
  obtain ⟨g1, g2, g3⟩ := h6 r hr1
  exact ⟨hr2.1, hr2.2, g3⟩
/-! islands that are chosen by bits -/
def bitAt (bits i : Nat) : Prop := bits / 2 ^ min i 16 % 2 = 1
instance (bits i : Nat) : Decidable (bitAt bits i) := by unfold bitAt; infer_instance
theorem flat_le {xs ys : List (List Int)} (h : xs.Sublist ys) : xs.flatten.length ≤ ys.flatten.length := by
  induction h with
  | slnil => exact Nat.le_refl _
  | cons a _ ih => rw [List.flatten_cons, List.length_append]; omega
  | cons_cons a _ ih => rw [List.flatten_cons, List.flatten_cons, List.length_append, List.length_append]; omega
theorem IsS.flat {fb : List KB} {R : List KR} {gx gy : Int} {xl : List (List Int)} (h : IsS fb R gx gy xl) : xl.flatten.length = fb.length := by
  have := (class_flat (E := linkE fb R gx gy) linkE_symm fb.length).length_eq
  rw [h.eq, List.length_flatten]; unfold listsC
  rw [List.length_flatten, List.length_range] at this
  rw [List.map_map]
  have e : (List.length ∘ fun c : List Nat => List.map (idAt fb) c) = List.length := funext fun c => List.length_map _
  rw [e]; exact this
theorem row_len {k : Nat} {r : List Int} {bs : List KB} {R : List KR} {gx gy : Int} {xl : List (List Int)} (h : IsS (freeB bs) R gx gy xl) (hi : xl[k]? = some r) : r.length ≤ (freeB bs).length := by
  have hr : [r].Sublist xl := List.singleton_sublist.2 (List.mem_of_getElem? hi)
  have := flat_le hr
  rw [List.flatten_cons, List.flatten_nil, List.append_nil, h.flat] at this
  exact this
end Go.Isl

namespace Go.Proofs
open Go Go.Sl Go.Brd Go.Stp Go.Isl
section
variable (β : Base) (w : World) (hw : St β [] w) (v u l : Value) (gx gy : Int) (bs : List KB) (rs : List KR) (ids : List Int) (hs_ : Sl KBR β.heap v bs) (hr_ : Sl KRR β.heap u rs) (hi_ : Sl IntF.R β.heap l ids) (hgx : -9223372036854775808 ≤ gx ∧ gx ≤ 9223372036854775807) (hgy : -9223372036854775808 ≤ gy ∧ gy ≤ 9223372036854775807)
include hw hs_ hr_ hgx hgy
include hi_ in
end
theorem uy95 : cfB Tryz.prog 52 = true := by kernel_rfl
theorem uy96 : cfB Tryz.prog 53 = true := by kernel_rfl
theorem copyBd_ok (β : Base) (w : World) (hw : St β [] w) (v : Value) (xs : List KB) (hs : Sl KBR β.heap v xs) (hn : xs.length ≤ 1048576) : Calls Tryz.prog 52 #[v] w fun r w' => ∃ p c, r = .returned (.slice p xs.length c) ∧ St β [rowF BodyF 52 p c xs] w' := by
  obtain ⟨va, vc, rfl, vl, vm, ve⟩ := hs.get
  refine enter (n := 7) Tryz.func52 rfl Tryz.ntmps52 rfl ?_ hw
  refine c_seq ?_
  refine c_region ?_
  refine l_val (v := .slice none 0 0) rfl rfl rfl (e_assign) ?_
  refine l_nil ?_
  refine f_then ?_
  refine c_seq ?_
  refine c_region ?_
  refine l_val (v := .slice none 0 0) rfl rfl rfl (e_assign) ?_
  refine l_nil ?_
  refine f_then ?_
  refine c_seq ?_
  refine c_emp (r := rowF BodyF 52 none 0 []) (row_nil _ _ _) ?_
  refine c_region ?_
  refine l_val (v := .slice none (0) 0) rfl rfl rfl (e_move) ?_
  refine l_val (v := .slice va (xs.length) (vc)) rfl rfl rfl (e_move) ?_
  refine l_mv rfl rfl rfl (m_appendFlN (F := BodyF) 0 uz16 uz70 (p := none) (m := 0) (xs := []) (ys := xs) (ao := va) (k := xs.length) (c := vc) rfl rfl rfl rfl rfl (Knows.of_base (Elems.mono _ _ _) ve) (by first | omega | simp only [List.length_nil, List.length_cons, List.length_append, List.length_set]; omega) (by first | omega | simp only [List.length_nil, List.length_cons, List.length_append, List.length_set]; omega)) ?_
  rintro _ _ ⟨rp1, rc2, rfl, rfl⟩
  refine l_val (v := .slice rp1 (xs.length) rc2) rfl rfl rfl (e_assign) ?_
  refine l_nil ?_
  refine f_then ?_
  refine c_ret ?_
  refine ret1 Tryz.results52 (v := .slice rp1 (xs.length) rc2) rfl ?_
  intro w hw
  exact ⟨rp1, rc2, rfl, st_mask [true] rfl hw⟩
theorem copyRp_ok (β : Base) (w : World) (hw : St β [] w) (v : Value) (xs : List KR) (hs : Sl KRR β.heap v xs) (hn : xs.length ≤ 1048576) : Calls Tryz.prog 53 #[v] w fun r w' => ∃ p c, r = .returned (.slice p xs.length c) ∧ St β [rowF RopeF 78 p c xs] w' := by
  obtain ⟨va, vc, rfl, vl, vm, ve⟩ := hs.get
  refine enter (n := 7) Tryz.func53 rfl Tryz.ntmps53 rfl ?_ hw
  refine c_seq ?_
  refine c_region ?_
  refine l_val (v := .slice none 0 0) rfl rfl rfl (e_assign) ?_
  refine l_nil ?_
  refine f_then ?_
  refine c_seq ?_
  refine c_region ?_
  refine l_val (v := .slice none 0 0) rfl rfl rfl (e_assign) ?_
  refine l_nil ?_
  refine f_then ?_
  refine c_seq ?_
  refine c_emp (r := rowF RopeF 78 none 0 []) (row_nil _ _ _) ?_
  refine c_region ?_
  refine l_val (v := .slice none (0) 0) rfl rfl rfl (e_move) ?_
  refine l_val (v := .slice va (xs.length) (vc)) rfl rfl rfl (e_move) ?_
  refine l_mv rfl rfl rfl (m_appendFlN (F := RopeF) 0 uz55 uz72 (p := none) (m := 0) (xs := []) (ys := xs) (ao := va) (k := xs.length) (c := vc) rfl rfl rfl rfl rfl (Knows.of_base (Elems.mono _ _ _) ve) (by first | omega | simp only [List.length_nil, List.length_cons, List.length_append, List.length_set]; omega) (by first | omega | simp only [List.length_nil, List.length_cons, List.length_append, List.length_set]; omega)) ?_
  rintro _ _ ⟨rp1, rc2, rfl, rfl⟩
  refine l_val (v := .slice rp1 (xs.length) rc2) rfl rfl rfl (e_assign) ?_
  refine l_nil ?_
  refine f_then ?_
  refine c_ret ?_
  refine ret1 Tryz.results53 (v := .slice rp1 (xs.length) rc2) rfl ?_
  intro w hw
  exact ⟨rp1, rc2, rfl, st_mask [true] rfl hw⟩
theorem copyS_ok (β : Base) (w : World) (hw : St β [] w) (v u : Value) (gx gy : Int) (bs : List KB) (rs : List KR) (hs_ : Sl KBR β.heap v bs) (hr_ : Sl KRR β.heap u rs) (hn : bs.length ≤ 1048576) (hm : rs.length ≤ 1048576) : Calls Tryz.prog 11 #[.agg #[v, u, Ix gx, Ix gy]] w fun r w' => ∃ p c q d, r = .returned (.agg #[.slice p bs.length c, .slice q rs.length d, Ix gx, Ix gy]) ∧ St β [rowF BodyF 52 p c bs, rowF RopeF 78 q d rs] w' := by
  obtain ⟨va, vc, rfl, vl, vm, ve⟩ := hs_.get
  obtain ⟨ua, uc, rfl, ul, um, ue⟩ := hr_.get
  refine enter (n := 12) Tryz.func11 rfl Tryz.ntmps11 rfl ?_ hw
  refine c_seq ?_
  refine c_region ?_
  refine l_mv rfl rfl rfl (m_box (v := .agg #[.slice va (bs.length) (vc), .slice ua (rs.length) (uc), Ix (gx), Ix (gy)]) rfl) ?_
  rintro _ _ ⟨b1, rfl, rfl⟩
  refine l_mv rfl rfl rfl (m_alloc uz67) ?_
  rintro _ _ ⟨b2, rfl, rfl⟩
  refine l_nil ?_
  refine f_then ?_
  refine c_seq ?_
  refine c_region ?_
  refine l_val (v := .pointer (some ⟨b1, 0, none⟩)) rfl rfl rfl (e_fieldPt (b := b1) (o := 0) rfl uz33) ?_
  refine l_val (v := .slice va (bs.length) (vc)) rfl rfl rfl (e_load1 uz26 (v := .slice va (bs.length) (vc)) rfl (k_pt 1 (cs := #[.slice va (bs.length) (vc), .slice ua (rs.length) (uc), Ix (gx), Ix (gy)]) (vs := [.slice va (bs.length) (vc)]) rfl rfl)) ?_
  refine l_call rfl rfl rfl (cl_value (fst := []) (cap := []) (vs := [.slice va (bs.length) (vc)]) (all := [.slice va (bs.length) (vc)]) uy95 rfl rfl rfl) ?_
  intro w hw
  obtain ⟨β1, sb, kn, hw1, back⟩ := St.frame_all hw
  refine (copyBd_ok β1 w hw1 _ bs (Sl.mono _ _ _ _ _ sb (⟨⟨_, _, rfl, vl, vm, ve⟩⟩ : Sl KBR _ _ bs)) (by omega)).mono ?_
  rintro e w' ⟨p3, c4, rfl, hw'⟩
  refine ⟨_, rfl, _, back _ _ hw', ?_⟩
  clear hw hw1 hw' back kn sb
  refine l_val (v := .pointer (some ⟨b1, 0, none⟩)) rfl rfl rfl (e_fieldPt (b := b1) (o := 0) rfl uz33) ?_
  refine l_mu rfl rfl (m_store 2 uz26 (b := b1) (o := 0) (T := 30) (cs := #[.slice va (bs.length) (vc), .slice ua (rs.length) (uc), Ix (gx), Ix (gy)]) (cs' := #[.slice p3 (bs.length) c4, .slice ua (rs.length) (uc), Ix (gx), Ix (gy)]) (v := .slice p3 (bs.length) c4) rfl rfl rfl rfl rfl rfl rfl) ?_
  refine l_nil ?_
  refine f_then ?_
  refine c_seq ?_
  refine c_region ?_
  refine l_val (v := .pointer (some ⟨b1, 1, none⟩)) rfl rfl rfl (e_fieldPt (b := b1) (o := 0) rfl uz52) ?_
  refine l_val (v := .slice ua (rs.length) (uc)) rfl rfl rfl (e_load1 uz53 (v := .slice ua (rs.length) (uc)) rfl (k_pt 2 (cs := #[.slice p3 (bs.length) c4, .slice ua (rs.length) (uc), Ix (gx), Ix (gy)]) (vs := [.slice ua (rs.length) (uc)]) rfl rfl)) ?_
  refine l_call rfl rfl rfl (cl_value (fst := []) (cap := []) (vs := [.slice ua (rs.length) (uc)]) (all := [.slice ua (rs.length) (uc)]) uy96 rfl rfl rfl) ?_
  intro w hw
  obtain ⟨β1, sb, kn, hw1, back⟩ := St.frame_all hw
  refine (copyRp_ok β1 w hw1 _ rs (Sl.mono _ _ _ _ _ sb (⟨⟨_, _, rfl, ul, um, ue⟩⟩ : Sl KRR _ _ rs)) (by omega)).mono ?_
  rintro e w' ⟨p5, c6, rfl, hw'⟩
  refine ⟨_, rfl, _, back _ _ hw', ?_⟩
  clear hw hw1 hw' back kn sb
  refine l_val (v := .pointer (some ⟨b1, 1, none⟩)) rfl rfl rfl (e_fieldPt (b := b1) (o := 0) rfl uz52) ?_
  refine l_mu rfl rfl (m_store 3 uz53 (b := b1) (o := 1) (T := 30) (cs := #[.slice p3 (bs.length) c4, .slice ua (rs.length) (uc), Ix (gx), Ix (gy)]) (cs' := #[.slice p3 (bs.length) c4, .slice p5 (rs.length) c6, Ix (gx), Ix (gy)]) (v := .slice p5 (rs.length) c6) rfl rfl rfl rfl rfl rfl rfl) ?_
  refine l_nil ?_
  refine f_then ?_
  refine c_seq ?_
  refine c_region ?_
  refine l_val (v := .agg #[.slice p3 (bs.length) c4, .slice p5 (rs.length) c6, Ix (gx), Ix (gy)]) rfl rfl rfl (e_load uz31 (cs := [.slice p3 (bs.length) c4, .slice p5 (rs.length) c6, Ix (gx), Ix (gy)]) rfl (k_pt 3 (cs := #[.slice p3 (bs.length) c4, .slice p5 (rs.length) c6, Ix (gx), Ix (gy)]) (vs := [.slice p3 (bs.length) c4, .slice p5 (rs.length) c6, Ix (gx), Ix (gy)]) rfl rfl) rfl) ?_
  refine l_mu rfl rfl (m_store 2 uz31 (b := b2) (o := 0) (T := 30) (cs := #[.slice none 0 0, .slice none 0 0, .int .i64 (0), .int .i64 (0)]) (cs' := #[.slice p3 (bs.length) c4, .slice p5 (rs.length) c6, Ix (gx), Ix (gy)]) (v := .agg #[.slice p3 (bs.length) c4, .slice p5 (rs.length) c6, Ix (gx), Ix (gy)]) rfl rfl rfl rfl rfl rfl rfl) ?_
  refine l_nil ?_
  refine f_then ?_
  refine c_ret ?_
  refine retG (l := [.cell 2 30]) (m := [.agg #[.slice p3 (bs.length) c4, .slice p5 (rs.length) c6, Ix (gx), Ix (gy)]]) (v := .agg #[.slice p3 (bs.length) c4, .slice p5 (rs.length) c6, Ix (gx), Ix (gy)]) Tryz.results11 ⟨rd_cell uz31 (cs := [.slice p3 (bs.length) c4, .slice p5 (rs.length) c6, Ix (gx), Ix (gy)]) rfl (k_pt 2 (cs := #[.slice p3 (bs.length) c4, .slice p5 (rs.length) c6, Ix (gx), Ix (gy)]) (vs := [.slice p3 (bs.length) c4, .slice p5 (rs.length) c6, Ix (gx), Ix (gy)]) rfl rfl) rfl, trivial⟩ rfl ?_
  intro w hw
  replace hw := hw.perm (L' := [rowF BodyF 52 p3 c4 bs, rowF RopeF 78 p5 c6 rs, pt b2 (.cells #[.slice p3 (bs.length) c4, .slice p5 (rs.length) c6, Ix (gx), Ix (gy)] 30), pt b1 (.cells #[.slice p3 (bs.length) c4, .slice p5 (rs.length) c6, Ix (gx), Ix (gy)] 30)]) (by exact (perm_ix [1, 0, 2, 3] 4 rfl (by kernel_rfl) (by kernel_rfl)))
  exact ⟨p3, c4, p5, c6, rfl, st_mask [true, true, false, false] rfl hw⟩
end Go.Proofs

namespace Go.Isl
open Go.Sl Go.Brd Go.Stp Go.Proofs
theorem IsS.heads_len {fb : List KB} {rs : List KR} {gx gy : Int} {xl : List (List Int)} (h : IsS fb rs gx gy xl) : xl.length ≤ fb.length := by
  rw [h.eq]; unfold listsC classes firsts
  rw [List.length_map, List.length_map]
  exact Nat.le_trans (List.length_filter_le _ _) (by rw [List.length_range]; exact Nat.le_refl _)
end Go.Isl
namespace Go.Proofs
open Go Go.Sl Go.Brd Go.Stp Go.Isl
theorem partO_ok (β : Base) (w : World) (hw : St β [] w) (v u l : Value) (gx gy : Int) (bs : List KB) (rs : List KR) (ids : List Int) (hs_ : Sl KBR β.heap v bs) (hr_ : Sl KRR β.heap u rs) (hi_ : Sl IntF.R β.heap l ids) (hgx : -9223372036854775808 ≤ gx ∧ gx ≤ 9223372036854775807) (hgy : -9223372036854775808 ≤ gy ∧ gy ≤ 9223372036854775807) (hok : okS bs rs gx gy) (hf : ∀ x ∈ ids, freeAt bs x) : Calls Tryz.prog 12 #[.agg #[v, u, Ix gx, Ix gy], l] w fun r w' => ∃ p c q d, r = .returned (.tuple #[.agg #[.slice p (partB ids bs).length c, .slice q (partR (partB ids bs) rs).length d, Ix gx, Ix gy], Ix 0]) ∧ St β [rowF BodyF 52 p c (partB ids bs), rowF RopeF 78 q d (partR (partB ids bs) rs)] w' :=
  (part_ok β w hw v u l gx gy bs rs ids hs_ hr_ hi_ hgx hgy).mono fun r w' ⟨p, c, q, d, h1, h2⟩ => by
    have he := errPt_ok hok hf
    obtain ⟨e1, e2, e3⟩ := pt_good he
    rw [e1, e2, e3, e3, he] at h1
    rw [e1, e2] at h2
    exact ⟨p, c, q, d, h1, h2⟩
theorem islO_ok (β : Base) (w : World) (hw : St β [] w) (v u : Value) (gx gy : Int) (bs : List KB) (rs : List KR) (hs_ : Sl KBR β.heap v bs) (hr_ : Sl KRR β.heap u rs) (hgx : -9223372036854775808 ≤ gx ∧ gx ≤ 9223372036854775807) (hgy : -9223372036854775808 ≤ gy ∧ gy ≤ 9223372036854775807) (hok : okS bs rs gx gy) : Calls Tryz.prog 10 #[.agg #[v, u, Ix gx, Ix gy]] w fun r w' => ∃ p c hs, hs.map (·.xs) = islR bs rs gx gy ∧ r = .returned (.tuple #[.slice p hs.length c, Ix 0]) ∧ St β [Sat (llL p c hs)] w' :=
  (islandsM_ok β w hw v u gx gy bs rs hs_ hr_ hgx hgy).mono fun r w' ⟨p, c, hs, h1, h2, h3⟩ => by
    rw [show errI bs rs gx gy = 0 from if_pos hok] at h2
    exact ⟨p, c, hs, h1, h2, h3⟩
end Go.Proofs

namespace Go.Isl
open Go.Sl Go.Brd Go.Stp Go.Proofs
theorem meets_touch {a b : KB} {gx gy : Int} (ha : okB a) (hb : okB b) (hv : okV gx gy) (h : meets (reachB gx gy a) (reachB gx gy b)) : touchA (reachA a gx gy) (reachA b gx gy) := by
  unfold reachA
  rw [if_pos ⟨ha, hv⟩, if_pos ⟨hb, hv⟩]
  exact h.elim fun h1 h2 => ⟨h1, h2.1, h2.2.1, h2.2.2⟩
theorem sep_isl {bs : List KB} {rs : List KR} {gx gy : Int} {xl : List (List Int)} {i : Nat} {ids : List Int} (hok : okS bs rs gx gy) (h : IsS (freeB bs) rs gx gy xl) (hi : xl[i]? = some ids) : SepI rs gx gy bs ids := by
  have key : ∀ a ∈ bs, ∀ o ∈ bs, a.fixed = false → o.fixed = false → a.id ∈ ids → ¬ o.id ∈ ids → ¬ LkI (freeB bs) rs gx gy a.id o.id := fun a ha o ho hf hg hm hn hl => by
    obtain ⟨h1, h2, _⟩ := h.at_ hi hm
    exact hn (by rw [h2]; exact (cls_mem h1).2 (CnI.step .refl hl))
  have mk : ∀ a ∈ bs, a.fixed = false → a ∈ freeB bs := fun a ha hf => List.mem_filter.2 ⟨ha, by rw [hf]; rfl⟩
  refine ⟨fun a ha o ho hf hg hm hn hx => key a ha o ho hf hg hm hn ?_, fun r hr a ha o ho hf hg hm hn => ⟨fun hx => key a ha o ho hf hg hm hn ?_, fun hx => key a ha o ho hf hg hm hn ?_⟩⟩
  · exact ⟨fun e => hn (by rw [← e]; exact hm), a, mk a ha hf, o, mk o ho hg, rfl, rfl, .inl (meets_touch (hok.2.2.2.1 a ha) (hok.2.2.2.1 o ho) hok.2.2.1 hx)⟩
  · exact ⟨fun e => hn (by rw [← e]; exact hm), a, mk a ha hf, o, mk o ho hg, rfl, rfl, .inr ⟨r, hr, .inl hx⟩⟩
  · exact ⟨fun e => hn (by rw [← e]; exact hm), a, mk a ha hf, o, mk o ho hg, rfl, rfl, .inr ⟨r, hr, .inr ⟨hx.2, hx.1⟩⟩⟩
/-- the names of the islands that were visited, from the t-th on -/
def visI (xl : List (List Int)) (t i : Nat) : List Int := ((List.range i).map fun j => xl.getD ((j + t) % xl.length) []).flatten
theorem vis_zero (xl : List (List Int)) (t : Nat) : visI xl t 0 = [] := rfl
theorem vis_next {xl : List (List Int)} {t i : Nat} {ids : List Int} (h : xl[(i + t) % xl.length]? = some ids) : visI xl t (i + 1) = visI xl t i ++ ids := by
  unfold visI
  rw [List.range_succ, List.map_append, List.flatten_append]
  simp [List.getD_eq_getElem?_getD, h]
theorem vis_mem {xl : List (List Int)} {t i : Nat} {x : Int} (h : x ∈ visI xl t i) : ∃ j r, j < i ∧ xl[(j + t) % xl.length]? = some r ∧ x ∈ r := by
  unfold visI at h
  obtain ⟨r, hr, hx⟩ := List.mem_flatten.1 h
  obtain ⟨j, hj, e⟩ := List.mem_map.1 hr
  have hj := List.mem_range.1 hj
  cases hg : xl[(j + t) % xl.length]? with
  | some z =>
    rw [List.getD_eq_getElem?_getD, hg] at e
    exact ⟨j, z, hj, hg, by rw [show z = r from e]; exact hx⟩
  | none =>
    rw [List.getD_eq_getElem?_getD, hg] at e
    rw [← show [] = r from e] at hx; cases hx
theorem rot_one {n t i j : Nat} (hi : i < n) (hj : j < n) (h : (i + t) % n = (j + t) % n) : i = j := by
  have e1 := Nat.div_add_mod (i + t) n
  have e2 := Nat.div_add_mod (j + t) n
  rw [h] at e1
  rcases Nat.lt_trichotomy ((i + t) / n) ((j + t) / n) with q | q | q
  · have := Nat.mul_le_mul_left n (show (i + t) / n + 1 ≤ (j + t) / n from q)
    rw [Nat.mul_add] at this; omega
  · rw [q] at e1; omega
  · have := Nat.mul_le_mul_left n (show (j + t) / n + 1 ≤ (i + t) / n from q)
    rw [Nat.mul_add] at this; omega
theorem rot_all {n t k : Nat} (hk : k < n) : ∃ j, j < n ∧ (j + t) % n = k := by
  refine ⟨(k + (n - t % n)) % n, Nat.mod_lt _ (by omega), ?_⟩
  have h1 := Nat.mod_lt t (show 0 < n by omega)
  rw [Nat.mod_add_mod]
  have h2 := Nat.div_add_mod t n
  have e : k + (n - t % n) + t = k + n * (t / n + 1) := by rw [Nat.mul_add]; omega
  rw [e, Nat.add_mul_mod_self_left, Nat.mod_eq_of_lt hk]
theorem vis_new {fb : List KB} {rs : List KR} {gx gy : Int} {xl : List (List Int)} {t i : Nat} {ids : List Int} (h : IsS fb rs gx gy xl) (hil : i < xl.length) (hi : xl[(i + t) % xl.length]? = some ids) : ∀ x ∈ ids, ¬ x ∈ visI xl t i := fun x hx hv => by
  obtain ⟨j, r, hj, hr, hxr⟩ := vis_mem hv
  have h1 := (h.at_ hi hx).2.2
  have h2 := (h.at_ hr hxr).2.2
  have := rot_one (i := i) (j := j) hil (by omega) (show (i + t) % xl.length = (j + t) % xl.length by omega)
  omega
theorem vis_all {fb : List KB} {rs : List KR} {gx gy : Int} {xl : List (List Int)} {t : Nat} (h : IsS fb rs gx gy xl) : ∀ x ∈ fb.map (·.id), x ∈ visI xl t xl.length := fun x hx => by
  obtain ⟨k, _, hk⟩ := h.place hx
  have hl := (List.getElem?_eq_some_iff.1 hk).1
  obtain ⟨j, hj, e⟩ := rot_all (t := t) hl
  unfold visI
  refine List.mem_flatten.2 ⟨clsI fb rs gx gy x, List.mem_map.2 ⟨j, List.mem_range.2 hj, ?_⟩, cls_self hx⟩
  rw [e, List.getD_eq_getElem?_getD, hk]; rfl
/-- behind i islands: the bodies with names in d are as they are behind the step of the whole scene -/
def DoneI (bs : List KB) (xl : List (List Int)) (t i : Nat) (d : List Int) : Prop := ∀ a ∈ bs, a.fixed = false → (a.id ∈ d ↔ a.id ∈ visI xl t i)
def seenI (S : List KS) (xl : List (List Int)) (t i : Nat) : Nat := (S.filter fun s => decide (s.id ∈ visI xl t i)).length
theorem done_nil (bs : List KB) (xl : List (List Int)) (t : Nat) : DoneI bs xl t 0 [] := fun _ _ _ => by rw [vis_zero]
/-- what the statement looks at -/
structure IslS (bs : List KB) (rs : List KR) (gx gy : Int) (T : List KB) (S : List KS) (xl : List (List Int)) : Prop where
  ok : okS bs rs gx gy
  isl : IsS (freeB bs) rs gx gy xl
  step : stepsTo rs gx gy bs bs.length = (T, S)
section
variable {bs T : List KB} {rs : List KR} {gx gy : Int} {S : List KS} {xl : List (List Int)} {t i : Nat} {ids d : List Int}
theorem IslS.twin (h : IslS bs rs gx gy T S xl) : TwinB bs T := by
  have := twin_step h.ok bs.length
  rw [h.step] at this; exact this
theorem IslS.okT (h : IslS bs rs gx gy T S xl) : ∀ b ∈ T, okB b := by
  have := (step_keeps (rs := rs) (gx := gx) (gy := gy) h.ok.2.2.2.1 bs.length).2
  rw [h.step] at this; exact this
theorem IslS.okM (h : IslS bs rs gx gy T S xl) (d : List Int) : okS (mixB d bs T) rs gx gy := mix_ok h.twin h.ok h.okT
theorem IslS.start (h : IslS bs rs gx gy T S xl) : mixB [] bs T = bs := mix_nil h.twin
/-- the part of the scene that has been changed so far is as it was -/
theorem IslS.part (h : IslS bs rs gx gy T S xl) (hd : DoneI bs xl t i d) (hil : i < xl.length) (hi : xl[(i + t) % xl.length]? = some ids) : partB ids (mixB d bs T) = partB ids bs :=
  mix_part h.twin fun a ha hm => by
    cases hf : a.fixed with
    | true => exact .inl rfl
    | false => exact .inr fun hx => vis_new h.isl hil hi _ hx ((hd a ha hf).1 hm)
theorem IslS.free (h : IslS bs rs gx gy T S xl) {k : Nat} (hi : xl[k]? = some ids) : ∀ x ∈ ids, freeAt bs x := fun _ hx => free_at h.ok.2.2.2.2.1 (h.isl.at_ hi hx).1
theorem free_ids {bs C : List KB} (h : C.map (fun b => (b.id, b.fixed)) = bs.map fun b => (b.id, b.fixed)) : (freeB C).map (·.id) = (freeB bs).map (·.id) := by
  have key : ∀ B : List KB, (freeB B).map (·.id) = ((B.map fun b => (b.id, b.fixed)).filter fun p => !p.2).map Prod.fst := fun B => by
    unfold freeB
    induction B with
    | nil => rfl
    | cons b B ih =>
      rw [List.map_cons, List.filter_cons, List.filter_cons]
      cases b.fixed <;> simp [ih]
  rw [key, key, h]
theorem IslS.freeM (h : IslS bs rs gx gy T S xl) {k : Nat} (hi : xl[k]? = some ids) : ∀ x ∈ ids, freeAt (mixB d bs T) x := fun _ hx =>
  free_at (h.okM d).2.2.2.2.1 (by rw [free_ids (mix_meta h.twin)]; exact (h.isl.at_ hi hx).1)
theorem IslS.steps (h : IslS bs rs gx gy T S xl) {k : Nat} (hi : xl[k]? = some ids) : stepsTo (partR (partB ids bs) rs) gx gy (partB ids bs) (partB ids bs).length = (partB ids T, S.filter fun s => decide (s.id ∈ ids)) :=
  part_whole h.ok (sep_isl h.ok h.isl hi) h.step
/-- a body of the part behind its step stands in the whole scene -/
theorem IslS.at_ (h : IslS bs rs gx gy T S xl) {j : Nat} {b : KB} (hb : (partB ids T)[j]? = some b) : ∃ (k : Nat) (a : KB), idxI (fun y : KB => decide (y.id = b.id)) bs = ((k : Nat) : Int) ∧ k < bs.length ∧ bs[k]? = some a ∧ T[k]? = some b ∧ a.id = b.id := by
  have hm : b ∈ T := (List.mem_filter.1 (List.mem_of_getElem? hb)).1
  obtain ⟨k, hk⟩ := List.getElem?_of_mem hm
  have hl := (List.getElem?_eq_some_iff.1 hk).1
  have hl2 : k < bs.length := by rw [← h.twin.len]; exact hl
  have ha := List.getElem?_eq_getElem hl2
  have hs := h.twin.same k _ _ ha hk
  refine ⟨k, _, ?_, hl2, ha, hk, hs.1.symm⟩
  have ho : ordB bs := h.ok.2.2.2.2.1
  exact idx_found ha (by simp [hs.1]) fun y hy => by
    obtain ⟨m, hm2⟩ := List.getElem?_of_mem hy
    have hmk : m < k := by have := (List.getElem?_eq_some_iff.1 hm2).1; rw [List.length_take] at this; omega
    rw [List.getElem?_take_of_lt hmk] at hm2
    have := ho.lt hmk hm2 ha
    simp only [decide_eq_false_iff_not]; rw [hs.1]; omega
theorem IslS.put (h : IslS bs rs gx gy T S xl) {j k : Nat} {a b : KB} (hb : (partB ids T)[j]? = some b) (ha : bs[k]? = some a) (ht : T[k]? = some b) (e : a.id = b.id) : (mixB (d ++ ((partB ids T).take j).map (·.id)) bs T).set k b = mixB (d ++ ((partB ids T).take (j + 1)).map (·.id)) bs T := by
  rw [mix_set h.twin h.ok.2.2.2.2.1 ha ht, List.take_add_one, hb, List.map_append, List.append_assoc, e]; rfl
theorem IslS.next (h : IslS bs rs gx gy T S xl) (hd : DoneI bs xl t i d) (hi : xl[(i + t) % xl.length]? = some ids) : DoneI bs xl t (i + 1) (d ++ (partB ids T).map (·.id)) := fun a ha hf => by
  rw [vis_next hi, List.mem_append, List.mem_append, hd a ha hf]
  refine or_congr Iff.rfl ⟨fun hx => ?_, fun hx => ?_⟩
  · obtain ⟨b, hb, e⟩ := List.mem_map.1 hx
    obtain ⟨hbT, hk⟩ := List.mem_filter.1 hb
    obtain ⟨k, hk2⟩ := List.getElem?_of_mem hbT
    have hl := (List.getElem?_eq_some_iff.1 hk2).1
    have hg := List.getElem?_eq_getElem (show k < bs.length by rw [← h.twin.len]; exact hl)
    have hs := h.twin.same k _ _ hg hk2
    obtain ⟨m, hm⟩ := List.getElem?_of_mem ha
    have ho : ordB bs := h.ok.2.2.2.2.1
    have hmk : m = k := by
      rcases Nat.lt_trichotomy m k with q | q | q
      · have := ho.lt q hm hg; omega
      · exact q
      · have := ho.lt q hg hm; omega
    subst hmk
    rw [hm] at hg
    obtain rfl := Option.some.inj hg
    rw [hs.2.1, hf, Bool.false_or, decide_eq_true_eq, e] at hk
    exact hk
  · obtain ⟨m, hm⟩ := List.getElem?_of_mem ha
    have hl := (List.getElem?_eq_some_iff.1 hm).1
    have hg := List.getElem?_eq_getElem (show m < T.length by rw [h.twin.len]; exact hl)
    have hs := h.twin.same m _ _ hm hg
    exact List.mem_map.2 ⟨_, List.mem_filter.2 ⟨List.mem_of_getElem? hg, by rw [hs.1, decide_eq_true hx, Bool.or_true]⟩, hs.1⟩
theorem IslS.seen (h : IslS bs rs gx gy T S xl) (hil : i < xl.length) (hi : xl[(i + t) % xl.length]? = some ids) : seenI S xl t (i + 1) = seenI S xl t i + (S.filter fun s => decide (s.id ∈ ids)).length := by
  unfold seenI
  rw [vis_next hi]
  exact filt_two (vis_new h.isl hil hi)
theorem seen_le (S : List KS) (xl : List (List Int)) (t i : Nat) : seenI S xl t i ≤ S.length := List.length_filter_le _ _
theorem IslS.fin (h : IslS bs rs gx gy T S xl) (hd : DoneI bs xl t xl.length d) : mixB d bs T = T ∧ seenI S xl t xl.length = S.length := by
  have mk : ∀ a ∈ bs, a.fixed = false → a.id ∈ visI xl t xl.length := fun a ha hf => vis_all h.isl _ (List.mem_map.2 ⟨a, List.mem_filter.2 ⟨ha, by rw [hf]; rfl⟩, rfl⟩)
  refine ⟨mix_all h.twin fun a ha => ?_, ?_⟩
  · cases hf : a.fixed with
    | true => exact .inl rfl
    | false => exact .inr ((hd a ha hf).2 (mk a ha hf))
  · unfold seenI
    rw [List.filter_eq_self.2]
    intro s hs
    have := stops_free h.ok bs.length s (by rw [h.step]; exact hs)
    obtain ⟨a, ha, hf, e⟩ := this
    rw [← e]; exact decide_eq_true (mk a ha hf)
theorem IslS.ends (h : IslS bs rs gx gy T S xl) (hd : DoneI bs xl t i d) (hil : ¬ i < xl.length) (hle : i ≤ xl.length) : mixB d bs T = T ∧ seenI S xl t i = S.length := by
  obtain rfl : i = xl.length := by omega
  exact h.fin hd
end
end Go.Isl
