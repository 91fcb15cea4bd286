/-
 Part: walked. Printed by a program of my own.
-/
import Derived.Test.YtdkibofhppgbjaaGreatDoorIs5
namespace Go.Isl
open Go.Sl Go.Brd Go.Stp Go.Proofs
/-- a free body of that name -/
def freeAt (bs : List KB) (x : Int) : Prop := (findB bs x).isSome = true ∧ ∃ b, bs[lbN bs x]? = some b ∧ b.fixed = false
/-- the bodies of a part -/
def partB (ids : List Int) (bs : List KB) : List KB := bs.filter fun b => b.fixed || decide (b.id ∈ ids)
def partR (pb : List KB) (rs : List KR) : List KR := rs.filter fun r => (findB pb r.a).isSome && (findB pb r.b).isSome
theorem partB_len (ids : List Int) (bs : List KB) : (partB ids bs).length ≤ bs.length := List.length_filter_le _ _
theorem partR_len (pb : List KB) (rs : List KR) : (partR pb rs).length ≤ rs.length := List.length_filter_le _ _
theorem free_next {bs : List KB} {ids : List Int} {k : Nat} {x : Int} (hx : ids[k]? = some x) (h : freeAt bs x) (hf : ∀ z ∈ ids.take k, freeAt bs z) : ∀ z ∈ ids.take (k + 1), freeAt bs z := by
 intro z hz
 rw [List.take_add_one, hx] at hz
 rcases List.mem_append.1 hz with hz | hz
 ·exact hf z hz
 ·rw [List.mem_singleton.1 hz]; exact h
theorem partB_yes {ids : List Int} {bs : List KB} {k : Nat} {b : KB} (hb : bs[k]? = some b) (h : b.fixed = true ∨ b.id ∈ ids) : partB ids (bs.take k) ++ [b] = partB ids (bs.take (k + 1)) := by
 unfold partB
 rw [List.take_add_one, hb, List.filter_append]
 simp only [Option.toList_some, List.filter_cons, List.filter_nil]
 rw [if_pos (by simpa using h)]
theorem partB_no {ids : List Int} {bs : List KB} {k : Nat} {b : KB} (hb : bs[k]? = some b) (h1 : ¬ (b.fixed = true)) (h2 : ¬ (b.id ∈ ids)) : partB ids (bs.take k) = partB ids (bs.take (k + 1)) := by
 unfold partB
 rw [List.take_add_one, hb, List.filter_append]
 simp only [Option.toList_some, List.filter_cons, List.filter_nil]
 rw [if_neg (by simp [h1, h2]), List.append_nil]
theorem partR_yes {pb : List KB} {rs : List KR} {k : Nat} {r : KR} (hr : rs[k]? = some r) (h1 : (findB pb r.a).isSome = true) (h2 : (findB pb r.b).isSome = true) : partR pb (rs.take k) ++ [r] = partR pb (rs.take (k + 1)) := by
 unfold partR
 rw [List.take_add_one, hr, List.filter_append]
 simp only [Option.toList_some, List.filter_cons, List.filter_nil]
 rw [if_pos (by simp [h1, h2])]
theorem partR_no {pb : List KB} {rs : List KR} {k : Nat} {r : KR} (hr : rs[k]? = some r) (h : ¬ ((findB pb r.a).isSome = true ∧ (findB pb r.b).isSome = true)) : partR pb (rs.take k) = partR pb (rs.take (k + 1)) := by
 unfold partR
 rw [List.take_add_one, hr, List.filter_append]
 simp only [Option.toList_some, List.filter_cons, List.filter_nil]
 rw [if_neg (by simpa using h), List.append_nil]
theorem partB_ord {ids : List Int} {bs : List KB} (h : ordB bs) : ordB (partB ids bs) := pair_ordB ((ordB_pair h).filter _)
/-- what Part answers -/
noncomputable instance (bs : List KB) (x : Int) : Decidable (freeAt bs x) := Classical.propDecidable _
noncomputable def errPt (bs : List KB) (rs : List KR) (gx gy : Int) (ids : List Int) : Int := if okS bs rs gx gy then (if ∀ x ∈ ids, freeAt bs x then 0 else 6) else 2
theorem errPt_bad {bs : List KB} {rs : List KR} {gx gy : Int} (h : ¬ okS bs rs gx gy) (ids : List Int) : errPt bs rs gx gy ids = 2 := if_neg h
theorem errPt_free {bs : List KB} {rs : List KR} {gx gy : Int} {ids : List Int} {x : Int} (h : okS bs rs gx gy) (hx : x ∈ ids) (hf : ¬ freeAt bs x) : errPt bs rs gx gy ids = 6 := by
 rw [errPt, if_pos h, if_neg (fun q => hf (q x hx))]
theorem errPt_ok {bs : List KB} {rs : List KR} {gx gy : Int} {ids : List Int} (h : okS bs rs gx gy) (hf : ∀ x ∈ ids, freeAt bs x) : errPt bs rs gx gy ids = 0 := by
 rw [errPt, if_pos h, if_pos hf]
noncomputable def ptB (bs : List KB) (rs : List KR) (gx gy : Int) (ids : List Int) : List KB := if errPt bs rs gx gy ids = 0 then partB ids bs else []
noncomputable def ptR (bs : List KB) (rs : List KR) (gx gy : Int) (ids : List Int) : List KR := if errPt bs rs gx gy ids = 0 then partR (partB ids bs) rs else []
noncomputable def ptG (bs : List KB) (rs : List KR) (gx gy : Int) (ids : List Int) (g : Int) : Int := if errPt bs rs gx gy ids = 0 then g else 0
theorem pt_bad {bs : List KB} {rs : List KR} {gx gy : Int} {ids : List Int} (h : errPt bs rs gx gy ids ≠ 0) : ptB bs rs gx gy ids = [] ∧ ptR bs rs gx gy ids = [] ∧ ∀ g, ptG bs rs gx gy ids g = 0 := ⟨if_neg h, if_neg h, fun _ => if_neg h⟩
theorem pt_good {bs : List KB} {rs : List KR} {gx gy : Int} {ids : List Int} (h : errPt bs rs gx gy ids = 0) : ptB bs rs gx gy ids = partB ids bs ∧ ptR bs rs gx gy ids = partR (partB ids bs) rs ∧ ∀ g, ptG bs rs gx gy ids g = g := ⟨if_pos h, if_pos h, fun _ => if_pos h⟩
end Go.Isl
namespace Go.Proofs
open Go Go.Sl Go.Brd Go.Stp Go.Isl
theorem uz70 : elB Tryz.prog 52 9 64 = true := by kernel_rfl
theorem uz71 : cfB Tryz.prog 54 = true := by kernel_rfl
theorem uz72 : elB Tryz.prog 78 3 24 = true := by kernel_rfl
set_option maxHeartbeats 4000000 in
theorem part_ok (β : Base) (w : World) (hw : St β [] w) (v u l : Value) (gx gy : Int) (bs : List KB) (rs : List KR) (ids : List Int) (hs_ : Sl KBR β.heap v bs) (hr_ : Sl KRR β.heap u rs) (hi_ : Sl IntF.R β.heap l ids) (hgx : -9223372036854775808 ≤ gx ∧ gx ≤ 9223372036854775807) (hgy : -9223372036854775808 ≤ gy ∧ gy ≤ 9223372036854775807) : Calls Tryz.prog 12 #[.agg #[v, u, Ix gx, Ix gy], l] w fun r w' => ∃ p c q d, r = .returned (.tuple #[.agg #[.slice p (ptB bs rs gx gy ids).length c, .slice q (ptR bs rs gx gy ids).length d, Ix (ptG bs rs gx gy ids gx), Ix (ptG bs rs gx gy ids gy)], Ix (errPt bs rs gx gy ids)]) ∧ St β [rowF BodyF 52 p c (ptB bs rs gx gy ids), rowF RopeF 78 q d (ptR bs rs gx gy ids)] w' := by
 obtain ⟨va, vc, rfl, vl, vm, ve⟩ := hs_.get
 obtain ⟨ua, uc, rfl, ul, um, ue⟩ := hr_.get
 obtain ⟨la, lc, rfl, ll, lm, le⟩ := hi_.get
 refine enter (n := 108) Tryz.func12 rfl Tryz.ntmps12 rfl ?_ hw
 refine c_seq ?_
 refine c_region ?_
 refine l_mv rfl rfl rfl (m_box (v := .agg #[.slice va (bs.length) (vc), .slice ua (rs.length) (uc), Ix (gx), Ix (gy)]) rfl) ?_
 rintro _ _ ⟨b1, rfl, rfl⟩
 refine l_mv rfl rfl rfl (m_alloc uz67) ?_
 rintro _ _ ⟨b2, rfl, rfl⟩
 refine l_val (v := .int .i64 (0)) rfl rfl rfl (e_assign) ?_
 refine l_nil ?_
 refine f_then ?_
 refine c_seq ?_
 refine c_seq ?_
 refine c_region ?_
 refine l_val (v := .agg #[.slice va (bs.length) (vc), .slice ua (rs.length) (uc), Ix (gx), Ix (gy)]) rfl rfl rfl (e_load uz31 (cs := [.slice va (bs.length) (vc), .slice ua (rs.length) (uc), Ix (gx), Ix (gy)]) rfl (k_pt 1 (cs := #[.slice va (bs.length) (vc), .slice ua (rs.length) (uc), Ix (gx), Ix (gy)]) (vs := [.slice va (bs.length) (vc), .slice ua (rs.length) (uc), Ix (gx), Ix (gy)]) rfl rfl) rfl) ?_
 refine l_call rfl rfl rfl (cl_value (fst := []) (cap := []) (vs := [.agg #[.slice va (bs.length) (vc), .slice ua (rs.length) (uc), Ix (gx), Ix (gy)]]) (all := [.agg #[.slice va (bs.length) (vc), .slice ua (rs.length) (uc), Ix (gx), Ix (gy)]]) uz32 rfl rfl rfl) ?_
 intro w hw
 obtain ⟨β1, sb, kn, hw1, back⟩ := St.frame_all hw
 refine (ivalid_ok β1 w hw1 _ _ gx gy bs rs (Sl.mono _ _ _ _ _ sb (⟨⟨_, _, rfl, vl, vm, ve⟩⟩ : Sl KBR _ _ bs)) (Sl.mono _ _ _ _ _ sb (⟨⟨_, _, rfl, ul, um, ue⟩⟩ : Sl KRR _ _ rs)) (by omega) (by omega)).mono ?_
 rintro e w' ⟨rfl, hw'⟩
 refine ⟨_, rfl, _, back _ _ hw', ?_⟩
 clear hw hw1 hw' back kn sb
 refine l_val (v := .bool (decide (¬ (okS bs rs gx gy)))) rfl rfl rfl (e_not_p (p := okS bs rs gx gy) rfl) ?_
 refine l_nil ?_
 refine f_then ?_
 refine c_if (¬ (okS bs rs gx gy)) rfl (fun hc3 => ?_) (fun hc3 => ?_)
 ·
  refine c_seq ?_
  refine c_region ?_
  refine l_val (v := .agg #[.slice none 0 0, .slice none 0 0, .int .i64 (0), .int .i64 (0)]) rfl rfl rfl (e_build uz67 uz69 (vs := []) (cells := #[.slice none 0 0, .slice none 0 0, .int .i64 (0), .int .i64 (0)]) rfl rfl) ?_
  refine l_mu rfl rfl (m_store 0 uz31 (b := b2) (o := 0) (T := 30) (cs := #[.slice none 0 0, .slice none 0 0, .int .i64 (0), .int .i64 (0)]) (cs' := #[.slice none 0 0, .slice none 0 0, .int .i64 (0), .int .i64 (0)]) (v := .agg #[.slice none 0 0, .slice none 0 0, .int .i64 (0), .int .i64 (0)]) rfl rfl rfl rfl rfl rfl rfl) ?_
  refine l_val (v := .int .i64 (2)) rfl rfl rfl (e_assign) ?_
  refine l_nil ?_
  refine f_then ?_
  refine c_ret ?_
  refine f_then_ret ?_
  refine retG (l := [.cell 4 30, .tmp 5]) (m := [.agg #[.slice none 0 0, .slice none 0 0, .int .i64 (0), .int .i64 (0)], .int .i64 (2)]) (v := .tuple #[.agg #[.slice none 0 0, .slice none 0 0, .int .i64 (0), .int .i64 (0)], .int .i64 (2)]) Tryz.results12 ⟨rd_cell uz31 (cs := [.slice none 0 0, .slice none 0 0, .int .i64 (0), .int .i64 (0)]) rfl (k_pt 0 (cs := #[.slice none 0 0, .slice none 0 0, .int .i64 (0), .int .i64 (0)]) (vs := [.slice none 0 0, .slice none 0 0, .int .i64 (0), .int .i64 (0)]) rfl rfl) rfl, rd_tmp (v := .int .i64 (2)) rfl, trivial⟩ rfl ?_
  intro w hw
  have he := errPt_bad hc3
  obtain ⟨e1, e2, e3⟩ := pt_bad (show errPt bs rs gx gy ids ≠ 0 from by rw [he ids]; decide)
  rw [e1, e2, e3, e3, he]
  exact ⟨none, 0, none, 0, rfl, ((st_mask [false, false] rfl hw).emp (r := rowF RopeF 78 none 0 []) (row_nil _ _ _)).emp (row_nil _ _ _)⟩
 ·
  refine c_skip ?_
  refine f_then ?_
  refine c_seq ?_
  refine c_seq ?_
  refine c_region ?_
  refine l_val (v := .slice la (ids.length) (lc)) rfl rfl rfl (e_move) ?_
  refine l_val (v := Nx (ids.length)) rfl rfl rfl (e_len (a := la) (n := ids.length) (c := lc) rfl uz28) ?_
  refine l_val (v := .int .i64 (0)) rfl rfl rfl (e_move) ?_
  refine l_nil ?_
  refine f_then ?_
  refine c_block ?_
  refine c_loop (fun (k : Nat) (f : Fm) (L : List Res) => (f 1 = .slice la (ids.length) (lc) ∧ f 2 = .pointer (some ⟨b1, 0, none⟩) ∧ f 4 = .pointer (some ⟨b2, 0, none⟩) ∧ f 23 = .slice la (ids.length) (lc) ∧ f 24 = Nx (ids.length) ∧ f 25 = Nx (k)) ∧ L = [pt b2 (.cells #[.slice none 0 0, .slice none 0 0, .int .i64 (0), .int .i64 (0)] 30), pt b1 (.cells #[.slice va (bs.length) (vc), .slice ua (rs.length) (uc), Ix (gx), Ix (gy)] 30)] ∧ (k ≤ ids.length ∧ ∀ x ∈ ids.take k, freeAt bs x)) (fun (k : Nat) => ids.length - k) 0 ?_ ?_
  ·exact ⟨⟨rfl, rfl, rfl, rfl, rfl, rfl⟩, rfl, ⟨by omega, by simp⟩⟩
  rintro k f0 L0 ⟨⟨hs1, hs2, hs4, hs23, hs24, hs25⟩, hL, ⟨hk, hfr⟩⟩
  subst L0
  refine rebase (d := 1) hs1 ?_
  refine rebase (d := 2) hs2 ?_
  refine rebase (d := 4) hs4 ?_
  refine rebase (d := 23) hs23 ?_
  refine rebase (d := 24) hs24 ?_
  refine rebase (d := 25) hs25 ?_
  clear hs1 hs2 hs4 hs23 hs24 hs25
  refine c_seq ?_
  have hok : okS bs rs gx gy := (Decidable.not_not.1 hc3)
  obtain ⟨hk1, hk2, hk3, hk4, hk5, hk6⟩ := id hok
  refine c_region ?_
  refine l_val (v := .bool (decide (((k : Nat) : Int) < ((ids.length : Nat) : Int)))) rfl rfl rfl (e_lss (a := ((k : Nat) : Int)) (b := ((ids.length : Nat) : Int)) rfl rfl) ?_
  refine l_nil ?_
  refine f_then ?_
  refine c_seq ?_
  refine c_if (((k : Nat) : Int) < ((ids.length : Nat) : Int)) rfl (fun hc4 => ?_) (fun hc4 => ?_)
  ·
   refine c_skip ?_
   refine f_then ?_
   refine c_seq ?_
   refine c_block ?_
   refine c_seq ?_
   refine c_region ?_
   obtain ⟨x5, hx6⟩ : ∃ x_, (ids)[k]? = some x_ := ⟨_, List.getElem?_eq_getElem (by omega)⟩
   obtain ⟨ha7, cs8, hc9, rfl⟩ := le _ _ hx6
   refine l_val (v := .pointer (some ((ba la).add (k * 1)))) rfl rfl rfl (e_indexAddr (k := k) (len := ids.length) (cap := lc) (a := la) rfl rfl uz23 (by omega) ha7) ?_
   refine l_val (v := Ix (x5)) rfl rfl rfl (e_load1 uz11 (v := Ix (x5)) rfl (Knows.of_base (Cs.mono _ _) hc9)) ?_
   refine l_val (v := Ix (x5)) rfl rfl rfl (e_assign) ?_
   refine l_nil ?_
   refine f_then ?_
   refine c_seq ?_
   refine c_region ?_
   refine l_val (v := .pointer (some ⟨b1, 0, none⟩)) rfl rfl rfl (e_fieldPt (b := b1) (o := 0) rfl uz33) ?_
   refine l_val (v := .slice va (bs.length) (vc)) rfl rfl rfl (e_load1 uz26 (v := .slice va (bs.length) (vc)) rfl (k_pt 1 (cs := #[.slice va (bs.length) (vc), .slice ua (rs.length) (uc), Ix (gx), Ix (gy)]) (vs := [.slice va (bs.length) (vc)]) rfl rfl)) ?_
   refine l_val (v := Ix (x5)) rfl rfl rfl (e_move) ?_
   refine l_call rfl rfl rfl (cl_value (fst := []) (cap := []) (vs := [.slice va (bs.length) (vc), Ix (x5), .func (.func 49) #[] #[]]) (all := [.slice va (bs.length) (vc), Ix (x5), .func (.func 49) #[] #[]]) uz59 rfl rfl rfl) ?_
   intro w hw
   obtain ⟨β1, sb, kn, hw1, back⟩ := St.frame_all hw
   refine (find_ok β1 w hw1 _ bs (Sl.mono _ _ _ _ _ sb (⟨⟨_, _, rfl, vl, vm, ve⟩⟩ : Sl KBR _ _ bs)) x5 hk5 (by omega)).mono ?_
   rintro e w' ⟨rfl, hw'⟩
   refine ⟨_, rfl, _, back _ _ hw', ?_⟩
   clear hw hw1 hw' back kn sb
   refine l_val (v := .tuple #[Nx (lbN bs x5), .bool ((findB bs x5).isSome)]) rfl rfl rfl (e_move) ?_
   refine l_val (v := Nx (lbN bs x5)) rfl rfl rfl (e_extract (vs := #[Nx (lbN bs x5), .bool ((findB bs x5).isSome)]) rfl rfl) ?_
   refine l_val (v := .bool ((findB bs x5).isSome)) rfl rfl rfl (e_extract (vs := #[Nx (lbN bs x5), .bool ((findB bs x5).isSome)]) rfl rfl) ?_
   refine l_val (v := Nx (lbN bs x5)) rfl rfl rfl (e_assign) ?_
   refine l_val (v := .bool ((findB bs x5).isSome)) rfl rfl rfl (e_assign) ?_
   refine l_nil ?_
   refine f_then ?_
   refine c_seq ?_
   have hlb : (!(findB bs x5).isSome) = false → lbN bs x5 < bs.length := fun q => by obtain ⟨b, hb, _⟩ := lb_in hk5 (by simpa using q); exact (List.getElem?_eq_some_iff.1 hb).1
   refine c_region ?_
   refine l_val (v := .bool ((findB bs x5).isSome)) rfl rfl rfl (e_move) ?_
   refine l_val (v := .bool (!((findB bs x5).isSome))) rfl rfl rfl (e_not rfl) ?_
   refine l_val (v := .bool (!((findB bs x5).isSome))) rfl rfl rfl (e_move) ?_
   refine l_splitb (s := 38) (b := !((findB bs x5).isSome)) rfl (fun hg11 => ?_) (fun hg11 => ?_)
   ·
    refine l_skip rfl rfl rfl rfl rfl rfl ?_
    refine l_skip rfl rfl rfl rfl rfl rfl ?_
    refine l_skip rfl rfl rfl rfl rfl rfl ?_
    refine l_skip rfl rfl rfl rfl rfl rfl ?_
    refine l_skip rfl rfl rfl rfl rfl rfl ?_
    refine l_skip rfl rfl rfl rfl rfl rfl ?_
    refine l_val (v := .bool true) rfl rfl rfl (e_pick_t rfl) ?_
    refine l_nil ?_
    refine f_then ?_
    refine c_yes rfl ?_
    refine c_seq ?_
    refine c_region ?_
    refine l_val (v := .agg #[.slice none 0 0, .slice none 0 0, .int .i64 (0), .int .i64 (0)]) rfl rfl rfl (e_build uz67 uz69 (vs := []) (cells := #[.slice none 0 0, .slice none 0 0, .int .i64 (0), .int .i64 (0)]) rfl rfl) ?_
    refine l_mu rfl rfl (m_store 0 uz31 (b := b2) (o := 0) (T := 30) (cs := #[.slice none 0 0, .slice none 0 0, .int .i64 (0), .int .i64 (0)]) (cs' := #[.slice none 0 0, .slice none 0 0, .int .i64 (0), .int .i64 (0)]) (v := .agg #[.slice none 0 0, .slice none 0 0, .int .i64 (0), .int .i64 (0)]) rfl rfl rfl rfl rfl rfl rfl) ?_
    refine l_val (v := .int .i64 (6)) rfl rfl rfl (e_assign) ?_
    refine l_nil ?_
    refine f_then ?_
    refine c_ret ?_
    refine f_block_ret ?_
    refine f_then_ret ?_
    refine f_then_ret ?_
    refine f_block_ret ?_
    refine f_then_ret ?_
    refine retG (l := [.cell 4 30, .tmp 5]) (m := [.agg #[.slice none 0 0, .slice none 0 0, .int .i64 (0), .int .i64 (0)], .int .i64 (6)]) (v := .tuple #[.agg #[.slice none 0 0, .slice none 0 0, .int .i64 (0), .int .i64 (0)], .int .i64 (6)]) Tryz.results12 ⟨rd_cell uz31 (cs := [.slice none 0 0, .slice none 0 0, .int .i64 (0), .int .i64 (0)]) rfl (k_pt 0 (cs := #[.slice none 0 0, .slice none 0 0, .int .i64 (0), .int .i64 (0)]) (vs := [.slice none 0 0, .slice none 0 0, .int .i64 (0), .int .i64 (0)]) rfl rfl) rfl, rd_tmp (v := .int .i64 (6)) rfl, trivial⟩ rfl ?_
    intro w hw
    have he := errPt_free hok (List.mem_of_getElem? hx6) (fun q => absurd q.1 (by have := hg11; simpa using this))
    obtain ⟨e1, e2, e3⟩ := pt_bad (ids := ids) (show errPt bs rs gx gy ids ≠ 0 from by rw [he]; decide)
    rw [e1, e2, e3, e3, he]
    exact ⟨none, 0, none, 0, rfl, ((st_mask [false, false] rfl hw).emp (r := rowF RopeF 78 none 0 []) (row_nil _ _ _)).emp (row_nil _ _ _)⟩
   ·
    refine g_val (v := .pointer (some ⟨b1, 0, none⟩)) rfl rfl rfl rfl rfl (e_fieldPt (b := b1) (o := 0) rfl uz33) ?_
    refine g_val (v := .slice va (bs.length) (vc)) rfl rfl rfl rfl rfl (e_load1 uz26 (v := .slice va (bs.length) (vc)) rfl (k_pt 1 (cs := #[.slice va (bs.length) (vc), .slice ua (rs.length) (uc), Ix (gx), Ix (gy)]) (vs := [.slice va (bs.length) (vc)]) rfl rfl)) ?_
    refine g_val (v := Nx (lbN bs x5)) rfl rfl rfl rfl rfl (e_move) ?_
    obtain ⟨x12, hx13⟩ : ∃ x_, (bs)[lbN bs x5]? = some x_ := ⟨_, List.getElem?_eq_getElem (by first | omega | exact hlb ‹_›)⟩
    have hxl := (List.getElem?_eq_some_iff.1 hx13).1
    obtain ⟨ha14, cs15, hc16, rfl⟩ := ve _ _ hx13
    refine g_val (v := .pointer (some ((ba va).add ((lbN bs x5) * 9)))) rfl rfl rfl rfl rfl (e_indexAddr (k := lbN bs x5) (len := bs.length) (cap := vc) (a := va) rfl rfl uz16 (by omega) ha14) ?_
    refine g_val (v := .pointer (some (((ba va).add ((lbN bs x5) * 9) : Addr).add 8))) rfl rfl rfl rfl rfl (e_fieldAddr (a := (ba va).add ((lbN bs x5) * 9)) rfl uz18) ?_
    refine g_val (v := .bool (x12.fixed)) rfl rfl rfl rfl rfl (e_load1 uz19 (v := .bool (x12.fixed)) rfl (Knows.imp (Knows.of_base (Cs.mono _ _) hc16) (fun _ h => Cs.sub (vs := [.bool (x12.fixed)]) 8 h rfl))) ?_
    refine l_val (v := .bool (x12.fixed)) rfl rfl rfl (e_pick_f rfl) ?_
    refine l_nil ?_
    refine f_then ?_
    refine c_ifb (x12.fixed) rfl (fun hc18 => ?_) (fun hc18 => ?_)
    ·
     refine c_seq ?_
     refine c_region ?_
     refine l_val (v := .agg #[.slice none 0 0, .slice none 0 0, .int .i64 (0), .int .i64 (0)]) rfl rfl rfl (e_build uz67 uz69 (vs := []) (cells := #[.slice none 0 0, .slice none 0 0, .int .i64 (0), .int .i64 (0)]) rfl rfl) ?_
     refine l_mu rfl rfl (m_store 0 uz31 (b := b2) (o := 0) (T := 30) (cs := #[.slice none 0 0, .slice none 0 0, .int .i64 (0), .int .i64 (0)]) (cs' := #[.slice none 0 0, .slice none 0 0, .int .i64 (0), .int .i64 (0)]) (v := .agg #[.slice none 0 0, .slice none 0 0, .int .i64 (0), .int .i64 (0)]) rfl rfl rfl rfl rfl rfl rfl) ?_
     refine l_val (v := .int .i64 (6)) rfl rfl rfl (e_assign) ?_
     refine l_nil ?_
     refine f_then ?_
     refine c_ret ?_
     refine f_block_ret ?_
     refine f_then_ret ?_
     refine f_then_ret ?_
     refine f_block_ret ?_
     refine f_then_ret ?_
     refine retG (l := [.cell 4 30, .tmp 5]) (m := [.agg #[.slice none 0 0, .slice none 0 0, .int .i64 (0), .int .i64 (0)], .int .i64 (6)]) (v := .tuple #[.agg #[.slice none 0 0, .slice none 0 0, .int .i64 (0), .int .i64 (0)], .int .i64 (6)]) Tryz.results12 ⟨rd_cell uz31 (cs := [.slice none 0 0, .slice none 0 0, .int .i64 (0), .int .i64 (0)]) rfl (k_pt 0 (cs := #[.slice none 0 0, .slice none 0 0, .int .i64 (0), .int .i64 (0)]) (vs := [.slice none 0 0, .slice none 0 0, .int .i64 (0), .int .i64 (0)]) rfl rfl) rfl, rd_tmp (v := .int .i64 (6)) rfl, trivial⟩ rfl ?_
     intro w hw
     have he := errPt_free hok (List.mem_of_getElem? hx6) (fun q => by obtain ⟨-, b, hb, hf⟩ := q; rw [hx13] at hb; injection hb with hb; rw [← hb, hc18] at hf; exact absurd hf (by decide))
     obtain ⟨e1, e2, e3⟩ := pt_bad (ids := ids) (show errPt bs rs gx gy ids ≠ 0 from by rw [he]; decide)
     rw [e1, e2, e3, e3, he]
     exact ⟨none, 0, none, 0, rfl, ((st_mask [false, false] rfl hw).emp (r := rowF RopeF 78 none 0 []) (row_nil _ _ _)).emp (row_nil _ _ _)⟩
    ·
     refine c_skip ?_
     refine f_block ?_
     refine f_then ?_
     refine c_region ?_
     refine l_val (v := Nx (k + 1)) rfl rfl rfl (e_add (a := ((k : Nat) : Int)) (b := (1 : Int)) rfl rfl (i64n (by omega) (by omega))) ?_
     refine l_val (v := Nx (k + 1)) rfl rfl rfl (e_move) ?_
     refine l_nil ?_
     exact f_cut ⟨k + 1, ⟨⟨rfl, rfl, rfl, rfl, rfl, rfl⟩, rfl, ⟨by omega, free_next hx6 ⟨by simpa using hg11, x12, hx13, by simpa using hc18⟩ hfr⟩⟩, (show ids.length - (k + 1) < ids.length - k from by omega)⟩
  ·
   refine c_exit ?_
   refine f_then_exit ?_
   refine f_then_exit ?_
   refine f_exit ?_
   refine f_then ?_
   refine c_seq ?_
   rw [List.take_of_length_le (by omega)] at hfr
   refine c_region ?_
   refine l_val (v := .pointer (some ⟨b1, 2, none⟩)) rfl rfl rfl (e_fieldPt (b := b1) (o := 0) rfl uz40) ?_
   refine l_val (v := .agg #[Ix (gx), Ix (gy)]) rfl rfl rfl (e_load uz5 (cs := [Ix (gx), Ix (gy)]) rfl (k_pt 1 (cs := #[.slice va (bs.length) (vc), .slice ua (rs.length) (uc), Ix (gx), Ix (gy)]) (vs := [Ix (gx), Ix (gy)]) rfl rfl) rfl) ?_
   refine l_val (v := .agg #[.slice none 0 0, .slice none 0 0, Ix (gx), Ix (gy)]) rfl rfl rfl (e_build uz67 uz69 (vs := [(2, .agg #[Ix (gx), Ix (gy)])]) (cells := #[.slice none 0 0, .slice none 0 0, Ix (gx), Ix (gy)]) rfl rfl) ?_
   refine l_mv rfl rfl rfl (m_alloc uz67) ?_
   rintro _ _ ⟨b19, rfl, rfl⟩
   refine l_mu rfl rfl (m_store 0 uz31 (b := b19) (o := 0) (T := 30) (cs := #[.slice none 0 0, .slice none 0 0, .int .i64 (0), .int .i64 (0)]) (cs' := #[.slice none 0 0, .slice none 0 0, Ix (gx), Ix (gy)]) (v := .agg #[.slice none 0 0, .slice none 0 0, Ix (gx), Ix (gy)]) rfl rfl rfl rfl rfl rfl rfl) ?_
   refine l_nil ?_
   refine f_then ?_
   refine c_seq ?_
   refine c_seq ?_
   refine c_emp (r := rowF BodyF 52 none 0 []) (row_nil _ _ _) ?_
   refine c_region ?_
   refine l_val (v := .pointer (some ⟨b1, 0, none⟩)) rfl rfl rfl (e_fieldPt (b := b1) (o := 0) rfl uz33) ?_
   refine l_val (v := .slice va (bs.length) (vc)) rfl rfl rfl (e_load1 uz26 (v := .slice va (bs.length) (vc)) rfl (k_pt 3 (cs := #[.slice va (bs.length) (vc), .slice ua (rs.length) (uc), Ix (gx), Ix (gy)]) (vs := [.slice va (bs.length) (vc)]) rfl rfl)) ?_
   refine l_val (v := Nx (bs.length)) rfl rfl rfl (e_len (a := va) (n := bs.length) (c := vc) rfl uz15) ?_
   refine l_val (v := .int .i64 (0)) rfl rfl rfl (e_move) ?_
   refine l_nil ?_
   refine f_then ?_
   refine c_block ?_
   refine c_loop (fun (x_ : Nat × Option Addr × Nat) (f : Fm) (L : List Res) => match x_ with | (k, tp, tc) => (f 1 = .slice la (ids.length) (lc) ∧ f 2 = .pointer (some ⟨b1, 0, none⟩) ∧ f 4 = .pointer (some ⟨b2, 0, none⟩) ∧ f 10 = .pointer (some ⟨b19, 0, none⟩) ∧ f 52 = .slice va (bs.length) (vc) ∧ f 53 = Nx (bs.length) ∧ f 54 = Nx (k)) ∧ L = [rowF BodyF 52 tp tc (partB ids (bs.take k)), pt b19 (.cells #[.slice tp ((partB ids (bs.take k)).length) tc, .slice none 0 0, Ix (gx), Ix (gy)] 30), pt b2 (.cells #[.slice none 0 0, .slice none 0 0, .int .i64 (0), .int .i64 (0)] 30), pt b1 (.cells #[.slice va (bs.length) (vc), .slice ua (rs.length) (uc), Ix (gx), Ix (gy)] 30)] ∧ (k ≤ bs.length)) (fun (x_ : Nat × Option Addr × Nat) => match x_ with | (k, tp, tc) => bs.length - k) (0, none, 0) ?_ ?_
   ·exact ⟨⟨rfl, rfl, rfl, rfl, rfl, rfl, rfl⟩, rfl, by omega⟩
   rintro ⟨k, tp, tc⟩ f0 L0 ⟨⟨hs1, hs2, hs4, hs10, hs52, hs53, hs54⟩, hL, hk⟩
   subst L0
   refine rebase (d := 1) hs1 ?_
   refine rebase (d := 2) hs2 ?_
   refine rebase (d := 4) hs4 ?_
   refine rebase (d := 10) hs10 ?_
   refine rebase (d := 52) hs52 ?_
   refine rebase (d := 53) hs53 ?_
   refine rebase (d := 54) hs54 ?_
   clear hs1 hs2 hs4 hs10 hs52 hs53 hs54
   have hpl : (partB ids (bs.take k)).length ≤ 64 := by have h1 := partB_len ids (bs.take k); rw [List.length_take] at h1; omega
   refine c_seq ?_
   refine c_region ?_
   refine l_val (v := .bool (decide (((k : Nat) : Int) < ((bs.length : Nat) : Int)))) rfl rfl rfl (e_lss (a := ((k : Nat) : Int)) (b := ((bs.length : Nat) : Int)) rfl rfl) ?_
   refine l_nil ?_
   refine f_then ?_
   refine c_seq ?_
   refine c_if (((k : Nat) : Int) < ((bs.length : Nat) : Int)) rfl (fun hc20 => ?_) (fun hc20 => ?_)
   ·
    refine c_skip ?_
    refine f_then ?_
    refine c_seq ?_
    refine c_block ?_
    refine c_seq ?_
    refine c_region ?_
    obtain ⟨x21, hx22⟩ : ∃ x_, (bs)[k]? = some x_ := ⟨_, List.getElem?_eq_getElem (by omega)⟩
    obtain ⟨ha23, cs24, hc25, rfl⟩ := ve _ _ hx22
    refine l_val (v := .pointer (some ((ba va).add (k * 9)))) rfl rfl rfl (e_indexAddr (k := k) (len := bs.length) (cap := vc) (a := va) rfl rfl uz16 (by omega) ha23) ?_
    refine l_val (v := .agg (bC x21)) rfl rfl rfl (e_load uz1 (cs := (bodyE x21)) rfl (Knows.of_base (Cs.mono _ _) hc25) rfl) ?_
    refine l_mv rfl rfl rfl (m_alloc uz17) ?_
    rintro _ _ ⟨b27, rfl, rfl⟩
    refine l_mu rfl rfl (m_store 0 uz1 (b := b27) (o := 0) (T := 52) (cs := #[.int .i64 (0), .int .i64 (0), .int .i64 (0), .int .i64 (0), .int .i64 (0), .int .i64 (0), .int .i64 (0), .bool false, .bool false]) (cs' := (bC x21)) (v := .agg (bC x21)) rfl rfl rfl rfl rfl rfl rfl) ?_
    refine l_nil ?_
    refine f_then ?_
    refine c_seq ?_
    refine c_region ?_
    refine l_val (v := .pointer (some ⟨b27, 8, none⟩)) rfl rfl rfl (e_fieldPt (b := b27) (o := 0) rfl uz18) ?_
    refine l_val (v := .bool (x21.fixed)) rfl rfl rfl (e_load1 uz19 (v := .bool (x21.fixed)) rfl (k_pt 0 (cs := (bC x21)) (vs := [.bool (x21.fixed)]) rfl rfl)) ?_
    refine l_val (v := .bool (x21.fixed)) rfl rfl rfl (e_move) ?_
    refine l_splitb (s := 60) (b := x21.fixed) rfl (fun hg28 => ?_) (fun hg28 => ?_)
    ·
     refine l_skip rfl rfl rfl rfl rfl rfl ?_
     refine l_skip rfl rfl rfl rfl rfl rfl ?_
     refine l_skip rfl rfl rfl rfl rfl rfl ?_
     refine l_skip rfl rfl rfl rfl rfl rfl ?_
     refine l_val (v := .bool true) rfl rfl rfl (e_pick_t rfl) ?_
     refine l_nil ?_
     refine f_then ?_
     refine c_yes rfl ?_
     refine c_region ?_
     refine l_val (v := .pointer (some ⟨b19, 0, none⟩)) rfl rfl rfl (e_fieldPt (b := b19) (o := 0) rfl uz33) ?_
     refine l_val (v := .slice tp ((partB ids (bs.take k)).length) tc) rfl rfl rfl (e_load1 uz26 (v := .slice tp ((partB ids (bs.take k)).length) tc) rfl (k_pt 2 (cs := #[.slice tp ((partB ids (bs.take k)).length) tc, .slice none 0 0, Ix (gx), Ix (gy)]) (vs := [.slice tp ((partB ids (bs.take k)).length) tc]) rfl rfl)) ?_
     refine l_val (v := .agg (bC x21)) rfl rfl rfl (e_load uz1 (cs := (bodyE x21)) rfl (k_pt 0 (cs := (bC x21)) (vs := (bodyE x21)) rfl rfl) rfl) ?_
     refine l_mv rfl rfl rfl (m_slices uz16 uz17 (vs := [(0, .agg (bC x21))]) (cells := (bC x21)) rfl rfl rfl (by kernel_rfl)) ?_
     rintro _ _ ⟨b29, rfl, rfl⟩
     refine l_mv rfl rfl rfl (m_appendFlN (F := BodyF) 2 uz16 uz70 (p := tp) (m := (partB ids (bs.take k)).length) (xs := (partB ids (bs.take k))) (ys := [x21]) (ao := (some ⟨b29, 0, none⟩)) (k := 1) (c := 1) rfl rfl rfl rfl rfl (k_ptFl (z := x21) 0 rfl rfl) (by first | omega | simp only [List.length_nil, List.length_cons, List.length_append, List.length_set]; omega) (by first | omega | simp only [List.length_nil, List.length_cons, List.length_append, List.length_set]; omega)) ?_
     rintro _ _ ⟨rp30, rc31, rfl, rfl⟩
     refine l_val (v := .pointer (some ⟨b19, 0, none⟩)) rfl rfl rfl (e_fieldPt (b := b19) (o := 0) rfl uz33) ?_
     refine l_mu rfl rfl (m_store 3 uz26 (b := b19) (o := 0) (T := 30) (cs := #[.slice tp ((partB ids (bs.take k)).length) tc, .slice none 0 0, Ix (gx), Ix (gy)]) (cs' := #[.slice rp30 (((partB ids (bs.take k)) ++ [x21]).length) rc31, .slice none 0 0, Ix (gx), Ix (gy)]) (v := .slice rp30 (((partB ids (bs.take k)) ++ [x21]).length) rc31) rfl rfl rfl rfl rfl rfl rfl) ?_
     refine l_nil ?_
     refine f_block ?_
     refine f_then ?_
     refine c_region ?_
     refine l_val (v := Nx (k + 1)) rfl rfl rfl (e_add (a := ((k : Nat) : Int)) (b := (1 : Int)) rfl rfl (i64n (by omega) (by omega))) ?_
     refine l_val (v := Nx (k + 1)) rfl rfl rfl (e_move) ?_
     refine l_nil ?_
     refine f_mask (L' := [rowF BodyF 52 rp30 rc31 ((partB ids (bs.take k)) ++ [x21]), pt b19 (.cells #[.slice rp30 (((partB ids (bs.take k)) ++ [x21]).length) rc31, .slice none 0 0, Ix (gx), Ix (gy)] 30), pt b2 (.cells #[.slice none 0 0, .slice none 0 0, .int .i64 (0), .int .i64 (0)] 30), pt b1 (.cells #[.slice va (bs.length) (vc), .slice ua (rs.length) (uc), Ix (gx), Ix (gy)] 30)]) [false, false, true, true, true, true] rfl ?_
     exact f_cut ⟨(k + 1, rp30, rc31), ⟨⟨rfl, rfl, rfl, rfl, rfl, rfl, rfl⟩, by rw [partB_yes hx22 (.inl hg28)], by omega⟩, (show bs.length - (k + 1) < bs.length - k from by omega)⟩
    ·
     refine g_val (v := .slice la (ids.length) (lc)) rfl rfl rfl rfl rfl (e_move) ?_
     refine g_val (v := .pointer (some ⟨b27, 0, none⟩)) rfl rfl rfl rfl rfl (e_fieldPt (b := b27) (o := 0) rfl uz27) ?_
     refine g_val (v := Ix (x21.id)) rfl rfl rfl rfl rfl (e_load1 uz11 (v := Ix (x21.id)) rfl (k_pt 0 (cs := (bC x21)) (vs := [Ix (x21.id)]) rfl rfl)) ?_
     refine g_call rfl rfl rfl rfl rfl (cl_value (fst := []) (cap := []) (vs := [.slice la (ids.length) (lc), Ix (x21.id)]) (all := [.slice la (ids.length) (lc), Ix (x21.id)]) uz71 rfl rfl rfl) ?_
     intro w hw
     obtain ⟨β1, sb, kn, hw1, back⟩ := St.frame_all hw
     refine (containsI_ok β1 w hw1 _ ids (Sl.mono _ _ _ _ _ sb (⟨⟨_, _, rfl, ll, lm, le⟩⟩ : Sl IntF.R _ _ ids)) x21.id).mono ?_
     rintro e w' ⟨rfl, hw'⟩
     refine ⟨_, rfl, _, back _ _ hw', ?_⟩
     clear hw hw1 hw' back kn sb
     refine l_val (v := .bool (decide (x21.id ∈ ids))) rfl rfl rfl (e_pick_f rfl) ?_
     refine l_nil ?_
     refine f_then ?_
     refine c_if (x21.id ∈ ids) rfl (fun hc32 => ?_) (fun hc32 => ?_)
     ·
      refine c_region ?_
      refine l_val (v := .pointer (some ⟨b19, 0, none⟩)) rfl rfl rfl (e_fieldPt (b := b19) (o := 0) rfl uz33) ?_
      refine l_val (v := .slice tp ((partB ids (bs.take k)).length) tc) rfl rfl rfl (e_load1 uz26 (v := .slice tp ((partB ids (bs.take k)).length) tc) rfl (k_pt 2 (cs := #[.slice tp ((partB ids (bs.take k)).length) tc, .slice none 0 0, Ix (gx), Ix (gy)]) (vs := [.slice tp ((partB ids (bs.take k)).length) tc]) rfl rfl)) ?_
      refine l_val (v := .agg (bC x21)) rfl rfl rfl (e_load uz1 (cs := (bodyE x21)) rfl (k_pt 0 (cs := (bC x21)) (vs := (bodyE x21)) rfl rfl) rfl) ?_
      refine l_mv rfl rfl rfl (m_slices uz16 uz17 (vs := [(0, .agg (bC x21))]) (cells := (bC x21)) rfl rfl rfl (by kernel_rfl)) ?_
      rintro _ _ ⟨b33, rfl, rfl⟩
      refine l_mv rfl rfl rfl (m_appendFlN (F := BodyF) 2 uz16 uz70 (p := tp) (m := (partB ids (bs.take k)).length) (xs := (partB ids (bs.take k))) (ys := [x21]) (ao := (some ⟨b33, 0, none⟩)) (k := 1) (c := 1) rfl rfl rfl rfl rfl (k_ptFl (z := x21) 0 rfl rfl) (by first | omega | simp only [List.length_nil, List.length_cons, List.length_append, List.length_set]; omega) (by first | omega | simp only [List.length_nil, List.length_cons, List.length_append, List.length_set]; omega)) ?_
      rintro _ _ ⟨rp34, rc35, rfl, rfl⟩
      refine l_val (v := .pointer (some ⟨b19, 0, none⟩)) rfl rfl rfl (e_fieldPt (b := b19) (o := 0) rfl uz33) ?_
      refine l_mu rfl rfl (m_store 3 uz26 (b := b19) (o := 0) (T := 30) (cs := #[.slice tp ((partB ids (bs.take k)).length) tc, .slice none 0 0, Ix (gx), Ix (gy)]) (cs' := #[.slice rp34 (((partB ids (bs.take k)) ++ [x21]).length) rc35, .slice none 0 0, Ix (gx), Ix (gy)]) (v := .slice rp34 (((partB ids (bs.take k)) ++ [x21]).length) rc35) rfl rfl rfl rfl rfl rfl rfl) ?_
      refine l_nil ?_
      refine f_block ?_
      refine f_then ?_
      refine c_region ?_
      refine l_val (v := Nx (k + 1)) rfl rfl rfl (e_add (a := ((k : Nat) : Int)) (b := (1 : Int)) rfl rfl (i64n (by omega) (by omega))) ?_
      refine l_val (v := Nx (k + 1)) rfl rfl rfl (e_move) ?_
      refine l_nil ?_
      refine f_mask (L' := [rowF BodyF 52 rp34 rc35 ((partB ids (bs.take k)) ++ [x21]), pt b19 (.cells #[.slice rp34 (((partB ids (bs.take k)) ++ [x21]).length) rc35, .slice none 0 0, Ix (gx), Ix (gy)] 30), pt b2 (.cells #[.slice none 0 0, .slice none 0 0, .int .i64 (0), .int .i64 (0)] 30), pt b1 (.cells #[.slice va (bs.length) (vc), .slice ua (rs.length) (uc), Ix (gx), Ix (gy)] 30)]) [false, false, true, true, true, true] rfl ?_
      exact f_cut ⟨(k + 1, rp34, rc35), ⟨⟨rfl, rfl, rfl, rfl, rfl, rfl, rfl⟩, by rw [partB_yes hx22 (.inr hc32)], by omega⟩, (show bs.length - (k + 1) < bs.length - k from by omega)⟩
     ·
      refine c_skip ?_
      refine f_block ?_
      refine f_then ?_
      refine c_region ?_
      refine l_val (v := Nx (k + 1)) rfl rfl rfl (e_add (a := ((k : Nat) : Int)) (b := (1 : Int)) rfl rfl (i64n (by omega) (by omega))) ?_
      refine l_val (v := Nx (k + 1)) rfl rfl rfl (e_move) ?_
      refine l_nil ?_
      refine f_mask (L' := [rowF BodyF 52 tp tc (partB ids (bs.take k)), pt b19 (.cells #[.slice tp ((partB ids (bs.take k)).length) tc, .slice none 0 0, Ix (gx), Ix (gy)] 30), pt b2 (.cells #[.slice none 0 0, .slice none 0 0, .int .i64 (0), .int .i64 (0)] 30), pt b1 (.cells #[.slice va (bs.length) (vc), .slice ua (rs.length) (uc), Ix (gx), Ix (gy)] 30)]) [false, true, true, true, true] rfl ?_
      exact f_cut ⟨(k + 1, tp, tc), ⟨⟨rfl, rfl, rfl, rfl, rfl, rfl, rfl⟩, by rw [partB_no hx22 (by first | exact hg28 | (rw [hg28]; decide)) hc32], by omega⟩, (show bs.length - (k + 1) < bs.length - k from by omega)⟩
   ·
    refine c_exit ?_
    refine f_then_exit ?_
    refine f_then_exit ?_
    refine f_exit ?_
    refine f_then ?_
    refine c_seq ?_
    refine c_seq ?_
    have hbt : bs.take k = bs := List.take_of_length_le (by omega)
    rw [hbt]
    have hpb := partB_len ids bs
    refine c_emp (r := rowF RopeF 78 none 0 []) (row_nil _ _ _) ?_
    refine c_region ?_
    refine l_val (v := .pointer (some ⟨b1, 1, none⟩)) rfl rfl rfl (e_fieldPt (b := b1) (o := 0) rfl uz52) ?_
    refine l_val (v := .slice ua (rs.length) (uc)) rfl rfl rfl (e_load1 uz53 (v := .slice ua (rs.length) (uc)) rfl (k_pt 4 (cs := #[.slice va (bs.length) (vc), .slice ua (rs.length) (uc), Ix (gx), Ix (gy)]) (vs := [.slice ua (rs.length) (uc)]) rfl rfl)) ?_
    refine l_val (v := Nx (rs.length)) rfl rfl rfl (e_len (a := ua) (n := rs.length) (c := uc) rfl uz54) ?_
    refine l_val (v := .int .i64 (0)) rfl rfl rfl (e_move) ?_
    refine l_nil ?_
    refine f_then ?_
    refine c_block ?_
    refine c_loop (fun (x_ : Nat × Option Addr × Nat) (f : Fm) (L : List Res) => match x_ with | (k, sp, sc) => (f 4 = .pointer (some ⟨b2, 0, none⟩) ∧ f 10 = .pointer (some ⟨b19, 0, none⟩) ∧ f 74 = .slice ua (rs.length) (uc) ∧ f 75 = Nx (rs.length) ∧ f 76 = Nx (k)) ∧ L = [rowF RopeF 78 sp sc (partR (partB ids bs) (rs.take k)), rowF BodyF 52 tp tc (partB ids bs), pt b19 (.cells #[.slice tp ((partB ids bs).length) tc, .slice sp ((partR (partB ids bs) (rs.take k)).length) sc, Ix (gx), Ix (gy)] 30), pt b2 (.cells #[.slice none 0 0, .slice none 0 0, .int .i64 (0), .int .i64 (0)] 30), pt b1 (.cells #[.slice va (bs.length) (vc), .slice ua (rs.length) (uc), Ix (gx), Ix (gy)] 30)] ∧ (k ≤ rs.length)) (fun (x_ : Nat × Option Addr × Nat) => match x_ with | (k, sp, sc) => rs.length - k) (0, none, 0) ?_ ?_
    ·exact ⟨⟨rfl, rfl, rfl, rfl, rfl⟩, rfl, by omega⟩
    rintro ⟨k, sp, sc⟩ f0 L0 ⟨⟨hs4, hs10, hs74, hs75, hs76⟩, hL, hk⟩
    subst L0
    refine rebase (d := 4) hs4 ?_
    refine rebase (d := 10) hs10 ?_
    refine rebase (d := 74) hs74 ?_
    refine rebase (d := 75) hs75 ?_
    refine rebase (d := 76) hs76 ?_
    clear hs4 hs10 hs74 hs75 hs76
    have hrl : (partR (partB ids bs) (rs.take k)).length ≤ 32 := by have h1 := partR_len (partB ids bs) (rs.take k); rw [List.length_take] at h1; omega
    refine c_seq ?_
    refine c_region ?_
    refine l_val (v := .bool (decide (((k : Nat) : Int) < ((rs.length : Nat) : Int)))) rfl rfl rfl (e_lss (a := ((k : Nat) : Int)) (b := ((rs.length : Nat) : Int)) rfl rfl) ?_
    refine l_nil ?_
    refine f_then ?_
    refine c_seq ?_
    refine c_if (((k : Nat) : Int) < ((rs.length : Nat) : Int)) rfl (fun hc36 => ?_) (fun hc36 => ?_)
    ·
     refine c_skip ?_
     refine f_then ?_
     refine c_seq ?_
     refine c_block ?_
     refine c_seq ?_
     refine c_region ?_
     obtain ⟨x37, hx38⟩ : ∃ x_, (rs)[k]? = some x_ := ⟨_, List.getElem?_eq_getElem (by omega)⟩
     obtain ⟨ha39, cs40, hc41, rfl⟩ := ue _ _ hx38
     refine l_val (v := .pointer (some ((ba ua).add (k * 3)))) rfl rfl rfl (e_indexAddr (k := k) (len := rs.length) (cap := uc) (a := ua) rfl rfl uz55 (by omega) ha39) ?_
     refine l_val (v := .agg #[Ix (x37.a), Ix (x37.b), Ix (x37.len)]) rfl rfl rfl (e_load uz56 (cs := [Ix (x37.a), Ix (x37.b), Ix (x37.len)]) rfl (Knows.of_base (Cs.mono _ _) hc41) rfl) ?_
     refine l_mv rfl rfl rfl (m_alloc uz57) ?_
     rintro _ _ ⟨b43, rfl, rfl⟩
     refine l_mu rfl rfl (m_store 0 uz56 (b := b43) (o := 0) (T := 78) (cs := #[.int .i64 (0), .int .i64 (0), .int .i64 (0)]) (cs' := #[Ix (x37.a), Ix (x37.b), Ix (x37.len)]) (v := .agg #[Ix (x37.a), Ix (x37.b), Ix (x37.len)]) rfl rfl rfl rfl rfl rfl rfl) ?_
     refine l_nil ?_
     refine f_then ?_
     refine c_seq ?_
     refine c_region ?_
     refine l_val (v := .pointer (some ⟨b19, 0, none⟩)) rfl rfl rfl (e_fieldPt (b := b19) (o := 0) rfl uz33) ?_
     refine l_val (v := .slice tp ((partB ids bs).length) tc) rfl rfl rfl (e_load1 uz26 (v := .slice tp ((partB ids bs).length) tc) rfl (k_pt 3 (cs := #[.slice tp ((partB ids bs).length) tc, .slice sp ((partR (partB ids bs) (rs.take k)).length) sc, Ix (gx), Ix (gy)]) (vs := [.slice tp ((partB ids bs).length) tc]) rfl rfl)) ?_
     refine l_val (v := .pointer (some ⟨b43, 0, none⟩)) rfl rfl rfl (e_fieldPt (b := b43) (o := 0) rfl uz58) ?_
     refine l_val (v := Ix (x37.a)) rfl rfl rfl (e_load1 uz11 (v := Ix (x37.a)) rfl (k_pt 0 (cs := #[Ix (x37.a), Ix (x37.b), Ix (x37.len)]) (vs := [Ix (x37.a)]) rfl rfl)) ?_
     refine l_call rfl rfl rfl (cl_value (fst := []) (cap := []) (vs := [.slice tp ((partB ids bs).length) tc, Ix (x37.a), .func (.func 49) #[] #[]]) (all := [.slice tp ((partB ids bs).length) tc, Ix (x37.a), .func (.func 49) #[] #[]]) uz59 rfl rfl rfl) ?_
     intro w hw
     obtain ⟨β1, sb, kn, hw1, back⟩ := St.frame_all hw
     refine (find_ok β1 w hw1 _ (partB ids bs) (kn _ (k_flN 2 (F := BodyF) (m := (partB ids bs).length) rfl rfl)) x37.a (partB_ord hk5) (by omega)).mono ?_
     rintro e w' ⟨rfl, hw'⟩
     refine ⟨_, rfl, _, back _ _ hw', ?_⟩
     clear hw hw1 hw' back kn sb
     refine l_val (v := .tuple #[Nx (lbN (partB ids bs) x37.a), .bool ((findB (partB ids bs) x37.a).isSome)]) rfl rfl rfl (e_move) ?_
     refine l_val (v := Nx (lbN (partB ids bs) x37.a)) rfl rfl rfl (e_extract (vs := #[Nx (lbN (partB ids bs) x37.a), .bool ((findB (partB ids bs) x37.a).isSome)]) rfl rfl) ?_
     refine l_val (v := .bool ((findB (partB ids bs) x37.a).isSome)) rfl rfl rfl (e_extract (vs := #[Nx (lbN (partB ids bs) x37.a), .bool ((findB (partB ids bs) x37.a).isSome)]) rfl rfl) ?_
     refine l_val (v := Nx (lbN (partB ids bs) x37.a)) rfl rfl rfl (e_assign) ?_
     refine l_val (v := .bool ((findB (partB ids bs) x37.a).isSome)) rfl rfl rfl (e_assign) ?_
     refine l_nil ?_
     refine f_then ?_
     refine c_seq ?_
     refine c_region ?_
     refine l_val (v := .pointer (some ⟨b19, 0, none⟩)) rfl rfl rfl (e_fieldPt (b := b19) (o := 0) rfl uz33) ?_
     refine l_val (v := .slice tp ((partB ids bs).length) tc) rfl rfl rfl (e_load1 uz26 (v := .slice tp ((partB ids bs).length) tc) rfl (k_pt 3 (cs := #[.slice tp ((partB ids bs).length) tc, .slice sp ((partR (partB ids bs) (rs.take k)).length) sc, Ix (gx), Ix (gy)]) (vs := [.slice tp ((partB ids bs).length) tc]) rfl rfl)) ?_
     refine l_val (v := .pointer (some ⟨b43, 1, none⟩)) rfl rfl rfl (e_fieldPt (b := b43) (o := 0) rfl uz60) ?_
     refine l_val (v := Ix (x37.b)) rfl rfl rfl (e_load1 uz11 (v := Ix (x37.b)) rfl (k_pt 0 (cs := #[Ix (x37.a), Ix (x37.b), Ix (x37.len)]) (vs := [Ix (x37.b)]) rfl rfl)) ?_
     refine l_call rfl rfl rfl (cl_value (fst := []) (cap := []) (vs := [.slice tp ((partB ids bs).length) tc, Ix (x37.b), .func (.func 49) #[] #[]]) (all := [.slice tp ((partB ids bs).length) tc, Ix (x37.b), .func (.func 49) #[] #[]]) uz59 rfl rfl rfl) ?_
     intro w hw
     obtain ⟨β1, sb, kn, hw1, back⟩ := St.frame_all hw
     refine (find_ok β1 w hw1 _ (partB ids bs) (kn _ (k_flN 2 (F := BodyF) (m := (partB ids bs).length) rfl rfl)) x37.b (partB_ord hk5) (by omega)).mono ?_
     rintro e w' ⟨rfl, hw'⟩
     refine ⟨_, rfl, _, back _ _ hw', ?_⟩
     clear hw hw1 hw' back kn sb
     refine l_val (v := .tuple #[Nx (lbN (partB ids bs) x37.b), .bool ((findB (partB ids bs) x37.b).isSome)]) rfl rfl rfl (e_move) ?_
     refine l_val (v := Nx (lbN (partB ids bs) x37.b)) rfl rfl rfl (e_extract (vs := #[Nx (lbN (partB ids bs) x37.b), .bool ((findB (partB ids bs) x37.b).isSome)]) rfl rfl) ?_
     refine l_val (v := .bool ((findB (partB ids bs) x37.b).isSome)) rfl rfl rfl (e_extract (vs := #[Nx (lbN (partB ids bs) x37.b), .bool ((findB (partB ids bs) x37.b).isSome)]) rfl rfl) ?_
     refine l_val (v := Nx (lbN (partB ids bs) x37.b)) rfl rfl rfl (e_assign) ?_
     refine l_val (v := .bool ((findB (partB ids bs) x37.b).isSome)) rfl rfl rfl (e_assign) ?_
     refine l_nil ?_
     refine f_then ?_
     refine c_seq ?_
     refine c_region ?_
     refine l_val (v := .bool ((findB (partB ids bs) x37.a).isSome)) rfl rfl rfl (e_move) ?_
     refine l_val (v := .bool ((findB (partB ids bs) x37.a).isSome)) rfl rfl rfl (e_move) ?_
     refine l_splitb (s := 97) (b := (findB (partB ids bs) x37.a).isSome) rfl (fun hg44 => ?_) (fun hg44 => ?_)
     ·
      refine g_val (v := .bool ((findB (partB ids bs) x37.b).isSome)) rfl rfl rfl rfl rfl (e_move) ?_
      refine l_val (v := .bool ((findB (partB ids bs) x37.b).isSome)) rfl rfl rfl (e_pick_t rfl) ?_
      refine l_nil ?_
      refine f_then ?_
      refine c_ifb ((findB (partB ids bs) x37.b).isSome) rfl (fun hc45 => ?_) (fun hc45 => ?_)
      ·
       refine c_region ?_
       refine l_val (v := .pointer (some ⟨b19, 1, none⟩)) rfl rfl rfl (e_fieldPt (b := b19) (o := 0) rfl uz52) ?_
       refine l_val (v := .slice sp ((partR (partB ids bs) (rs.take k)).length) sc) rfl rfl rfl (e_load1 uz53 (v := .slice sp ((partR (partB ids bs) (rs.take k)).length) sc) rfl (k_pt 3 (cs := #[.slice tp ((partB ids bs).length) tc, .slice sp ((partR (partB ids bs) (rs.take k)).length) sc, Ix (gx), Ix (gy)]) (vs := [.slice sp ((partR (partB ids bs) (rs.take k)).length) sc]) rfl rfl)) ?_
       refine l_val (v := .agg #[Ix (x37.a), Ix (x37.b), Ix (x37.len)]) rfl rfl rfl (e_load uz56 (cs := [Ix (x37.a), Ix (x37.b), Ix (x37.len)]) rfl (k_pt 0 (cs := #[Ix (x37.a), Ix (x37.b), Ix (x37.len)]) (vs := [Ix (x37.a), Ix (x37.b), Ix (x37.len)]) rfl rfl) rfl) ?_
       refine l_mv rfl rfl rfl (m_slices uz55 uz57 (vs := [(0, .agg #[Ix (x37.a), Ix (x37.b), Ix (x37.len)])]) (cells := #[Ix (x37.a), Ix (x37.b), Ix (x37.len)]) rfl rfl rfl rfl) ?_
       rintro _ _ ⟨b46, rfl, rfl⟩
       refine l_mv rfl rfl rfl (m_appendFlN (F := RopeF) 2 uz55 uz72 (p := sp) (m := (partR (partB ids bs) (rs.take k)).length) (xs := (partR (partB ids bs) (rs.take k))) (ys := [x37]) (ao := (some ⟨b46, 0, none⟩)) (k := 1) (c := 1) rfl rfl rfl rfl rfl (k_ptFl (z := x37) 0 rfl rfl) (by first | omega | simp only [List.length_nil, List.length_cons, List.length_append, List.length_set]; omega) (by first | omega | simp only [List.length_nil, List.length_cons, List.length_append, List.length_set]; omega)) ?_
       rintro _ _ ⟨rp47, rc48, rfl, rfl⟩
       refine l_val (v := .pointer (some ⟨b19, 1, none⟩)) rfl rfl rfl (e_fieldPt (b := b19) (o := 0) rfl uz52) ?_
       refine l_mu rfl rfl (m_store 4 uz53 (b := b19) (o := 1) (T := 30) (cs := #[.slice tp ((partB ids bs).length) tc, .slice sp ((partR (partB ids bs) (rs.take k)).length) sc, Ix (gx), Ix (gy)]) (cs' := #[.slice tp ((partB ids bs).length) tc, .slice rp47 (((partR (partB ids bs) (rs.take k)) ++ [x37]).length) rc48, Ix (gx), Ix (gy)]) (v := .slice rp47 (((partR (partB ids bs) (rs.take k)) ++ [x37]).length) rc48) rfl rfl rfl rfl rfl rfl rfl) ?_
       refine l_nil ?_
       refine f_block ?_
       refine f_then ?_
       refine c_region ?_
       refine l_val (v := Nx (k + 1)) rfl rfl rfl (e_add (a := ((k : Nat) : Int)) (b := (1 : Int)) rfl rfl (i64n (by omega) (by omega))) ?_
       refine l_val (v := Nx (k + 1)) rfl rfl rfl (e_move) ?_
       refine l_nil ?_
       refine f_mask (L' := [rowF RopeF 78 rp47 rc48 ((partR (partB ids bs) (rs.take k)) ++ [x37]), rowF BodyF 52 tp tc (partB ids bs), pt b19 (.cells #[.slice tp ((partB ids bs).length) tc, .slice rp47 (((partR (partB ids bs) (rs.take k)) ++ [x37]).length) rc48, Ix (gx), Ix (gy)] 30), pt b2 (.cells #[.slice none 0 0, .slice none 0 0, .int .i64 (0), .int .i64 (0)] 30), pt b1 (.cells #[.slice va (bs.length) (vc), .slice ua (rs.length) (uc), Ix (gx), Ix (gy)] 30)]) [false, false, true, true, true, true, true] rfl ?_
       exact f_cut ⟨(k + 1, rp47, rc48), ⟨⟨rfl, rfl, rfl, rfl, rfl⟩, by rw [partR_yes hx38 hg44 hc45], by omega⟩, (show rs.length - (k + 1) < rs.length - k from by omega)⟩
      ·
       refine c_skip ?_
       refine f_block ?_
       refine f_then ?_
       refine c_region ?_
       refine l_val (v := Nx (k + 1)) rfl rfl rfl (e_add (a := ((k : Nat) : Int)) (b := (1 : Int)) rfl rfl (i64n (by omega) (by omega))) ?_
       refine l_val (v := Nx (k + 1)) rfl rfl rfl (e_move) ?_
       refine l_nil ?_
       refine f_mask (L' := [rowF RopeF 78 sp sc (partR (partB ids bs) (rs.take k)), rowF BodyF 52 tp tc (partB ids bs), pt b19 (.cells #[.slice tp ((partB ids bs).length) tc, .slice sp ((partR (partB ids bs) (rs.take k)).length) sc, Ix (gx), Ix (gy)] 30), pt b2 (.cells #[.slice none 0 0, .slice none 0 0, .int .i64 (0), .int .i64 (0)] 30), pt b1 (.cells #[.slice va (bs.length) (vc), .slice ua (rs.length) (uc), Ix (gx), Ix (gy)] 30)]) [false, true, true, true, true, true] rfl ?_
       exact f_cut ⟨(k + 1, sp, sc), ⟨⟨rfl, rfl, rfl, rfl, rfl⟩, by rw [partR_no hx38 (fun q => absurd q.2 (by first | exact hc45 | (rw [hc45]; decide)))], by omega⟩, (show rs.length - (k + 1) < rs.length - k from by omega)⟩
     ·
      refine l_skip rfl rfl rfl rfl rfl rfl ?_
      refine l_val (v := .bool false) rfl rfl rfl (e_pick_f rfl) ?_
      refine l_nil ?_
      refine f_then ?_
      refine c_no rfl ?_
      refine c_skip ?_
      refine f_block ?_
      refine f_then ?_
      refine c_region ?_
      refine l_val (v := Nx (k + 1)) rfl rfl rfl (e_add (a := ((k : Nat) : Int)) (b := (1 : Int)) rfl rfl (i64n (by omega) (by omega))) ?_
      refine l_val (v := Nx (k + 1)) rfl rfl rfl (e_move) ?_
      refine l_nil ?_
      refine f_mask (L' := [rowF RopeF 78 sp sc (partR (partB ids bs) (rs.take k)), rowF BodyF 52 tp tc (partB ids bs), pt b19 (.cells #[.slice tp ((partB ids bs).length) tc, .slice sp ((partR (partB ids bs) (rs.take k)).length) sc, Ix (gx), Ix (gy)] 30), pt b2 (.cells #[.slice none 0 0, .slice none 0 0, .int .i64 (0), .int .i64 (0)] 30), pt b1 (.cells #[.slice va (bs.length) (vc), .slice ua (rs.length) (uc), Ix (gx), Ix (gy)] 30)]) [false, true, true, true, true, true] rfl ?_
      exact f_cut ⟨(k + 1, sp, sc), ⟨⟨rfl, rfl, rfl, rfl, rfl⟩, by rw [partR_no hx38 (fun q => absurd q.1 (by first | exact hg44 | (rw [hg44]; decide)))], by omega⟩, (show rs.length - (k + 1) < rs.length - k from by omega)⟩
    ·
     refine c_exit ?_
     refine f_then_exit ?_
     refine f_then_exit ?_
     refine f_exit ?_
     refine f_then ?_
     refine c_seq ?_
     refine c_region ?_
     refine l_val (v := .agg #[.slice tp ((partB ids bs).length) tc, .slice sp ((partR (partB ids bs) (rs.take k)).length) sc, Ix (gx), Ix (gy)]) rfl rfl rfl (e_load uz31 (cs := [.slice tp ((partB ids bs).length) tc, .slice sp ((partR (partB ids bs) (rs.take k)).length) sc, Ix (gx), Ix (gy)]) rfl (k_pt 2 (cs := #[.slice tp ((partB ids bs).length) tc, .slice sp ((partR (partB ids bs) (rs.take k)).length) sc, Ix (gx), Ix (gy)]) (vs := [.slice tp ((partB ids bs).length) tc, .slice sp ((partR (partB ids bs) (rs.take k)).length) sc, Ix (gx), Ix (gy)]) rfl rfl) rfl) ?_
     refine l_mu rfl rfl (m_store 3 uz31 (b := b2) (o := 0) (T := 30) (cs := #[.slice none 0 0, .slice none 0 0, .int .i64 (0), .int .i64 (0)]) (cs' := #[.slice tp ((partB ids bs).length) tc, .slice sp ((partR (partB ids bs) (rs.take k)).length) sc, Ix (gx), Ix (gy)]) (v := .agg #[.slice tp ((partB ids bs).length) tc, .slice sp ((partR (partB ids bs) (rs.take k)).length) sc, Ix (gx), Ix (gy)]) rfl rfl rfl rfl rfl rfl rfl) ?_
     refine l_val (v := .int .i64 (0)) rfl rfl rfl (e_assign) ?_
     refine l_nil ?_
     refine f_then ?_
     refine c_ret ?_
     refine retG (l := [.cell 4 30, .tmp 5]) (m := [.agg #[.slice tp ((partB ids bs).length) tc, .slice sp ((partR (partB ids bs) (rs.take k)).length) sc, Ix (gx), Ix (gy)], .int .i64 (0)]) (v := .tuple #[.agg #[.slice tp ((partB ids bs).length) tc, .slice sp ((partR (partB ids bs) (rs.take k)).length) sc, Ix (gx), Ix (gy)], .int .i64 (0)]) Tryz.results12 ⟨rd_cell uz31 (cs := [.slice tp ((partB ids bs).length) tc, .slice sp ((partR (partB ids bs) (rs.take k)).length) sc, Ix (gx), Ix (gy)]) rfl (k_pt 3 (cs := #[.slice tp ((partB ids bs).length) tc, .slice sp ((partR (partB ids bs) (rs.take k)).length) sc, Ix (gx), Ix (gy)]) (vs := [.slice tp ((partB ids bs).length) tc, .slice sp ((partR (partB ids bs) (rs.take k)).length) sc, Ix (gx), Ix (gy)]) rfl rfl) rfl, rd_tmp (v := .int .i64 (0)) rfl, trivial⟩ rfl ?_
     intro w hw
     have hrt : rs.take k = rs := List.take_of_length_le (by omega)
     rw [hrt] at hw
     have he : errPt bs rs gx gy ids = 0 := errPt_ok hok hfr
     obtain ⟨e1, e2, e3⟩ := pt_good he
     rw [e1, e2, e3, e3, he]
     replace hw := hw.perm (L' := [rowF BodyF 52 tp tc (partB ids bs), rowF RopeF 78 sp sc (partR (partB ids bs) rs), pt b19 (.cells #[.slice tp ((partB ids bs).length) tc, .slice sp ((partR (partB ids bs) rs).length) sc, Ix (gx), Ix (gy)] 30), pt b2 (.cells #[.slice tp ((partB ids bs).length) tc, .slice sp ((partR (partB ids bs) rs).length) sc, Ix (gx), Ix (gy)] 30), pt b1 (.cells #[.slice va (bs.length) (vc), .slice ua (rs.length) (uc), Ix (gx), Ix (gy)] 30)]) (by exact (perm_ix [1, 0, 2, 3, 4] 5 rfl (by kernel_rfl) (by kernel_rfl)))
     exact ⟨tp, tc, sp, sc, by rw [hrt], st_mask [true, true, false, false, false] rfl hw⟩
end Go.Proofs
