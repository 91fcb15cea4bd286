/-
  IslandWrong: walked. Printed by a program of my own.
-/
import Derived.Test.YtoijanalppaplaaIsLaw4
namespace Go.Proofs
open Go Go.Sl Go.Brd Go.Stp Go.Isl
section
variable (β : Base) (w : World) (hw : St β [] w) (v u l : Value) (gx gy : Int) (bs : List KB) (rs : List KR) (ids : List Int) (hs_ : Sl KBR β.heap v bs) (hr_ : Sl KRR β.heap u rs) (hi_ : Sl IntF.R β.heap l ids) (hgx : -9223372036854775808 ≤ gx ∧ gx ≤ 9223372036854775807) (hgy : -9223372036854775808 ≤ gy ∧ gy ≤ 9223372036854775807)
include hw hs_ hr_ hgx hgy
include hi_ in
theorem partE_ok (e : Int) (hne : e ≠ 0) (he : errPt bs rs gx gy ids = e) : Calls Try.prog 19 #[.agg #[v, u, Ix gx, Ix gy], l] w fun r w' => ∃ p c q d, r = .returned (.tuple #[.agg #[.slice p 0 c, .slice q 0 d, Ix 0, Ix 0], Ix e]) ∧ St β [] w' :=
  (part_ok β w hw v u l gx gy bs rs ids hs_ hr_ hi_ hgx hgy).mono fun r w' ⟨p, c, q, d, h1, h2⟩ => by
    obtain ⟨e1, e2, e3⟩ := pt_bad (show errPt bs rs gx gy ids ≠ 0 from by rw [he]; exact hne)
    rw [e1, e2, e3, e3, he] at h1
    exact ⟨p, c, q, d, h1, st_mask [false, false] rfl h2⟩
theorem islE_ok (hno : ¬ okS bs rs gx gy) : Calls Try.prog 11 #[.agg #[v, u, Ix gx, Ix gy]] w fun r w' => ∃ p c, r = .returned (.tuple #[.slice p 0 c, Ix 2]) ∧ St β [] w' :=
  (islandsM_ok β w hw v u gx gy bs rs hs_ hr_ hgx hgy).mono fun r w' ⟨p, c, hs, h1, h2, h3⟩ => by
    have h := congrArg List.length h1
    rw [List.length_map, islR, if_neg hno] at h
    rw [h, show errI bs rs gx gy = 2 from if_neg hno] at h2
    exact ⟨p, c, h2, st_mask [false] rfl h3⟩
end
theorem validE_ok (β : Base) (w : World) (hw : St β [] w) (v u : Value) (gx gy : Int) (bs : List KB) (rs : List KR) (hs_ : Sl KBR β.heap v bs) (hr_ : Sl KRR β.heap u rs) (hgx : -9223372036854775808 ≤ gx ∧ gx ≤ 9223372036854775807) (hgy : -9223372036854775808 ≤ gy ∧ gy ≤ 9223372036854775807) (hno : ¬ okS bs rs gx gy) : Calls Try.prog 21 #[.agg #[v, u, Ix gx, Ix gy]] w fun r w' => r = .returned (.bool false) ∧ St β [] w' :=
  (ivalid_ok β w hw v u gx gy bs rs hs_ hr_ hgx hgy).mono fun r w' ⟨h1, h2⟩ => ⟨h1.trans (congrArg (fun b : Bool => Ending.returned (.bool b)) (decide_eq_false hno)), h2⟩
theorem speedE_ok (β : Base) (w : World) (hw : St β [] w) (b : KB) (gx gy : Int) (hgx : -9223372036854775808 ≤ gx ∧ gx ≤ 9223372036854775807) (hgy : -9223372036854775808 ≤ gy ∧ gy ≤ 9223372036854775807) (hv : ¬ okV gx gy) : Calls Try.prog 16 #[.agg (bC b), .agg #[Ix gx, Ix gy]] w fun r w' => r = .returned (.agg #[Ix 0, Ix 0]) ∧ St β [] w' :=
  (speed_ok β w hw b gx gy hgx hgy).mono fun r w' ⟨h1, h2⟩ => ⟨by rw [h1, show speedX b gx gy = 0 from if_pos (.inr (.inr hv)), show speedY b gx gy = 0 from if_pos (.inr (.inr hv))], h2⟩
theorem reachE_ok (β : Base) (w : World) (hw : St β [] w) (b : KB) (gx gy : Int) (hgx : -9223372036854775808 ≤ gx ∧ gx ≤ 9223372036854775807) (hgy : -9223372036854775808 ≤ gy ∧ gy ≤ 9223372036854775807) (hv : ¬ okV gx gy) : Calls Try.prog 15 #[.agg (bC b), .agg #[Ix gx, Ix gy]] w fun r w' => r = .returned (.agg #[Ix 0, Ix 0, Ix 0, Ix 0]) ∧ St β [] w' :=
  (reachA_ok β w hw b gx gy hgx hgy).mono fun r w' ⟨h1, h2⟩ => ⟨by rw [h1, show reachA b gx gy = zeroA from if_neg fun q => hv q.2]; rfl, h2⟩
theorem tf95 : cfB Try.prog 42 = true := by kernel_rfl
theorem tf96 : cfB Try.prog 43 = true := by kernel_rfl
theorem tf97 : cfB Try.prog 23 = true := by kernel_rfl
theorem tf98 : fldB Try.prog 39 3 5 1 false = true := by kernel_rfl
theorem copyBd_ok (β : Base) (w : World) (hw : St β [] w) (v : Value) (xs : List KB) (hs : Sl KBR β.heap v xs) (hn : xs.length ≤ 1048576) : Calls Try.prog 42 #[v] w fun r w' => ∃ p c, r = .returned (.slice p xs.length c) ∧ St β [rowF BodyF 39 p c xs] w' := by
  obtain ⟨va, vc, rfl, vl, vm, ve⟩ := hs.get
  refine enter (n := 7) Try.func42 rfl Try.ntmps42 rfl ?_ hw
  refine c_seq ?_
  refine c_region ?_
  refine l_val (v := .slice none 0 0) rfl rfl rfl (e_assign) ?_
  refine l_nil ?_
  refine f_then ?_
  refine c_seq ?_
  refine c_region ?_
  refine l_val (v := .slice none 0 0) rfl rfl rfl (e_assign) ?_
  refine l_nil ?_
  refine f_then ?_
  refine c_seq ?_
  refine c_emp (r := rowF BodyF 39 none 0 []) (row_nil _ _ _) ?_
  refine c_region ?_
  refine l_val (v := .slice none (0) 0) rfl rfl rfl (e_move) ?_
  refine l_val (v := .slice va (xs.length) (vc)) rfl rfl rfl (e_move) ?_
  refine l_mv rfl rfl rfl (m_appendFlN (F := BodyF) 0 tf16 tf70 (p := none) (m := 0) (xs := []) (ys := xs) (ao := va) (k := xs.length) (c := vc) rfl rfl rfl rfl rfl (Knows.of_base (Elems.mono _ _ _) ve) (by first | omega | simp only [List.length_nil, List.length_cons, List.length_append, List.length_set]; omega) (by first | omega | simp only [List.length_nil, List.length_cons, List.length_append, List.length_set]; omega)) ?_
  rintro _ _ ⟨rp1, rc2, rfl, rfl⟩
  refine l_val (v := .slice rp1 (xs.length) rc2) rfl rfl rfl (e_assign) ?_
  refine l_nil ?_
  refine f_then ?_
  refine c_ret ?_
  refine ret1 Try.results42 (v := .slice rp1 (xs.length) rc2) rfl ?_
  intro w hw
  exact ⟨rp1, rc2, rfl, st_mask [true] rfl hw⟩
theorem copyRp_ok (β : Base) (w : World) (hw : St β [] w) (v : Value) (xs : List KR) (hs : Sl KRR β.heap v xs) (hn : xs.length ≤ 1048576) : Calls Try.prog 43 #[v] w fun r w' => ∃ p c, r = .returned (.slice p xs.length c) ∧ St β [rowF RopeF 49 p c xs] w' := by
  obtain ⟨va, vc, rfl, vl, vm, ve⟩ := hs.get
  refine enter (n := 7) Try.func43 rfl Try.ntmps43 rfl ?_ hw
  refine c_seq ?_
  refine c_region ?_
  refine l_val (v := .slice none 0 0) rfl rfl rfl (e_assign) ?_
  refine l_nil ?_
  refine f_then ?_
  refine c_seq ?_
  refine c_region ?_
  refine l_val (v := .slice none 0 0) rfl rfl rfl (e_assign) ?_
  refine l_nil ?_
  refine f_then ?_
  refine c_seq ?_
  refine c_emp (r := rowF RopeF 49 none 0 []) (row_nil _ _ _) ?_
  refine c_region ?_
  refine l_val (v := .slice none (0) 0) rfl rfl rfl (e_move) ?_
  refine l_val (v := .slice va (xs.length) (vc)) rfl rfl rfl (e_move) ?_
  refine l_mv rfl rfl rfl (m_appendFlN (F := RopeF) 0 tf55 tf72 (p := none) (m := 0) (xs := []) (ys := xs) (ao := va) (k := xs.length) (c := vc) rfl rfl rfl rfl rfl (Knows.of_base (Elems.mono _ _ _) ve) (by first | omega | simp only [List.length_nil, List.length_cons, List.length_append, List.length_set]; omega) (by first | omega | simp only [List.length_nil, List.length_cons, List.length_append, List.length_set]; omega)) ?_
  rintro _ _ ⟨rp1, rc2, rfl, rfl⟩
  refine l_val (v := .slice rp1 (xs.length) rc2) rfl rfl rfl (e_assign) ?_
  refine l_nil ?_
  refine f_then ?_
  refine c_ret ?_
  refine ret1 Try.results43 (v := .slice rp1 (xs.length) rc2) rfl ?_
  intro w hw
  exact ⟨rp1, rc2, rfl, st_mask [true] rfl hw⟩
theorem copyS_ok (β : Base) (w : World) (hw : St β [] w) (v u : Value) (gx gy : Int) (bs : List KB) (rs : List KR) (hs_ : Sl KBR β.heap v bs) (hr_ : Sl KRR β.heap u rs) (hn : bs.length ≤ 1048576) (hm : rs.length ≤ 1048576) : Calls Try.prog 23 #[.agg #[v, u, Ix gx, Ix gy]] w fun r w' => ∃ p c q d, r = .returned (.agg #[.slice p bs.length c, .slice q rs.length d, Ix gx, Ix gy]) ∧ St β [rowF BodyF 39 p c bs, rowF RopeF 49 q d rs] w' := by
  obtain ⟨va, vc, rfl, vl, vm, ve⟩ := hs_.get
  obtain ⟨ua, uc, rfl, ul, um, ue⟩ := hr_.get
  refine enter (n := 12) Try.func23 rfl Try.ntmps23 rfl ?_ hw
  refine c_seq ?_
  refine c_region ?_
  refine l_mv rfl rfl rfl (m_box (v := .agg #[.slice va (bs.length) (vc), .slice ua (rs.length) (uc), Ix (gx), Ix (gy)]) rfl) ?_
  rintro _ _ ⟨b1, rfl, rfl⟩
  refine l_mv rfl rfl rfl (m_alloc tf67) ?_
  rintro _ _ ⟨b2, rfl, rfl⟩
  refine l_nil ?_
  refine f_then ?_
  refine c_seq ?_
  refine c_region ?_
  refine l_val (v := .pointer (some ⟨b1, 0, none⟩)) rfl rfl rfl (e_fieldPt (b := b1) (o := 0) rfl tf33) ?_
  refine l_val (v := .slice va (bs.length) (vc)) rfl rfl rfl (e_load1 tf26 (v := .slice va (bs.length) (vc)) rfl (k_pt 1 (cs := #[.slice va (bs.length) (vc), .slice ua (rs.length) (uc), Ix (gx), Ix (gy)]) (vs := [.slice va (bs.length) (vc)]) rfl rfl)) ?_
  refine l_call rfl rfl rfl (cl_value (fst := []) (cap := []) (vs := [.slice va (bs.length) (vc)]) (all := [.slice va (bs.length) (vc)]) tf95 rfl rfl rfl) ?_
  intro w hw
  obtain ⟨β1, sb, kn, hw1, back⟩ := St.frame_all hw
  refine (copyBd_ok β1 w hw1 _ bs (Sl.mono _ _ _ _ _ sb (⟨⟨_, _, rfl, vl, vm, ve⟩⟩ : Sl KBR _ _ bs)) (by omega)).mono ?_
  rintro e w' ⟨p3, c4, rfl, hw'⟩
  refine ⟨_, rfl, _, back _ _ hw', ?_⟩
  clear hw hw1 hw' back kn sb
  refine l_val (v := .pointer (some ⟨b1, 0, none⟩)) rfl rfl rfl (e_fieldPt (b := b1) (o := 0) rfl tf33) ?_
  refine l_mu rfl rfl (m_store 2 tf26 (b := b1) (o := 0) (T := 32) (cs := #[.slice va (bs.length) (vc), .slice ua (rs.length) (uc), Ix (gx), Ix (gy)]) (cs' := #[.slice p3 (bs.length) c4, .slice ua (rs.length) (uc), Ix (gx), Ix (gy)]) (v := .slice p3 (bs.length) c4) rfl rfl rfl rfl rfl rfl rfl) ?_
  refine l_nil ?_
  refine f_then ?_
  refine c_seq ?_
  refine c_region ?_
  refine l_val (v := .pointer (some ⟨b1, 1, none⟩)) rfl rfl rfl (e_fieldPt (b := b1) (o := 0) rfl tf52) ?_
  refine l_val (v := .slice ua (rs.length) (uc)) rfl rfl rfl (e_load1 tf53 (v := .slice ua (rs.length) (uc)) rfl (k_pt 2 (cs := #[.slice p3 (bs.length) c4, .slice ua (rs.length) (uc), Ix (gx), Ix (gy)]) (vs := [.slice ua (rs.length) (uc)]) rfl rfl)) ?_
  refine l_call rfl rfl rfl (cl_value (fst := []) (cap := []) (vs := [.slice ua (rs.length) (uc)]) (all := [.slice ua (rs.length) (uc)]) tf96 rfl rfl rfl) ?_
  intro w hw
  obtain ⟨β1, sb, kn, hw1, back⟩ := St.frame_all hw
  refine (copyRp_ok β1 w hw1 _ rs (Sl.mono _ _ _ _ _ sb (⟨⟨_, _, rfl, ul, um, ue⟩⟩ : Sl KRR _ _ rs)) (by omega)).mono ?_
  rintro e w' ⟨p5, c6, rfl, hw'⟩
  refine ⟨_, rfl, _, back _ _ hw', ?_⟩
  clear hw hw1 hw' back kn sb
  refine l_val (v := .pointer (some ⟨b1, 1, none⟩)) rfl rfl rfl (e_fieldPt (b := b1) (o := 0) rfl tf52) ?_
  refine l_mu rfl rfl (m_store 3 tf53 (b := b1) (o := 1) (T := 32) (cs := #[.slice p3 (bs.length) c4, .slice ua (rs.length) (uc), Ix (gx), Ix (gy)]) (cs' := #[.slice p3 (bs.length) c4, .slice p5 (rs.length) c6, Ix (gx), Ix (gy)]) (v := .slice p5 (rs.length) c6) rfl rfl rfl rfl rfl rfl rfl) ?_
  refine l_nil ?_
  refine f_then ?_
  refine c_seq ?_
  refine c_region ?_
  refine l_val (v := .agg #[.slice p3 (bs.length) c4, .slice p5 (rs.length) c6, Ix (gx), Ix (gy)]) rfl rfl rfl (e_load tf31 (cs := [.slice p3 (bs.length) c4, .slice p5 (rs.length) c6, Ix (gx), Ix (gy)]) rfl (k_pt 3 (cs := #[.slice p3 (bs.length) c4, .slice p5 (rs.length) c6, Ix (gx), Ix (gy)]) (vs := [.slice p3 (bs.length) c4, .slice p5 (rs.length) c6, Ix (gx), Ix (gy)]) rfl rfl) rfl) ?_
  refine l_mu rfl rfl (m_store 2 tf31 (b := b2) (o := 0) (T := 32) (cs := #[.slice none 0 0, .slice none 0 0, .int .i64 (0), .int .i64 (0)]) (cs' := #[.slice p3 (bs.length) c4, .slice p5 (rs.length) c6, Ix (gx), Ix (gy)]) (v := .agg #[.slice p3 (bs.length) c4, .slice p5 (rs.length) c6, Ix (gx), Ix (gy)]) rfl rfl rfl rfl rfl rfl rfl) ?_
  refine l_nil ?_
  refine f_then ?_
  refine c_ret ?_
  refine retG (l := [.cell 2 32]) (m := [.agg #[.slice p3 (bs.length) c4, .slice p5 (rs.length) c6, Ix (gx), Ix (gy)]]) (v := .agg #[.slice p3 (bs.length) c4, .slice p5 (rs.length) c6, Ix (gx), Ix (gy)]) Try.results23 ⟨rd_cell tf31 (cs := [.slice p3 (bs.length) c4, .slice p5 (rs.length) c6, Ix (gx), Ix (gy)]) rfl (k_pt 2 (cs := #[.slice p3 (bs.length) c4, .slice p5 (rs.length) c6, Ix (gx), Ix (gy)]) (vs := [.slice p3 (bs.length) c4, .slice p5 (rs.length) c6, Ix (gx), Ix (gy)]) rfl rfl) rfl, trivial⟩ rfl ?_
  intro w hw
  replace hw := hw.perm (L' := [rowF BodyF 39 p3 c4 bs, rowF RopeF 49 p5 c6 rs, pt b2 (.cells #[.slice p3 (bs.length) c4, .slice p5 (rs.length) c6, Ix (gx), Ix (gy)] 32), pt b1 (.cells #[.slice p3 (bs.length) c4, .slice p5 (rs.length) c6, Ix (gx), Ix (gy)] 32)]) (by exact (perm_ix [1, 0, 2, 3] 4 rfl (by kernel_rfl) (by kernel_rfl)))
  exact ⟨p3, c4, p5, c6, rfl, st_mask [true, true, false, false] rfl hw⟩
end Go.Proofs
