/-
 The examples of the chapter: boxes, balls, ends. Printed by a program of my own.
-/
import Derived.Test.YtdkibofhppgbjaaGreatDoorSt7
namespace Go.Proofs
open Go Go.Sl Go.Stp
theorem tf102 : stB Tryz.prog 52 [(0, 1), (1, 2), (3, 2), (5, 1), (6, 1), (7, 1), (8, 1)] = true := by kernel_rfl
theorem tf103 : cfB Tryz.prog 31 = true := by kernel_rfl
theorem tf104 : cfB Tryz.prog 9 = true := by kernel_rfl
theorem tf105 : Tryz.prog.underlying 38 = some (.slice 55) := by kernel_rfl
theorem tf106 : tyB Tryz.prog 55 true 3 = true := by kernel_rfl
theorem box_ok (β : Base) (w : World) (hw : St β [] w) (i x y p q vx vy : Int) : Calls Tryz.prog 31 #[Ix i, Ix x, Ix y, Ix p, Ix q, Ix vx, Ix vy] w fun r w' => r = .returned (.agg #[Ix (i), Ix (x), Ix (y), Ix (vx), Ix (vy), Ix (p), Ix (q), .bool false, .bool false]) ∧ St β [] w' := by
 refine enter (n := 25) Tryz.func31 rfl Tryz.ntmps31 rfl ?_ hw
 refine c_seq ?_
 refine c_region ?_
 refine l_mv rfl rfl rfl (m_alloc tf58) ?_
 rintro _ _ ⟨b1, rfl, rfl⟩
 refine l_nil ?_
 refine f_then ?_
 refine c_seq ?_
 refine c_region ?_
 refine l_val (v := Ix (i)) rfl rfl rfl (e_move) ?_
 refine l_val (v := Ix (x)) rfl rfl rfl (e_move) ?_
 refine l_val (v := Ix (y)) rfl rfl rfl (e_move) ?_
 refine l_val (v := .agg #[Ix (x), Ix (y)]) rfl rfl rfl (e_build tf17 tf16 (vs := [(0, Ix (x)), (1, Ix (y))]) (cells := #[Ix (x), Ix (y)]) rfl rfl) ?_
 refine l_val (v := Ix (vx)) rfl rfl rfl (e_move) ?_
 refine l_val (v := Ix (vy)) rfl rfl rfl (e_move) ?_
 refine l_val (v := .agg #[Ix (vx), Ix (vy)]) rfl rfl rfl (e_build tf17 tf16 (vs := [(0, Ix (vx)), (1, Ix (vy))]) (cells := #[Ix (vx), Ix (vy)]) rfl rfl) ?_
 refine l_val (v := Ix (p)) rfl rfl rfl (e_move) ?_
 refine l_val (v := Ix (q)) rfl rfl rfl (e_move) ?_
 refine l_val (v := .agg #[Ix (i), Ix (x), Ix (y), Ix (vx), Ix (vy), Ix (p), Ix (q), .bool false, .bool false]) rfl rfl rfl (e_build tf58 tf102 (vs := [(0, Ix (i)), (1, .agg #[Ix (x), Ix (y)]), (2, .agg #[Ix (vx), Ix (vy)]), (3, Ix (p)), (4, Ix (q))]) (cells := #[Ix (i), Ix (x), Ix (y), Ix (vx), Ix (vy), Ix (p), Ix (q), .bool false, .bool false]) rfl (by kernel_rfl)) ?_
 refine l_mu rfl rfl (m_store 0 tf22 (b := b1) (o := 0) (T := 52) (cs := #[.int .i64 (0), .int .i64 (0), .int .i64 (0), .int .i64 (0), .int .i64 (0), .int .i64 (0), .int .i64 (0), .bool false, .bool false]) (cs' := #[Ix (i), Ix (x), Ix (y), Ix (vx), Ix (vy), Ix (p), Ix (q), .bool false, .bool false]) (v := .agg #[Ix (i), Ix (x), Ix (y), Ix (vx), Ix (vy), Ix (p), Ix (q), .bool false, .bool false]) rfl rfl rfl rfl rfl rfl rfl) ?_
 refine l_nil ?_
 refine f_then ?_
 refine c_ret ?_
 refine retG (l := [.cell 14 52]) (m := [.agg #[Ix (i), Ix (x), Ix (y), Ix (vx), Ix (vy), Ix (p), Ix (q), .bool false, .bool false]]) (v := .agg #[Ix (i), Ix (x), Ix (y), Ix (vx), Ix (vy), Ix (p), Ix (q), .bool false, .bool false]) Tryz.results31 ⟨rd_cell tf22 (cs := [Ix (i), Ix (x), Ix (y), Ix (vx), Ix (vy), Ix (p), Ix (q), .bool false, .bool false]) rfl (k_pt 0 (cs := #[Ix (i), Ix (x), Ix (y), Ix (vx), Ix (vy), Ix (p), Ix (q), .bool false, .bool false]) (vs := [Ix (i), Ix (x), Ix (y), Ix (vx), Ix (vy), Ix (p), Ix (q), .bool false, .bool false]) rfl rfl) rfl, trivial⟩ rfl ?_
 intro w hw
 exact ⟨rfl, st_mask [false] rfl hw⟩
theorem ball_ok (β : Base) (w : World) (hw : St β [] w) (i x y p vx vy : Int) : Calls Tryz.prog 34 #[Ix i, Ix x, Ix y, Ix p, Ix vx, Ix vy] w fun r w' => r = .returned (.agg #[Ix (i), Ix (x), Ix (y), Ix (vx), Ix (vy), Ix (p), Ix (p), .bool true, .bool false]) ∧ St β [] w' := by
 refine enter (n := 24) Tryz.func34 rfl Tryz.ntmps34 rfl ?_ hw
 refine c_seq ?_
 refine c_region ?_
 refine l_mv rfl rfl rfl (m_alloc tf58) ?_
 rintro _ _ ⟨b1, rfl, rfl⟩
 refine l_nil ?_
 refine f_then ?_
 refine c_seq ?_
 refine c_region ?_
 refine l_val (v := Ix (i)) rfl rfl rfl (e_move) ?_
 refine l_val (v := Ix (x)) rfl rfl rfl (e_move) ?_
 refine l_val (v := Ix (y)) rfl rfl rfl (e_move) ?_
 refine l_val (v := Ix (p)) rfl rfl rfl (e_move) ?_
 refine l_val (v := Ix (p)) rfl rfl rfl (e_move) ?_
 refine l_val (v := Ix (vx)) rfl rfl rfl (e_move) ?_
 refine l_val (v := Ix (vy)) rfl rfl rfl (e_move) ?_
 refine l_call rfl rfl rfl (cl_value (fst := []) (cap := []) (vs := [Ix (i), Ix (x), Ix (y), Ix (p), Ix (p), Ix (vx), Ix (vy)]) (all := [Ix (i), Ix (x), Ix (y), Ix (p), Ix (p), Ix (vx), Ix (vy)]) tf103 rfl rfl rfl) ?_
 intro w hw
 obtain ⟨β1, sb, kn, hw1, back⟩ := St.frame_all hw
 refine (box_ok β1 w hw1 (i) (x) (y) (p) (p) (vx) (vy)).mono ?_
 rintro e w' ⟨rfl, hw'⟩
 refine ⟨_, rfl, _, back _ _ hw', ?_⟩
 clear hw hw1 hw' back kn sb
 refine l_mv rfl rfl rfl (m_alloc tf58) ?_
 rintro _ _ ⟨b2, rfl, rfl⟩
 refine l_mu rfl rfl (m_store 0 tf22 (b := b2) (o := 0) (T := 52) (cs := #[.int .i64 (0), .int .i64 (0), .int .i64 (0), .int .i64 (0), .int .i64 (0), .int .i64 (0), .int .i64 (0), .bool false, .bool false]) (cs' := #[Ix (i), Ix (x), Ix (y), Ix (vx), Ix (vy), Ix (p), Ix (p), .bool false, .bool false]) (v := .agg #[Ix (i), Ix (x), Ix (y), Ix (vx), Ix (vy), Ix (p), Ix (p), .bool false, .bool false]) rfl rfl rfl rfl rfl rfl rfl) ?_
 refine l_nil ?_
 refine f_then ?_
 refine c_seq ?_
 refine c_region ?_
 refine l_val (v := .pointer (some ⟨b2, 7, none⟩)) rfl rfl rfl (e_fieldPt (b := b2) (o := 0) rfl tf12) ?_
 refine l_mu rfl rfl (m_store 0 tf13 (b := b2) (o := 7) (T := 52) (cs := #[Ix (i), Ix (x), Ix (y), Ix (vx), Ix (vy), Ix (p), Ix (p), .bool false, .bool false]) (cs' := #[Ix (i), Ix (x), Ix (y), Ix (vx), Ix (vy), Ix (p), Ix (p), .bool true, .bool false]) (v := .bool true) rfl rfl rfl rfl rfl rfl rfl) ?_
 refine l_nil ?_
 refine f_then ?_
 refine c_seq ?_
 refine c_region ?_
 refine l_val (v := .agg #[Ix (i), Ix (x), Ix (y), Ix (vx), Ix (vy), Ix (p), Ix (p), .bool true, .bool false]) rfl rfl rfl (e_load tf22 (cs := [Ix (i), Ix (x), Ix (y), Ix (vx), Ix (vy), Ix (p), Ix (p), .bool true, .bool false]) rfl (k_pt 0 (cs := #[Ix (i), Ix (x), Ix (y), Ix (vx), Ix (vy), Ix (p), Ix (p), .bool true, .bool false]) (vs := [Ix (i), Ix (x), Ix (y), Ix (vx), Ix (vy), Ix (p), Ix (p), .bool true, .bool false]) rfl rfl) rfl) ?_
 refine l_mu rfl rfl (m_store 1 tf22 (b := b1) (o := 0) (T := 52) (cs := #[.int .i64 (0), .int .i64 (0), .int .i64 (0), .int .i64 (0), .int .i64 (0), .int .i64 (0), .int .i64 (0), .bool false, .bool false]) (cs' := #[Ix (i), Ix (x), Ix (y), Ix (vx), Ix (vy), Ix (p), Ix (p), .bool true, .bool false]) (v := .agg #[Ix (i), Ix (x), Ix (y), Ix (vx), Ix (vy), Ix (p), Ix (p), .bool true, .bool false]) rfl rfl rfl rfl rfl rfl rfl) ?_
 refine l_nil ?_
 refine f_then ?_
 refine c_ret ?_
 refine retG (l := [.cell 12 52]) (m := [.agg #[Ix (i), Ix (x), Ix (y), Ix (vx), Ix (vy), Ix (p), Ix (p), .bool true, .bool false]]) (v := .agg #[Ix (i), Ix (x), Ix (y), Ix (vx), Ix (vy), Ix (p), Ix (p), .bool true, .bool false]) Tryz.results34 ⟨rd_cell tf22 (cs := [Ix (i), Ix (x), Ix (y), Ix (vx), Ix (vy), Ix (p), Ix (p), .bool true, .bool false]) rfl (k_pt 1 (cs := #[Ix (i), Ix (x), Ix (y), Ix (vx), Ix (vy), Ix (p), Ix (p), .bool true, .bool false]) (vs := [Ix (i), Ix (x), Ix (y), Ix (vx), Ix (vy), Ix (p), Ix (p), .bool true, .bool false]) rfl rfl) rfl, trivial⟩ rfl ?_
 intro w hw
 exact ⟨rfl, st_mask [false, false] rfl hw⟩
theorem fixed_ok (β : Base) (w : World) (hw : St β [] w) (b : KB) : Calls Tryz.prog 33 #[.agg (bC b)] w fun r w' => r = .returned (.agg #[Ix (b.id), Ix (b.x), Ix (b.y), .int .i64 (0), .int .i64 (0), Ix (b.w), Ix (b.h), .bool (b.round), .bool true]) ∧ St β [] w' := by
 refine enter (n := 7) Tryz.func33 rfl Tryz.ntmps33 rfl ?_ hw
 refine c_seq ?_
 refine c_region ?_
 refine l_mv rfl rfl rfl (m_box (v := .agg (bC b)) rfl) ?_
 rintro _ _ ⟨b1, rfl, rfl⟩
 refine l_mv rfl rfl rfl (m_alloc tf58) ?_
 rintro _ _ ⟨b2, rfl, rfl⟩
 refine l_nil ?_
 refine f_then ?_
 refine c_seq ?_
 refine c_region ?_
 refine l_val (v := .agg #[.int .i64 (0), .int .i64 (0)]) rfl rfl rfl (e_build tf17 tf16 (vs := []) (cells := #[.int .i64 (0), .int .i64 (0)]) rfl rfl) ?_
 refine l_val (v := .pointer (some ⟨b1, 8, none⟩)) rfl rfl rfl (e_fieldPt (b := b1) (o := 0) rfl tf14) ?_
 refine l_mu rfl rfl (m_store 1 tf13 (b := b1) (o := 8) (T := 52) (cs := (bC b)) (cs' := #[Ix (b.id), Ix (b.x), Ix (b.y), Ix (b.vx), Ix (b.vy), Ix (b.w), Ix (b.h), .bool (b.round), .bool true]) (v := .bool true) rfl rfl rfl rfl rfl rfl rfl) ?_
 refine l_val (v := .pointer (some ⟨b1, 3, none⟩)) rfl rfl rfl (e_fieldPt (b := b1) (o := 0) rfl tf9) ?_
 refine l_mu rfl rfl (m_store 1 tf15 (b := b1) (o := 3) (T := 52) (cs := #[Ix (b.id), Ix (b.x), Ix (b.y), Ix (b.vx), Ix (b.vy), Ix (b.w), Ix (b.h), .bool (b.round), .bool true]) (cs' := #[Ix (b.id), Ix (b.x), Ix (b.y), .int .i64 (0), .int .i64 (0), Ix (b.w), Ix (b.h), .bool (b.round), .bool true]) (v := .agg #[.int .i64 (0), .int .i64 (0)]) rfl rfl rfl rfl rfl rfl rfl) ?_
 refine l_nil ?_
 refine f_then ?_
 refine c_seq ?_
 refine c_region ?_
 refine l_val (v := .agg #[Ix (b.id), Ix (b.x), Ix (b.y), .int .i64 (0), .int .i64 (0), Ix (b.w), Ix (b.h), .bool (b.round), .bool true]) rfl rfl rfl (e_load tf22 (cs := [Ix (b.id), Ix (b.x), Ix (b.y), .int .i64 (0), .int .i64 (0), Ix (b.w), Ix (b.h), .bool (b.round), .bool true]) rfl (k_pt 1 (cs := #[Ix (b.id), Ix (b.x), Ix (b.y), .int .i64 (0), .int .i64 (0), Ix (b.w), Ix (b.h), .bool (b.round), .bool true]) (vs := [Ix (b.id), Ix (b.x), Ix (b.y), .int .i64 (0), .int .i64 (0), Ix (b.w), Ix (b.h), .bool (b.round), .bool true]) rfl rfl) rfl) ?_
 refine l_mu rfl rfl (m_store 0 tf22 (b := b2) (o := 0) (T := 52) (cs := #[.int .i64 (0), .int .i64 (0), .int .i64 (0), .int .i64 (0), .int .i64 (0), .int .i64 (0), .int .i64 (0), .bool false, .bool false]) (cs' := #[Ix (b.id), Ix (b.x), Ix (b.y), .int .i64 (0), .int .i64 (0), Ix (b.w), Ix (b.h), .bool (b.round), .bool true]) (v := .agg #[Ix (b.id), Ix (b.x), Ix (b.y), .int .i64 (0), .int .i64 (0), Ix (b.w), Ix (b.h), .bool (b.round), .bool true]) rfl rfl rfl rfl rfl rfl rfl) ?_
 refine l_nil ?_
 refine f_then ?_
 refine c_ret ?_
 refine retG (l := [.cell 2 52]) (m := [.agg #[Ix (b.id), Ix (b.x), Ix (b.y), .int .i64 (0), .int .i64 (0), Ix (b.w), Ix (b.h), .bool (b.round), .bool true]]) (v := .agg #[Ix (b.id), Ix (b.x), Ix (b.y), .int .i64 (0), .int .i64 (0), Ix (b.w), Ix (b.h), .bool (b.round), .bool true]) Tryz.results33 ⟨rd_cell tf22 (cs := [Ix (b.id), Ix (b.x), Ix (b.y), .int .i64 (0), .int .i64 (0), Ix (b.w), Ix (b.h), .bool (b.round), .bool true]) rfl (k_pt 0 (cs := #[Ix (b.id), Ix (b.x), Ix (b.y), .int .i64 (0), .int .i64 (0), Ix (b.w), Ix (b.h), .bool (b.round), .bool true]) (vs := [Ix (b.id), Ix (b.x), Ix (b.y), .int .i64 (0), .int .i64 (0), Ix (b.w), Ix (b.h), .bool (b.round), .bool true]) rfl rfl) rfl, trivial⟩ rfl ?_
 intro w hw
 exact ⟨rfl, st_mask [false, false] rfl hw⟩
theorem stepY_ok (β : Base) (w : World) (hw : St β [] w) (v rv : Value) (gx gy : Int) (bs : List KB) (rs : List KR) (hs : Sl KBR β.heap v bs) (hr : Sl KRR β.heap rv rs) (hgx : -9223372036854775808 ≤ gx ∧ gx ≤ 9223372036854775807) (hgy : -9223372036854775808 ≤ gy ∧ gy ≤ 9223372036854775807) (hG : GR β) (h : okS bs rs gx gy) (B : List KB) (S : List KS) (hBS : stepsTo rs gx gy bs bs.length = (B, S)) : Calls Tryz.prog 9 #[.agg #[v, rv, Ix gx, Ix gy]] w fun r w' => ∃ p1 c1 p2 c2 sp sc, r = .returned (.tuple #[.agg #[.slice p1 bs.length c1, .slice p2 rs.length c2, Ix gx, Ix gy], .slice sp S.length sc, .int .i64 (0)]) ∧ St β [rowF BodyF 52 p1 c1 B, rowF RopeF 78 p2 c2 rs, rowF StopF 55 sp sc S] w' := by
 refine (step_ok β w hw v rv gx gy bs rs hs hr hgx hgy hG).mono ?_
 rintro r w' (⟨_, p1, c1, p2, c2, sp, sc, rfl, hw'⟩ | ⟨hn, _⟩)
 ·rw [hBS] at hw' ⊢; exact ⟨p1, c1, p2, c2, sp, sc, rfl, hw'⟩
 ·exact absurd h hn
theorem stepN_ok (β : Base) (w : World) (hw : St β [] w) (v rv : Value) (gx gy : Int) (bs : List KB) (rs : List KR) (hs : Sl KBR β.heap v bs) (hr : Sl KRR β.heap rv rs) (hgx : -9223372036854775808 ≤ gx ∧ gx ≤ 9223372036854775807) (hgy : -9223372036854775808 ≤ gy ∧ gy ≤ 9223372036854775807) (hG : GR β) (h : ¬ okS bs rs gx gy) : Calls Tryz.prog 9 #[.agg #[v, rv, Ix gx, Ix gy]] w fun r w' => r = .returned (.tuple #[.agg #[.slice none 0 0, .slice none 0 0, .int .i64 (0), .int .i64 (0)], .slice none 0 0, .int .i64 (2)]) ∧ St β [] w' := by
 refine (step_ok β w hw v rv gx gy bs rs hs hr hgx hgy hG).mono ?_
 rintro r w' (⟨hy, _⟩ | ⟨_, rfl, hw'⟩)
 ·exact absurd hy h
 ·exact ⟨rfl, hw'⟩
set_option maxHeartbeats 4000000 in
theorem ends1_ok (β : Base) (w : World) (hw : St β [] w) (v rv : Value) (gx gy : Int) (bs : List KB) (rs : List KR) (hs : Sl KBR β.heap v bs) (hr : Sl KRR β.heap rv rs) (hgx : -9223372036854775808 ≤ gx ∧ gx ≤ 9223372036854775807) (hgy : -9223372036854775808 ≤ gy ∧ gy ≤ 9223372036854775807) (hG : GR β) (hokS : okS bs rs gx gy) (B : List KB) (S : List KS) (hBS : stepsTo rs gx gy bs bs.length = (B, S)) (hBl : B.length = bs.length) (b : KB) (hb0 : B[0]? = some b) (z : KS) (hz0 : S[0]? = some z) (hzl : S.length = 1) : Calls Tryz.prog 32 #[.agg #[v, rv, Ix gx, Ix gy]] w fun r w' => r = .returned (.tuple #[.agg #[Ix b.x, Ix b.y], .agg #[Ix b.vx, Ix b.vy], .agg #[Ix (z.id), Bx (z.along), Ix (z.by_)]]) ∧ St β [] w' := by
 obtain ⟨va, vc, rfl, vl, vm, ve⟩ := hs.get
 obtain ⟨rva, rvc, rfl, rvl, rvm, rve⟩ := hr.get
 have hB0 := (List.getElem?_eq_some_iff.1 hb0).1
 refine enter (n := 66) Tryz.func32 rfl Tryz.ntmps32 rfl ?_ hw
 refine c_seq ?_
 refine c_region ?_
 refine l_mv rfl rfl rfl (m_box (v := .agg #[.slice va (bs.length) (vc), .slice rva (rs.length) (rvc), Ix (gx), Ix (gy)]) rfl) ?_
 rintro _ _ ⟨b1, rfl, rfl⟩
 refine l_mv rfl rfl rfl (m_alloc tf17) ?_
 rintro _ _ ⟨b2, rfl, rfl⟩
 refine l_mv rfl rfl rfl (m_alloc tf17) ?_
 rintro _ _ ⟨b3, rfl, rfl⟩
 refine l_mv rfl rfl rfl (m_alloc tf99) ?_
 rintro _ _ ⟨b4, rfl, rfl⟩
 refine l_nil ?_
 refine f_then ?_
 refine c_seq ?_
 refine c_region ?_
 refine l_val (v := .agg #[.slice va (bs.length) (vc), .slice rva (rs.length) (rvc), Ix (gx), Ix (gy)]) rfl rfl rfl (e_load tf86 (cs := [.slice va (bs.length) (vc), .slice rva (rs.length) (rvc), Ix (gx), Ix (gy)]) rfl (k_pt 3 (cs := #[.slice va (bs.length) (vc), .slice rva (rs.length) (rvc), Ix (gx), Ix (gy)]) (vs := [.slice va (bs.length) (vc), .slice rva (rs.length) (rvc), Ix (gx), Ix (gy)]) rfl rfl) rfl) ?_
 refine l_call rfl rfl rfl (cl_value (fst := []) (cap := []) (vs := [.agg #[.slice va (bs.length) (vc), .slice rva (rs.length) (rvc), Ix (gx), Ix (gy)]]) (all := [.agg #[.slice va (bs.length) (vc), .slice rva (rs.length) (rvc), Ix (gx), Ix (gy)]]) tf104 rfl rfl rfl) ?_
 intro w hw
 obtain ⟨β1, sb, kn, hw1, back⟩ := St.frame_all hw
 refine (stepY_ok β1 w hw1 _ _ gx gy bs rs (Sl.mono _ _ _ _ _ sb (⟨⟨_, _, rfl, vl, vm, ve⟩⟩ : Sl KBR _ _ bs)) (Sl.mono _ _ _ _ _ sb (⟨⟨_, _, rfl, rvl, rvm, rve⟩⟩ : Sl KRR _ _ rs)) hgx hgy (GR.mono sb hG) hokS B S hBS).mono ?_
 rintro e w' ⟨p5, c6, p7, c8, p9, c10, rfl, hw'⟩
 refine ⟨_, rfl, _, back _ _ hw', ?_⟩
 clear hw hw1 hw' back kn sb
 refine l_val (v := .tuple #[.agg #[.slice p5 (bs.length) c6, .slice p7 (rs.length) c8, Ix (gx), Ix (gy)], .slice p9 (S.length) c10, .int .i64 (0)]) rfl rfl rfl (e_move) ?_
 refine l_val (v := .agg #[.slice p5 (bs.length) c6, .slice p7 (rs.length) c8, Ix (gx), Ix (gy)]) rfl rfl rfl (e_extract (vs := #[.agg #[.slice p5 (bs.length) c6, .slice p7 (rs.length) c8, Ix (gx), Ix (gy)], .slice p9 (S.length) c10, .int .i64 (0)]) rfl rfl) ?_
 refine l_val (v := .slice p9 (S.length) c10) rfl rfl rfl (e_extract (vs := #[.agg #[.slice p5 (bs.length) c6, .slice p7 (rs.length) c8, Ix (gx), Ix (gy)], .slice p9 (S.length) c10, .int .i64 (0)]) rfl rfl) ?_
 refine l_val (v := .int .i64 (0)) rfl rfl rfl (e_extract (vs := #[.agg #[.slice p5 (bs.length) c6, .slice p7 (rs.length) c8, Ix (gx), Ix (gy)], .slice p9 (S.length) c10, .int .i64 (0)]) rfl rfl) ?_
 refine l_mv rfl rfl rfl (m_alloc tf85) ?_
 rintro _ _ ⟨b11, rfl, rfl⟩
 refine l_mu rfl rfl (m_store 0 tf86 (b := b11) (o := 0) (T := 30) (cs := #[.slice none 0 0, .slice none 0 0, .int .i64 (0), .int .i64 (0)]) (cs' := #[.slice p5 (bs.length) c6, .slice p7 (rs.length) c8, Ix (gx), Ix (gy)]) (v := .agg #[.slice p5 (bs.length) c6, .slice p7 (rs.length) c8, Ix (gx), Ix (gy)]) rfl rfl rfl rfl rfl rfl rfl) ?_
 refine l_val (v := .slice p9 (S.length) c10) rfl rfl rfl (e_assign) ?_
 refine l_val (v := .int .i64 (0)) rfl rfl rfl (e_assign) ?_
 refine l_nil ?_
 refine f_then ?_
 refine c_seq ?_
 refine c_seq ?_
 refine c_region ?_
 refine l_val (v := .int .i64 (0)) rfl rfl rfl (e_move) ?_
 refine l_val (v := .bool false) rfl rfl rfl (e_neq (a := (0 : Int)) (b := (0 : Int)) rfl rfl) ?_
 refine l_val (v := .bool false) rfl rfl rfl (e_move) ?_
 refine g_val (v := .pointer (some ⟨b11, 0, none⟩)) rfl rfl rfl rfl rfl (e_fieldPt (b := b11) (o := 0) rfl tf49) ?_
 refine g_val (v := .slice p5 (bs.length) c6) rfl rfl rfl rfl rfl (e_load1 tf50 (v := .slice p5 (bs.length) c6) rfl (k_pt 0 (cs := #[.slice p5 (bs.length) c6, .slice p7 (rs.length) c8, Ix (gx), Ix (gy)]) (vs := [.slice p5 (bs.length) c6]) rfl rfl)) ?_
 refine g_val (v := Nx (bs.length)) rfl rfl rfl rfl rfl (e_len (a := p5) (n := bs.length) (c := c6) rfl tf40) ?_
 refine g_val (v := .pointer (some ⟨b1, 0, none⟩)) rfl rfl rfl rfl rfl (e_fieldPt (b := b1) (o := 0) rfl tf49) ?_
 refine g_val (v := .slice va (bs.length) (vc)) rfl rfl rfl rfl rfl (e_load1 tf50 (v := .slice va (bs.length) (vc)) rfl (k_pt 7 (cs := #[.slice va (bs.length) (vc), .slice rva (rs.length) (rvc), Ix (gx), Ix (gy)]) (vs := [.slice va (bs.length) (vc)]) rfl rfl)) ?_
 refine g_val (v := Nx (bs.length)) rfl rfl rfl rfl rfl (e_len (a := va) (n := bs.length) (c := vc) rfl tf40) ?_
 refine g_val (v := .bool (decide (((bs.length : Nat) : Int) ≠ ((bs.length : Nat) : Int)))) rfl rfl rfl rfl rfl (e_neq (a := ((bs.length : Nat) : Int)) (b := ((bs.length : Nat) : Int)) rfl rfl) ?_
 refine l_val (v := .bool (decide (((bs.length : Nat) : Int) ≠ ((bs.length : Nat) : Int)))) rfl rfl rfl (e_pick_f rfl) ?_
 refine l_val (v := .bool (decide (((bs.length : Nat) : Int) ≠ ((bs.length : Nat) : Int)))) rfl rfl rfl (e_move) ?_
 refine l_split (s := 25) (p := ((bs.length : Nat) : Int) ≠ ((bs.length : Nat) : Int)) rfl (fun h => ?_) (fun h => ?_)
 exact absurd h (by omega)
 refine g_val (v := .pointer (some ⟨b11, 0, none⟩)) rfl rfl rfl rfl rfl (e_fieldPt (b := b11) (o := 0) rfl tf49) ?_
 refine g_val (v := .slice p5 (bs.length) c6) rfl rfl rfl rfl rfl (e_load1 tf50 (v := .slice p5 (bs.length) c6) rfl (k_pt 0 (cs := #[.slice p5 (bs.length) c6, .slice p7 (rs.length) c8, Ix (gx), Ix (gy)]) (vs := [.slice p5 (bs.length) c6]) rfl rfl)) ?_
 refine g_val (v := Nx (bs.length)) rfl rfl rfl rfl rfl (e_len (a := p5) (n := bs.length) (c := c6) rfl tf40) ?_
 refine g_val (v := .bool (decide (((bs.length : Nat) : Int) = (0 : Int)))) rfl rfl rfl rfl rfl (e_eql (a := ((bs.length : Nat) : Int)) (b := (0 : Int)) rfl rfl) ?_
 refine l_val (v := .bool (decide (((bs.length : Nat) : Int) = (0 : Int)))) rfl rfl rfl (e_pick_f rfl) ?_
 refine l_val (v := .bool (decide (((bs.length : Nat) : Int) = (0 : Int)))) rfl rfl rfl (e_move) ?_
 refine l_split (s := 31) (p := ((bs.length : Nat) : Int) = (0 : Int)) rfl (fun h => ?_) (fun h => ?_)
 exact absurd h (by omega)
 refine g_val (v := .slice p9 (S.length) c10) rfl rfl rfl rfl rfl (e_move) ?_
 refine g_val (v := Nx (S.length)) rfl rfl rfl rfl rfl (e_len (a := p9) (n := S.length) (c := c10) rfl tf105) ?_
 refine g_val (v := .bool (decide ((1 : Int) < ((S.length : Nat) : Int)))) rfl rfl rfl rfl rfl (e_gtr (a := ((S.length : Nat) : Int)) (b := (1 : Int)) rfl rfl) ?_
 refine l_val (v := .bool (decide ((1 : Int) < ((S.length : Nat) : Int)))) rfl rfl rfl (e_pick_f rfl) ?_
 refine l_nil ?_
 refine f_then ?_
 refine c_if ((1 : Int) < ((S.length : Nat) : Int)) rfl (fun hc12 => ?_) (fun hc12 => ?_)
 ·
  exact absurd hc12 (by omega)
 ·
  refine c_skip ?_
  refine f_then ?_
  refine c_seq ?_
  refine c_seq ?_
  refine c_region ?_
  refine l_val (v := .slice p9 (S.length) c10) rfl rfl rfl (e_move) ?_
  refine l_val (v := Nx (S.length)) rfl rfl rfl (e_len (a := p9) (n := S.length) (c := c10) rfl tf105) ?_
  refine l_val (v := .bool (decide (((S.length : Nat) : Int) = (0 : Int)))) rfl rfl rfl (e_eql (a := ((S.length : Nat) : Int)) (b := (0 : Int)) rfl rfl) ?_
  refine l_nil ?_
  refine f_then ?_
  refine c_if (((S.length : Nat) : Int) = (0 : Int)) rfl (fun hc13 => ?_) (fun hc13 => ?_)
  ·
   exact absurd hc13 (by omega)
  ·
   refine c_skip ?_
   refine f_then ?_
   refine c_seq ?_
   refine c_any [⟨[], [], [0], [53], fun f => f 53 = .pointer (some ⟨b11, 0, none⟩)⟩, ⟨[0], [0], [], [54], fun f => f 54 = .slice p5 (bs.length) c6⟩, ⟨[0, 1], [1], [], [55], fun f => f 55 = .pointer (some ((ba p5).add (0 * 9)))⟩, ⟨[0, 1, 2], [2], [], [56], fun f => f 56 = .pointer (some ((ba p5).add (0 * 9 + 1)))⟩, ⟨[0, 1, 2, 3], [3], [], [57], fun f => f 57 = .agg #[Ix (b.x), Ix (b.y)]⟩, ⟨[], [], [0], [58], fun f => f 58 = .pointer (some ⟨b11, 0, none⟩)⟩, ⟨[5], [5], [], [59], fun f => f 59 = .slice p5 (bs.length) c6⟩, ⟨[5, 6], [6], [], [60], fun f => f 60 = .pointer (some ((ba p5).add (0 * 9)))⟩, ⟨[5, 6, 7], [7], [], [61], fun f => f 61 = .pointer (some ((ba p5).add (0 * 9 + 3)))⟩, ⟨[5, 6, 7, 8], [8], [], [62], fun f => f 62 = .agg #[Ix (b.vx), Ix (b.vy)]⟩, ⟨[], [], [1], [63], fun f => f 63 = .slice p9 (S.length) c10⟩, ⟨[10], [10], [], [64], fun f => f 64 = .pointer (some ((ba p9).add (0 * 3)))⟩, ⟨[10, 11], [11], [], [65], fun f => f 65 = .agg #[Ix (z.id), Bx (z.along), Ix (z.by_)]⟩, ⟨[0, 1, 2, 3, 4], [4], [2], [], fun _ => True⟩, ⟨[0, 1, 2, 3, 4, 5, 6, 7, 8, 9, 13], [9], [3], [], fun _ => True⟩, ⟨[0, 1, 2, 3, 4, 5, 6, 7, 8, 9, 10, 11, 12, 13, 14], [12], [4], [], fun _ => True⟩] [⟨none, none, [1, 6], [], fun _ => pt b11 (.cells #[.slice p5 (bs.length) c6, .slice p7 (rs.length) c8, Ix (gx), Ix (gy)] 30)⟩, ⟨none, none, [2, 4, 7, 9], [], fun _ => rowF BodyF 52 p5 c6 B⟩, ⟨none, none, [], [], fun _ => rowF RopeF 78 p7 c8 rs⟩, ⟨none, none, [11, 12], [], fun _ => rowF StopF 55 p9 c10 S⟩, ⟨none, (some 15), [15], [], fun _ => pt b4 (.cells #[.int .i64 (0), .int .u8 (0), .int .i64 (0)] 55)⟩, ⟨none, (some 14), [14], [], fun _ => pt b3 (.cells #[.int .i64 (0), .int .i64 (0)] 28)⟩, ⟨none, (some 13), [13], [], fun _ => pt b2 (.cells #[.int .i64 (0), .int .i64 (0)] 28)⟩, ⟨none, none, [], [], fun _ => pt b1 (.cells #[.slice va (bs.length) (vc), .slice rva (rs.length) (rvc), Ix (gx), Ix (gy)] 30)⟩, ⟨(some 13), none, [], [], fun _ => pt b2 (.cells #[Ix (b.x), Ix (b.y)] 28)⟩, ⟨(some 14), none, [], [], fun _ => pt b3 (.cells #[Ix (b.vx), Ix (b.vy)] 28)⟩, ⟨(some 15), none, [], [], fun _ => pt b4 (.cells #[Ix (z.id), Bx (z.along), Ix (z.by_)] 55)⟩] [(5, .pointer (some ⟨b11, 0, none⟩)), (6, .slice p9 (S.length) c10), (2, .pointer (some ⟨b2, 0, none⟩)), (3, .pointer (some ⟨b3, 0, none⟩)), (4, .pointer (some ⟨b4, 0, none⟩))] [2, 3, 4] [] (by kernel_rfl) (by kernel_rfl) (by kernel_rfl) (by kernel_rfl) rfl ⟨rfl, rfl, rfl, rfl, rfl, trivial⟩ ⟨?_, ?_, ?_, ?_, ?_, ?_, ?_, ?_, ?_, ?_, ?_, ?_, ?_, ?_, ?_, ?_, trivial⟩ ?_
   ·rintro f M - ⟨i0, -⟩
    have hs5 : f 5 = .pointer (some ⟨b11, 0, none⟩) := i0
    refine ob_start (L' := M) (by rfl) (up_cons rfl hs5) ?_
    refine l_val (v := .pointer (some ⟨b11, 0, none⟩)) rfl rfl rfl (e_fieldPt (b := b11) (o := 0) rfl tf49) ?_
    refine l_nil ?_
    exact f_owes_d (up_cons rfl hs5) rfl (List.Perm.refl _)
   ·rintro f M ⟨k0, -⟩ -
    have hs53 : f 53 = .pointer (some ⟨b11, 0, none⟩) := k0
    refine ob_start (L' := pt b11 (.cells #[.slice p5 (bs.length) c6, .slice p7 (rs.length) c8, Ix (gx), Ix (gy)] 30) :: M) (by rfl) (up_cons rfl hs53) ?_
    refine l_val (v := .slice p5 (bs.length) c6) rfl rfl rfl (e_load1 tf50 (v := .slice p5 (bs.length) c6) rfl (k_pt 0 (cs := #[.slice p5 (bs.length) c6, .slice p7 (rs.length) c8, Ix (gx), Ix (gy)]) (vs := [.slice p5 (bs.length) c6]) rfl rfl)) ?_
    refine l_nil ?_
    exact f_owes_d (up_cons rfl hs53) rfl (perm_front 0 rfl)
   ·rintro f M ⟨k0, -⟩ -
    have hs54 : f 54 = .slice p5 (bs.length) c6 := k0
    refine ob_start (L' := rowF BodyF 52 p5 c6 B :: M) (by rfl) (up_cons rfl hs54) ?_
    refine l_val (v := .pointer (some ((ba p5).add (0 * 9)))) rfl rfl rfl (e_indexFlN 0 (F := BodyF) (j := 0) (m := bs.length) (xs := B) rfl (by omega) rfl tf43 (by omega) rfl) ?_
    refine l_nil ?_
    exact f_owes_d (up_cons rfl hs54) rfl (perm_front 0 rfl)
   ·rintro f M ⟨k0, -⟩ -
    have hs55 : f 55 = .pointer (some ((ba p5).add (0 * 9))) := k0
    refine ob_start (L' := M) (by rfl) (up_cons rfl hs55) ?_
    refine l_val (v := .pointer (some ((ba p5).add (0 * 9 + 1)))) rfl rfl rfl (ev_eq (congrArg (fun z => Value.pointer (some z)) (show ((ba p5).add (0 * 9) : Addr).add 1 = (ba p5).add (0 * 9 + 1) by rw [Addr.add_add'])) (e_fieldAddr (a := (ba p5).add (0 * 9)) rfl tf6)) ?_
    refine l_nil ?_
    exact f_owes_d (up_cons rfl hs55) rfl (List.Perm.refl _)
   ·rintro f M ⟨k0, -⟩ -
    have hs56 : f 56 = .pointer (some ((ba p5).add (0 * 9 + 1))) := k0
    refine ob_start (L' := rowF BodyF 52 p5 c6 B :: M) (by rfl) (up_cons rfl hs56) ?_
    refine l_val (v := .agg #[Ix (b.x), Ix (b.y)]) rfl rfl rfl (e_load tf15 (cs := [Ix (b.x), Ix (b.y)]) rfl (k_flPart 0 (F := BodyF) (o := 1) (us := [Ix (b.x), Ix (b.y)]) rfl hb0 rfl) rfl) ?_
    refine l_nil ?_
    exact f_owes_d (up_cons rfl hs56) rfl (perm_front 0 rfl)
   ·rintro f M - ⟨i0, -⟩
    have hs5 : f 5 = .pointer (some ⟨b11, 0, none⟩) := i0
    refine ob_start (L' := M) (by rfl) (up_cons rfl hs5) ?_
    refine l_val (v := .pointer (some ⟨b11, 0, none⟩)) rfl rfl rfl (e_fieldPt (b := b11) (o := 0) rfl tf49) ?_
    refine l_nil ?_
    exact f_owes_d (up_cons rfl hs5) rfl (List.Perm.refl _)
   ·rintro f M ⟨k0, -⟩ -
    have hs58 : f 58 = .pointer (some ⟨b11, 0, none⟩) := k0
    refine ob_start (L' := pt b11 (.cells #[.slice p5 (bs.length) c6, .slice p7 (rs.length) c8, Ix (gx), Ix (gy)] 30) :: M) (by rfl) (up_cons rfl hs58) ?_
    refine l_val (v := .slice p5 (bs.length) c6) rfl rfl rfl (e_load1 tf50 (v := .slice p5 (bs.length) c6) rfl (k_pt 0 (cs := #[.slice p5 (bs.length) c6, .slice p7 (rs.length) c8, Ix (gx), Ix (gy)]) (vs := [.slice p5 (bs.length) c6]) rfl rfl)) ?_
    refine l_nil ?_
    exact f_owes_d (up_cons rfl hs58) rfl (perm_front 0 rfl)
   ·rintro f M ⟨k0, -⟩ -
    have hs59 : f 59 = .slice p5 (bs.length) c6 := k0
    refine ob_start (L' := rowF BodyF 52 p5 c6 B :: M) (by rfl) (up_cons rfl hs59) ?_
    refine l_val (v := .pointer (some ((ba p5).add (0 * 9)))) rfl rfl rfl (e_indexFlN 0 (F := BodyF) (j := 0) (m := bs.length) (xs := B) rfl (by omega) rfl tf43 (by omega) rfl) ?_
    refine l_nil ?_
    exact f_owes_d (up_cons rfl hs59) rfl (perm_front 0 rfl)
   ·rintro f M ⟨k0, -⟩ -
    have hs60 : f 60 = .pointer (some ((ba p5).add (0 * 9))) := k0
    refine ob_start (L' := M) (by rfl) (up_cons rfl hs60) ?_
    refine l_val (v := .pointer (some ((ba p5).add (0 * 9 + 3)))) rfl rfl rfl (ev_eq (congrArg (fun z => Value.pointer (some z)) (show ((ba p5).add (0 * 9) : Addr).add 3 = (ba p5).add (0 * 9 + 3) by rw [Addr.add_add'])) (e_fieldAddr (a := (ba p5).add (0 * 9)) rfl tf9)) ?_
    refine l_nil ?_
    exact f_owes_d (up_cons rfl hs60) rfl (List.Perm.refl _)
   ·rintro f M ⟨k0, -⟩ -
    have hs61 : f 61 = .pointer (some ((ba p5).add (0 * 9 + 3))) := k0
    refine ob_start (L' := rowF BodyF 52 p5 c6 B :: M) (by rfl) (up_cons rfl hs61) ?_
    refine l_val (v := .agg #[Ix (b.vx), Ix (b.vy)]) rfl rfl rfl (e_load tf15 (cs := [Ix (b.vx), Ix (b.vy)]) rfl (k_flPart 0 (F := BodyF) (o := 3) (us := [Ix (b.vx), Ix (b.vy)]) rfl hb0 rfl) rfl) ?_
    refine l_nil ?_
    exact f_owes_d (up_cons rfl hs61) rfl (perm_front 0 rfl)
   ·rintro f M - ⟨i0, -⟩
    have hs6 : f 6 = .slice p9 (S.length) c10 := i0
    refine ob_start (L' := M) (by rfl) (up_cons rfl hs6) ?_
    refine l_val (v := .slice p9 (S.length) c10) rfl rfl rfl (e_move) ?_
    refine l_nil ?_
    exact f_owes_d (up_cons rfl hs6) rfl (List.Perm.refl _)
   ·rintro f M ⟨k0, -⟩ -
    have hs63 : f 63 = .slice p9 (S.length) c10 := k0
    refine ob_start (L' := rowF StopF 55 p9 c10 S :: M) (by rfl) (up_cons rfl hs63) ?_
    refine l_val (v := .pointer (some ((ba p9).add (0 * 3)))) rfl rfl rfl (e_indexFlN 0 (F := StopF) (j := 0) (m := S.length) (xs := S) rfl rfl rfl tf100 (by omega) rfl) ?_
    refine l_nil ?_
    exact f_owes_d (up_cons rfl hs63) rfl (perm_front 0 rfl)
   ·rintro f M ⟨k0, -⟩ -
    have hs64 : f 64 = .pointer (some ((ba p9).add (0 * 3))) := k0
    refine ob_start (L' := rowF StopF 55 p9 c10 S :: M) (by rfl) (up_cons rfl hs64) ?_
    refine l_val (v := .agg #[Ix (z.id), Bx (z.along), Ix (z.by_)]) rfl rfl rfl (e_load tf106 (cs := [Ix (z.id), Bx (z.along), Ix (z.by_)]) rfl (k_flAt 0 (F := StopF) rfl hz0) rfl) ?_
    refine l_nil ?_
    exact f_owes_d (up_cons rfl hs64) rfl (perm_front 0 rfl)
   ·rintro f M ⟨k0, -⟩ ⟨i0, -⟩
    have hs2 : f 2 = .pointer (some ⟨b2, 0, none⟩) := i0
    have hs57 : f 57 = .agg #[Ix (b.x), Ix (b.y)] := k0
    refine ob_start (L' := pt b2 (.cells #[.int .i64 (0), .int .i64 (0)] 28) :: M) (by rfl) (up_cons (up_cons rfl hs2) hs57) ?_
    refine l_mu rfl rfl (m_store 0 tf15 (b := b2) (o := 0) (T := 28) (cs := #[.int .i64 (0), .int .i64 (0)]) (cs' := #[Ix (b.x), Ix (b.y)]) (v := .agg #[Ix (b.x), Ix (b.y)]) rfl rfl rfl rfl rfl rfl rfl) ?_
    refine l_nil ?_
    exact f_owes_n (up_cons (up_cons rfl hs2) hs57) trivial (perm_front 0 rfl)
   ·rintro f M ⟨k0, -⟩ ⟨i0, -⟩
    have hs3 : f 3 = .pointer (some ⟨b3, 0, none⟩) := i0
    have hs62 : f 62 = .agg #[Ix (b.vx), Ix (b.vy)] := k0
    refine ob_start (L' := pt b3 (.cells #[.int .i64 (0), .int .i64 (0)] 28) :: M) (by rfl) (up_cons (up_cons rfl hs3) hs62) ?_
    refine l_mu rfl rfl (m_store 0 tf15 (b := b3) (o := 0) (T := 28) (cs := #[.int .i64 (0), .int .i64 (0)]) (cs' := #[Ix (b.vx), Ix (b.vy)]) (v := .agg #[Ix (b.vx), Ix (b.vy)]) rfl rfl rfl rfl rfl rfl rfl) ?_
    refine l_nil ?_
    exact f_owes_n (up_cons (up_cons rfl hs3) hs62) trivial (perm_front 0 rfl)
   ·rintro f M ⟨k0, -⟩ ⟨i0, -⟩
    have hs4 : f 4 = .pointer (some ⟨b4, 0, none⟩) := i0
    have hs65 : f 65 = .agg #[Ix (z.id), Bx (z.along), Ix (z.by_)] := k0
    refine ob_start (L' := pt b4 (.cells #[.int .i64 (0), .int .u8 (0), .int .i64 (0)] 55) :: M) (by rfl) (up_cons (up_cons rfl hs4) hs65) ?_
    refine l_mu rfl rfl (m_store 0 tf106 (b := b4) (o := 0) (T := 55) (cs := #[.int .i64 (0), .int .u8 (0), .int .i64 (0)]) (cs' := #[Ix (z.id), Bx (z.along), Ix (z.by_)]) (v := .agg #[Ix (z.id), Bx (z.along), Ix (z.by_)]) rfl rfl rfl rfl rfl rfl rfl) ?_
    refine l_nil ?_
    exact f_owes_n (up_cons (up_cons rfl hs4) hs65) trivial (perm_front 0 rfl)
   rintro fa14 ⟨-, -, -, -, -, -, -, -, -, -, -, -, -, -, -, -, -⟩ ⟨j0, j1, j2, -⟩
   refine f_re (L' := [pt b11 (.cells #[.slice p5 (bs.length) c6, .slice p7 (rs.length) c8, Ix (gx), Ix (gy)] 30), rowF BodyF 52 p5 c6 B, rowF RopeF 78 p7 c8 rs, rowF StopF 55 p9 c10 S, pt b1 (.cells #[.slice va (bs.length) (vc), .slice rva (rs.length) (rvc), Ix (gx), Ix (gy)] 30), pt b2 (.cells #[Ix (b.x), Ix (b.y)] 28), pt b3 (.cells #[Ix (b.vx), Ix (b.vy)] 28), pt b4 (.cells #[Ix (z.id), Bx (z.along), Ix (z.by_)] 55)]) (by rfl) ?_
   refine f_rebase (d := 2) (v := .pointer (some ⟨b2, 0, none⟩)) j0 ?_
   refine f_rebase (d := 3) (v := .pointer (some ⟨b3, 0, none⟩)) j1 ?_
   refine f_rebase (d := 4) (v := .pointer (some ⟨b4, 0, none⟩)) j2 ?_
   refine f_then ?_
   refine c_ret ?_
   refine retG (l := [.cell 2 28, .cell 3 28, .cell 4 55]) (m := [.agg #[Ix (b.x), Ix (b.y)], .agg #[Ix (b.vx), Ix (b.vy)], .agg #[Ix (z.id), Bx (z.along), Ix (z.by_)]]) (v := .tuple #[.agg #[Ix (b.x), Ix (b.y)], .agg #[Ix (b.vx), Ix (b.vy)], .agg #[Ix (z.id), Bx (z.along), Ix (z.by_)]]) Tryz.results32 ⟨rd_cell tf15 (cs := [Ix (b.x), Ix (b.y)]) rfl (k_pt 5 (cs := #[Ix (b.x), Ix (b.y)]) (vs := [Ix (b.x), Ix (b.y)]) rfl rfl) rfl, rd_cell tf15 (cs := [Ix (b.vx), Ix (b.vy)]) rfl (k_pt 6 (cs := #[Ix (b.vx), Ix (b.vy)]) (vs := [Ix (b.vx), Ix (b.vy)]) rfl rfl) rfl, rd_cell tf106 (cs := [Ix (z.id), Bx (z.along), Ix (z.by_)]) rfl (k_pt 7 (cs := #[Ix (z.id), Bx (z.along), Ix (z.by_)]) (vs := [Ix (z.id), Bx (z.along), Ix (z.by_)]) rfl rfl) rfl, trivial⟩ rfl ?_
   intro w hw
   exact ⟨rfl, st_mask [false, false, false, false, false, false, false, false] rfl hw⟩
set_option maxHeartbeats 4000000 in
theorem ends0_ok (β : Base) (w : World) (hw : St β [] w) (v rv : Value) (gx gy : Int) (bs : List KB) (rs : List KR) (hs : Sl KBR β.heap v bs) (hr : Sl KRR β.heap rv rs) (hgx : -9223372036854775808 ≤ gx ∧ gx ≤ 9223372036854775807) (hgy : -9223372036854775808 ≤ gy ∧ gy ≤ 9223372036854775807) (hG : GR β) (hokS : okS bs rs gx gy) (B : List KB) (S : List KS) (hBS : stepsTo rs gx gy bs bs.length = (B, S)) (hBl : B.length = bs.length) (b : KB) (hb0 : B[0]? = some b) (hzl : S.length = 0) : Calls Tryz.prog 32 #[.agg #[v, rv, Ix gx, Ix gy]] w fun r w' => r = .returned (.tuple #[.agg #[Ix b.x, Ix b.y], .agg #[Ix b.vx, Ix b.vy], .agg #[.int .i64 (0), .int .u8 (0), .int .i64 (0)]]) ∧ St β [] w' := by
 obtain ⟨va, vc, rfl, vl, vm, ve⟩ := hs.get
 obtain ⟨rva, rvc, rfl, rvl, rvm, rve⟩ := hr.get
 have hB0 := (List.getElem?_eq_some_iff.1 hb0).1
 refine enter (n := 66) Tryz.func32 rfl Tryz.ntmps32 rfl ?_ hw
 refine c_seq ?_
 refine c_region ?_
 refine l_mv rfl rfl rfl (m_box (v := .agg #[.slice va (bs.length) (vc), .slice rva (rs.length) (rvc), Ix (gx), Ix (gy)]) rfl) ?_
 rintro _ _ ⟨b1, rfl, rfl⟩
 refine l_mv rfl rfl rfl (m_alloc tf17) ?_
 rintro _ _ ⟨b2, rfl, rfl⟩
 refine l_mv rfl rfl rfl (m_alloc tf17) ?_
 rintro _ _ ⟨b3, rfl, rfl⟩
 refine l_mv rfl rfl rfl (m_alloc tf99) ?_
 rintro _ _ ⟨b4, rfl, rfl⟩
 refine l_nil ?_
 refine f_then ?_
 refine c_seq ?_
 refine c_region ?_
 refine l_val (v := .agg #[.slice va (bs.length) (vc), .slice rva (rs.length) (rvc), Ix (gx), Ix (gy)]) rfl rfl rfl (e_load tf86 (cs := [.slice va (bs.length) (vc), .slice rva (rs.length) (rvc), Ix (gx), Ix (gy)]) rfl (k_pt 3 (cs := #[.slice va (bs.length) (vc), .slice rva (rs.length) (rvc), Ix (gx), Ix (gy)]) (vs := [.slice va (bs.length) (vc), .slice rva (rs.length) (rvc), Ix (gx), Ix (gy)]) rfl rfl) rfl) ?_
 refine l_call rfl rfl rfl (cl_value (fst := []) (cap := []) (vs := [.agg #[.slice va (bs.length) (vc), .slice rva (rs.length) (rvc), Ix (gx), Ix (gy)]]) (all := [.agg #[.slice va (bs.length) (vc), .slice rva (rs.length) (rvc), Ix (gx), Ix (gy)]]) tf104 rfl rfl rfl) ?_
 intro w hw
 obtain ⟨β1, sb, kn, hw1, back⟩ := St.frame_all hw
 refine (stepY_ok β1 w hw1 _ _ gx gy bs rs (Sl.mono _ _ _ _ _ sb (⟨⟨_, _, rfl, vl, vm, ve⟩⟩ : Sl KBR _ _ bs)) (Sl.mono _ _ _ _ _ sb (⟨⟨_, _, rfl, rvl, rvm, rve⟩⟩ : Sl KRR _ _ rs)) hgx hgy (GR.mono sb hG) hokS B S hBS).mono ?_
 rintro e w' ⟨p5, c6, p7, c8, p9, c10, rfl, hw'⟩
 refine ⟨_, rfl, _, back _ _ hw', ?_⟩
 clear hw hw1 hw' back kn sb
 refine l_val (v := .tuple #[.agg #[.slice p5 (bs.length) c6, .slice p7 (rs.length) c8, Ix (gx), Ix (gy)], .slice p9 (S.length) c10, .int .i64 (0)]) rfl rfl rfl (e_move) ?_
 refine l_val (v := .agg #[.slice p5 (bs.length) c6, .slice p7 (rs.length) c8, Ix (gx), Ix (gy)]) rfl rfl rfl (e_extract (vs := #[.agg #[.slice p5 (bs.length) c6, .slice p7 (rs.length) c8, Ix (gx), Ix (gy)], .slice p9 (S.length) c10, .int .i64 (0)]) rfl rfl) ?_
 refine l_val (v := .slice p9 (S.length) c10) rfl rfl rfl (e_extract (vs := #[.agg #[.slice p5 (bs.length) c6, .slice p7 (rs.length) c8, Ix (gx), Ix (gy)], .slice p9 (S.length) c10, .int .i64 (0)]) rfl rfl) ?_
 refine l_val (v := .int .i64 (0)) rfl rfl rfl (e_extract (vs := #[.agg #[.slice p5 (bs.length) c6, .slice p7 (rs.length) c8, Ix (gx), Ix (gy)], .slice p9 (S.length) c10, .int .i64 (0)]) rfl rfl) ?_
 refine l_mv rfl rfl rfl (m_alloc tf85) ?_
 rintro _ _ ⟨b11, rfl, rfl⟩
 refine l_mu rfl rfl (m_store 0 tf86 (b := b11) (o := 0) (T := 30) (cs := #[.slice none 0 0, .slice none 0 0, .int .i64 (0), .int .i64 (0)]) (cs' := #[.slice p5 (bs.length) c6, .slice p7 (rs.length) c8, Ix (gx), Ix (gy)]) (v := .agg #[.slice p5 (bs.length) c6, .slice p7 (rs.length) c8, Ix (gx), Ix (gy)]) rfl rfl rfl rfl rfl rfl rfl) ?_
 refine l_val (v := .slice p9 (S.length) c10) rfl rfl rfl (e_assign) ?_
 refine l_val (v := .int .i64 (0)) rfl rfl rfl (e_assign) ?_
 refine l_nil ?_
 refine f_then ?_
 refine c_seq ?_
 refine c_seq ?_
 refine c_region ?_
 refine l_val (v := .int .i64 (0)) rfl rfl rfl (e_move) ?_
 refine l_val (v := .bool false) rfl rfl rfl (e_neq (a := (0 : Int)) (b := (0 : Int)) rfl rfl) ?_
 refine l_val (v := .bool false) rfl rfl rfl (e_move) ?_
 refine g_val (v := .pointer (some ⟨b11, 0, none⟩)) rfl rfl rfl rfl rfl (e_fieldPt (b := b11) (o := 0) rfl tf49) ?_
 refine g_val (v := .slice p5 (bs.length) c6) rfl rfl rfl rfl rfl (e_load1 tf50 (v := .slice p5 (bs.length) c6) rfl (k_pt 0 (cs := #[.slice p5 (bs.length) c6, .slice p7 (rs.length) c8, Ix (gx), Ix (gy)]) (vs := [.slice p5 (bs.length) c6]) rfl rfl)) ?_
 refine g_val (v := Nx (bs.length)) rfl rfl rfl rfl rfl (e_len (a := p5) (n := bs.length) (c := c6) rfl tf40) ?_
 refine g_val (v := .pointer (some ⟨b1, 0, none⟩)) rfl rfl rfl rfl rfl (e_fieldPt (b := b1) (o := 0) rfl tf49) ?_
 refine g_val (v := .slice va (bs.length) (vc)) rfl rfl rfl rfl rfl (e_load1 tf50 (v := .slice va (bs.length) (vc)) rfl (k_pt 7 (cs := #[.slice va (bs.length) (vc), .slice rva (rs.length) (rvc), Ix (gx), Ix (gy)]) (vs := [.slice va (bs.length) (vc)]) rfl rfl)) ?_
 refine g_val (v := Nx (bs.length)) rfl rfl rfl rfl rfl (e_len (a := va) (n := bs.length) (c := vc) rfl tf40) ?_
 refine g_val (v := .bool (decide (((bs.length : Nat) : Int) ≠ ((bs.length : Nat) : Int)))) rfl rfl rfl rfl rfl (e_neq (a := ((bs.length : Nat) : Int)) (b := ((bs.length : Nat) : Int)) rfl rfl) ?_
 refine l_val (v := .bool (decide (((bs.length : Nat) : Int) ≠ ((bs.length : Nat) : Int)))) rfl rfl rfl (e_pick_f rfl) ?_
 refine l_val (v := .bool (decide (((bs.length : Nat) : Int) ≠ ((bs.length : Nat) : Int)))) rfl rfl rfl (e_move) ?_
 refine l_split (s := 25) (p := ((bs.length : Nat) : Int) ≠ ((bs.length : Nat) : Int)) rfl (fun h => ?_) (fun h => ?_)
 exact absurd h (by omega)
 refine g_val (v := .pointer (some ⟨b11, 0, none⟩)) rfl rfl rfl rfl rfl (e_fieldPt (b := b11) (o := 0) rfl tf49) ?_
 refine g_val (v := .slice p5 (bs.length) c6) rfl rfl rfl rfl rfl (e_load1 tf50 (v := .slice p5 (bs.length) c6) rfl (k_pt 0 (cs := #[.slice p5 (bs.length) c6, .slice p7 (rs.length) c8, Ix (gx), Ix (gy)]) (vs := [.slice p5 (bs.length) c6]) rfl rfl)) ?_
 refine g_val (v := Nx (bs.length)) rfl rfl rfl rfl rfl (e_len (a := p5) (n := bs.length) (c := c6) rfl tf40) ?_
 refine g_val (v := .bool (decide (((bs.length : Nat) : Int) = (0 : Int)))) rfl rfl rfl rfl rfl (e_eql (a := ((bs.length : Nat) : Int)) (b := (0 : Int)) rfl rfl) ?_
 refine l_val (v := .bool (decide (((bs.length : Nat) : Int) = (0 : Int)))) rfl rfl rfl (e_pick_f rfl) ?_
 refine l_val (v := .bool (decide (((bs.length : Nat) : Int) = (0 : Int)))) rfl rfl rfl (e_move) ?_
 refine l_split (s := 31) (p := ((bs.length : Nat) : Int) = (0 : Int)) rfl (fun h => ?_) (fun h => ?_)
 exact absurd h (by omega)
 refine g_val (v := .slice p9 (S.length) c10) rfl rfl rfl rfl rfl (e_move) ?_
 refine g_val (v := Nx (S.length)) rfl rfl rfl rfl rfl (e_len (a := p9) (n := S.length) (c := c10) rfl tf105) ?_
 refine g_val (v := .bool (decide ((1 : Int) < ((S.length : Nat) : Int)))) rfl rfl rfl rfl rfl (e_gtr (a := ((S.length : Nat) : Int)) (b := (1 : Int)) rfl rfl) ?_
 refine l_val (v := .bool (decide ((1 : Int) < ((S.length : Nat) : Int)))) rfl rfl rfl (e_pick_f rfl) ?_
 refine l_nil ?_
 refine f_then ?_
 refine c_if ((1 : Int) < ((S.length : Nat) : Int)) rfl (fun hc12 => ?_) (fun hc12 => ?_)
 ·
  exact absurd hc12 (by omega)
 ·
  refine c_skip ?_
  refine f_then ?_
  refine c_seq ?_
  refine c_seq ?_
  refine c_region ?_
  refine l_val (v := .slice p9 (S.length) c10) rfl rfl rfl (e_move) ?_
  refine l_val (v := Nx (S.length)) rfl rfl rfl (e_len (a := p9) (n := S.length) (c := c10) rfl tf105) ?_
  refine l_val (v := .bool (decide (((S.length : Nat) : Int) = (0 : Int)))) rfl rfl rfl (e_eql (a := ((S.length : Nat) : Int)) (b := (0 : Int)) rfl rfl) ?_
  refine l_nil ?_
  refine f_then ?_
  refine c_if (((S.length : Nat) : Int) = (0 : Int)) rfl (fun hc13 => ?_) (fun hc13 => ?_)
  ·
   refine c_seq ?_
   refine c_any [⟨[], [], [0], [42], fun f => f 42 = .pointer (some ⟨b11, 0, none⟩)⟩, ⟨[0], [0], [], [43], fun f => f 43 = .slice p5 (bs.length) c6⟩, ⟨[0, 1], [1], [], [44], fun f => f 44 = .pointer (some ((ba p5).add (0 * 9)))⟩, ⟨[0, 1, 2], [2], [], [45], fun f => f 45 = .pointer (some ((ba p5).add (0 * 9 + 1)))⟩, ⟨[0, 1, 2, 3], [3], [], [46], fun f => f 46 = .agg #[Ix (b.x), Ix (b.y)]⟩, ⟨[], [], [0], [47], fun f => f 47 = .pointer (some ⟨b11, 0, none⟩)⟩, ⟨[5], [5], [], [48], fun f => f 48 = .slice p5 (bs.length) c6⟩, ⟨[5, 6], [6], [], [49], fun f => f 49 = .pointer (some ((ba p5).add (0 * 9)))⟩, ⟨[5, 6, 7], [7], [], [50], fun f => f 50 = .pointer (some ((ba p5).add (0 * 9 + 3)))⟩, ⟨[5, 6, 7, 8], [8], [], [51], fun f => f 51 = .agg #[Ix (b.vx), Ix (b.vy)]⟩, ⟨[], [], [], [52], fun f => f 52 = .agg #[.int .i64 (0), .int .u8 (0), .int .i64 (0)]⟩, ⟨[0, 1, 2, 3, 4], [4], [1], [], fun _ => True⟩, ⟨[0, 1, 2, 3, 4, 5, 6, 7, 8, 9, 11], [9], [2], [], fun _ => True⟩, ⟨[0, 1, 2, 3, 4, 5, 6, 7, 8, 9, 10, 11, 12], [10], [3], [], fun _ => True⟩] [⟨none, none, [1, 6], [], fun _ => pt b11 (.cells #[.slice p5 (bs.length) c6, .slice p7 (rs.length) c8, Ix (gx), Ix (gy)] 30)⟩, ⟨none, none, [2, 4, 7, 9], [], fun _ => rowF BodyF 52 p5 c6 B⟩, ⟨none, none, [], [], fun _ => rowF RopeF 78 p7 c8 rs⟩, ⟨none, none, [], [], fun _ => rowF StopF 55 p9 c10 S⟩, ⟨none, (some 13), [13], [], fun _ => pt b4 (.cells #[.int .i64 (0), .int .u8 (0), .int .i64 (0)] 55)⟩, ⟨none, (some 12), [12], [], fun _ => pt b3 (.cells #[.int .i64 (0), .int .i64 (0)] 28)⟩, ⟨none, (some 11), [11], [], fun _ => pt b2 (.cells #[.int .i64 (0), .int .i64 (0)] 28)⟩, ⟨none, none, [], [], fun _ => pt b1 (.cells #[.slice va (bs.length) (vc), .slice rva (rs.length) (rvc), Ix (gx), Ix (gy)] 30)⟩, ⟨(some 11), none, [], [], fun _ => pt b2 (.cells #[Ix (b.x), Ix (b.y)] 28)⟩, ⟨(some 12), none, [], [], fun _ => pt b3 (.cells #[Ix (b.vx), Ix (b.vy)] 28)⟩, ⟨(some 13), none, [], [], fun _ => pt b4 (.cells #[.int .i64 (0), .int .u8 (0), .int .i64 (0)] 55)⟩] [(5, .pointer (some ⟨b11, 0, none⟩)), (2, .pointer (some ⟨b2, 0, none⟩)), (3, .pointer (some ⟨b3, 0, none⟩)), (4, .pointer (some ⟨b4, 0, none⟩))] [1, 2, 3] [] (by kernel_rfl) (by kernel_rfl) (by kernel_rfl) (by kernel_rfl) rfl ⟨rfl, rfl, rfl, rfl, trivial⟩ ⟨?_, ?_, ?_, ?_, ?_, ?_, ?_, ?_, ?_, ?_, ?_, ?_, ?_, ?_, trivial⟩ ?_
   ·rintro f M - ⟨i0, -⟩
    have hs5 : f 5 = .pointer (some ⟨b11, 0, none⟩) := i0
    refine ob_start (L' := M) (by rfl) (up_cons rfl hs5) ?_
    refine l_val (v := .pointer (some ⟨b11, 0, none⟩)) rfl rfl rfl (e_fieldPt (b := b11) (o := 0) rfl tf49) ?_
    refine l_nil ?_
    exact f_owes_d (up_cons rfl hs5) rfl (List.Perm.refl _)
   ·rintro f M ⟨k0, -⟩ -
    have hs42 : f 42 = .pointer (some ⟨b11, 0, none⟩) := k0
    refine ob_start (L' := pt b11 (.cells #[.slice p5 (bs.length) c6, .slice p7 (rs.length) c8, Ix (gx), Ix (gy)] 30) :: M) (by rfl) (up_cons rfl hs42) ?_
    refine l_val (v := .slice p5 (bs.length) c6) rfl rfl rfl (e_load1 tf50 (v := .slice p5 (bs.length) c6) rfl (k_pt 0 (cs := #[.slice p5 (bs.length) c6, .slice p7 (rs.length) c8, Ix (gx), Ix (gy)]) (vs := [.slice p5 (bs.length) c6]) rfl rfl)) ?_
    refine l_nil ?_
    exact f_owes_d (up_cons rfl hs42) rfl (perm_front 0 rfl)
   ·rintro f M ⟨k0, -⟩ -
    have hs43 : f 43 = .slice p5 (bs.length) c6 := k0
    refine ob_start (L' := rowF BodyF 52 p5 c6 B :: M) (by rfl) (up_cons rfl hs43) ?_
    refine l_val (v := .pointer (some ((ba p5).add (0 * 9)))) rfl rfl rfl (e_indexFlN 0 (F := BodyF) (j := 0) (m := bs.length) (xs := B) rfl (by omega) rfl tf43 (by omega) rfl) ?_
    refine l_nil ?_
    exact f_owes_d (up_cons rfl hs43) rfl (perm_front 0 rfl)
   ·rintro f M ⟨k0, -⟩ -
    have hs44 : f 44 = .pointer (some ((ba p5).add (0 * 9))) := k0
    refine ob_start (L' := M) (by rfl) (up_cons rfl hs44) ?_
    refine l_val (v := .pointer (some ((ba p5).add (0 * 9 + 1)))) rfl rfl rfl (ev_eq (congrArg (fun z => Value.pointer (some z)) (show ((ba p5).add (0 * 9) : Addr).add 1 = (ba p5).add (0 * 9 + 1) by rw [Addr.add_add'])) (e_fieldAddr (a := (ba p5).add (0 * 9)) rfl tf6)) ?_
    refine l_nil ?_
    exact f_owes_d (up_cons rfl hs44) rfl (List.Perm.refl _)
   ·rintro f M ⟨k0, -⟩ -
    have hs45 : f 45 = .pointer (some ((ba p5).add (0 * 9 + 1))) := k0
    refine ob_start (L' := rowF BodyF 52 p5 c6 B :: M) (by rfl) (up_cons rfl hs45) ?_
    refine l_val (v := .agg #[Ix (b.x), Ix (b.y)]) rfl rfl rfl (e_load tf15 (cs := [Ix (b.x), Ix (b.y)]) rfl (k_flPart 0 (F := BodyF) (o := 1) (us := [Ix (b.x), Ix (b.y)]) rfl hb0 rfl) rfl) ?_
    refine l_nil ?_
    exact f_owes_d (up_cons rfl hs45) rfl (perm_front 0 rfl)
   ·rintro f M - ⟨i0, -⟩
    have hs5 : f 5 = .pointer (some ⟨b11, 0, none⟩) := i0
    refine ob_start (L' := M) (by rfl) (up_cons rfl hs5) ?_
    refine l_val (v := .pointer (some ⟨b11, 0, none⟩)) rfl rfl rfl (e_fieldPt (b := b11) (o := 0) rfl tf49) ?_
    refine l_nil ?_
    exact f_owes_d (up_cons rfl hs5) rfl (List.Perm.refl _)
   ·rintro f M ⟨k0, -⟩ -
    have hs47 : f 47 = .pointer (some ⟨b11, 0, none⟩) := k0
    refine ob_start (L' := pt b11 (.cells #[.slice p5 (bs.length) c6, .slice p7 (rs.length) c8, Ix (gx), Ix (gy)] 30) :: M) (by rfl) (up_cons rfl hs47) ?_
    refine l_val (v := .slice p5 (bs.length) c6) rfl rfl rfl (e_load1 tf50 (v := .slice p5 (bs.length) c6) rfl (k_pt 0 (cs := #[.slice p5 (bs.length) c6, .slice p7 (rs.length) c8, Ix (gx), Ix (gy)]) (vs := [.slice p5 (bs.length) c6]) rfl rfl)) ?_
    refine l_nil ?_
    exact f_owes_d (up_cons rfl hs47) rfl (perm_front 0 rfl)
   ·rintro f M ⟨k0, -⟩ -
    have hs48 : f 48 = .slice p5 (bs.length) c6 := k0
    refine ob_start (L' := rowF BodyF 52 p5 c6 B :: M) (by rfl) (up_cons rfl hs48) ?_
    refine l_val (v := .pointer (some ((ba p5).add (0 * 9)))) rfl rfl rfl (e_indexFlN 0 (F := BodyF) (j := 0) (m := bs.length) (xs := B) rfl (by omega) rfl tf43 (by omega) rfl) ?_
    refine l_nil ?_
    exact f_owes_d (up_cons rfl hs48) rfl (perm_front 0 rfl)
   ·rintro f M ⟨k0, -⟩ -
    have hs49 : f 49 = .pointer (some ((ba p5).add (0 * 9))) := k0
    refine ob_start (L' := M) (by rfl) (up_cons rfl hs49) ?_
    refine l_val (v := .pointer (some ((ba p5).add (0 * 9 + 3)))) rfl rfl rfl (ev_eq (congrArg (fun z => Value.pointer (some z)) (show ((ba p5).add (0 * 9) : Addr).add 3 = (ba p5).add (0 * 9 + 3) by rw [Addr.add_add'])) (e_fieldAddr (a := (ba p5).add (0 * 9)) rfl tf9)) ?_
    refine l_nil ?_
    exact f_owes_d (up_cons rfl hs49) rfl (List.Perm.refl _)
   ·rintro f M ⟨k0, -⟩ -
    have hs50 : f 50 = .pointer (some ((ba p5).add (0 * 9 + 3))) := k0
    refine ob_start (L' := rowF BodyF 52 p5 c6 B :: M) (by rfl) (up_cons rfl hs50) ?_
    refine l_val (v := .agg #[Ix (b.vx), Ix (b.vy)]) rfl rfl rfl (e_load tf15 (cs := [Ix (b.vx), Ix (b.vy)]) rfl (k_flPart 0 (F := BodyF) (o := 3) (us := [Ix (b.vx), Ix (b.vy)]) rfl hb0 rfl) rfl) ?_
    refine l_nil ?_
    exact f_owes_d (up_cons rfl hs50) rfl (perm_front 0 rfl)
   ·rintro f M - -
    refine ob_start (L' := M) (by rfl) rfl ?_
    refine l_val (v := .agg #[.int .i64 (0), .int .u8 (0), .int .i64 (0)]) rfl rfl rfl (e_build tf99 tf98 (vs := []) (cells := #[.int .i64 (0), .int .u8 (0), .int .i64 (0)]) rfl rfl) ?_
    refine l_nil ?_
    exact f_owes_d rfl rfl (List.Perm.refl _)
   ·rintro f M ⟨k0, -⟩ ⟨i0, -⟩
    have hs2 : f 2 = .pointer (some ⟨b2, 0, none⟩) := i0
    have hs46 : f 46 = .agg #[Ix (b.x), Ix (b.y)] := k0
    refine ob_start (L' := pt b2 (.cells #[.int .i64 (0), .int .i64 (0)] 28) :: M) (by rfl) (up_cons (up_cons rfl hs2) hs46) ?_
    refine l_mu rfl rfl (m_store 0 tf15 (b := b2) (o := 0) (T := 28) (cs := #[.int .i64 (0), .int .i64 (0)]) (cs' := #[Ix (b.x), Ix (b.y)]) (v := .agg #[Ix (b.x), Ix (b.y)]) rfl rfl rfl rfl rfl rfl rfl) ?_
    refine l_nil ?_
    exact f_owes_n (up_cons (up_cons rfl hs2) hs46) trivial (perm_front 0 rfl)
   ·rintro f M ⟨k0, -⟩ ⟨i0, -⟩
    have hs3 : f 3 = .pointer (some ⟨b3, 0, none⟩) := i0
    have hs51 : f 51 = .agg #[Ix (b.vx), Ix (b.vy)] := k0
    refine ob_start (L' := pt b3 (.cells #[.int .i64 (0), .int .i64 (0)] 28) :: M) (by rfl) (up_cons (up_cons rfl hs3) hs51) ?_
    refine l_mu rfl rfl (m_store 0 tf15 (b := b3) (o := 0) (T := 28) (cs := #[.int .i64 (0), .int .i64 (0)]) (cs' := #[Ix (b.vx), Ix (b.vy)]) (v := .agg #[Ix (b.vx), Ix (b.vy)]) rfl rfl rfl rfl rfl rfl rfl) ?_
    refine l_nil ?_
    exact f_owes_n (up_cons (up_cons rfl hs3) hs51) trivial (perm_front 0 rfl)
   ·rintro f M ⟨k0, -⟩ ⟨i0, -⟩
    have hs4 : f 4 = .pointer (some ⟨b4, 0, none⟩) := i0
    have hs52 : f 52 = .agg #[.int .i64 (0), .int .u8 (0), .int .i64 (0)] := k0
    refine ob_start (L' := pt b4 (.cells #[.int .i64 (0), .int .u8 (0), .int .i64 (0)] 55) :: M) (by rfl) (up_cons (up_cons rfl hs4) hs52) ?_
    refine l_mu rfl rfl (m_store 0 tf106 (b := b4) (o := 0) (T := 55) (cs := #[.int .i64 (0), .int .u8 (0), .int .i64 (0)]) (cs' := #[.int .i64 (0), .int .u8 (0), .int .i64 (0)]) (v := .agg #[.int .i64 (0), .int .u8 (0), .int .i64 (0)]) rfl rfl rfl rfl rfl rfl rfl) ?_
    refine l_nil ?_
    exact f_owes_n (up_cons (up_cons rfl hs4) hs52) trivial (perm_front 0 rfl)
   rintro fa14 ⟨-, -, -, -, -, -, -, -, -, -, -, -, -, -, -⟩ ⟨j0, j1, j2, -⟩
   refine f_re (L' := [pt b11 (.cells #[.slice p5 (bs.length) c6, .slice p7 (rs.length) c8, Ix (gx), Ix (gy)] 30), rowF BodyF 52 p5 c6 B, rowF RopeF 78 p7 c8 rs, rowF StopF 55 p9 c10 S, pt b1 (.cells #[.slice va (bs.length) (vc), .slice rva (rs.length) (rvc), Ix (gx), Ix (gy)] 30), pt b2 (.cells #[Ix (b.x), Ix (b.y)] 28), pt b3 (.cells #[Ix (b.vx), Ix (b.vy)] 28), pt b4 (.cells #[.int .i64 (0), .int .u8 (0), .int .i64 (0)] 55)]) (by rfl) ?_
   refine f_rebase (d := 2) (v := .pointer (some ⟨b2, 0, none⟩)) j0 ?_
   refine f_rebase (d := 3) (v := .pointer (some ⟨b3, 0, none⟩)) j1 ?_
   refine f_rebase (d := 4) (v := .pointer (some ⟨b4, 0, none⟩)) j2 ?_
   refine f_then ?_
   refine c_ret ?_
   refine f_then_ret ?_
   refine retG (l := [.cell 2 28, .cell 3 28, .cell 4 55]) (m := [.agg #[Ix (b.x), Ix (b.y)], .agg #[Ix (b.vx), Ix (b.vy)], .agg #[.int .i64 (0), .int .u8 (0), .int .i64 (0)]]) (v := .tuple #[.agg #[Ix (b.x), Ix (b.y)], .agg #[Ix (b.vx), Ix (b.vy)], .agg #[.int .i64 (0), .int .u8 (0), .int .i64 (0)]]) Tryz.results32 ⟨rd_cell tf15 (cs := [Ix (b.x), Ix (b.y)]) rfl (k_pt 5 (cs := #[Ix (b.x), Ix (b.y)]) (vs := [Ix (b.x), Ix (b.y)]) rfl rfl) rfl, rd_cell tf15 (cs := [Ix (b.vx), Ix (b.vy)]) rfl (k_pt 6 (cs := #[Ix (b.vx), Ix (b.vy)]) (vs := [Ix (b.vx), Ix (b.vy)]) rfl rfl) rfl, rd_cell tf106 (cs := [.int .i64 (0), .int .u8 (0), .int .i64 (0)]) rfl (k_pt 7 (cs := #[.int .i64 (0), .int .u8 (0), .int .i64 (0)]) (vs := [.int .i64 (0), .int .u8 (0), .int .i64 (0)]) rfl rfl) rfl, trivial⟩ rfl ?_
   intro w hw
   exact ⟨rfl, st_mask [false, false, false, false, false, false, false, false] rfl hw⟩
  ·
   exact absurd (by omega) hc13
end Go.Proofs
