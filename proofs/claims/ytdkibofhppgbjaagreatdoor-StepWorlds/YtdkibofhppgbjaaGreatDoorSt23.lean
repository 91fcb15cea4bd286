/-
 StepWrong, walked. Printed by a program of my own.
-/
import Derived.Test.YtdkibofhppgbjaaGreatDoorSt22
namespace Go.Proofs
open Go Go.Sl Go.Stp
theorem ud135 : (Tryz.prog.info? 24).bind (·.zero) = some (.agg #[.int .i64 (0), .slice none 0 0]) := by kernel_rfl
theorem ud136 : tyB Tryz.prog 24 true 2 = true := by kernel_rfl
theorem ud137 : cfB Tryz.prog 18 = true := by kernel_rfl
theorem ud138 : stB Tryz.prog 24 [(0, 1), (1, 1)] = true := by kernel_rfl
theorem worldN_ok (β : Base) (w : World) (hw : St β [] w) (tick : Int) (v rv : Value) (gx gy : Int) (es : List KEnt) (rs : List KR) (hs : Sl EntR β.heap v es) (hr : Sl KRR β.heap rv rs) (hn : es.length ≤ 65536) (hrn : rs.length ≤ 65536) (hgx : -9223372036854775808 ≤ gx ∧ gx ≤ 9223372036854775807) (hgy : -9223372036854775808 ≤ gy ∧ gy ≤ 9223372036854775807) (hG : GR β) (hno : ¬ okS (bodiesOf es) (ropesOf (bodiesOf es) rs) gx gy) : Calls Tryz.prog 24 #[.agg #[Ix tick, v], rv, .agg #[Ix gx, Ix gy]] w fun r w' => r = .returned (.tuple #[.agg #[.int .i64 (0), .slice none 0 0], .slice none 0 0, .int .i64 (2)]) ∧ St β [] w' := by
 refine enter (n := 29) Tryz.func24 rfl Tryz.ntmps24 rfl ?_ hw
 refine c_seq ?_
 refine c_region ?_
 refine l_mv rfl rfl rfl (m_box (v := .agg #[Ix (tick), v]) rfl) ?_
 rintro _ _ ⟨b1, rfl, rfl⟩
 refine l_mv rfl rfl rfl (m_box (v := .agg #[Ix (gx), Ix (gy)]) rfl) ?_
 rintro _ _ ⟨b2, rfl, rfl⟩
 refine l_mv rfl rfl rfl (m_alloc ud135) ?_
 rintro _ _ ⟨b3, rfl, rfl⟩
 refine l_val (v := .slice none 0 0) rfl rfl rfl (e_assign) ?_
 refine l_val (v := .int .i64 (0)) rfl rfl rfl (e_assign) ?_
 refine l_nil ?_
 refine f_then ?_
 refine c_seq ?_
 refine c_region ?_
 refine l_val (v := .agg #[Ix (tick), v]) rfl rfl rfl (e_load ud136 (cs := [Ix (tick), v]) rfl (k_pt 2 (cs := #[Ix (tick), v]) (vs := [Ix (tick), v]) rfl rfl) rfl) ?_
 refine l_val (v := rv) rfl rfl rfl (e_move) ?_
 refine l_val (v := .agg #[Ix (gx), Ix (gy)]) rfl rfl rfl (e_load tf15 (cs := [Ix (gx), Ix (gy)]) rfl (k_pt 1 (cs := #[Ix (gx), Ix (gy)]) (vs := [Ix (gx), Ix (gy)]) rfl rfl) rfl) ?_
 refine l_call rfl rfl rfl (cl_value (fst := []) (cap := []) (vs := [.agg #[Ix (tick), v], rv, .agg #[Ix (gx), Ix (gy)]]) (all := [.agg #[Ix (tick), v], rv, .agg #[Ix (gx), Ix (gy)]]) ud137 rfl rfl rfl) ?_
 intro w hw
 obtain ⟨β1, sb, kn, hw1, back⟩ := St.frame_all hw
 refine (worldB_ok β1 w hw1 _ _ _ (gx) (gy) es rs (Sl.mono _ _ _ _ _ sb hs) (Sl.mono _ _ _ _ _ sb hr) hn hrn).mono ?_
 rintro e w' ⟨p4, c5, p6, c7, rfl, hw'⟩
 refine ⟨_, rfl, _, back _ _ hw', ?_⟩
 clear hw hw1 hw' back kn sb
 refine l_call rfl rfl rfl (cl_value (fst := []) (cap := []) (vs := [.agg #[.slice p4 ((bodiesOf es).length) c5, .slice p6 ((ropesOf (bodiesOf es) rs).length) c7, Ix (gx), Ix (gy)]]) (all := [.agg #[.slice p4 ((bodiesOf es).length) c5, .slice p6 ((ropesOf (bodiesOf es) rs).length) c7, Ix (gx), Ix (gy)]]) tf104 rfl rfl rfl) ?_
 intro w hw
 obtain ⟨β1, sb, kn, hw1, back⟩ := St.frame_all hw
 refine (stepN_ok β1 w hw1 _ _ (gx) (gy) (bodiesOf es) (ropesOf (bodiesOf es) rs) (kn _ (k_flN 0 (F := BodyF) (m := (bodiesOf es).length) (xs := (bodiesOf es)) rfl rfl)) (kn _ (k_flN 1 (F := RopeF) (m := (ropesOf (bodiesOf es) rs).length) (xs := (ropesOf (bodiesOf es) rs)) rfl rfl)) (by omega) (by omega) (GR.mono sb hG) hno).mono ?_
 rintro e w' ⟨rfl, hw'⟩
 refine ⟨_, rfl, _, back _ _ hw', ?_⟩
 clear hw hw1 hw' back kn sb
 refine l_val (v := .tuple #[.agg #[.slice none 0 0, .slice none 0 0, .int .i64 (0), .int .i64 (0)], .slice none 0 0, .int .i64 (2)]) rfl rfl rfl (e_move) ?_
 refine l_val (v := .agg #[.slice none 0 0, .slice none 0 0, .int .i64 (0), .int .i64 (0)]) rfl rfl rfl (e_extract (vs := #[.agg #[.slice none 0 0, .slice none 0 0, .int .i64 (0), .int .i64 (0)], .slice none 0 0, .int .i64 (2)]) rfl rfl) ?_
 refine l_val (v := .slice none 0 0) rfl rfl rfl (e_extract (vs := #[.agg #[.slice none 0 0, .slice none 0 0, .int .i64 (0), .int .i64 (0)], .slice none 0 0, .int .i64 (2)]) rfl rfl) ?_
 refine l_val (v := .int .i64 (2)) rfl rfl rfl (e_extract (vs := #[.agg #[.slice none 0 0, .slice none 0 0, .int .i64 (0), .int .i64 (0)], .slice none 0 0, .int .i64 (2)]) rfl rfl) ?_
 refine l_mv rfl rfl rfl (m_alloc tf85) ?_
 rintro _ _ ⟨b8, rfl, rfl⟩
 refine l_mu rfl rfl (m_store 0 tf86 (b := b8) (o := 0) (T := 30) (cs := #[.slice none 0 0, .slice none 0 0, .int .i64 (0), .int .i64 (0)]) (cs' := #[.slice none 0 0, .slice none 0 0, .int .i64 (0), .int .i64 (0)]) (v := .agg #[.slice none 0 0, .slice none 0 0, .int .i64 (0), .int .i64 (0)]) rfl rfl rfl rfl rfl rfl rfl) ?_
 refine l_val (v := .slice none 0 0) rfl rfl rfl (e_assign) ?_
 refine l_val (v := .int .i64 (2)) rfl rfl rfl (e_assign) ?_
 refine l_nil ?_
 refine f_then ?_
 refine c_seq ?_
 refine c_seq ?_
 refine c_region ?_
 refine l_val (v := .int .i64 (2)) rfl rfl rfl (e_move) ?_
 refine l_val (v := .bool true) rfl rfl rfl (e_neq (a := (2 : Int)) (b := (0 : Int)) rfl rfl) ?_
 refine l_nil ?_
 refine f_then ?_
 refine c_yes rfl ?_
 refine c_seq ?_
 refine c_region ?_
 refine l_val (v := .agg #[.int .i64 (0), .slice none 0 0]) rfl rfl rfl (e_build ud135 ud138 (vs := []) (cells := #[.int .i64 (0), .slice none 0 0]) rfl rfl) ?_
 refine l_val (v := .int .i64 (2)) rfl rfl rfl (e_move) ?_
 refine l_mu rfl rfl (m_store 3 ud136 (b := b3) (o := 0) (T := 24) (cs := #[.int .i64 (0), .slice none 0 0]) (cs' := #[.int .i64 (0), .slice none 0 0]) (v := .agg #[.int .i64 (0), .slice none 0 0]) rfl rfl rfl rfl rfl rfl rfl) ?_
 refine l_val (v := .slice none 0 0) rfl rfl rfl (e_assign) ?_
 refine l_val (v := .int .i64 (2)) rfl rfl rfl (e_assign) ?_
 refine l_nil ?_
 refine f_then ?_
 refine c_ret ?_
 refine f_then_ret ?_
 refine retG (l := [.cell 6 24, .tmp 7, .tmp 8]) (m := [.agg #[.int .i64 (0), .slice none 0 0], .slice none 0 0, .int .i64 (2)]) (v := .tuple #[.agg #[.int .i64 (0), .slice none 0 0], .slice none 0 0, .int .i64 (2)]) Tryz.results24 ⟨rd_cell ud136 (cs := [.int .i64 (0), .slice none 0 0]) rfl (k_pt 3 (cs := #[.int .i64 (0), .slice none 0 0]) (vs := [.int .i64 (0), .slice none 0 0]) rfl rfl) rfl, rd_tmp (v := .slice none 0 0) rfl, rd_tmp (v := .int .i64 (2)) rfl, trivial⟩ rfl ?_
 intro w hw
 exact ⟨rfl, st_mask [false, false, false, false, false, false] rfl hw⟩
end Go.Proofs
