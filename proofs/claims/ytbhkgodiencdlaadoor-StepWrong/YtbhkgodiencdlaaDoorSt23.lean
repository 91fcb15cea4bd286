/-
 StepWrong, walked. Printed by a program of my own.
-/
import Derived.Test.YtbhkgodiencdlaaDoorSt11
import Derived.Test.YtbhkgodiencdlaaDoorSt22
import Derived.Test.YtbhkgodiencdlaaDoorStWrong
namespace Go.Proofs
open Go Go.Sl Go.Stp
theorem tg135 : (Tryd.prog.info? 70).bind (·.zero) = some (.agg #[.int .i64 (0), .slice none 0 0]) := by kernel_rfl
theorem tg136 : tyB Tryd.prog 70 true 2 = true := by kernel_rfl
theorem tg137 : cfB Tryd.prog 34 = true := by kernel_rfl
theorem tg138 : stB Tryd.prog 70 [(0, 1), (1, 1)] = true := by kernel_rfl
theorem tg139 : cfB Tryd.prog 14 = true := by kernel_rfl
theorem tg140 : cfB Tryd.prog 21 = true := by kernel_rfl
theorem tg141 : stB Tryd.prog 73 [(0, 1), (1, 4)] = true := by kernel_rfl
theorem tg142 : (Tryd.prog.info? 73).bind (·.zero) = some (.agg #[.int .u8 (0), .int .i64 (0), .int .i64 (0), .int .i64 (0), .int .i64 (0)]) := by kernel_rfl
theorem tg143 : (Tryd.prog.info? 66).bind (·.zero) = some (.agg #[.int .i64 (0), .int .i64 (0), .int .i64 (0), .int .i64 (0)]) := by kernel_rfl
theorem tg144 : stB Tryd.prog 76 [(0, 1), (1, 1)] = true := by kernel_rfl
theorem tg145 : cfB Tryd.prog 32 = true := by kernel_rfl
theorem worldN_ok (β : Base) (w : World) (hw : St β [] w) (tick : Int) (v rv : Value) (gx gy : Int) (es : List KEnt) (rs : List KR) (hs : Sl EntR β.heap v es) (hr : Sl KRR β.heap rv rs) (hn : es.length ≤ 65536) (hrn : rs.length ≤ 65536) (hgx : -9223372036854775808 ≤ gx ∧ gx ≤ 9223372036854775807) (hgy : -9223372036854775808 ≤ gy ∧ gy ≤ 9223372036854775807) (hG : GR β) (hno : ¬ okS (bodiesOf es) (ropesOf (bodiesOf es) rs) gx gy) : Calls Tryd.prog 32 #[.agg #[Ix tick, v], rv, .agg #[Ix gx, Ix gy]] w fun r w' => r = .returned (.tuple #[.agg #[.int .i64 (0), .slice none 0 0], .slice none 0 0, .int .i64 (2)]) ∧ St β [] w' := by
 refine enter (n := 29) Tryd.func32 rfl Tryd.ntmps32 rfl ?_ hw
 refine c_seq ?_
 refine c_region ?_
 refine l_mv rfl rfl rfl (m_box (v := .agg #[Ix (tick), v]) rfl) ?_
 rintro _ _ ⟨b1, rfl, rfl⟩
 refine l_mv rfl rfl rfl (m_box (v := .agg #[Ix (gx), Ix (gy)]) rfl) ?_
 rintro _ _ ⟨b2, rfl, rfl⟩
 refine l_mv rfl rfl rfl (m_alloc tg135) ?_
 rintro _ _ ⟨b3, rfl, rfl⟩
 refine l_val (v := .slice none 0 0) rfl rfl rfl (e_assign) ?_
 refine l_val (v := .int .i64 (0)) rfl rfl rfl (e_assign) ?_
 refine l_nil ?_
 refine f_then ?_
 refine c_seq ?_
 refine c_region ?_
 refine l_val (v := .agg #[Ix (tick), v]) rfl rfl rfl (e_load tg136 (cs := [Ix (tick), v]) rfl (k_pt 2 (cs := #[Ix (tick), v]) (vs := [Ix (tick), v]) rfl rfl) rfl) ?_
 refine l_val (v := rv) rfl rfl rfl (e_move) ?_
 refine l_val (v := .agg #[Ix (gx), Ix (gy)]) rfl rfl rfl (e_load tf15 (cs := [Ix (gx), Ix (gy)]) rfl (k_pt 1 (cs := #[Ix (gx), Ix (gy)]) (vs := [Ix (gx), Ix (gy)]) rfl rfl) rfl) ?_
 refine l_call rfl rfl rfl (cl_value (fst := []) (cap := []) (vs := [.agg #[Ix (tick), v], rv, .agg #[Ix (gx), Ix (gy)]]) (all := [.agg #[Ix (tick), v], rv, .agg #[Ix (gx), Ix (gy)]]) tg137 rfl rfl rfl) ?_
 intro w hw
 obtain ⟨β1, sb, kn, hw1, back⟩ := St.frame_all hw
 refine (worldB_ok β1 w hw1 _ _ _ (gx) (gy) es rs (Sl.mono _ _ _ _ _ sb hs) (Sl.mono _ _ _ _ _ sb hr) hn hrn).mono ?_
 rintro e w' ⟨p4, c5, p6, c7, rfl, hw'⟩
 refine ⟨_, rfl, _, back _ _ hw', ?_⟩
 clear hw hw1 hw' back kn sb
 refine l_call rfl rfl rfl (cl_value (fst := []) (cap := []) (vs := [.agg #[.slice p4 ((bodiesOf es).length) c5, .slice p6 ((ropesOf (bodiesOf es) rs).length) c7, Ix (gx), Ix (gy)]]) (all := [.agg #[.slice p4 ((bodiesOf es).length) c5, .slice p6 ((ropesOf (bodiesOf es) rs).length) c7, Ix (gx), Ix (gy)]]) tf104 rfl rfl rfl) ?_
 intro w hw
 obtain ⟨β1, sb, kn, hw1, back⟩ := St.frame_all hw
 refine (stepN_ok β1 w hw1 _ _ (gx) (gy) (bodiesOf es) (ropesOf (bodiesOf es) rs) (kn _ (k_flN 0 (F := BodyF) (m := (bodiesOf es).length) (xs := (bodiesOf es)) rfl rfl)) (kn _ (k_flN 1 (F := RopeF) (m := (ropesOf (bodiesOf es) rs).length) (xs := (ropesOf (bodiesOf es) rs)) rfl rfl)) (by omega) (by omega) (GR.mono sb hG) hno).mono ?_
 rintro e w' ⟨rfl, hw'⟩
 refine ⟨_, rfl, _, back _ _ hw', ?_⟩
 clear hw hw1 hw' back kn sb
 refine l_val (v := .tuple #[.agg #[.slice none 0 0, .slice none 0 0, .int .i64 (0), .int .i64 (0)], .slice none 0 0, .int .i64 (2)]) rfl rfl rfl (e_move) ?_
 refine l_val (v := .agg #[.slice none 0 0, .slice none 0 0, .int .i64 (0), .int .i64 (0)]) rfl rfl rfl (e_extract (vs := #[.agg #[.slice none 0 0, .slice none 0 0, .int .i64 (0), .int .i64 (0)], .slice none 0 0, .int .i64 (2)]) rfl rfl) ?_
 refine l_val (v := .slice none 0 0) rfl rfl rfl (e_extract (vs := #[.agg #[.slice none 0 0, .slice none 0 0, .int .i64 (0), .int .i64 (0)], .slice none 0 0, .int .i64 (2)]) rfl rfl) ?_
 refine l_val (v := .int .i64 (2)) rfl rfl rfl (e_extract (vs := #[.agg #[.slice none 0 0, .slice none 0 0, .int .i64 (0), .int .i64 (0)], .slice none 0 0, .int .i64 (2)]) rfl rfl) ?_
 refine l_mv rfl rfl rfl (m_alloc tf85) ?_
 rintro _ _ ⟨b8, rfl, rfl⟩
 refine l_mu rfl rfl (m_store 0 tf86 (b := b8) (o := 0) (T := 27) (cs := #[.slice none 0 0, .slice none 0 0, .int .i64 (0), .int .i64 (0)]) (cs' := #[.slice none 0 0, .slice none 0 0, .int .i64 (0), .int .i64 (0)]) (v := .agg #[.slice none 0 0, .slice none 0 0, .int .i64 (0), .int .i64 (0)]) rfl rfl rfl rfl rfl rfl rfl) ?_
 refine l_val (v := .slice none 0 0) rfl rfl rfl (e_assign) ?_
 refine l_val (v := .int .i64 (2)) rfl rfl rfl (e_assign) ?_
 refine l_nil ?_
 refine f_then ?_
 refine c_seq ?_
 refine c_seq ?_
 refine c_region ?_
 refine l_val (v := .int .i64 (2)) rfl rfl rfl (e_move) ?_
 refine l_val (v := .bool true) rfl rfl rfl (e_neq (a := (2 : Int)) (b := (0 : Int)) rfl rfl) ?_
 refine l_nil ?_
 refine f_then ?_
 refine c_yes rfl ?_
 refine c_seq ?_
 refine c_region ?_
 refine l_val (v := .agg #[.int .i64 (0), .slice none 0 0]) rfl rfl rfl (e_build tg135 tg138 (vs := []) (cells := #[.int .i64 (0), .slice none 0 0]) rfl rfl) ?_
 refine l_val (v := .int .i64 (2)) rfl rfl rfl (e_move) ?_
 refine l_mu rfl rfl (m_store 3 tg136 (b := b3) (o := 0) (T := 70) (cs := #[.int .i64 (0), .slice none 0 0]) (cs' := #[.int .i64 (0), .slice none 0 0]) (v := .agg #[.int .i64 (0), .slice none 0 0]) rfl rfl rfl rfl rfl rfl rfl) ?_
 refine l_val (v := .slice none 0 0) rfl rfl rfl (e_assign) ?_
 refine l_val (v := .int .i64 (2)) rfl rfl rfl (e_assign) ?_
 refine l_nil ?_
 refine f_then ?_
 refine c_ret ?_
 refine f_then_ret ?_
 refine retG (l := [.cell 6 70, .tmp 7, .tmp 8]) (m := [.agg #[.int .i64 (0), .slice none 0 0], .slice none 0 0, .int .i64 (2)]) (v := .tuple #[.agg #[.int .i64 (0), .slice none 0 0], .slice none 0 0, .int .i64 (2)]) Tryd.results32 ⟨rd_cell tg136 (cs := [.int .i64 (0), .slice none 0 0]) rfl (k_pt 3 (cs := #[.int .i64 (0), .slice none 0 0]) (vs := [.int .i64 (0), .slice none 0 0]) rfl rfl) rfl, rd_tmp (v := .slice none 0 0) rfl, rd_tmp (v := .int .i64 (2)) rfl, trivial⟩ rfl ?_
 intro w hw
 exact ⟨rfl, st_mask [false, false, false, false, false, false] rfl hw⟩
set_option maxHeartbeats 4000000 in
theorem wrong_ok (β : Base) (w : World) (hw : St β [] w) (v u : Value) (fs : List KF) (us : List UInt8) (hs : Sl FormR β.heap v fs) (hu : Sl U8R β.heap u us) (way : UInt8) (hG : GR β) : Calls Tryd.prog 11 #[v, u, Bx way] w fun r w' => r = .returned (.bool true) ∧ St β [] w' := by
 refine enter (n := 126) Tryd.func11 rfl Tryd.ntmps11 rfl ?_ hw
 refine c_seq ?_
 refine c_region ?_
 refine l_val (v := .bool false) rfl rfl rfl (e_assign) ?_
 refine l_nil ?_
 refine f_then ?_
 refine c_seq ?_
 refine c_seq ?_
 refine c_region ?_
 refine l_call rfl rfl rfl (cl_value (fst := []) (cap := []) (vs := []) (all := []) tg139 rfl rfl rfl) ?_
 intro w hw
 obtain ⟨β1, sb, kn, hw1, back⟩ := St.frame_all hw
 have hG1 := GR.mono sb hG
 refine (awake_ok β1 w hw1 hG1).mono ?_
 rintro e w' ⟨rfl, hw'⟩
 refine ⟨_, rfl, _, back _ _ hw', ?_⟩
 clear hw hw1 hw' back kn sb
 refine l_val (v := .bool false) rfl rfl rfl (e_not (a := true) rfl) ?_
 refine l_nil ?_
 refine f_then ?_
 refine c_no rfl ?_
 refine c_skip ?_
 refine f_then ?_
 refine c_seq ?_
 refine c_region ?_
 refine l_val (v := v) rfl rfl rfl (e_move) ?_
 refine l_val (v := u) rfl rfl rfl (e_move) ?_
 refine l_call rfl rfl rfl (cl_value (fst := []) (cap := []) (vs := [v, u, .int .i8 (0), .int .i8 (0)]) (all := [v, u, .int .i8 (0), .int .i8 (0)]) tg140 rfl rfl rfl) ?_
 intro w hw
 obtain ⟨β1, sb, kn, hw1, back⟩ := St.frame_all hw
 refine (made8_ok β1 w hw1 _ _ fs us (Sl.mono _ _ _ _ _ sb hs) (Sl.mono _ _ _ _ _ sb hu) 0 0 (by decide) (by decide)).mono ?_
 rintro e w' ⟨bs, R, p1, c2, p3, c4, rfl, hmP, hbl, hRu, hw'⟩
 refine ⟨_, rfl, _, back _ _ hw', ?_⟩
 clear hw hw1 hw' back kn sb
 refine l_mv rfl rfl rfl (m_alloc tf85) ?_
 rintro _ _ ⟨b5, rfl, rfl⟩
 refine l_mu rfl rfl (m_store 0 tf86 (b := b5) (o := 0) (T := 27) (cs := #[.slice none 0 0, .slice none 0 0, .int .i64 (0), .int .i64 (0)]) (cs' := #[.slice p1 (bs.length) c2, .slice p3 (R.length) c4, .int .i64 (0), .int .i64 (0)]) (v := .agg #[.slice p1 (bs.length) c2, .slice p3 (R.length) c4, .int .i64 (0), .int .i64 (0)]) rfl rfl rfl rfl rfl rfl rfl) ?_
 refine l_nil ?_
 refine f_then ?_
 refine c_seq ?_
 have hb16 := hmP.few
 have hr6 := hmP.ropes
 refine c_any [⟨[], [], [0], [21], fun f => f 21 = .pointer (some ⟨b5, 0, none⟩)⟩, ⟨[0], [0], [], [22], fun f => f 22 = .slice p1 (bs.length) c2⟩, ⟨[], [], [], [23], fun f => f 23 = .agg #[.int .i64 (60), .int .i64 (0), .int .i64 (0), .int .i64 (0), .int .i64 (0), .int .i64 (5), .int .i64 (5), .bool false, .bool false]⟩, ⟨[2], [], [], [24], fun f => f 24 = .agg #[.int .i64 (61), .int .i64 (0), .int .i64 (0), .int .i64 (0), .int .i64 (0), .int .i64 (5), .int .i64 (5), .bool false, .bool false]⟩, ⟨[2, 3], [2, 3], [], [25], fun f => f 25 = .slice (some ⟨(blk (f 25)), 0, none⟩) 2 2⟩, ⟨[0, 1, 2, 3, 4], [1, 4], [], [26], fun f => f 26 = .slice (sla (f 26)) ((bs ++ [wb0, wb1]).length) (slc (f 26))⟩, ⟨[0, 1, 2, 3, 4, 5], [], [0], [27], fun f => f 27 = .pointer (some ⟨b5, 0, none⟩)⟩, ⟨[0, 1, 2, 3, 4, 5, 6], [6, 5], [], [], fun _ => True⟩] [⟨none, (some 7), [1, 7], [], fun _ => pt b5 (.cells #[.slice p1 (bs.length) c2, .slice p3 (R.length) c4, .int .i64 (0), .int .i64 (0)] 27)⟩, ⟨none, (some 5), [5], [], fun _ => rowF BodyF 31 p1 c2 bs⟩, ⟨none, none, [], [], fun _ => rowF RopeF 35 p3 c4 R⟩, ⟨(some 4), none, [5], [25], fun f => pt (blk (f 25)) (.cells #[.int .i64 (60), .int .i64 (0), .int .i64 (0), .int .i64 (0), .int .i64 (0), .int .i64 (5), .int .i64 (5), .bool false, .bool false, .int .i64 (61), .int .i64 (0), .int .i64 (0), .int .i64 (0), .int .i64 (0), .int .i64 (5), .int .i64 (5), .bool false, .bool false] 31)⟩, ⟨(some 5), none, [], [26], fun f => rowF BodyF 31 (sla (f 26)) (slc (f 26)) (bs ++ [wb0, wb1])⟩, ⟨(some 7), none, [], [26], fun f => pt b5 (.cells #[.slice (sla (f 26)) ((bs ++ [wb0, wb1]).length) (slc (f 26)), .slice p3 (R.length) c4, .int .i64 (0), .int .i64 (0)] 27)⟩] [(7, .pointer (some ⟨b5, 0, none⟩)), (2, Bx (way))] [1, 0] [] (by kernel_rfl) (by kernel_rfl) (by kernel_rfl) (by kernel_rfl) rfl ⟨rfl, rfl, trivial⟩ ⟨?_, ?_, ?_, ?_, ?_, ?_, ?_, ?_, trivial⟩ ?_
 ·rintro f M - ⟨i0, -⟩
  have hs7 : f 7 = .pointer (some ⟨b5, 0, none⟩) := i0
  refine ob_start (L' := M) (by rfl) (up_cons rfl hs7) ?_
  refine l_val (v := .pointer (some ⟨b5, 0, none⟩)) rfl rfl rfl (e_fieldPt (b := b5) (o := 0) rfl tf49) ?_
  refine l_nil ?_
  exact f_owes_d (up_cons rfl hs7) rfl (List.Perm.refl _)
 ·rintro f M ⟨k0, -⟩ -
  have hs21 : f 21 = .pointer (some ⟨b5, 0, none⟩) := k0
  refine ob_start (L' := pt b5 (.cells #[.slice p1 (bs.length) c2, .slice p3 (R.length) c4, .int .i64 (0), .int .i64 (0)] 27) :: M) (by rfl) (up_cons rfl hs21) ?_
  refine l_val (v := .slice p1 (bs.length) c2) rfl rfl rfl (e_load1 tf50 (v := .slice p1 (bs.length) c2) rfl (k_pt 0 (cs := #[.slice p1 (bs.length) c2, .slice p3 (R.length) c4, .int .i64 (0), .int .i64 (0)]) (vs := [.slice p1 (bs.length) c2]) rfl rfl)) ?_
  refine l_nil ?_
  exact f_owes_d (up_cons rfl hs21) rfl (perm_front 0 rfl)
 ·rintro f M - -
  refine ob_start (L' := M) (by rfl) rfl ?_
  refine l_call rfl rfl rfl (cl_value (fst := []) (cap := []) (vs := [.int .i64 (60), .int .i64 (0), .int .i64 (0), .int .i64 (5), .int .i64 (5), .int .i64 (0), .int .i64 (0)]) (all := [.int .i64 (60), .int .i64 (0), .int .i64 (0), .int .i64 (5), .int .i64 (5), .int .i64 (0), .int .i64 (0)]) tf103 rfl rfl rfl) ?_
  intro w hw
  obtain ⟨β1, sb, kn, hw1, back⟩ := St.frame_all hw
  refine (box_ok β1 w hw1 (60 : Int) (0 : Int) (0 : Int) (5 : Int) (5 : Int) (0 : Int) (0 : Int)).mono ?_
  rintro e w' ⟨rfl, hw'⟩
  refine ⟨_, rfl, _, back _ _ hw', ?_⟩
  clear hw hw1 hw' back kn sb
  refine l_nil ?_
  exact f_owes_d rfl rfl (List.Perm.refl _)
 ·rintro f M - -
  refine ob_start (L' := M) (by rfl) rfl ?_
  refine l_call rfl rfl rfl (cl_value (fst := []) (cap := []) (vs := [.int .i64 (61), .int .i64 (0), .int .i64 (0), .int .i64 (5), .int .i64 (5), .int .i64 (0), .int .i64 (0)]) (all := [.int .i64 (61), .int .i64 (0), .int .i64 (0), .int .i64 (5), .int .i64 (5), .int .i64 (0), .int .i64 (0)]) tf103 rfl rfl rfl) ?_
  intro w hw
  obtain ⟨β1, sb, kn, hw1, back⟩ := St.frame_all hw
  refine (box_ok β1 w hw1 (61 : Int) (0 : Int) (0 : Int) (5 : Int) (5 : Int) (0 : Int) (0 : Int)).mono ?_
  rintro e w' ⟨rfl, hw'⟩
  refine ⟨_, rfl, _, back _ _ hw', ?_⟩
  clear hw hw1 hw' back kn sb
  refine l_nil ?_
  exact f_owes_d rfl rfl (List.Perm.refl _)
 ·rintro f M ⟨k0, k1, -⟩ -
  have hs23 : f 23 = .agg #[.int .i64 (60), .int .i64 (0), .int .i64 (0), .int .i64 (0), .int .i64 (0), .int .i64 (5), .int .i64 (5), .bool false, .bool false] := k0
  have hs24 : f 24 = .agg #[.int .i64 (61), .int .i64 (0), .int .i64 (0), .int .i64 (0), .int .i64 (0), .int .i64 (5), .int .i64 (5), .bool false, .bool false] := k1
  refine ob_start (L' := M) (by rfl) (up_cons (up_cons rfl hs23) hs24) ?_
  refine l_mv rfl rfl rfl (m_slices tf43 tf58 (vs := [(0, .agg #[.int .i64 (60), .int .i64 (0), .int .i64 (0), .int .i64 (0), .int .i64 (0), .int .i64 (5), .int .i64 (5), .bool false, .bool false]), (1, .agg #[.int .i64 (61), .int .i64 (0), .int .i64 (0), .int .i64 (0), .int .i64 (0), .int .i64 (5), .int .i64 (5), .bool false, .bool false])]) (cells := #[.int .i64 (60), .int .i64 (0), .int .i64 (0), .int .i64 (0), .int .i64 (0), .int .i64 (5), .int .i64 (5), .bool false, .bool false, .int .i64 (61), .int .i64 (0), .int .i64 (0), .int .i64 (0), .int .i64 (0), .int .i64 (5), .int .i64 (5), .bool false, .bool false]) rfl rfl rfl (by kernel_rfl)) ?_
  rintro _ _ ⟨b7, rfl, rfl⟩
  refine l_nil ?_
  exact f_owes_d (up_cons (up_cons rfl hs23) hs24) rfl (perm_front 0 rfl)
 ·rintro f M ⟨k0, k1, -⟩ -
  have hs22 : f 22 = .slice p1 (bs.length) c2 := k0
  have hs25 : f 25 = .slice (some ⟨(blk (f 25)), 0, none⟩) 2 2 := k1
  refine ob_start (L' := rowF BodyF 31 p1 c2 bs :: pt (blk (f 25)) (.cells #[.int .i64 (60), .int .i64 (0), .int .i64 (0), .int .i64 (0), .int .i64 (0), .int .i64 (5), .int .i64 (5), .bool false, .bool false, .int .i64 (61), .int .i64 (0), .int .i64 (0), .int .i64 (0), .int .i64 (0), .int .i64 (5), .int .i64 (5), .bool false, .bool false] 31) :: M) (by rfl) (up_cons (up_cons rfl hs22) hs25) ?_
  refine l_mv rfl rfl rfl (m_appendFlN (F := BodyF) 0 tf43 tf83 (p := p1) (m := bs.length) (xs := bs) (ys := [wb0, wb1]) (ao := (some ⟨(blk (f 25)), 0, none⟩)) (k := 2) (c := 2) rfl rfl rfl rfl rfl (Knows.imp (k_ptFls (F := BodyF) 1 (m := 2) (xs := [wb0, wb1]) rfl rfl rfl (by decide)) fun _ h => (Sl.parts h).2.2.2) (by first | omega | simp only [List.length_nil, List.length_cons, List.length_append, List.length_set]; omega) (by first | omega | simp only [List.length_nil, List.length_cons, List.length_append, List.length_set]; omega)) ?_
  rintro _ _ ⟨rp10, rc11, rfl, rfl⟩
  refine l_nil ?_
  exact f_owes_d (up_cons (up_cons rfl hs22) hs25) rfl ((perm_front 0 rfl).trans (perm_front 1 rfl))
 ·rintro f M - ⟨i0, -⟩
  have hs7 : f 7 = .pointer (some ⟨b5, 0, none⟩) := i0
  refine ob_start (L' := M) (by rfl) (up_cons rfl hs7) ?_
  refine l_val (v := .pointer (some ⟨b5, 0, none⟩)) rfl rfl rfl (e_fieldPt (b := b5) (o := 0) rfl tf49) ?_
  refine l_nil ?_
  exact f_owes_d (up_cons rfl hs7) rfl (List.Perm.refl _)
 ·rintro f M ⟨k0, k1, -⟩ -
  have hs27 : f 27 = .pointer (some ⟨b5, 0, none⟩) := k0
  have hs26 : f 26 = .slice (sla (f 26)) ((bs ++ [wb0, wb1]).length) (slc (f 26)) := k1
  refine ob_start (L' := pt b5 (.cells #[.slice p1 (bs.length) c2, .slice p3 (R.length) c4, .int .i64 (0), .int .i64 (0)] 27) :: M) (by rfl) (up_cons (up_cons rfl hs27) hs26) ?_
  refine l_mu rfl rfl (m_store 0 tf50 (b := b5) (o := 0) (T := 27) (cs := #[.slice p1 (bs.length) c2, .slice p3 (R.length) c4, .int .i64 (0), .int .i64 (0)]) (cs' := #[.slice (sla (f 26)) ((bs ++ [wb0, wb1]).length) (slc (f 26)), .slice p3 (R.length) c4, .int .i64 (0), .int .i64 (0)]) (v := .slice (sla (f 26)) ((bs ++ [wb0, wb1]).length) (slc (f 26))) rfl rfl rfl rfl rfl rfl rfl) ?_
  refine l_nil ?_
  exact f_owes_n (up_cons (up_cons rfl hs27) hs26) trivial (perm_front 0 rfl)
 rintro fa12 ⟨-, -, -, -, -, -, -, -, -⟩ ⟨j0, j1, -⟩
 refine f_re (L' := [rowF RopeF 35 p3 c4 R, pt (blk (fa12 25)) (.cells #[.int .i64 (60), .int .i64 (0), .int .i64 (0), .int .i64 (0), .int .i64 (0), .int .i64 (5), .int .i64 (5), .bool false, .bool false, .int .i64 (61), .int .i64 (0), .int .i64 (0), .int .i64 (0), .int .i64 (0), .int .i64 (5), .int .i64 (5), .bool false, .bool false] 31), rowF BodyF 31 (sla (fa12 26)) (slc (fa12 26)) (bs ++ [wb0, wb1]), pt b5 (.cells #[.slice (sla (fa12 26)) ((bs ++ [wb0, wb1]).length) (slc (fa12 26)), .slice p3 (R.length) c4, .int .i64 (0), .int .i64 (0)] 27)]) (by rfl) ?_
 refine f_rebase (d := 2) (v := Bx (way)) j0 ?_
 refine f_rebase (d := 7) (v := .pointer (some ⟨b5, 0, none⟩)) j1 ?_
 refine f_then ?_
 refine c_seq ?_
 obtain ⟨B0, hB0⟩ : ∃ z, z = bs ++ [wb0, wb1] := ⟨_, rfl⟩
 obtain ⟨hl1, hl2, hl3⟩ := wrong_last hB0
 rw [← hB0]
 refine c_region ?_
 refine l_val (v := .pointer (some ⟨b5, 0, none⟩)) rfl rfl rfl (e_fieldPt (b := b5) (o := 0) rfl tf49) ?_
 refine l_val (v := .slice (sla (fa12 26)) (B0.length) (slc (fa12 26))) rfl rfl rfl (e_load1 tf50 (v := .slice (sla (fa12 26)) (B0.length) (slc (fa12 26))) rfl (k_pt 3 (cs := #[.slice (sla (fa12 26)) (B0.length) (slc (fa12 26)), .slice p3 (R.length) c4, .int .i64 (0), .int .i64 (0)]) (vs := [.slice (sla (fa12 26)) (B0.length) (slc (fa12 26))]) rfl rfl)) ?_
 refine l_val (v := Nx (B0.length)) rfl rfl rfl (e_len (a := (sla (fa12 26))) (n := B0.length) (c := (slc (fa12 26))) rfl tf40) ?_
 refine l_val (v := Nx (B0.length - 1)) rfl rfl rfl (ev_eq (congrArg (Value.int .i64) (by omega)) (e_sub (a := ((B0.length : Nat) : Int)) (b := (1 : Int)) rfl rfl (i64w (by omega)))) ?_
 refine l_val (v := Nx (B0.length - 1)) rfl rfl rfl (e_assign) ?_
 refine l_nil ?_
 refine f_then ?_
 refine c_seq ?_
 refine c_seq ?_
 refine c_region ?_
 refine l_val (v := Bx (way)) rfl rfl rfl (e_move) ?_
 refine l_val (v := .int .u8 (((way.toNat % 5 : Nat)) : Int)) rfl rfl rfl (e_rem (a := ((way).toNat : Int)) (b := ((5 : Nat) : Int)) rfl rfl (by decide) (nat_tmod _ _)) ?_
 refine l_nil ?_
 refine f_then ?_
 refine c_block ?_
 refine c_seq ?_
 have hw5 := Nat.mod_lt way.toNat (show 0 < 5 by decide)
 refine c_region ?_
 refine l_val (v := .bool (decide (((way.toNat % 5 : Nat) : Int) = (0 : Int)))) rfl rfl rfl (e_eql (a := ((way.toNat % 5 : Nat) : Int)) (b := (0 : Int)) rfl rfl) ?_
 refine l_val (v := .bool (decide (((way.toNat % 5 : Nat) : Int) = (0 : Int)))) rfl rfl rfl (e_assign) ?_
 refine l_nil ?_
 refine f_then ?_
 refine c_if (((way.toNat % 5 : Nat) : Int) = (0 : Int)) rfl (fun hc13 => ?_) (fun hc13 => ?_)
 ·
  refine c_region ?_
  refine l_val (v := .pointer (some ⟨b5, 0, none⟩)) rfl rfl rfl (e_fieldPt (b := b5) (o := 0) rfl tf49) ?_
  refine l_val (v := .slice (sla (fa12 26)) (B0.length) (slc (fa12 26))) rfl rfl rfl (e_load1 tf50 (v := .slice (sla (fa12 26)) (B0.length) (slc (fa12 26))) rfl (k_pt 3 (cs := #[.slice (sla (fa12 26)) (B0.length) (slc (fa12 26)), .slice p3 (R.length) c4, .int .i64 (0), .int .i64 (0)]) (vs := [.slice (sla (fa12 26)) (B0.length) (slc (fa12 26))]) rfl rfl)) ?_
  refine l_val (v := Nx (B0.length - 1)) rfl rfl rfl (e_move) ?_
  refine l_val (v := .pointer (some ((ba (sla (fa12 26))).add ((B0.length - 1) * 9)))) rfl rfl rfl (e_indexFlN 2 (F := BodyF) (j := B0.length - 1) (m := B0.length) (xs := B0) rfl rfl rfl tf43 (by omega) rfl) ?_
  refine l_val (v := .pointer (some ((ba (sla (fa12 26))).add ((B0.length - 1) * 9)))) rfl rfl rfl (ev_eq (congrArg (fun z => Value.pointer (some z)) (show ((ba (sla (fa12 26))).add ((B0.length - 1) * 9) : Addr).add 0 = (ba (sla (fa12 26))).add ((B0.length - 1) * 9) by rw [Addr.add_add']; rfl)) (e_fieldAddr (a := (ba (sla (fa12 26))).add ((B0.length - 1) * 9)) rfl tf3)) ?_
  refine l_mu rfl rfl (m_storeFlPart 2 (F := BodyF) (p := (sla (fa12 26))) (k := B0.length - 1) (o := 0) (xs := B0) (z0 := wb1) (z := wbI) tf2 rfl rfl rfl rfl rfl hl2 (by decide) rfl) ?_
  refine l_nil ?_
  refine f_block ?_
  refine f_then ?_
  refine c_seq ?_
  have hno : ¬ okS (B0.set (B0.length - 1) wbI) R (0 : Int) (0 : Int) := wrong_id hB0
  refine c_region ?_
  refine l_val (v := .agg #[.slice (sla (fa12 26)) (B0.length) (slc (fa12 26)), .slice p3 (R.length) c4, .int .i64 (0), .int .i64 (0)]) rfl rfl rfl (e_load tf86 (cs := [.slice (sla (fa12 26)) (B0.length) (slc (fa12 26)), .slice p3 (R.length) c4, .int .i64 (0), .int .i64 (0)]) rfl (k_pt 3 (cs := #[.slice (sla (fa12 26)) (B0.length) (slc (fa12 26)), .slice p3 (R.length) c4, .int .i64 (0), .int .i64 (0)]) (vs := [.slice (sla (fa12 26)) (B0.length) (slc (fa12 26)), .slice p3 (R.length) c4, .int .i64 (0), .int .i64 (0)]) rfl rfl) rfl) ?_
  refine l_call rfl rfl rfl (cl_value (fst := []) (cap := []) (vs := [.agg #[.slice (sla (fa12 26)) (B0.length) (slc (fa12 26)), .slice p3 (R.length) c4, .int .i64 (0), .int .i64 (0)]]) (all := [.agg #[.slice (sla (fa12 26)) (B0.length) (slc (fa12 26)), .slice p3 (R.length) c4, .int .i64 (0), .int .i64 (0)]]) tf104 rfl rfl rfl) ?_
  intro w hw
  obtain ⟨β1, sb, kn, hw1, back⟩ := St.frame_all hw
  refine (stepN_ok β1 w hw1 _ _ (0 : Int) (0 : Int) (B0.set (B0.length - 1) wbI) R (kn _ (k_flN 2 (F := BodyF) (m := B0.length) (xs := (B0.set (B0.length - 1) wbI)) rfl List.length_set.symm)) (kn _ (k_flN 0 (F := RopeF) (m := R.length) (xs := R) rfl rfl)) (by omega) (by omega) (GR.mono sb hG) hno).mono ?_
  rintro e w' ⟨rfl, hw'⟩
  refine ⟨_, rfl, _, back _ _ hw', ?_⟩
  clear hw hw1 hw' back kn sb
  refine l_val (v := .tuple #[.agg #[.slice none 0 0, .slice none 0 0, .int .i64 (0), .int .i64 (0)], .slice none 0 0, .int .i64 (2)]) rfl rfl rfl (e_move) ?_
  refine l_val (v := .agg #[.slice none 0 0, .slice none 0 0, .int .i64 (0), .int .i64 (0)]) rfl rfl rfl (e_extract (vs := #[.agg #[.slice none 0 0, .slice none 0 0, .int .i64 (0), .int .i64 (0)], .slice none 0 0, .int .i64 (2)]) rfl rfl) ?_
  refine l_val (v := .slice none 0 0) rfl rfl rfl (e_extract (vs := #[.agg #[.slice none 0 0, .slice none 0 0, .int .i64 (0), .int .i64 (0)], .slice none 0 0, .int .i64 (2)]) rfl rfl) ?_
  refine l_val (v := .int .i64 (2)) rfl rfl rfl (e_extract (vs := #[.agg #[.slice none 0 0, .slice none 0 0, .int .i64 (0), .int .i64 (0)], .slice none 0 0, .int .i64 (2)]) rfl rfl) ?_
  refine l_mv rfl rfl rfl (m_alloc tf85) ?_
  rintro _ _ ⟨b14, rfl, rfl⟩
  refine l_mu rfl rfl (m_store 0 tf86 (b := b14) (o := 0) (T := 27) (cs := #[.slice none 0 0, .slice none 0 0, .int .i64 (0), .int .i64 (0)]) (cs' := #[.slice none 0 0, .slice none 0 0, .int .i64 (0), .int .i64 (0)]) (v := .agg #[.slice none 0 0, .slice none 0 0, .int .i64 (0), .int .i64 (0)]) rfl rfl rfl rfl rfl rfl rfl) ?_
  refine l_val (v := .slice none 0 0) rfl rfl rfl (e_assign) ?_
  refine l_val (v := .int .i64 (2)) rfl rfl rfl (e_assign) ?_
  refine l_nil ?_
  refine f_then ?_
  refine c_seq ?_
  refine c_region ?_
  refine l_val (v := .agg #[.int .u8 (1), .int .i64 (0), .int .i64 (0), .int .i64 (0), .int .i64 (0)]) rfl rfl rfl (e_build tg142 tg141 (vs := [(0, .int .u8 (1))]) (cells := #[.int .u8 (1), .int .i64 (0), .int .i64 (0), .int .i64 (0), .int .i64 (0)]) rfl rfl) ?_
  refine l_val (v := .agg #[.int .i64 (1), .int .i64 (1), .int .i64 (1), .int .i64 (0)]) rfl rfl rfl (e_build_a tg143 tg126 (vs := [(0, .int .i64 (1)), (1, .int .i64 (1)), (2, .int .i64 (1)), (3, .int .i64 (0))]) (cells := #[.int .i64 (1), .int .i64 (1), .int .i64 (1), .int .i64 (0)]) rfl rfl) ?_
  refine l_val (v := .agg #[.int .u8 (3), .int .i64 (1), .int .i64 (1), .int .i64 (1), .int .i64 (0)]) rfl rfl rfl (e_build tg142 tg141 (vs := [(0, .int .u8 (3)), (1, .agg #[.int .i64 (1), .int .i64 (1), .int .i64 (1), .int .i64 (0)])]) (cells := #[.int .u8 (3), .int .i64 (1), .int .i64 (1), .int .i64 (1), .int .i64 (0)]) rfl rfl) ?_
  refine l_mv rfl rfl rfl (m_slices tg115 tg142 (vs := [(0, .agg #[.int .u8 (1), .int .i64 (0), .int .i64 (0), .int .i64 (0), .int .i64 (0)]), (1, .agg #[.int .u8 (3), .int .i64 (1), .int .i64 (1), .int .i64 (1), .int .i64 (0)])]) (cells := #[.int .u8 (1), .int .i64 (0), .int .i64 (0), .int .i64 (0), .int .i64 (0), .int .u8 (3), .int .i64 (1), .int .i64 (1), .int .i64 (1), .int .i64 (0)]) rfl rfl rfl (by kernel_rfl)) ?_
  rintro _ _ ⟨b15, rfl, rfl⟩
  refine l_val (v := .agg #[.int .i64 (1), .slice (some ⟨b15, 0, none⟩) 2 2]) rfl rfl rfl (e_build tg132 tg144 (vs := [(0, .int .i64 (1)), (1, .slice (some ⟨b15, 0, none⟩) 2 2)]) (cells := #[.int .i64 (1), .slice (some ⟨b15, 0, none⟩) 2 2]) rfl rfl) ?_
  refine l_val (v := .agg #[.int .i64 (50), .int .i64 (0), .int .i64 (0), .int .i64 (0)]) rfl rfl rfl (e_build_a tg143 tg126 (vs := [(0, .int .i64 (50))]) (cells := #[.int .i64 (50), .int .i64 (0), .int .i64 (0), .int .i64 (0)]) rfl rfl) ?_
  refine l_val (v := .agg #[.int .u8 (1), .int .i64 (50), .int .i64 (0), .int .i64 (0), .int .i64 (0)]) rfl rfl rfl (e_build tg142 tg141 (vs := [(0, .int .u8 (1)), (1, .agg #[.int .i64 (50), .int .i64 (0), .int .i64 (0), .int .i64 (0)])]) (cells := #[.int .u8 (1), .int .i64 (50), .int .i64 (0), .int .i64 (0), .int .i64 (0)]) rfl rfl) ?_
  refine l_val (v := .agg #[.int .i64 (1), .int .i64 (1), .int .i64 (0), .int .i64 (1)]) rfl rfl rfl (e_build_a tg143 tg126 (vs := [(0, .int .i64 (1)), (1, .int .i64 (1)), (2, .int .i64 (0)), (3, .int .i64 (1))]) (cells := #[.int .i64 (1), .int .i64 (1), .int .i64 (0), .int .i64 (1)]) rfl rfl) ?_
  refine l_val (v := .agg #[.int .u8 (3), .int .i64 (1), .int .i64 (1), .int .i64 (0), .int .i64 (1)]) rfl rfl rfl (e_build tg142 tg141 (vs := [(0, .int .u8 (3)), (1, .agg #[.int .i64 (1), .int .i64 (1), .int .i64 (0), .int .i64 (1)])]) (cells := #[.int .u8 (3), .int .i64 (1), .int .i64 (1), .int .i64 (0), .int .i64 (1)]) rfl rfl) ?_
  refine l_mv rfl rfl rfl (m_slices tg115 tg142 (vs := [(0, .agg #[.int .u8 (1), .int .i64 (50), .int .i64 (0), .int .i64 (0), .int .i64 (0)]), (1, .agg #[.int .u8 (3), .int .i64 (1), .int .i64 (1), .int .i64 (0), .int .i64 (1)])]) (cells := #[.int .u8 (1), .int .i64 (50), .int .i64 (0), .int .i64 (0), .int .i64 (0), .int .u8 (3), .int .i64 (1), .int .i64 (1), .int .i64 (0), .int .i64 (1)]) rfl rfl rfl (by kernel_rfl)) ?_
  rintro _ _ ⟨b16, rfl, rfl⟩
  refine l_val (v := .agg #[.int .i64 (1), .slice (some ⟨b16, 0, none⟩) 2 2]) rfl rfl rfl (e_build tg132 tg144 (vs := [(0, .int .i64 (1)), (1, .slice (some ⟨b16, 0, none⟩) 2 2)]) (cells := #[.int .i64 (1), .slice (some ⟨b16, 0, none⟩) 2 2]) rfl rfl) ?_
  refine l_mv rfl rfl rfl (m_slices tg131 tg132 (vs := [(0, .agg #[.int .i64 (1), .slice (some ⟨b15, 0, none⟩) 2 2]), (1, .agg #[.int .i64 (1), .slice (some ⟨b16, 0, none⟩) 2 2])]) (cells := #[.int .i64 (1), .slice (some ⟨b15, 0, none⟩) 2 2, .int .i64 (1), .slice (some ⟨b16, 0, none⟩) 2 2]) rfl rfl rfl rfl) ?_
  rintro _ _ ⟨b17, rfl, rfl⟩
  refine l_val (v := .agg #[.int .i64 (0), .slice (some ⟨b17, 0, none⟩) 2 2]) rfl rfl rfl (e_build tg135 tg138 (vs := [(1, .slice (some ⟨b17, 0, none⟩) 2 2)]) (cells := #[.int .i64 (0), .slice (some ⟨b17, 0, none⟩) 2 2]) rfl rfl) ?_
  refine l_mv rfl rfl rfl (m_alloc tg135) ?_
  rintro _ _ ⟨b18, rfl, rfl⟩
  refine l_mu rfl rfl (m_store 0 tg136 (b := b18) (o := 0) (T := 70) (cs := #[.int .i64 (0), .slice none 0 0]) (cs' := #[.int .i64 (0), .slice (some ⟨b17, 0, none⟩) 2 2]) (v := .agg #[.int .i64 (0), .slice (some ⟨b17, 0, none⟩) 2 2]) rfl rfl rfl rfl rfl rfl rfl) ?_
  refine l_nil ?_
  refine f_then ?_
  refine c_seq ?_
  refine c_perm (L' := [pt b18 (.cells #[.int .i64 (0), .slice (some ⟨b17, 0, none⟩) 2 2] 70), pt b14 (.cells #[.slice none 0 0, .slice none 0 0, .int .i64 (0), .int .i64 (0)] 27), rowF RopeF 35 p3 c4 R, pt (blk (fa12 25)) (.cells #[.int .i64 (60), .int .i64 (0), .int .i64 (0), .int .i64 (0), .int .i64 (0), .int .i64 (5), .int .i64 (5), .bool false, .bool false, .int .i64 (61), .int .i64 (0), .int .i64 (0), .int .i64 (0), .int .i64 (0), .int .i64 (5), .int .i64 (5), .bool false, .bool false] 31), rowF BodyF 31 (sla (fa12 26)) (slc (fa12 26)) (B0.set (B0.length - 1) wbI), pt b5 (.cells #[.slice (sla (fa12 26)) (B0.length) (slc (fa12 26)), .slice p3 (R.length) c4, .int .i64 (0), .int .i64 (0)] 27), pt b17 (.cells #[.int .i64 (1), .slice (some ⟨b15, 0, none⟩) 2 2, .int .i64 (1), .slice (some ⟨b16, 0, none⟩) 2 2] 76), pt b15 (.cells #[.int .u8 (1), .int .i64 (0), .int .i64 (0), .int .i64 (0), .int .i64 (0), .int .u8 (3), .int .i64 (1), .int .i64 (1), .int .i64 (1), .int .i64 (0)] 73), pt b16 (.cells #[.int .u8 (1), .int .i64 (50), .int .i64 (0), .int .i64 (0), .int .i64 (0), .int .u8 (3), .int .i64 (1), .int .i64 (1), .int .i64 (0), .int .i64 (1)] 73)]) (by exact (perm_ix [0, 4, 5, 6, 7, 8, 1, 3, 2] 9 rfl (by kernel_rfl) (by kernel_rfl))) ?_
  refine c_freeze2 (M := [pt b18 (.cells #[.int .i64 (0), .slice (some ⟨b17, 0, none⟩) 2 2] 70), pt b14 (.cells #[.slice none 0 0, .slice none 0 0, .int .i64 (0), .int .i64 (0)] 27), rowF RopeF 35 p3 c4 R, pt (blk (fa12 25)) (.cells #[.int .i64 (60), .int .i64 (0), .int .i64 (0), .int .i64 (0), .int .i64 (0), .int .i64 (5), .int .i64 (5), .bool false, .bool false, .int .i64 (61), .int .i64 (0), .int .i64 (0), .int .i64 (0), .int .i64 (0), .int .i64 (5), .int .i64 (5), .bool false, .bool false] 31), rowF BodyF 31 (sla (fa12 26)) (slc (fa12 26)) (B0.set (B0.length - 1) wbI), pt b5 (.cells #[.slice (sla (fa12 26)) (B0.length) (slc (fa12 26)), .slice p3 (R.length) c4, .int .i64 (0), .int .i64 (0)] 27)]) (K := [pt b17 (.cells #[.int .i64 (1), .slice (some ⟨b15, 0, none⟩) 2 2, .int .i64 (1), .slice (some ⟨b16, 0, none⟩) 2 2] 76), pt b15 (.cells #[.int .u8 (1), .int .i64 (0), .int .i64 (0), .int .i64 (0), .int .i64 (0), .int .u8 (3), .int .i64 (1), .int .i64 (1), .int .i64 (1), .int .i64 (0)] 73), pt b16 (.cells #[.int .u8 (1), .int .i64 (50), .int .i64 (0), .int .i64 (0), .int .i64 (0), .int .u8 (3), .int .i64 (1), .int .i64 (1), .int .i64 (0), .int .i64 (1)] 73)]) rfl (fun βf ext1 kn1 bk1 => ?_)
  have hG := GR.mono ext1.sub hG
  have hC1 : Sl CompR βf.heap (.slice (some ⟨b15, 0, none⟩) 2 2) [(⟨1, 0, 0, 0, 0⟩ : KComp), (⟨3, 1, 1, 1, 0⟩ : KComp)] := kn1 _ (k_ptFls (F := CompF) 1 (m := 2) (xs := [(⟨1, 0, 0, 0, 0⟩ : KComp), (⟨3, 1, 1, 1, 0⟩ : KComp)]) rfl rfl rfl (by decide))
  have hC2 : Sl CompR βf.heap (.slice (some ⟨b16, 0, none⟩) 2 2) [(⟨1, 50, 0, 0, 0⟩ : KComp), (⟨3, 1, 1, 0, 1⟩ : KComp)] := kn1 _ (k_ptFls (F := CompF) 2 (m := 2) (xs := [(⟨1, 50, 0, 0, 0⟩ : KComp), (⟨3, 1, 1, 0, 1⟩ : KComp)]) rfl rfl rfl (by decide))
  have hE : Sl EntR βf.heap (.slice (some ⟨b17, 0, none⟩) 2 2) wrongE := ents2 (e1 := ⟨1, [(⟨1, 0, 0, 0, 0⟩ : KComp), (⟨3, 1, 1, 1, 0⟩ : KComp)]⟩) (e2 := ⟨1, [(⟨1, 50, 0, 0, 0⟩ : KComp), (⟨3, 1, 1, 0, 1⟩ : KComp)]⟩) (kn1 _ (k_pt 0 (o := 0) (cs := #[.int .i64 (1), .slice (some ⟨b15, 0, none⟩) 2 2, .int .i64 (1), .slice (some ⟨b16, 0, none⟩) 2 2]) (vs := [.int .i64 (1), .slice (some ⟨b15, 0, none⟩) 2 2, .int .i64 (1), .slice (some ⟨b16, 0, none⟩) 2 2]) rfl rfl)) hC1 hC2
  refine c_region ?_
  refine l_val (v := .agg #[.int .i64 (0), .slice (some ⟨b17, 0, none⟩) 2 2]) rfl rfl rfl (e_load tg136 (cs := [.int .i64 (0), .slice (some ⟨b17, 0, none⟩) 2 2]) rfl (k_pt 0 (cs := #[.int .i64 (0), .slice (some ⟨b17, 0, none⟩) 2 2]) (vs := [.int .i64 (0), .slice (some ⟨b17, 0, none⟩) 2 2]) rfl rfl) rfl) ?_
  refine l_val (v := .agg #[.int .i64 (0), .int .i64 (0)]) rfl rfl rfl (e_build tf17 tf16 (vs := []) (cells := #[.int .i64 (0), .int .i64 (0)]) rfl rfl) ?_
  refine l_call rfl rfl rfl (cl_value (fst := []) (cap := []) (vs := [.agg #[.int .i64 (0), .slice (some ⟨b17, 0, none⟩) 2 2], .slice none 0 0, .agg #[.int .i64 (0), .int .i64 (0)]]) (all := [.agg #[.int .i64 (0), .slice (some ⟨b17, 0, none⟩) 2 2], .slice none 0 0, .agg #[.int .i64 (0), .int .i64 (0)]]) tg145 rfl rfl rfl) ?_
  intro w hw
  obtain ⟨β1, sb, kn, hw1, back⟩ := St.frame_all hw
  refine (worldN_ok β1 w hw1 _ _ _ 0 0 wrongE [] (Sl.mono _ _ _ _ _ sb hE) (Sl.nil KRR _) (by decide) (by decide) (by decide) (by decide) (GR.mono sb hG) wrong_world).mono ?_
  rintro e w' ⟨rfl, hw'⟩
  refine ⟨_, rfl, _, back _ _ hw', ?_⟩
  clear hw hw1 hw' back kn sb
  refine l_val (v := .tuple #[.agg #[.int .i64 (0), .slice none 0 0], .slice none 0 0, .int .i64 (2)]) rfl rfl rfl (e_move) ?_
  refine l_val (v := .agg #[.int .i64 (0), .slice none 0 0]) rfl rfl rfl (e_extract (vs := #[.agg #[.int .i64 (0), .slice none 0 0], .slice none 0 0, .int .i64 (2)]) rfl rfl) ?_
  refine l_val (v := .slice none 0 0) rfl rfl rfl (e_extract (vs := #[.agg #[.int .i64 (0), .slice none 0 0], .slice none 0 0, .int .i64 (2)]) rfl rfl) ?_
  refine l_val (v := .int .i64 (2)) rfl rfl rfl (e_extract (vs := #[.agg #[.int .i64 (0), .slice none 0 0], .slice none 0 0, .int .i64 (2)]) rfl rfl) ?_
  refine l_mv rfl rfl rfl (m_alloc tg135) ?_
  rintro _ _ ⟨b19, rfl, rfl⟩
  refine l_mu rfl rfl (m_store 0 tg136 (b := b19) (o := 0) (T := 70) (cs := #[.int .i64 (0), .slice none 0 0]) (cs' := #[.int .i64 (0), .slice none 0 0]) (v := .agg #[.int .i64 (0), .slice none 0 0]) rfl rfl rfl rfl rfl rfl rfl) ?_
  refine l_val (v := .slice none 0 0) rfl rfl rfl (e_assign) ?_
  refine l_val (v := .int .i64 (2)) rfl rfl rfl (e_assign) ?_
  refine l_nil ?_
  refine f_then ?_
  refine c_seq ?_
  refine c_region ?_
  refine l_val (v := .int .i64 (2)) rfl rfl rfl (e_move) ?_
  refine l_val (v := .bool true) rfl rfl rfl (e_eql (a := (2 : Int)) (b := (2 : Int)) rfl rfl) ?_
  refine l_val (v := .bool true) rfl rfl rfl (e_move) ?_
  refine g_val (v := .int .i64 (2)) rfl rfl rfl rfl rfl (e_move) ?_
  refine g_val (v := .bool true) rfl rfl rfl rfl rfl (e_eql (a := (2 : Int)) (b := (2 : Int)) rfl rfl) ?_
  refine l_val (v := .bool true) rfl rfl rfl (e_pick_t rfl) ?_
  refine l_val (v := .bool true) rfl rfl rfl (e_move) ?_
  refine g_val (v := .pointer (some ⟨b14, 0, none⟩)) rfl rfl rfl rfl rfl (e_fieldPt (b := b14) (o := 0) rfl tf49) ?_
  refine g_val (v := .slice none 0 0) rfl rfl rfl rfl rfl (e_load1 tf50 (v := .slice none 0 0) rfl (k_pt 2 (cs := #[.slice none 0 0, .slice none 0 0, .int .i64 (0), .int .i64 (0)]) (vs := [.slice none 0 0]) rfl rfl)) ?_
  refine g_val (v := .int .i64 (0)) rfl rfl rfl rfl rfl (e_len (n := 0) rfl tf40) ?_
  refine g_val (v := .pointer (some ⟨b14, 1, none⟩)) rfl rfl rfl rfl rfl (e_fieldPt (b := b14) (o := 0) rfl tf55) ?_
  refine g_val (v := .slice none 0 0) rfl rfl rfl rfl rfl (e_load1 tf56 (v := .slice none 0 0) rfl (k_pt 2 (cs := #[.slice none 0 0, .slice none 0 0, .int .i64 (0), .int .i64 (0)]) (vs := [.slice none 0 0]) rfl rfl)) ?_
  refine g_val (v := .int .i64 (0)) rfl rfl rfl rfl rfl (e_len (n := 0) rfl tf45) ?_
  refine g_val (v := .int .i64 (0)) rfl rfl rfl rfl rfl (e_add (a := (0 : Int)) (b := (0 : Int)) rfl rfl (by decide)) ?_
  refine g_val (v := .slice none 0 0) rfl rfl rfl rfl rfl (e_move) ?_
  refine g_val (v := .int .i64 (0)) rfl rfl rfl rfl rfl (e_len (n := 0) rfl tf105) ?_
  refine g_val (v := .int .i64 (0)) rfl rfl rfl rfl rfl (e_add (a := (0 : Int)) (b := (0 : Int)) rfl rfl (by decide)) ?_
  refine g_val (v := .pointer (some ⟨b19, 1, none⟩)) rfl rfl rfl rfl rfl (e_fieldPt (b := b19) (o := 0) rfl tg128) ?_
  refine g_val (v := .slice none 0 0) rfl rfl rfl rfl rfl (e_load1 tg129 (v := .slice none 0 0) rfl (k_pt 0 (cs := #[.int .i64 (0), .slice none 0 0]) (vs := [.slice none 0 0]) rfl rfl)) ?_
  refine g_val (v := .int .i64 (0)) rfl rfl rfl rfl rfl (e_len (n := 0) rfl tg130) ?_
  refine g_val (v := .int .i64 (0)) rfl rfl rfl rfl rfl (e_add (a := (0 : Int)) (b := (0 : Int)) rfl rfl (by decide)) ?_
  refine g_val (v := .slice none 0 0) rfl rfl rfl rfl rfl (e_move) ?_
  refine g_val (v := .int .i64 (0)) rfl rfl rfl rfl rfl (e_len (n := 0) rfl tf105) ?_
  refine g_val (v := .int .i64 (0)) rfl rfl rfl rfl rfl (e_add (a := (0 : Int)) (b := (0 : Int)) rfl rfl (by decide)) ?_
  refine g_val (v := .bool true) rfl rfl rfl rfl rfl (e_eql (a := (0 : Int)) (b := (0 : Int)) rfl rfl) ?_
  refine l_val (v := .bool true) rfl rfl rfl (e_pick_t rfl) ?_
  refine l_val (v := .bool true) rfl rfl rfl (e_move) ?_
  refine g_val (v := .pointer (some ⟨b14, 2, none⟩)) rfl rfl rfl rfl rfl (e_fieldPt (b := b14) (o := 0) rfl tf57) ?_
  refine g_val (v := .agg #[.int .i64 (0), .int .i64 (0)]) rfl rfl rfl rfl rfl (e_load tf15 (cs := [.int .i64 (0), .int .i64 (0)]) rfl (k_pt 2 (cs := #[.slice none 0 0, .slice none 0 0, .int .i64 (0), .int .i64 (0)]) (vs := [.int .i64 (0), .int .i64 (0)]) rfl rfl) rfl) ?_
  refine g_val (v := .agg #[.int .i64 (0), .int .i64 (0)]) rfl rfl rfl rfl rfl (e_build tf17 tf16 (vs := []) (cells := #[.int .i64 (0), .int .i64 (0)]) rfl rfl) ?_
  refine g_val (v := .bool true) rfl rfl rfl rfl rfl ((ev_t (by decide) (e_eql_t (p := (0 : Int) = (0 : Int) ∧ (0 : Int) = (0 : Int)) (xs := [.int .i64 (0), .int .i64 (0)]) (ys := [.int .i64 (0), .int .i64 (0)]) tf18 tf19 tf20 rfl rfl rfl rfl vec_eq))) ?_
  refine l_val (v := .bool true) rfl rfl rfl (e_pick_t rfl) ?_
  refine l_val (v := .bool true) rfl rfl rfl (e_assign) ?_
  refine l_nil ?_
  refine f_then ?_
  refine c_ret ?_
  refine ret1 Tryd.results11 (v := .bool true) rfl ?_
  intro w hw
  exact ⟨rfl, st_mask [false, false, false, false, false, false, false, false, false, false] rfl (bk1 _ _ hw)⟩
 ·
  refine c_seq ?_
  refine c_region ?_
  refine l_val (v := .bool (decide (((way.toNat % 5 : Nat) : Int) = (1 : Int)))) rfl rfl rfl (e_eql (a := ((way.toNat % 5 : Nat) : Int)) (b := (1 : Int)) rfl rfl) ?_
  refine l_val (v := .bool (decide (((way.toNat % 5 : Nat) : Int) = (1 : Int)))) rfl rfl rfl (e_assign) ?_
  refine l_nil ?_
  refine f_then ?_
  refine c_if (((way.toNat % 5 : Nat) : Int) = (1 : Int)) rfl (fun hc20 => ?_) (fun hc20 => ?_)
  ·
   refine c_region ?_
   refine l_val (v := .pointer (some ⟨b5, 0, none⟩)) rfl rfl rfl (e_fieldPt (b := b5) (o := 0) rfl tf49) ?_
   refine l_val (v := .slice (sla (fa12 26)) (B0.length) (slc (fa12 26))) rfl rfl rfl (e_load1 tf50 (v := .slice (sla (fa12 26)) (B0.length) (slc (fa12 26))) rfl (k_pt 3 (cs := #[.slice (sla (fa12 26)) (B0.length) (slc (fa12 26)), .slice p3 (R.length) c4, .int .i64 (0), .int .i64 (0)]) (vs := [.slice (sla (fa12 26)) (B0.length) (slc (fa12 26))]) rfl rfl)) ?_
   refine l_val (v := Nx (B0.length - 1)) rfl rfl rfl (e_move) ?_
   refine l_val (v := .pointer (some ((ba (sla (fa12 26))).add ((B0.length - 1) * 9)))) rfl rfl rfl (e_indexFlN 2 (F := BodyF) (j := B0.length - 1) (m := B0.length) (xs := B0) rfl rfl rfl tf43 (by omega) rfl) ?_
   refine l_val (v := .pointer (some ((ba (sla (fa12 26))).add ((B0.length - 1) * 9 + 5)))) rfl rfl rfl (ev_eq (congrArg (fun z => Value.pointer (some z)) (show ((ba (sla (fa12 26))).add ((B0.length - 1) * 9) : Addr).add 5 = (ba (sla (fa12 26))).add ((B0.length - 1) * 9 + 5) by rw [Addr.add_add'])) (e_fieldAddr (a := (ba (sla (fa12 26))).add ((B0.length - 1) * 9)) rfl tf10)) ?_
   refine l_mu rfl rfl (m_storeFlPart 2 (F := BodyF) (p := (sla (fa12 26))) (k := B0.length - 1) (o := 5) (xs := B0) (z0 := wb1) (z := wbW) tf2 rfl rfl rfl rfl rfl hl2 (by decide) rfl) ?_
   refine l_nil ?_
   refine f_block ?_
   refine f_then ?_
   refine c_seq ?_
   have hno : ¬ okS (B0.set (B0.length - 1) wbW) R (0 : Int) (0 : Int) := wrong_body (by omega) (by decide)
   refine c_region ?_
   refine l_val (v := .agg #[.slice (sla (fa12 26)) (B0.length) (slc (fa12 26)), .slice p3 (R.length) c4, .int .i64 (0), .int .i64 (0)]) rfl rfl rfl (e_load tf86 (cs := [.slice (sla (fa12 26)) (B0.length) (slc (fa12 26)), .slice p3 (R.length) c4, .int .i64 (0), .int .i64 (0)]) rfl (k_pt 3 (cs := #[.slice (sla (fa12 26)) (B0.length) (slc (fa12 26)), .slice p3 (R.length) c4, .int .i64 (0), .int .i64 (0)]) (vs := [.slice (sla (fa12 26)) (B0.length) (slc (fa12 26)), .slice p3 (R.length) c4, .int .i64 (0), .int .i64 (0)]) rfl rfl) rfl) ?_
   refine l_call rfl rfl rfl (cl_value (fst := []) (cap := []) (vs := [.agg #[.slice (sla (fa12 26)) (B0.length) (slc (fa12 26)), .slice p3 (R.length) c4, .int .i64 (0), .int .i64 (0)]]) (all := [.agg #[.slice (sla (fa12 26)) (B0.length) (slc (fa12 26)), .slice p3 (R.length) c4, .int .i64 (0), .int .i64 (0)]]) tf104 rfl rfl rfl) ?_
   intro w hw
   obtain ⟨β1, sb, kn, hw1, back⟩ := St.frame_all hw
   refine (stepN_ok β1 w hw1 _ _ (0 : Int) (0 : Int) (B0.set (B0.length - 1) wbW) R (kn _ (k_flN 2 (F := BodyF) (m := B0.length) (xs := (B0.set (B0.length - 1) wbW)) rfl List.length_set.symm)) (kn _ (k_flN 0 (F := RopeF) (m := R.length) (xs := R) rfl rfl)) (by omega) (by omega) (GR.mono sb hG) hno).mono ?_
   rintro e w' ⟨rfl, hw'⟩
   refine ⟨_, rfl, _, back _ _ hw', ?_⟩
   clear hw hw1 hw' back kn sb
   refine l_val (v := .tuple #[.agg #[.slice none 0 0, .slice none 0 0, .int .i64 (0), .int .i64 (0)], .slice none 0 0, .int .i64 (2)]) rfl rfl rfl (e_move) ?_
   refine l_val (v := .agg #[.slice none 0 0, .slice none 0 0, .int .i64 (0), .int .i64 (0)]) rfl rfl rfl (e_extract (vs := #[.agg #[.slice none 0 0, .slice none 0 0, .int .i64 (0), .int .i64 (0)], .slice none 0 0, .int .i64 (2)]) rfl rfl) ?_
   refine l_val (v := .slice none 0 0) rfl rfl rfl (e_extract (vs := #[.agg #[.slice none 0 0, .slice none 0 0, .int .i64 (0), .int .i64 (0)], .slice none 0 0, .int .i64 (2)]) rfl rfl) ?_
   refine l_val (v := .int .i64 (2)) rfl rfl rfl (e_extract (vs := #[.agg #[.slice none 0 0, .slice none 0 0, .int .i64 (0), .int .i64 (0)], .slice none 0 0, .int .i64 (2)]) rfl rfl) ?_
   refine l_mv rfl rfl rfl (m_alloc tf85) ?_
   rintro _ _ ⟨b21, rfl, rfl⟩
   refine l_mu rfl rfl (m_store 0 tf86 (b := b21) (o := 0) (T := 27) (cs := #[.slice none 0 0, .slice none 0 0, .int .i64 (0), .int .i64 (0)]) (cs' := #[.slice none 0 0, .slice none 0 0, .int .i64 (0), .int .i64 (0)]) (v := .agg #[.slice none 0 0, .slice none 0 0, .int .i64 (0), .int .i64 (0)]) rfl rfl rfl rfl rfl rfl rfl) ?_
   refine l_val (v := .slice none 0 0) rfl rfl rfl (e_assign) ?_
   refine l_val (v := .int .i64 (2)) rfl rfl rfl (e_assign) ?_
   refine l_nil ?_
   refine f_then ?_
   refine c_seq ?_
   refine c_region ?_
   refine l_val (v := .agg #[.int .u8 (1), .int .i64 (0), .int .i64 (0), .int .i64 (0), .int .i64 (0)]) rfl rfl rfl (e_build tg142 tg141 (vs := [(0, .int .u8 (1))]) (cells := #[.int .u8 (1), .int .i64 (0), .int .i64 (0), .int .i64 (0), .int .i64 (0)]) rfl rfl) ?_
   refine l_val (v := .agg #[.int .i64 (1), .int .i64 (1), .int .i64 (1), .int .i64 (0)]) rfl rfl rfl (e_build_a tg143 tg126 (vs := [(0, .int .i64 (1)), (1, .int .i64 (1)), (2, .int .i64 (1)), (3, .int .i64 (0))]) (cells := #[.int .i64 (1), .int .i64 (1), .int .i64 (1), .int .i64 (0)]) rfl rfl) ?_
   refine l_val (v := .agg #[.int .u8 (3), .int .i64 (1), .int .i64 (1), .int .i64 (1), .int .i64 (0)]) rfl rfl rfl (e_build tg142 tg141 (vs := [(0, .int .u8 (3)), (1, .agg #[.int .i64 (1), .int .i64 (1), .int .i64 (1), .int .i64 (0)])]) (cells := #[.int .u8 (3), .int .i64 (1), .int .i64 (1), .int .i64 (1), .int .i64 (0)]) rfl rfl) ?_
   refine l_mv rfl rfl rfl (m_slices tg115 tg142 (vs := [(0, .agg #[.int .u8 (1), .int .i64 (0), .int .i64 (0), .int .i64 (0), .int .i64 (0)]), (1, .agg #[.int .u8 (3), .int .i64 (1), .int .i64 (1), .int .i64 (1), .int .i64 (0)])]) (cells := #[.int .u8 (1), .int .i64 (0), .int .i64 (0), .int .i64 (0), .int .i64 (0), .int .u8 (3), .int .i64 (1), .int .i64 (1), .int .i64 (1), .int .i64 (0)]) rfl rfl rfl (by kernel_rfl)) ?_
   rintro _ _ ⟨b22, rfl, rfl⟩
   refine l_val (v := .agg #[.int .i64 (1), .slice (some ⟨b22, 0, none⟩) 2 2]) rfl rfl rfl (e_build tg132 tg144 (vs := [(0, .int .i64 (1)), (1, .slice (some ⟨b22, 0, none⟩) 2 2)]) (cells := #[.int .i64 (1), .slice (some ⟨b22, 0, none⟩) 2 2]) rfl rfl) ?_
   refine l_val (v := .agg #[.int .i64 (50), .int .i64 (0), .int .i64 (0), .int .i64 (0)]) rfl rfl rfl (e_build_a tg143 tg126 (vs := [(0, .int .i64 (50))]) (cells := #[.int .i64 (50), .int .i64 (0), .int .i64 (0), .int .i64 (0)]) rfl rfl) ?_
   refine l_val (v := .agg #[.int .u8 (1), .int .i64 (50), .int .i64 (0), .int .i64 (0), .int .i64 (0)]) rfl rfl rfl (e_build tg142 tg141 (vs := [(0, .int .u8 (1)), (1, .agg #[.int .i64 (50), .int .i64 (0), .int .i64 (0), .int .i64 (0)])]) (cells := #[.int .u8 (1), .int .i64 (50), .int .i64 (0), .int .i64 (0), .int .i64 (0)]) rfl rfl) ?_
   refine l_val (v := .agg #[.int .i64 (1), .int .i64 (1), .int .i64 (0), .int .i64 (1)]) rfl rfl rfl (e_build_a tg143 tg126 (vs := [(0, .int .i64 (1)), (1, .int .i64 (1)), (2, .int .i64 (0)), (3, .int .i64 (1))]) (cells := #[.int .i64 (1), .int .i64 (1), .int .i64 (0), .int .i64 (1)]) rfl rfl) ?_
   refine l_val (v := .agg #[.int .u8 (3), .int .i64 (1), .int .i64 (1), .int .i64 (0), .int .i64 (1)]) rfl rfl rfl (e_build tg142 tg141 (vs := [(0, .int .u8 (3)), (1, .agg #[.int .i64 (1), .int .i64 (1), .int .i64 (0), .int .i64 (1)])]) (cells := #[.int .u8 (3), .int .i64 (1), .int .i64 (1), .int .i64 (0), .int .i64 (1)]) rfl rfl) ?_
   refine l_mv rfl rfl rfl (m_slices tg115 tg142 (vs := [(0, .agg #[.int .u8 (1), .int .i64 (50), .int .i64 (0), .int .i64 (0), .int .i64 (0)]), (1, .agg #[.int .u8 (3), .int .i64 (1), .int .i64 (1), .int .i64 (0), .int .i64 (1)])]) (cells := #[.int .u8 (1), .int .i64 (50), .int .i64 (0), .int .i64 (0), .int .i64 (0), .int .u8 (3), .int .i64 (1), .int .i64 (1), .int .i64 (0), .int .i64 (1)]) rfl rfl rfl (by kernel_rfl)) ?_
   rintro _ _ ⟨b23, rfl, rfl⟩
   refine l_val (v := .agg #[.int .i64 (1), .slice (some ⟨b23, 0, none⟩) 2 2]) rfl rfl rfl (e_build tg132 tg144 (vs := [(0, .int .i64 (1)), (1, .slice (some ⟨b23, 0, none⟩) 2 2)]) (cells := #[.int .i64 (1), .slice (some ⟨b23, 0, none⟩) 2 2]) rfl rfl) ?_
   refine l_mv rfl rfl rfl (m_slices tg131 tg132 (vs := [(0, .agg #[.int .i64 (1), .slice (some ⟨b22, 0, none⟩) 2 2]), (1, .agg #[.int .i64 (1), .slice (some ⟨b23, 0, none⟩) 2 2])]) (cells := #[.int .i64 (1), .slice (some ⟨b22, 0, none⟩) 2 2, .int .i64 (1), .slice (some ⟨b23, 0, none⟩) 2 2]) rfl rfl rfl rfl) ?_
   rintro _ _ ⟨b24, rfl, rfl⟩
   refine l_val (v := .agg #[.int .i64 (0), .slice (some ⟨b24, 0, none⟩) 2 2]) rfl rfl rfl (e_build tg135 tg138 (vs := [(1, .slice (some ⟨b24, 0, none⟩) 2 2)]) (cells := #[.int .i64 (0), .slice (some ⟨b24, 0, none⟩) 2 2]) rfl rfl) ?_
   refine l_mv rfl rfl rfl (m_alloc tg135) ?_
   rintro _ _ ⟨b25, rfl, rfl⟩
   refine l_mu rfl rfl (m_store 0 tg136 (b := b25) (o := 0) (T := 70) (cs := #[.int .i64 (0), .slice none 0 0]) (cs' := #[.int .i64 (0), .slice (some ⟨b24, 0, none⟩) 2 2]) (v := .agg #[.int .i64 (0), .slice (some ⟨b24, 0, none⟩) 2 2]) rfl rfl rfl rfl rfl rfl rfl) ?_
   refine l_nil ?_
   refine f_then ?_
   refine c_seq ?_
   refine c_perm (L' := [pt b25 (.cells #[.int .i64 (0), .slice (some ⟨b24, 0, none⟩) 2 2] 70), pt b21 (.cells #[.slice none 0 0, .slice none 0 0, .int .i64 (0), .int .i64 (0)] 27), rowF RopeF 35 p3 c4 R, pt (blk (fa12 25)) (.cells #[.int .i64 (60), .int .i64 (0), .int .i64 (0), .int .i64 (0), .int .i64 (0), .int .i64 (5), .int .i64 (5), .bool false, .bool false, .int .i64 (61), .int .i64 (0), .int .i64 (0), .int .i64 (0), .int .i64 (0), .int .i64 (5), .int .i64 (5), .bool false, .bool false] 31), rowF BodyF 31 (sla (fa12 26)) (slc (fa12 26)) (B0.set (B0.length - 1) wbW), pt b5 (.cells #[.slice (sla (fa12 26)) (B0.length) (slc (fa12 26)), .slice p3 (R.length) c4, .int .i64 (0), .int .i64 (0)] 27), pt b24 (.cells #[.int .i64 (1), .slice (some ⟨b22, 0, none⟩) 2 2, .int .i64 (1), .slice (some ⟨b23, 0, none⟩) 2 2] 76), pt b22 (.cells #[.int .u8 (1), .int .i64 (0), .int .i64 (0), .int .i64 (0), .int .i64 (0), .int .u8 (3), .int .i64 (1), .int .i64 (1), .int .i64 (1), .int .i64 (0)] 73), pt b23 (.cells #[.int .u8 (1), .int .i64 (50), .int .i64 (0), .int .i64 (0), .int .i64 (0), .int .u8 (3), .int .i64 (1), .int .i64 (1), .int .i64 (0), .int .i64 (1)] 73)]) (by exact (perm_ix [0, 4, 5, 6, 7, 8, 1, 3, 2] 9 rfl (by kernel_rfl) (by kernel_rfl))) ?_
   refine c_freeze2 (M := [pt b25 (.cells #[.int .i64 (0), .slice (some ⟨b24, 0, none⟩) 2 2] 70), pt b21 (.cells #[.slice none 0 0, .slice none 0 0, .int .i64 (0), .int .i64 (0)] 27), rowF RopeF 35 p3 c4 R, pt (blk (fa12 25)) (.cells #[.int .i64 (60), .int .i64 (0), .int .i64 (0), .int .i64 (0), .int .i64 (0), .int .i64 (5), .int .i64 (5), .bool false, .bool false, .int .i64 (61), .int .i64 (0), .int .i64 (0), .int .i64 (0), .int .i64 (0), .int .i64 (5), .int .i64 (5), .bool false, .bool false] 31), rowF BodyF 31 (sla (fa12 26)) (slc (fa12 26)) (B0.set (B0.length - 1) wbW), pt b5 (.cells #[.slice (sla (fa12 26)) (B0.length) (slc (fa12 26)), .slice p3 (R.length) c4, .int .i64 (0), .int .i64 (0)] 27)]) (K := [pt b24 (.cells #[.int .i64 (1), .slice (some ⟨b22, 0, none⟩) 2 2, .int .i64 (1), .slice (some ⟨b23, 0, none⟩) 2 2] 76), pt b22 (.cells #[.int .u8 (1), .int .i64 (0), .int .i64 (0), .int .i64 (0), .int .i64 (0), .int .u8 (3), .int .i64 (1), .int .i64 (1), .int .i64 (1), .int .i64 (0)] 73), pt b23 (.cells #[.int .u8 (1), .int .i64 (50), .int .i64 (0), .int .i64 (0), .int .i64 (0), .int .u8 (3), .int .i64 (1), .int .i64 (1), .int .i64 (0), .int .i64 (1)] 73)]) rfl (fun βf ext1 kn1 bk1 => ?_)
   have hG := GR.mono ext1.sub hG
   have hC1 : Sl CompR βf.heap (.slice (some ⟨b22, 0, none⟩) 2 2) [(⟨1, 0, 0, 0, 0⟩ : KComp), (⟨3, 1, 1, 1, 0⟩ : KComp)] := kn1 _ (k_ptFls (F := CompF) 1 (m := 2) (xs := [(⟨1, 0, 0, 0, 0⟩ : KComp), (⟨3, 1, 1, 1, 0⟩ : KComp)]) rfl rfl rfl (by decide))
   have hC2 : Sl CompR βf.heap (.slice (some ⟨b23, 0, none⟩) 2 2) [(⟨1, 50, 0, 0, 0⟩ : KComp), (⟨3, 1, 1, 0, 1⟩ : KComp)] := kn1 _ (k_ptFls (F := CompF) 2 (m := 2) (xs := [(⟨1, 50, 0, 0, 0⟩ : KComp), (⟨3, 1, 1, 0, 1⟩ : KComp)]) rfl rfl rfl (by decide))
   have hE : Sl EntR βf.heap (.slice (some ⟨b24, 0, none⟩) 2 2) wrongE := ents2 (e1 := ⟨1, [(⟨1, 0, 0, 0, 0⟩ : KComp), (⟨3, 1, 1, 1, 0⟩ : KComp)]⟩) (e2 := ⟨1, [(⟨1, 50, 0, 0, 0⟩ : KComp), (⟨3, 1, 1, 0, 1⟩ : KComp)]⟩) (kn1 _ (k_pt 0 (o := 0) (cs := #[.int .i64 (1), .slice (some ⟨b22, 0, none⟩) 2 2, .int .i64 (1), .slice (some ⟨b23, 0, none⟩) 2 2]) (vs := [.int .i64 (1), .slice (some ⟨b22, 0, none⟩) 2 2, .int .i64 (1), .slice (some ⟨b23, 0, none⟩) 2 2]) rfl rfl)) hC1 hC2
   refine c_region ?_
   refine l_val (v := .agg #[.int .i64 (0), .slice (some ⟨b24, 0, none⟩) 2 2]) rfl rfl rfl (e_load tg136 (cs := [.int .i64 (0), .slice (some ⟨b24, 0, none⟩) 2 2]) rfl (k_pt 0 (cs := #[.int .i64 (0), .slice (some ⟨b24, 0, none⟩) 2 2]) (vs := [.int .i64 (0), .slice (some ⟨b24, 0, none⟩) 2 2]) rfl rfl) rfl) ?_
   refine l_val (v := .agg #[.int .i64 (0), .int .i64 (0)]) rfl rfl rfl (e_build tf17 tf16 (vs := []) (cells := #[.int .i64 (0), .int .i64 (0)]) rfl rfl) ?_
   refine l_call rfl rfl rfl (cl_value (fst := []) (cap := []) (vs := [.agg #[.int .i64 (0), .slice (some ⟨b24, 0, none⟩) 2 2], .slice none 0 0, .agg #[.int .i64 (0), .int .i64 (0)]]) (all := [.agg #[.int .i64 (0), .slice (some ⟨b24, 0, none⟩) 2 2], .slice none 0 0, .agg #[.int .i64 (0), .int .i64 (0)]]) tg145 rfl rfl rfl) ?_
   intro w hw
   obtain ⟨β1, sb, kn, hw1, back⟩ := St.frame_all hw
   refine (worldN_ok β1 w hw1 _ _ _ 0 0 wrongE [] (Sl.mono _ _ _ _ _ sb hE) (Sl.nil KRR _) (by decide) (by decide) (by decide) (by decide) (GR.mono sb hG) wrong_world).mono ?_
   rintro e w' ⟨rfl, hw'⟩
   refine ⟨_, rfl, _, back _ _ hw', ?_⟩
   clear hw hw1 hw' back kn sb
   refine l_val (v := .tuple #[.agg #[.int .i64 (0), .slice none 0 0], .slice none 0 0, .int .i64 (2)]) rfl rfl rfl (e_move) ?_
   refine l_val (v := .agg #[.int .i64 (0), .slice none 0 0]) rfl rfl rfl (e_extract (vs := #[.agg #[.int .i64 (0), .slice none 0 0], .slice none 0 0, .int .i64 (2)]) rfl rfl) ?_
   refine l_val (v := .slice none 0 0) rfl rfl rfl (e_extract (vs := #[.agg #[.int .i64 (0), .slice none 0 0], .slice none 0 0, .int .i64 (2)]) rfl rfl) ?_
   refine l_val (v := .int .i64 (2)) rfl rfl rfl (e_extract (vs := #[.agg #[.int .i64 (0), .slice none 0 0], .slice none 0 0, .int .i64 (2)]) rfl rfl) ?_
   refine l_mv rfl rfl rfl (m_alloc tg135) ?_
   rintro _ _ ⟨b26, rfl, rfl⟩
   refine l_mu rfl rfl (m_store 0 tg136 (b := b26) (o := 0) (T := 70) (cs := #[.int .i64 (0), .slice none 0 0]) (cs' := #[.int .i64 (0), .slice none 0 0]) (v := .agg #[.int .i64 (0), .slice none 0 0]) rfl rfl rfl rfl rfl rfl rfl) ?_
   refine l_val (v := .slice none 0 0) rfl rfl rfl (e_assign) ?_
   refine l_val (v := .int .i64 (2)) rfl rfl rfl (e_assign) ?_
   refine l_nil ?_
   refine f_then ?_
   refine c_seq ?_
   refine c_region ?_
   refine l_val (v := .int .i64 (2)) rfl rfl rfl (e_move) ?_
   refine l_val (v := .bool true) rfl rfl rfl (e_eql (a := (2 : Int)) (b := (2 : Int)) rfl rfl) ?_
   refine l_val (v := .bool true) rfl rfl rfl (e_move) ?_
   refine g_val (v := .int .i64 (2)) rfl rfl rfl rfl rfl (e_move) ?_
   refine g_val (v := .bool true) rfl rfl rfl rfl rfl (e_eql (a := (2 : Int)) (b := (2 : Int)) rfl rfl) ?_
   refine l_val (v := .bool true) rfl rfl rfl (e_pick_t rfl) ?_
   refine l_val (v := .bool true) rfl rfl rfl (e_move) ?_
   refine g_val (v := .pointer (some ⟨b21, 0, none⟩)) rfl rfl rfl rfl rfl (e_fieldPt (b := b21) (o := 0) rfl tf49) ?_
   refine g_val (v := .slice none 0 0) rfl rfl rfl rfl rfl (e_load1 tf50 (v := .slice none 0 0) rfl (k_pt 2 (cs := #[.slice none 0 0, .slice none 0 0, .int .i64 (0), .int .i64 (0)]) (vs := [.slice none 0 0]) rfl rfl)) ?_
   refine g_val (v := .int .i64 (0)) rfl rfl rfl rfl rfl (e_len (n := 0) rfl tf40) ?_
   refine g_val (v := .pointer (some ⟨b21, 1, none⟩)) rfl rfl rfl rfl rfl (e_fieldPt (b := b21) (o := 0) rfl tf55) ?_
   refine g_val (v := .slice none 0 0) rfl rfl rfl rfl rfl (e_load1 tf56 (v := .slice none 0 0) rfl (k_pt 2 (cs := #[.slice none 0 0, .slice none 0 0, .int .i64 (0), .int .i64 (0)]) (vs := [.slice none 0 0]) rfl rfl)) ?_
   refine g_val (v := .int .i64 (0)) rfl rfl rfl rfl rfl (e_len (n := 0) rfl tf45) ?_
   refine g_val (v := .int .i64 (0)) rfl rfl rfl rfl rfl (e_add (a := (0 : Int)) (b := (0 : Int)) rfl rfl (by decide)) ?_
   refine g_val (v := .slice none 0 0) rfl rfl rfl rfl rfl (e_move) ?_
   refine g_val (v := .int .i64 (0)) rfl rfl rfl rfl rfl (e_len (n := 0) rfl tf105) ?_
   refine g_val (v := .int .i64 (0)) rfl rfl rfl rfl rfl (e_add (a := (0 : Int)) (b := (0 : Int)) rfl rfl (by decide)) ?_
   refine g_val (v := .pointer (some ⟨b26, 1, none⟩)) rfl rfl rfl rfl rfl (e_fieldPt (b := b26) (o := 0) rfl tg128) ?_
   refine g_val (v := .slice none 0 0) rfl rfl rfl rfl rfl (e_load1 tg129 (v := .slice none 0 0) rfl (k_pt 0 (cs := #[.int .i64 (0), .slice none 0 0]) (vs := [.slice none 0 0]) rfl rfl)) ?_
   refine g_val (v := .int .i64 (0)) rfl rfl rfl rfl rfl (e_len (n := 0) rfl tg130) ?_
   refine g_val (v := .int .i64 (0)) rfl rfl rfl rfl rfl (e_add (a := (0 : Int)) (b := (0 : Int)) rfl rfl (by decide)) ?_
   refine g_val (v := .slice none 0 0) rfl rfl rfl rfl rfl (e_move) ?_
   refine g_val (v := .int .i64 (0)) rfl rfl rfl rfl rfl (e_len (n := 0) rfl tf105) ?_
   refine g_val (v := .int .i64 (0)) rfl rfl rfl rfl rfl (e_add (a := (0 : Int)) (b := (0 : Int)) rfl rfl (by decide)) ?_
   refine g_val (v := .bool true) rfl rfl rfl rfl rfl (e_eql (a := (0 : Int)) (b := (0 : Int)) rfl rfl) ?_
   refine l_val (v := .bool true) rfl rfl rfl (e_pick_t rfl) ?_
   refine l_val (v := .bool true) rfl rfl rfl (e_move) ?_
   refine g_val (v := .pointer (some ⟨b21, 2, none⟩)) rfl rfl rfl rfl rfl (e_fieldPt (b := b21) (o := 0) rfl tf57) ?_
   refine g_val (v := .agg #[.int .i64 (0), .int .i64 (0)]) rfl rfl rfl rfl rfl (e_load tf15 (cs := [.int .i64 (0), .int .i64 (0)]) rfl (k_pt 2 (cs := #[.slice none 0 0, .slice none 0 0, .int .i64 (0), .int .i64 (0)]) (vs := [.int .i64 (0), .int .i64 (0)]) rfl rfl) rfl) ?_
   refine g_val (v := .agg #[.int .i64 (0), .int .i64 (0)]) rfl rfl rfl rfl rfl (e_build tf17 tf16 (vs := []) (cells := #[.int .i64 (0), .int .i64 (0)]) rfl rfl) ?_
   refine g_val (v := .bool true) rfl rfl rfl rfl rfl ((ev_t (by decide) (e_eql_t (p := (0 : Int) = (0 : Int) ∧ (0 : Int) = (0 : Int)) (xs := [.int .i64 (0), .int .i64 (0)]) (ys := [.int .i64 (0), .int .i64 (0)]) tf18 tf19 tf20 rfl rfl rfl rfl vec_eq))) ?_
   refine l_val (v := .bool true) rfl rfl rfl (e_pick_t rfl) ?_
   refine l_val (v := .bool true) rfl rfl rfl (e_assign) ?_
   refine l_nil ?_
   refine f_then ?_
   refine c_ret ?_
   refine ret1 Tryd.results11 (v := .bool true) rfl ?_
   intro w hw
   exact ⟨rfl, st_mask [false, false, false, false, false, false, false, false, false, false] rfl (bk1 _ _ hw)⟩
  ·
   refine c_seq ?_
   refine c_region ?_
   refine l_val (v := .bool (decide (((way.toNat % 5 : Nat) : Int) = (2 : Int)))) rfl rfl rfl (e_eql (a := ((way.toNat % 5 : Nat) : Int)) (b := (2 : Int)) rfl rfl) ?_
   refine l_val (v := .bool (decide (((way.toNat % 5 : Nat) : Int) = (2 : Int)))) rfl rfl rfl (e_assign) ?_
   refine l_nil ?_
   refine f_then ?_
   refine c_if (((way.toNat % 5 : Nat) : Int) = (2 : Int)) rfl (fun hc27 => ?_) (fun hc27 => ?_)
   ·
    refine c_region ?_
    refine l_val (v := .pointer (some ⟨b5, 2, none⟩)) rfl rfl rfl (e_fieldPt (b := b5) (o := 0) rfl tf57) ?_
    refine l_val (v := .pointer (some ⟨b5, 3, none⟩)) rfl rfl rfl (e_fieldPt (b := b5) (o := 2) rfl tf8) ?_
    refine l_mu rfl rfl (m_store 3 tf2 (b := b5) (o := 3) (T := 27) (cs := #[.slice (sla (fa12 26)) (B0.length) (slc (fa12 26)), .slice p3 (R.length) c4, .int .i64 (0), .int .i64 (0)]) (cs' := #[.slice (sla (fa12 26)) (B0.length) (slc (fa12 26)), .slice p3 (R.length) c4, .int .i64 (0), .int .i64 (4097)]) (v := .int .i64 (4097)) rfl rfl rfl rfl rfl rfl rfl) ?_
    refine l_nil ?_
    refine f_block ?_
    refine f_then ?_
    refine c_seq ?_
    have hno : ¬ okS B0 R (0 : Int) (4097 : Int) := wrong_pull
    refine c_region ?_
    refine l_val (v := .agg #[.slice (sla (fa12 26)) (B0.length) (slc (fa12 26)), .slice p3 (R.length) c4, .int .i64 (0), .int .i64 (4097)]) rfl rfl rfl (e_load tf86 (cs := [.slice (sla (fa12 26)) (B0.length) (slc (fa12 26)), .slice p3 (R.length) c4, .int .i64 (0), .int .i64 (4097)]) rfl (k_pt 3 (cs := #[.slice (sla (fa12 26)) (B0.length) (slc (fa12 26)), .slice p3 (R.length) c4, .int .i64 (0), .int .i64 (4097)]) (vs := [.slice (sla (fa12 26)) (B0.length) (slc (fa12 26)), .slice p3 (R.length) c4, .int .i64 (0), .int .i64 (4097)]) rfl rfl) rfl) ?_
    refine l_call rfl rfl rfl (cl_value (fst := []) (cap := []) (vs := [.agg #[.slice (sla (fa12 26)) (B0.length) (slc (fa12 26)), .slice p3 (R.length) c4, .int .i64 (0), .int .i64 (4097)]]) (all := [.agg #[.slice (sla (fa12 26)) (B0.length) (slc (fa12 26)), .slice p3 (R.length) c4, .int .i64 (0), .int .i64 (4097)]]) tf104 rfl rfl rfl) ?_
    intro w hw
    obtain ⟨β1, sb, kn, hw1, back⟩ := St.frame_all hw
    refine (stepN_ok β1 w hw1 _ _ (0 : Int) (4097 : Int) B0 R (kn _ (k_flN 2 (F := BodyF) (m := B0.length) (xs := B0) rfl rfl)) (kn _ (k_flN 0 (F := RopeF) (m := R.length) (xs := R) rfl rfl)) (by omega) (by omega) (GR.mono sb hG) hno).mono ?_
    rintro e w' ⟨rfl, hw'⟩
    refine ⟨_, rfl, _, back _ _ hw', ?_⟩
    clear hw hw1 hw' back kn sb
    refine l_val (v := .tuple #[.agg #[.slice none 0 0, .slice none 0 0, .int .i64 (0), .int .i64 (0)], .slice none 0 0, .int .i64 (2)]) rfl rfl rfl (e_move) ?_
    refine l_val (v := .agg #[.slice none 0 0, .slice none 0 0, .int .i64 (0), .int .i64 (0)]) rfl rfl rfl (e_extract (vs := #[.agg #[.slice none 0 0, .slice none 0 0, .int .i64 (0), .int .i64 (0)], .slice none 0 0, .int .i64 (2)]) rfl rfl) ?_
    refine l_val (v := .slice none 0 0) rfl rfl rfl (e_extract (vs := #[.agg #[.slice none 0 0, .slice none 0 0, .int .i64 (0), .int .i64 (0)], .slice none 0 0, .int .i64 (2)]) rfl rfl) ?_
    refine l_val (v := .int .i64 (2)) rfl rfl rfl (e_extract (vs := #[.agg #[.slice none 0 0, .slice none 0 0, .int .i64 (0), .int .i64 (0)], .slice none 0 0, .int .i64 (2)]) rfl rfl) ?_
    refine l_mv rfl rfl rfl (m_alloc tf85) ?_
    rintro _ _ ⟨b28, rfl, rfl⟩
    refine l_mu rfl rfl (m_store 0 tf86 (b := b28) (o := 0) (T := 27) (cs := #[.slice none 0 0, .slice none 0 0, .int .i64 (0), .int .i64 (0)]) (cs' := #[.slice none 0 0, .slice none 0 0, .int .i64 (0), .int .i64 (0)]) (v := .agg #[.slice none 0 0, .slice none 0 0, .int .i64 (0), .int .i64 (0)]) rfl rfl rfl rfl rfl rfl rfl) ?_
    refine l_val (v := .slice none 0 0) rfl rfl rfl (e_assign) ?_
    refine l_val (v := .int .i64 (2)) rfl rfl rfl (e_assign) ?_
    refine l_nil ?_
    refine f_then ?_
    refine c_seq ?_
    refine c_region ?_
    refine l_val (v := .agg #[.int .u8 (1), .int .i64 (0), .int .i64 (0), .int .i64 (0), .int .i64 (0)]) rfl rfl rfl (e_build tg142 tg141 (vs := [(0, .int .u8 (1))]) (cells := #[.int .u8 (1), .int .i64 (0), .int .i64 (0), .int .i64 (0), .int .i64 (0)]) rfl rfl) ?_
    refine l_val (v := .agg #[.int .i64 (1), .int .i64 (1), .int .i64 (1), .int .i64 (0)]) rfl rfl rfl (e_build_a tg143 tg126 (vs := [(0, .int .i64 (1)), (1, .int .i64 (1)), (2, .int .i64 (1)), (3, .int .i64 (0))]) (cells := #[.int .i64 (1), .int .i64 (1), .int .i64 (1), .int .i64 (0)]) rfl rfl) ?_
    refine l_val (v := .agg #[.int .u8 (3), .int .i64 (1), .int .i64 (1), .int .i64 (1), .int .i64 (0)]) rfl rfl rfl (e_build tg142 tg141 (vs := [(0, .int .u8 (3)), (1, .agg #[.int .i64 (1), .int .i64 (1), .int .i64 (1), .int .i64 (0)])]) (cells := #[.int .u8 (3), .int .i64 (1), .int .i64 (1), .int .i64 (1), .int .i64 (0)]) rfl rfl) ?_
    refine l_mv rfl rfl rfl (m_slices tg115 tg142 (vs := [(0, .agg #[.int .u8 (1), .int .i64 (0), .int .i64 (0), .int .i64 (0), .int .i64 (0)]), (1, .agg #[.int .u8 (3), .int .i64 (1), .int .i64 (1), .int .i64 (1), .int .i64 (0)])]) (cells := #[.int .u8 (1), .int .i64 (0), .int .i64 (0), .int .i64 (0), .int .i64 (0), .int .u8 (3), .int .i64 (1), .int .i64 (1), .int .i64 (1), .int .i64 (0)]) rfl rfl rfl (by kernel_rfl)) ?_
    rintro _ _ ⟨b29, rfl, rfl⟩
    refine l_val (v := .agg #[.int .i64 (1), .slice (some ⟨b29, 0, none⟩) 2 2]) rfl rfl rfl (e_build tg132 tg144 (vs := [(0, .int .i64 (1)), (1, .slice (some ⟨b29, 0, none⟩) 2 2)]) (cells := #[.int .i64 (1), .slice (some ⟨b29, 0, none⟩) 2 2]) rfl rfl) ?_
    refine l_val (v := .agg #[.int .i64 (50), .int .i64 (0), .int .i64 (0), .int .i64 (0)]) rfl rfl rfl (e_build_a tg143 tg126 (vs := [(0, .int .i64 (50))]) (cells := #[.int .i64 (50), .int .i64 (0), .int .i64 (0), .int .i64 (0)]) rfl rfl) ?_
    refine l_val (v := .agg #[.int .u8 (1), .int .i64 (50), .int .i64 (0), .int .i64 (0), .int .i64 (0)]) rfl rfl rfl (e_build tg142 tg141 (vs := [(0, .int .u8 (1)), (1, .agg #[.int .i64 (50), .int .i64 (0), .int .i64 (0), .int .i64 (0)])]) (cells := #[.int .u8 (1), .int .i64 (50), .int .i64 (0), .int .i64 (0), .int .i64 (0)]) rfl rfl) ?_
    refine l_val (v := .agg #[.int .i64 (1), .int .i64 (1), .int .i64 (0), .int .i64 (1)]) rfl rfl rfl (e_build_a tg143 tg126 (vs := [(0, .int .i64 (1)), (1, .int .i64 (1)), (2, .int .i64 (0)), (3, .int .i64 (1))]) (cells := #[.int .i64 (1), .int .i64 (1), .int .i64 (0), .int .i64 (1)]) rfl rfl) ?_
    refine l_val (v := .agg #[.int .u8 (3), .int .i64 (1), .int .i64 (1), .int .i64 (0), .int .i64 (1)]) rfl rfl rfl (e_build tg142 tg141 (vs := [(0, .int .u8 (3)), (1, .agg #[.int .i64 (1), .int .i64 (1), .int .i64 (0), .int .i64 (1)])]) (cells := #[.int .u8 (3), .int .i64 (1), .int .i64 (1), .int .i64 (0), .int .i64 (1)]) rfl rfl) ?_
    refine l_mv rfl rfl rfl (m_slices tg115 tg142 (vs := [(0, .agg #[.int .u8 (1), .int .i64 (50), .int .i64 (0), .int .i64 (0), .int .i64 (0)]), (1, .agg #[.int .u8 (3), .int .i64 (1), .int .i64 (1), .int .i64 (0), .int .i64 (1)])]) (cells := #[.int .u8 (1), .int .i64 (50), .int .i64 (0), .int .i64 (0), .int .i64 (0), .int .u8 (3), .int .i64 (1), .int .i64 (1), .int .i64 (0), .int .i64 (1)]) rfl rfl rfl (by kernel_rfl)) ?_
    rintro _ _ ⟨b30, rfl, rfl⟩
    refine l_val (v := .agg #[.int .i64 (1), .slice (some ⟨b30, 0, none⟩) 2 2]) rfl rfl rfl (e_build tg132 tg144 (vs := [(0, .int .i64 (1)), (1, .slice (some ⟨b30, 0, none⟩) 2 2)]) (cells := #[.int .i64 (1), .slice (some ⟨b30, 0, none⟩) 2 2]) rfl rfl) ?_
    refine l_mv rfl rfl rfl (m_slices tg131 tg132 (vs := [(0, .agg #[.int .i64 (1), .slice (some ⟨b29, 0, none⟩) 2 2]), (1, .agg #[.int .i64 (1), .slice (some ⟨b30, 0, none⟩) 2 2])]) (cells := #[.int .i64 (1), .slice (some ⟨b29, 0, none⟩) 2 2, .int .i64 (1), .slice (some ⟨b30, 0, none⟩) 2 2]) rfl rfl rfl rfl) ?_
    rintro _ _ ⟨b31, rfl, rfl⟩
    refine l_val (v := .agg #[.int .i64 (0), .slice (some ⟨b31, 0, none⟩) 2 2]) rfl rfl rfl (e_build tg135 tg138 (vs := [(1, .slice (some ⟨b31, 0, none⟩) 2 2)]) (cells := #[.int .i64 (0), .slice (some ⟨b31, 0, none⟩) 2 2]) rfl rfl) ?_
    refine l_mv rfl rfl rfl (m_alloc tg135) ?_
    rintro _ _ ⟨b32, rfl, rfl⟩
    refine l_mu rfl rfl (m_store 0 tg136 (b := b32) (o := 0) (T := 70) (cs := #[.int .i64 (0), .slice none 0 0]) (cs' := #[.int .i64 (0), .slice (some ⟨b31, 0, none⟩) 2 2]) (v := .agg #[.int .i64 (0), .slice (some ⟨b31, 0, none⟩) 2 2]) rfl rfl rfl rfl rfl rfl rfl) ?_
    refine l_nil ?_
    refine f_then ?_
    refine c_seq ?_
    refine c_perm (L' := [pt b32 (.cells #[.int .i64 (0), .slice (some ⟨b31, 0, none⟩) 2 2] 70), pt b28 (.cells #[.slice none 0 0, .slice none 0 0, .int .i64 (0), .int .i64 (0)] 27), rowF RopeF 35 p3 c4 R, pt (blk (fa12 25)) (.cells #[.int .i64 (60), .int .i64 (0), .int .i64 (0), .int .i64 (0), .int .i64 (0), .int .i64 (5), .int .i64 (5), .bool false, .bool false, .int .i64 (61), .int .i64 (0), .int .i64 (0), .int .i64 (0), .int .i64 (0), .int .i64 (5), .int .i64 (5), .bool false, .bool false] 31), rowF BodyF 31 (sla (fa12 26)) (slc (fa12 26)) B0, pt b5 (.cells #[.slice (sla (fa12 26)) (B0.length) (slc (fa12 26)), .slice p3 (R.length) c4, .int .i64 (0), .int .i64 (4097)] 27), pt b31 (.cells #[.int .i64 (1), .slice (some ⟨b29, 0, none⟩) 2 2, .int .i64 (1), .slice (some ⟨b30, 0, none⟩) 2 2] 76), pt b29 (.cells #[.int .u8 (1), .int .i64 (0), .int .i64 (0), .int .i64 (0), .int .i64 (0), .int .u8 (3), .int .i64 (1), .int .i64 (1), .int .i64 (1), .int .i64 (0)] 73), pt b30 (.cells #[.int .u8 (1), .int .i64 (50), .int .i64 (0), .int .i64 (0), .int .i64 (0), .int .u8 (3), .int .i64 (1), .int .i64 (1), .int .i64 (0), .int .i64 (1)] 73)]) (by exact (perm_ix [0, 4, 5, 6, 7, 8, 1, 3, 2] 9 rfl (by kernel_rfl) (by kernel_rfl))) ?_
    refine c_freeze2 (M := [pt b32 (.cells #[.int .i64 (0), .slice (some ⟨b31, 0, none⟩) 2 2] 70), pt b28 (.cells #[.slice none 0 0, .slice none 0 0, .int .i64 (0), .int .i64 (0)] 27), rowF RopeF 35 p3 c4 R, pt (blk (fa12 25)) (.cells #[.int .i64 (60), .int .i64 (0), .int .i64 (0), .int .i64 (0), .int .i64 (0), .int .i64 (5), .int .i64 (5), .bool false, .bool false, .int .i64 (61), .int .i64 (0), .int .i64 (0), .int .i64 (0), .int .i64 (0), .int .i64 (5), .int .i64 (5), .bool false, .bool false] 31), rowF BodyF 31 (sla (fa12 26)) (slc (fa12 26)) B0, pt b5 (.cells #[.slice (sla (fa12 26)) (B0.length) (slc (fa12 26)), .slice p3 (R.length) c4, .int .i64 (0), .int .i64 (4097)] 27)]) (K := [pt b31 (.cells #[.int .i64 (1), .slice (some ⟨b29, 0, none⟩) 2 2, .int .i64 (1), .slice (some ⟨b30, 0, none⟩) 2 2] 76), pt b29 (.cells #[.int .u8 (1), .int .i64 (0), .int .i64 (0), .int .i64 (0), .int .i64 (0), .int .u8 (3), .int .i64 (1), .int .i64 (1), .int .i64 (1), .int .i64 (0)] 73), pt b30 (.cells #[.int .u8 (1), .int .i64 (50), .int .i64 (0), .int .i64 (0), .int .i64 (0), .int .u8 (3), .int .i64 (1), .int .i64 (1), .int .i64 (0), .int .i64 (1)] 73)]) rfl (fun βf ext1 kn1 bk1 => ?_)
    have hG := GR.mono ext1.sub hG
    have hC1 : Sl CompR βf.heap (.slice (some ⟨b29, 0, none⟩) 2 2) [(⟨1, 0, 0, 0, 0⟩ : KComp), (⟨3, 1, 1, 1, 0⟩ : KComp)] := kn1 _ (k_ptFls (F := CompF) 1 (m := 2) (xs := [(⟨1, 0, 0, 0, 0⟩ : KComp), (⟨3, 1, 1, 1, 0⟩ : KComp)]) rfl rfl rfl (by decide))
    have hC2 : Sl CompR βf.heap (.slice (some ⟨b30, 0, none⟩) 2 2) [(⟨1, 50, 0, 0, 0⟩ : KComp), (⟨3, 1, 1, 0, 1⟩ : KComp)] := kn1 _ (k_ptFls (F := CompF) 2 (m := 2) (xs := [(⟨1, 50, 0, 0, 0⟩ : KComp), (⟨3, 1, 1, 0, 1⟩ : KComp)]) rfl rfl rfl (by decide))
    have hE : Sl EntR βf.heap (.slice (some ⟨b31, 0, none⟩) 2 2) wrongE := ents2 (e1 := ⟨1, [(⟨1, 0, 0, 0, 0⟩ : KComp), (⟨3, 1, 1, 1, 0⟩ : KComp)]⟩) (e2 := ⟨1, [(⟨1, 50, 0, 0, 0⟩ : KComp), (⟨3, 1, 1, 0, 1⟩ : KComp)]⟩) (kn1 _ (k_pt 0 (o := 0) (cs := #[.int .i64 (1), .slice (some ⟨b29, 0, none⟩) 2 2, .int .i64 (1), .slice (some ⟨b30, 0, none⟩) 2 2]) (vs := [.int .i64 (1), .slice (some ⟨b29, 0, none⟩) 2 2, .int .i64 (1), .slice (some ⟨b30, 0, none⟩) 2 2]) rfl rfl)) hC1 hC2
    refine c_region ?_
    refine l_val (v := .agg #[.int .i64 (0), .slice (some ⟨b31, 0, none⟩) 2 2]) rfl rfl rfl (e_load tg136 (cs := [.int .i64 (0), .slice (some ⟨b31, 0, none⟩) 2 2]) rfl (k_pt 0 (cs := #[.int .i64 (0), .slice (some ⟨b31, 0, none⟩) 2 2]) (vs := [.int .i64 (0), .slice (some ⟨b31, 0, none⟩) 2 2]) rfl rfl) rfl) ?_
    refine l_val (v := .agg #[.int .i64 (0), .int .i64 (0)]) rfl rfl rfl (e_build tf17 tf16 (vs := []) (cells := #[.int .i64 (0), .int .i64 (0)]) rfl rfl) ?_
    refine l_call rfl rfl rfl (cl_value (fst := []) (cap := []) (vs := [.agg #[.int .i64 (0), .slice (some ⟨b31, 0, none⟩) 2 2], .slice none 0 0, .agg #[.int .i64 (0), .int .i64 (0)]]) (all := [.agg #[.int .i64 (0), .slice (some ⟨b31, 0, none⟩) 2 2], .slice none 0 0, .agg #[.int .i64 (0), .int .i64 (0)]]) tg145 rfl rfl rfl) ?_
    intro w hw
    obtain ⟨β1, sb, kn, hw1, back⟩ := St.frame_all hw
    refine (worldN_ok β1 w hw1 _ _ _ 0 0 wrongE [] (Sl.mono _ _ _ _ _ sb hE) (Sl.nil KRR _) (by decide) (by decide) (by decide) (by decide) (GR.mono sb hG) wrong_world).mono ?_
    rintro e w' ⟨rfl, hw'⟩
    refine ⟨_, rfl, _, back _ _ hw', ?_⟩
    clear hw hw1 hw' back kn sb
    refine l_val (v := .tuple #[.agg #[.int .i64 (0), .slice none 0 0], .slice none 0 0, .int .i64 (2)]) rfl rfl rfl (e_move) ?_
    refine l_val (v := .agg #[.int .i64 (0), .slice none 0 0]) rfl rfl rfl (e_extract (vs := #[.agg #[.int .i64 (0), .slice none 0 0], .slice none 0 0, .int .i64 (2)]) rfl rfl) ?_
    refine l_val (v := .slice none 0 0) rfl rfl rfl (e_extract (vs := #[.agg #[.int .i64 (0), .slice none 0 0], .slice none 0 0, .int .i64 (2)]) rfl rfl) ?_
    refine l_val (v := .int .i64 (2)) rfl rfl rfl (e_extract (vs := #[.agg #[.int .i64 (0), .slice none 0 0], .slice none 0 0, .int .i64 (2)]) rfl rfl) ?_
    refine l_mv rfl rfl rfl (m_alloc tg135) ?_
    rintro _ _ ⟨b33, rfl, rfl⟩
    refine l_mu rfl rfl (m_store 0 tg136 (b := b33) (o := 0) (T := 70) (cs := #[.int .i64 (0), .slice none 0 0]) (cs' := #[.int .i64 (0), .slice none 0 0]) (v := .agg #[.int .i64 (0), .slice none 0 0]) rfl rfl rfl rfl rfl rfl rfl) ?_
    refine l_val (v := .slice none 0 0) rfl rfl rfl (e_assign) ?_
    refine l_val (v := .int .i64 (2)) rfl rfl rfl (e_assign) ?_
    refine l_nil ?_
    refine f_then ?_
    refine c_seq ?_
    refine c_region ?_
    refine l_val (v := .int .i64 (2)) rfl rfl rfl (e_move) ?_
    refine l_val (v := .bool true) rfl rfl rfl (e_eql (a := (2 : Int)) (b := (2 : Int)) rfl rfl) ?_
    refine l_val (v := .bool true) rfl rfl rfl (e_move) ?_
    refine g_val (v := .int .i64 (2)) rfl rfl rfl rfl rfl (e_move) ?_
    refine g_val (v := .bool true) rfl rfl rfl rfl rfl (e_eql (a := (2 : Int)) (b := (2 : Int)) rfl rfl) ?_
    refine l_val (v := .bool true) rfl rfl rfl (e_pick_t rfl) ?_
    refine l_val (v := .bool true) rfl rfl rfl (e_move) ?_
    refine g_val (v := .pointer (some ⟨b28, 0, none⟩)) rfl rfl rfl rfl rfl (e_fieldPt (b := b28) (o := 0) rfl tf49) ?_
    refine g_val (v := .slice none 0 0) rfl rfl rfl rfl rfl (e_load1 tf50 (v := .slice none 0 0) rfl (k_pt 2 (cs := #[.slice none 0 0, .slice none 0 0, .int .i64 (0), .int .i64 (0)]) (vs := [.slice none 0 0]) rfl rfl)) ?_
    refine g_val (v := .int .i64 (0)) rfl rfl rfl rfl rfl (e_len (n := 0) rfl tf40) ?_
    refine g_val (v := .pointer (some ⟨b28, 1, none⟩)) rfl rfl rfl rfl rfl (e_fieldPt (b := b28) (o := 0) rfl tf55) ?_
    refine g_val (v := .slice none 0 0) rfl rfl rfl rfl rfl (e_load1 tf56 (v := .slice none 0 0) rfl (k_pt 2 (cs := #[.slice none 0 0, .slice none 0 0, .int .i64 (0), .int .i64 (0)]) (vs := [.slice none 0 0]) rfl rfl)) ?_
    refine g_val (v := .int .i64 (0)) rfl rfl rfl rfl rfl (e_len (n := 0) rfl tf45) ?_
    refine g_val (v := .int .i64 (0)) rfl rfl rfl rfl rfl (e_add (a := (0 : Int)) (b := (0 : Int)) rfl rfl (by decide)) ?_
    refine g_val (v := .slice none 0 0) rfl rfl rfl rfl rfl (e_move) ?_
    refine g_val (v := .int .i64 (0)) rfl rfl rfl rfl rfl (e_len (n := 0) rfl tf105) ?_
    refine g_val (v := .int .i64 (0)) rfl rfl rfl rfl rfl (e_add (a := (0 : Int)) (b := (0 : Int)) rfl rfl (by decide)) ?_
    refine g_val (v := .pointer (some ⟨b33, 1, none⟩)) rfl rfl rfl rfl rfl (e_fieldPt (b := b33) (o := 0) rfl tg128) ?_
    refine g_val (v := .slice none 0 0) rfl rfl rfl rfl rfl (e_load1 tg129 (v := .slice none 0 0) rfl (k_pt 0 (cs := #[.int .i64 (0), .slice none 0 0]) (vs := [.slice none 0 0]) rfl rfl)) ?_
    refine g_val (v := .int .i64 (0)) rfl rfl rfl rfl rfl (e_len (n := 0) rfl tg130) ?_
    refine g_val (v := .int .i64 (0)) rfl rfl rfl rfl rfl (e_add (a := (0 : Int)) (b := (0 : Int)) rfl rfl (by decide)) ?_
    refine g_val (v := .slice none 0 0) rfl rfl rfl rfl rfl (e_move) ?_
    refine g_val (v := .int .i64 (0)) rfl rfl rfl rfl rfl (e_len (n := 0) rfl tf105) ?_
    refine g_val (v := .int .i64 (0)) rfl rfl rfl rfl rfl (e_add (a := (0 : Int)) (b := (0 : Int)) rfl rfl (by decide)) ?_
    refine g_val (v := .bool true) rfl rfl rfl rfl rfl (e_eql (a := (0 : Int)) (b := (0 : Int)) rfl rfl) ?_
    refine l_val (v := .bool true) rfl rfl rfl (e_pick_t rfl) ?_
    refine l_val (v := .bool true) rfl rfl rfl (e_move) ?_
    refine g_val (v := .pointer (some ⟨b28, 2, none⟩)) rfl rfl rfl rfl rfl (e_fieldPt (b := b28) (o := 0) rfl tf57) ?_
    refine g_val (v := .agg #[.int .i64 (0), .int .i64 (0)]) rfl rfl rfl rfl rfl (e_load tf15 (cs := [.int .i64 (0), .int .i64 (0)]) rfl (k_pt 2 (cs := #[.slice none 0 0, .slice none 0 0, .int .i64 (0), .int .i64 (0)]) (vs := [.int .i64 (0), .int .i64 (0)]) rfl rfl) rfl) ?_
    refine g_val (v := .agg #[.int .i64 (0), .int .i64 (0)]) rfl rfl rfl rfl rfl (e_build tf17 tf16 (vs := []) (cells := #[.int .i64 (0), .int .i64 (0)]) rfl rfl) ?_
    refine g_val (v := .bool true) rfl rfl rfl rfl rfl ((ev_t (by decide) (e_eql_t (p := (0 : Int) = (0 : Int) ∧ (0 : Int) = (0 : Int)) (xs := [.int .i64 (0), .int .i64 (0)]) (ys := [.int .i64 (0), .int .i64 (0)]) tf18 tf19 tf20 rfl rfl rfl rfl vec_eq))) ?_
    refine l_val (v := .bool true) rfl rfl rfl (e_pick_t rfl) ?_
    refine l_val (v := .bool true) rfl rfl rfl (e_assign) ?_
    refine l_nil ?_
    refine f_then ?_
    refine c_ret ?_
    refine ret1 Tryd.results11 (v := .bool true) rfl ?_
    intro w hw
    exact ⟨rfl, st_mask [false, false, false, false, false, false, false, false, false, false] rfl (bk1 _ _ hw)⟩
   ·
    refine c_seq ?_
    refine c_region ?_
    refine l_val (v := .bool (decide (((way.toNat % 5 : Nat) : Int) = (3 : Int)))) rfl rfl rfl (e_eql (a := ((way.toNat % 5 : Nat) : Int)) (b := (3 : Int)) rfl rfl) ?_
    refine l_val (v := .bool (decide (((way.toNat % 5 : Nat) : Int) = (3 : Int)))) rfl rfl rfl (e_assign) ?_
    refine l_nil ?_
    refine f_then ?_
    refine c_if (((way.toNat % 5 : Nat) : Int) = (3 : Int)) rfl (fun hc34 => ?_) (fun hc34 => ?_)
    ·
     refine c_region ?_
     refine l_val (v := .pointer (some ⟨b5, 1, none⟩)) rfl rfl rfl (e_fieldPt (b := b5) (o := 0) rfl tf55) ?_
     refine l_val (v := .slice p3 (R.length) c4) rfl rfl rfl (e_load1 tf56 (v := .slice p3 (R.length) c4) rfl (k_pt 3 (cs := #[.slice (sla (fa12 26)) (B0.length) (slc (fa12 26)), .slice p3 (R.length) c4, .int .i64 (0), .int .i64 (0)]) (vs := [.slice p3 (R.length) c4]) rfl rfl)) ?_
     refine l_val (v := .agg #[.int .i64 (61), .int .i64 (60), .int .i64 (5)]) rfl rfl rfl (e_build tf77 tf110 (vs := [(0, .int .i64 (61)), (1, .int .i64 (60)), (2, .int .i64 (5))]) (cells := #[.int .i64 (61), .int .i64 (60), .int .i64 (5)]) rfl rfl) ?_
     refine l_mv rfl rfl rfl (m_slices tf46 tf77 (vs := [(0, .agg #[.int .i64 (61), .int .i64 (60), .int .i64 (5)])]) (cells := #[.int .i64 (61), .int .i64 (60), .int .i64 (5)]) rfl rfl rfl rfl) ?_
     rintro _ _ ⟨b35, rfl, rfl⟩
     refine l_mv rfl rfl rfl (m_appendFlN (F := RopeF) 1 tf46 tf84 (p := p3) (m := R.length) (xs := R) (ys := [(⟨(61 : Int), (60 : Int), (5 : Int)⟩ : KR)]) (ao := (some ⟨b35, 0, none⟩)) (k := 1) (c := 1) rfl rfl rfl rfl rfl (k_ptFl (z := (⟨(61 : Int), (60 : Int), (5 : Int)⟩ : KR)) 0 rfl rfl) (by first | omega | simp only [List.length_nil, List.length_cons, List.length_append, List.length_set]; omega) (by first | omega | simp only [List.length_nil, List.length_cons, List.length_append, List.length_set]; omega)) ?_
     rintro _ _ ⟨rp36, rc37, rfl, rfl⟩
     refine l_val (v := .pointer (some ⟨b5, 1, none⟩)) rfl rfl rfl (e_fieldPt (b := b5) (o := 0) rfl tf55) ?_
     refine l_mu rfl rfl (m_store 4 tf56 (b := b5) (o := 1) (T := 27) (cs := #[.slice (sla (fa12 26)) (B0.length) (slc (fa12 26)), .slice p3 (R.length) c4, .int .i64 (0), .int .i64 (0)]) (cs' := #[.slice (sla (fa12 26)) (B0.length) (slc (fa12 26)), .slice rp36 ((R ++ [(⟨(61 : Int), (60 : Int), (5 : Int)⟩ : KR)]).length) rc37, .int .i64 (0), .int .i64 (0)]) (v := .slice rp36 ((R ++ [(⟨(61 : Int), (60 : Int), (5 : Int)⟩ : KR)]).length) rc37) rfl rfl rfl rfl rfl rfl rfl) ?_
     refine l_nil ?_
     refine f_block ?_
     refine f_then ?_
     refine c_seq ?_
     have hno : ¬ okS B0 (R ++ [(⟨(61 : Int), (60 : Int), (5 : Int)⟩ : KR)]) (0 : Int) (0 : Int) := wrong_rope
     refine c_region ?_
     refine l_val (v := .agg #[.slice (sla (fa12 26)) (B0.length) (slc (fa12 26)), .slice rp36 ((R ++ [(⟨(61 : Int), (60 : Int), (5 : Int)⟩ : KR)]).length) rc37, .int .i64 (0), .int .i64 (0)]) rfl rfl rfl (e_load tf86 (cs := [.slice (sla (fa12 26)) (B0.length) (slc (fa12 26)), .slice rp36 ((R ++ [(⟨(61 : Int), (60 : Int), (5 : Int)⟩ : KR)]).length) rc37, .int .i64 (0), .int .i64 (0)]) rfl (k_pt 4 (cs := #[.slice (sla (fa12 26)) (B0.length) (slc (fa12 26)), .slice rp36 ((R ++ [(⟨(61 : Int), (60 : Int), (5 : Int)⟩ : KR)]).length) rc37, .int .i64 (0), .int .i64 (0)]) (vs := [.slice (sla (fa12 26)) (B0.length) (slc (fa12 26)), .slice rp36 ((R ++ [(⟨(61 : Int), (60 : Int), (5 : Int)⟩ : KR)]).length) rc37, .int .i64 (0), .int .i64 (0)]) rfl rfl) rfl) ?_
     refine l_call rfl rfl rfl (cl_value (fst := []) (cap := []) (vs := [.agg #[.slice (sla (fa12 26)) (B0.length) (slc (fa12 26)), .slice rp36 ((R ++ [(⟨(61 : Int), (60 : Int), (5 : Int)⟩ : KR)]).length) rc37, .int .i64 (0), .int .i64 (0)]]) (all := [.agg #[.slice (sla (fa12 26)) (B0.length) (slc (fa12 26)), .slice rp36 ((R ++ [(⟨(61 : Int), (60 : Int), (5 : Int)⟩ : KR)]).length) rc37, .int .i64 (0), .int .i64 (0)]]) tf104 rfl rfl rfl) ?_
     intro w hw
     obtain ⟨β1, sb, kn, hw1, back⟩ := St.frame_all hw
     refine (stepN_ok β1 w hw1 _ _ (0 : Int) (0 : Int) B0 (R ++ [(⟨(61 : Int), (60 : Int), (5 : Int)⟩ : KR)]) (kn _ (k_flN 3 (F := BodyF) (m := B0.length) (xs := B0) rfl rfl)) (kn _ (k_flN 1 (F := RopeF) (m := (R ++ [(⟨(61 : Int), (60 : Int), (5 : Int)⟩ : KR)]).length) (xs := (R ++ [(⟨(61 : Int), (60 : Int), (5 : Int)⟩ : KR)])) rfl rfl)) (by omega) (by omega) (GR.mono sb hG) hno).mono ?_
     rintro e w' ⟨rfl, hw'⟩
     refine ⟨_, rfl, _, back _ _ hw', ?_⟩
     clear hw hw1 hw' back kn sb
     refine l_val (v := .tuple #[.agg #[.slice none 0 0, .slice none 0 0, .int .i64 (0), .int .i64 (0)], .slice none 0 0, .int .i64 (2)]) rfl rfl rfl (e_move) ?_
     refine l_val (v := .agg #[.slice none 0 0, .slice none 0 0, .int .i64 (0), .int .i64 (0)]) rfl rfl rfl (e_extract (vs := #[.agg #[.slice none 0 0, .slice none 0 0, .int .i64 (0), .int .i64 (0)], .slice none 0 0, .int .i64 (2)]) rfl rfl) ?_
     refine l_val (v := .slice none 0 0) rfl rfl rfl (e_extract (vs := #[.agg #[.slice none 0 0, .slice none 0 0, .int .i64 (0), .int .i64 (0)], .slice none 0 0, .int .i64 (2)]) rfl rfl) ?_
     refine l_val (v := .int .i64 (2)) rfl rfl rfl (e_extract (vs := #[.agg #[.slice none 0 0, .slice none 0 0, .int .i64 (0), .int .i64 (0)], .slice none 0 0, .int .i64 (2)]) rfl rfl) ?_
     refine l_mv rfl rfl rfl (m_alloc tf85) ?_
     rintro _ _ ⟨b38, rfl, rfl⟩
     refine l_mu rfl rfl (m_store 0 tf86 (b := b38) (o := 0) (T := 27) (cs := #[.slice none 0 0, .slice none 0 0, .int .i64 (0), .int .i64 (0)]) (cs' := #[.slice none 0 0, .slice none 0 0, .int .i64 (0), .int .i64 (0)]) (v := .agg #[.slice none 0 0, .slice none 0 0, .int .i64 (0), .int .i64 (0)]) rfl rfl rfl rfl rfl rfl rfl) ?_
     refine l_val (v := .slice none 0 0) rfl rfl rfl (e_assign) ?_
     refine l_val (v := .int .i64 (2)) rfl rfl rfl (e_assign) ?_
     refine l_nil ?_
     refine f_then ?_
     refine c_seq ?_
     refine c_region ?_
     refine l_val (v := .agg #[.int .u8 (1), .int .i64 (0), .int .i64 (0), .int .i64 (0), .int .i64 (0)]) rfl rfl rfl (e_build tg142 tg141 (vs := [(0, .int .u8 (1))]) (cells := #[.int .u8 (1), .int .i64 (0), .int .i64 (0), .int .i64 (0), .int .i64 (0)]) rfl rfl) ?_
     refine l_val (v := .agg #[.int .i64 (1), .int .i64 (1), .int .i64 (1), .int .i64 (0)]) rfl rfl rfl (e_build_a tg143 tg126 (vs := [(0, .int .i64 (1)), (1, .int .i64 (1)), (2, .int .i64 (1)), (3, .int .i64 (0))]) (cells := #[.int .i64 (1), .int .i64 (1), .int .i64 (1), .int .i64 (0)]) rfl rfl) ?_
     refine l_val (v := .agg #[.int .u8 (3), .int .i64 (1), .int .i64 (1), .int .i64 (1), .int .i64 (0)]) rfl rfl rfl (e_build tg142 tg141 (vs := [(0, .int .u8 (3)), (1, .agg #[.int .i64 (1), .int .i64 (1), .int .i64 (1), .int .i64 (0)])]) (cells := #[.int .u8 (3), .int .i64 (1), .int .i64 (1), .int .i64 (1), .int .i64 (0)]) rfl rfl) ?_
     refine l_mv rfl rfl rfl (m_slices tg115 tg142 (vs := [(0, .agg #[.int .u8 (1), .int .i64 (0), .int .i64 (0), .int .i64 (0), .int .i64 (0)]), (1, .agg #[.int .u8 (3), .int .i64 (1), .int .i64 (1), .int .i64 (1), .int .i64 (0)])]) (cells := #[.int .u8 (1), .int .i64 (0), .int .i64 (0), .int .i64 (0), .int .i64 (0), .int .u8 (3), .int .i64 (1), .int .i64 (1), .int .i64 (1), .int .i64 (0)]) rfl rfl rfl (by kernel_rfl)) ?_
     rintro _ _ ⟨b39, rfl, rfl⟩
     refine l_val (v := .agg #[.int .i64 (1), .slice (some ⟨b39, 0, none⟩) 2 2]) rfl rfl rfl (e_build tg132 tg144 (vs := [(0, .int .i64 (1)), (1, .slice (some ⟨b39, 0, none⟩) 2 2)]) (cells := #[.int .i64 (1), .slice (some ⟨b39, 0, none⟩) 2 2]) rfl rfl) ?_
     refine l_val (v := .agg #[.int .i64 (50), .int .i64 (0), .int .i64 (0), .int .i64 (0)]) rfl rfl rfl (e_build_a tg143 tg126 (vs := [(0, .int .i64 (50))]) (cells := #[.int .i64 (50), .int .i64 (0), .int .i64 (0), .int .i64 (0)]) rfl rfl) ?_
     refine l_val (v := .agg #[.int .u8 (1), .int .i64 (50), .int .i64 (0), .int .i64 (0), .int .i64 (0)]) rfl rfl rfl (e_build tg142 tg141 (vs := [(0, .int .u8 (1)), (1, .agg #[.int .i64 (50), .int .i64 (0), .int .i64 (0), .int .i64 (0)])]) (cells := #[.int .u8 (1), .int .i64 (50), .int .i64 (0), .int .i64 (0), .int .i64 (0)]) rfl rfl) ?_
     refine l_val (v := .agg #[.int .i64 (1), .int .i64 (1), .int .i64 (0), .int .i64 (1)]) rfl rfl rfl (e_build_a tg143 tg126 (vs := [(0, .int .i64 (1)), (1, .int .i64 (1)), (2, .int .i64 (0)), (3, .int .i64 (1))]) (cells := #[.int .i64 (1), .int .i64 (1), .int .i64 (0), .int .i64 (1)]) rfl rfl) ?_
     refine l_val (v := .agg #[.int .u8 (3), .int .i64 (1), .int .i64 (1), .int .i64 (0), .int .i64 (1)]) rfl rfl rfl (e_build tg142 tg141 (vs := [(0, .int .u8 (3)), (1, .agg #[.int .i64 (1), .int .i64 (1), .int .i64 (0), .int .i64 (1)])]) (cells := #[.int .u8 (3), .int .i64 (1), .int .i64 (1), .int .i64 (0), .int .i64 (1)]) rfl rfl) ?_
     refine l_mv rfl rfl rfl (m_slices tg115 tg142 (vs := [(0, .agg #[.int .u8 (1), .int .i64 (50), .int .i64 (0), .int .i64 (0), .int .i64 (0)]), (1, .agg #[.int .u8 (3), .int .i64 (1), .int .i64 (1), .int .i64 (0), .int .i64 (1)])]) (cells := #[.int .u8 (1), .int .i64 (50), .int .i64 (0), .int .i64 (0), .int .i64 (0), .int .u8 (3), .int .i64 (1), .int .i64 (1), .int .i64 (0), .int .i64 (1)]) rfl rfl rfl (by kernel_rfl)) ?_
     rintro _ _ ⟨b40, rfl, rfl⟩
     refine l_val (v := .agg #[.int .i64 (1), .slice (some ⟨b40, 0, none⟩) 2 2]) rfl rfl rfl (e_build tg132 tg144 (vs := [(0, .int .i64 (1)), (1, .slice (some ⟨b40, 0, none⟩) 2 2)]) (cells := #[.int .i64 (1), .slice (some ⟨b40, 0, none⟩) 2 2]) rfl rfl) ?_
     refine l_mv rfl rfl rfl (m_slices tg131 tg132 (vs := [(0, .agg #[.int .i64 (1), .slice (some ⟨b39, 0, none⟩) 2 2]), (1, .agg #[.int .i64 (1), .slice (some ⟨b40, 0, none⟩) 2 2])]) (cells := #[.int .i64 (1), .slice (some ⟨b39, 0, none⟩) 2 2, .int .i64 (1), .slice (some ⟨b40, 0, none⟩) 2 2]) rfl rfl rfl rfl) ?_
     rintro _ _ ⟨b41, rfl, rfl⟩
     refine l_val (v := .agg #[.int .i64 (0), .slice (some ⟨b41, 0, none⟩) 2 2]) rfl rfl rfl (e_build tg135 tg138 (vs := [(1, .slice (some ⟨b41, 0, none⟩) 2 2)]) (cells := #[.int .i64 (0), .slice (some ⟨b41, 0, none⟩) 2 2]) rfl rfl) ?_
     refine l_mv rfl rfl rfl (m_alloc tg135) ?_
     rintro _ _ ⟨b42, rfl, rfl⟩
     refine l_mu rfl rfl (m_store 0 tg136 (b := b42) (o := 0) (T := 70) (cs := #[.int .i64 (0), .slice none 0 0]) (cs' := #[.int .i64 (0), .slice (some ⟨b41, 0, none⟩) 2 2]) (v := .agg #[.int .i64 (0), .slice (some ⟨b41, 0, none⟩) 2 2]) rfl rfl rfl rfl rfl rfl rfl) ?_
     refine l_nil ?_
     refine f_then ?_
     refine c_seq ?_
     refine c_perm (L' := [pt b42 (.cells #[.int .i64 (0), .slice (some ⟨b41, 0, none⟩) 2 2] 70), pt b38 (.cells #[.slice none 0 0, .slice none 0 0, .int .i64 (0), .int .i64 (0)] 27), pt b35 (.cells #[.int .i64 (61), .int .i64 (60), .int .i64 (5)] 35), rowF RopeF 35 rp36 rc37 (R ++ [(⟨(61 : Int), (60 : Int), (5 : Int)⟩ : KR)]), pt (blk (fa12 25)) (.cells #[.int .i64 (60), .int .i64 (0), .int .i64 (0), .int .i64 (0), .int .i64 (0), .int .i64 (5), .int .i64 (5), .bool false, .bool false, .int .i64 (61), .int .i64 (0), .int .i64 (0), .int .i64 (0), .int .i64 (0), .int .i64 (5), .int .i64 (5), .bool false, .bool false] 31), rowF BodyF 31 (sla (fa12 26)) (slc (fa12 26)) B0, pt b5 (.cells #[.slice (sla (fa12 26)) (B0.length) (slc (fa12 26)), .slice rp36 ((R ++ [(⟨(61 : Int), (60 : Int), (5 : Int)⟩ : KR)]).length) rc37, .int .i64 (0), .int .i64 (0)] 27), pt b41 (.cells #[.int .i64 (1), .slice (some ⟨b39, 0, none⟩) 2 2, .int .i64 (1), .slice (some ⟨b40, 0, none⟩) 2 2] 76), pt b39 (.cells #[.int .u8 (1), .int .i64 (0), .int .i64 (0), .int .i64 (0), .int .i64 (0), .int .u8 (3), .int .i64 (1), .int .i64 (1), .int .i64 (1), .int .i64 (0)] 73), pt b40 (.cells #[.int .u8 (1), .int .i64 (50), .int .i64 (0), .int .i64 (0), .int .i64 (0), .int .u8 (3), .int .i64 (1), .int .i64 (1), .int .i64 (0), .int .i64 (1)] 73)]) (by exact (perm_ix [0, 4, 5, 6, 7, 8, 9, 1, 3, 2] 10 rfl (by kernel_rfl) (by kernel_rfl))) ?_
     refine c_freeze2 (M := [pt b42 (.cells #[.int .i64 (0), .slice (some ⟨b41, 0, none⟩) 2 2] 70), pt b38 (.cells #[.slice none 0 0, .slice none 0 0, .int .i64 (0), .int .i64 (0)] 27), pt b35 (.cells #[.int .i64 (61), .int .i64 (60), .int .i64 (5)] 35), rowF RopeF 35 rp36 rc37 (R ++ [(⟨(61 : Int), (60 : Int), (5 : Int)⟩ : KR)]), pt (blk (fa12 25)) (.cells #[.int .i64 (60), .int .i64 (0), .int .i64 (0), .int .i64 (0), .int .i64 (0), .int .i64 (5), .int .i64 (5), .bool false, .bool false, .int .i64 (61), .int .i64 (0), .int .i64 (0), .int .i64 (0), .int .i64 (0), .int .i64 (5), .int .i64 (5), .bool false, .bool false] 31), rowF BodyF 31 (sla (fa12 26)) (slc (fa12 26)) B0, pt b5 (.cells #[.slice (sla (fa12 26)) (B0.length) (slc (fa12 26)), .slice rp36 ((R ++ [(⟨(61 : Int), (60 : Int), (5 : Int)⟩ : KR)]).length) rc37, .int .i64 (0), .int .i64 (0)] 27)]) (K := [pt b41 (.cells #[.int .i64 (1), .slice (some ⟨b39, 0, none⟩) 2 2, .int .i64 (1), .slice (some ⟨b40, 0, none⟩) 2 2] 76), pt b39 (.cells #[.int .u8 (1), .int .i64 (0), .int .i64 (0), .int .i64 (0), .int .i64 (0), .int .u8 (3), .int .i64 (1), .int .i64 (1), .int .i64 (1), .int .i64 (0)] 73), pt b40 (.cells #[.int .u8 (1), .int .i64 (50), .int .i64 (0), .int .i64 (0), .int .i64 (0), .int .u8 (3), .int .i64 (1), .int .i64 (1), .int .i64 (0), .int .i64 (1)] 73)]) rfl (fun βf ext1 kn1 bk1 => ?_)
     have hG := GR.mono ext1.sub hG
     have hC1 : Sl CompR βf.heap (.slice (some ⟨b39, 0, none⟩) 2 2) [(⟨1, 0, 0, 0, 0⟩ : KComp), (⟨3, 1, 1, 1, 0⟩ : KComp)] := kn1 _ (k_ptFls (F := CompF) 1 (m := 2) (xs := [(⟨1, 0, 0, 0, 0⟩ : KComp), (⟨3, 1, 1, 1, 0⟩ : KComp)]) rfl rfl rfl (by decide))
     have hC2 : Sl CompR βf.heap (.slice (some ⟨b40, 0, none⟩) 2 2) [(⟨1, 50, 0, 0, 0⟩ : KComp), (⟨3, 1, 1, 0, 1⟩ : KComp)] := kn1 _ (k_ptFls (F := CompF) 2 (m := 2) (xs := [(⟨1, 50, 0, 0, 0⟩ : KComp), (⟨3, 1, 1, 0, 1⟩ : KComp)]) rfl rfl rfl (by decide))
     have hE : Sl EntR βf.heap (.slice (some ⟨b41, 0, none⟩) 2 2) wrongE := ents2 (e1 := ⟨1, [(⟨1, 0, 0, 0, 0⟩ : KComp), (⟨3, 1, 1, 1, 0⟩ : KComp)]⟩) (e2 := ⟨1, [(⟨1, 50, 0, 0, 0⟩ : KComp), (⟨3, 1, 1, 0, 1⟩ : KComp)]⟩) (kn1 _ (k_pt 0 (o := 0) (cs := #[.int .i64 (1), .slice (some ⟨b39, 0, none⟩) 2 2, .int .i64 (1), .slice (some ⟨b40, 0, none⟩) 2 2]) (vs := [.int .i64 (1), .slice (some ⟨b39, 0, none⟩) 2 2, .int .i64 (1), .slice (some ⟨b40, 0, none⟩) 2 2]) rfl rfl)) hC1 hC2
     refine c_region ?_
     refine l_val (v := .agg #[.int .i64 (0), .slice (some ⟨b41, 0, none⟩) 2 2]) rfl rfl rfl (e_load tg136 (cs := [.int .i64 (0), .slice (some ⟨b41, 0, none⟩) 2 2]) rfl (k_pt 0 (cs := #[.int .i64 (0), .slice (some ⟨b41, 0, none⟩) 2 2]) (vs := [.int .i64 (0), .slice (some ⟨b41, 0, none⟩) 2 2]) rfl rfl) rfl) ?_
     refine l_val (v := .agg #[.int .i64 (0), .int .i64 (0)]) rfl rfl rfl (e_build tf17 tf16 (vs := []) (cells := #[.int .i64 (0), .int .i64 (0)]) rfl rfl) ?_
     refine l_call rfl rfl rfl (cl_value (fst := []) (cap := []) (vs := [.agg #[.int .i64 (0), .slice (some ⟨b41, 0, none⟩) 2 2], .slice none 0 0, .agg #[.int .i64 (0), .int .i64 (0)]]) (all := [.agg #[.int .i64 (0), .slice (some ⟨b41, 0, none⟩) 2 2], .slice none 0 0, .agg #[.int .i64 (0), .int .i64 (0)]]) tg145 rfl rfl rfl) ?_
     intro w hw
     obtain ⟨β1, sb, kn, hw1, back⟩ := St.frame_all hw
     refine (worldN_ok β1 w hw1 _ _ _ 0 0 wrongE [] (Sl.mono _ _ _ _ _ sb hE) (Sl.nil KRR _) (by decide) (by decide) (by decide) (by decide) (GR.mono sb hG) wrong_world).mono ?_
     rintro e w' ⟨rfl, hw'⟩
     refine ⟨_, rfl, _, back _ _ hw', ?_⟩
     clear hw hw1 hw' back kn sb
     refine l_val (v := .tuple #[.agg #[.int .i64 (0), .slice none 0 0], .slice none 0 0, .int .i64 (2)]) rfl rfl rfl (e_move) ?_
     refine l_val (v := .agg #[.int .i64 (0), .slice none 0 0]) rfl rfl rfl (e_extract (vs := #[.agg #[.int .i64 (0), .slice none 0 0], .slice none 0 0, .int .i64 (2)]) rfl rfl) ?_
     refine l_val (v := .slice none 0 0) rfl rfl rfl (e_extract (vs := #[.agg #[.int .i64 (0), .slice none 0 0], .slice none 0 0, .int .i64 (2)]) rfl rfl) ?_
     refine l_val (v := .int .i64 (2)) rfl rfl rfl (e_extract (vs := #[.agg #[.int .i64 (0), .slice none 0 0], .slice none 0 0, .int .i64 (2)]) rfl rfl) ?_
     refine l_mv rfl rfl rfl (m_alloc tg135) ?_
     rintro _ _ ⟨b43, rfl, rfl⟩
     refine l_mu rfl rfl (m_store 0 tg136 (b := b43) (o := 0) (T := 70) (cs := #[.int .i64 (0), .slice none 0 0]) (cs' := #[.int .i64 (0), .slice none 0 0]) (v := .agg #[.int .i64 (0), .slice none 0 0]) rfl rfl rfl rfl rfl rfl rfl) ?_
     refine l_val (v := .slice none 0 0) rfl rfl rfl (e_assign) ?_
     refine l_val (v := .int .i64 (2)) rfl rfl rfl (e_assign) ?_
     refine l_nil ?_
     refine f_then ?_
     refine c_seq ?_
     refine c_region ?_
     refine l_val (v := .int .i64 (2)) rfl rfl rfl (e_move) ?_
     refine l_val (v := .bool true) rfl rfl rfl (e_eql (a := (2 : Int)) (b := (2 : Int)) rfl rfl) ?_
     refine l_val (v := .bool true) rfl rfl rfl (e_move) ?_
     refine g_val (v := .int .i64 (2)) rfl rfl rfl rfl rfl (e_move) ?_
     refine g_val (v := .bool true) rfl rfl rfl rfl rfl (e_eql (a := (2 : Int)) (b := (2 : Int)) rfl rfl) ?_
     refine l_val (v := .bool true) rfl rfl rfl (e_pick_t rfl) ?_
     refine l_val (v := .bool true) rfl rfl rfl (e_move) ?_
     refine g_val (v := .pointer (some ⟨b38, 0, none⟩)) rfl rfl rfl rfl rfl (e_fieldPt (b := b38) (o := 0) rfl tf49) ?_
     refine g_val (v := .slice none 0 0) rfl rfl rfl rfl rfl (e_load1 tf50 (v := .slice none 0 0) rfl (k_pt 2 (cs := #[.slice none 0 0, .slice none 0 0, .int .i64 (0), .int .i64 (0)]) (vs := [.slice none 0 0]) rfl rfl)) ?_
     refine g_val (v := .int .i64 (0)) rfl rfl rfl rfl rfl (e_len (n := 0) rfl tf40) ?_
     refine g_val (v := .pointer (some ⟨b38, 1, none⟩)) rfl rfl rfl rfl rfl (e_fieldPt (b := b38) (o := 0) rfl tf55) ?_
     refine g_val (v := .slice none 0 0) rfl rfl rfl rfl rfl (e_load1 tf56 (v := .slice none 0 0) rfl (k_pt 2 (cs := #[.slice none 0 0, .slice none 0 0, .int .i64 (0), .int .i64 (0)]) (vs := [.slice none 0 0]) rfl rfl)) ?_
     refine g_val (v := .int .i64 (0)) rfl rfl rfl rfl rfl (e_len (n := 0) rfl tf45) ?_
     refine g_val (v := .int .i64 (0)) rfl rfl rfl rfl rfl (e_add (a := (0 : Int)) (b := (0 : Int)) rfl rfl (by decide)) ?_
     refine g_val (v := .slice none 0 0) rfl rfl rfl rfl rfl (e_move) ?_
     refine g_val (v := .int .i64 (0)) rfl rfl rfl rfl rfl (e_len (n := 0) rfl tf105) ?_
     refine g_val (v := .int .i64 (0)) rfl rfl rfl rfl rfl (e_add (a := (0 : Int)) (b := (0 : Int)) rfl rfl (by decide)) ?_
     refine g_val (v := .pointer (some ⟨b43, 1, none⟩)) rfl rfl rfl rfl rfl (e_fieldPt (b := b43) (o := 0) rfl tg128) ?_
     refine g_val (v := .slice none 0 0) rfl rfl rfl rfl rfl (e_load1 tg129 (v := .slice none 0 0) rfl (k_pt 0 (cs := #[.int .i64 (0), .slice none 0 0]) (vs := [.slice none 0 0]) rfl rfl)) ?_
     refine g_val (v := .int .i64 (0)) rfl rfl rfl rfl rfl (e_len (n := 0) rfl tg130) ?_
     refine g_val (v := .int .i64 (0)) rfl rfl rfl rfl rfl (e_add (a := (0 : Int)) (b := (0 : Int)) rfl rfl (by decide)) ?_
     refine g_val (v := .slice none 0 0) rfl rfl rfl rfl rfl (e_move) ?_
     refine g_val (v := .int .i64 (0)) rfl rfl rfl rfl rfl (e_len (n := 0) rfl tf105) ?_
     refine g_val (v := .int .i64 (0)) rfl rfl rfl rfl rfl (e_add (a := (0 : Int)) (b := (0 : Int)) rfl rfl (by decide)) ?_
     refine g_val (v := .bool true) rfl rfl rfl rfl rfl (e_eql (a := (0 : Int)) (b := (0 : Int)) rfl rfl) ?_
     refine l_val (v := .bool true) rfl rfl rfl (e_pick_t rfl) ?_
     refine l_val (v := .bool true) rfl rfl rfl (e_move) ?_
     refine g_val (v := .pointer (some ⟨b38, 2, none⟩)) rfl rfl rfl rfl rfl (e_fieldPt (b := b38) (o := 0) rfl tf57) ?_
     refine g_val (v := .agg #[.int .i64 (0), .int .i64 (0)]) rfl rfl rfl rfl rfl (e_load tf15 (cs := [.int .i64 (0), .int .i64 (0)]) rfl (k_pt 2 (cs := #[.slice none 0 0, .slice none 0 0, .int .i64 (0), .int .i64 (0)]) (vs := [.int .i64 (0), .int .i64 (0)]) rfl rfl) rfl) ?_
     refine g_val (v := .agg #[.int .i64 (0), .int .i64 (0)]) rfl rfl rfl rfl rfl (e_build tf17 tf16 (vs := []) (cells := #[.int .i64 (0), .int .i64 (0)]) rfl rfl) ?_
     refine g_val (v := .bool true) rfl rfl rfl rfl rfl ((ev_t (by decide) (e_eql_t (p := (0 : Int) = (0 : Int) ∧ (0 : Int) = (0 : Int)) (xs := [.int .i64 (0), .int .i64 (0)]) (ys := [.int .i64 (0), .int .i64 (0)]) tf18 tf19 tf20 rfl rfl rfl rfl vec_eq))) ?_
     refine l_val (v := .bool true) rfl rfl rfl (e_pick_t rfl) ?_
     refine l_val (v := .bool true) rfl rfl rfl (e_assign) ?_
     refine l_nil ?_
     refine f_then ?_
     refine c_ret ?_
     refine ret1 Tryd.results11 (v := .bool true) rfl ?_
     intro w hw
     exact ⟨rfl, st_mask [false, false, false, false, false, false, false, false, false, false, false] rfl (bk1 _ _ hw)⟩
    ·
     refine c_seq ?_
     refine c_region ?_
     refine l_val (v := .bool (decide (((way.toNat % 5 : Nat) : Int) = (4 : Int)))) rfl rfl rfl (e_eql (a := ((way.toNat % 5 : Nat) : Int)) (b := (4 : Int)) rfl rfl) ?_
     refine l_val (v := .bool (decide (((way.toNat % 5 : Nat) : Int) = (4 : Int)))) rfl rfl rfl (e_assign) ?_
     refine l_nil ?_
     refine f_then ?_
     refine c_if (((way.toNat % 5 : Nat) : Int) = (4 : Int)) rfl (fun hc44 => ?_) (fun hc44 => ?_)
     ·
      refine c_region ?_
      refine l_val (v := .pointer (some ⟨b5, 0, none⟩)) rfl rfl rfl (e_fieldPt (b := b5) (o := 0) rfl tf49) ?_
      refine l_val (v := .slice (sla (fa12 26)) (B0.length) (slc (fa12 26))) rfl rfl rfl (e_load1 tf50 (v := .slice (sla (fa12 26)) (B0.length) (slc (fa12 26))) rfl (k_pt 3 (cs := #[.slice (sla (fa12 26)) (B0.length) (slc (fa12 26)), .slice p3 (R.length) c4, .int .i64 (0), .int .i64 (0)]) (vs := [.slice (sla (fa12 26)) (B0.length) (slc (fa12 26))]) rfl rfl)) ?_
      refine l_val (v := Nx (B0.length - 1)) rfl rfl rfl (e_move) ?_
      refine l_val (v := .pointer (some ((ba (sla (fa12 26))).add ((B0.length - 1) * 9)))) rfl rfl rfl (e_indexFlN 2 (F := BodyF) (j := B0.length - 1) (m := B0.length) (xs := B0) rfl rfl rfl tf43 (by omega) rfl) ?_
      refine l_val (v := .pointer (some ((ba (sla (fa12 26))).add ((B0.length - 1) * 9 + 3)))) rfl rfl rfl (ev_eq (congrArg (fun z => Value.pointer (some z)) (show ((ba (sla (fa12 26))).add ((B0.length - 1) * 9) : Addr).add 3 = (ba (sla (fa12 26))).add ((B0.length - 1) * 9 + 3) by rw [Addr.add_add'])) (e_fieldAddr (a := (ba (sla (fa12 26))).add ((B0.length - 1) * 9)) rfl tf9)) ?_
      refine l_val (v := .pointer (some ((ba (sla (fa12 26))).add ((B0.length - 1) * 9 + 3)))) rfl rfl rfl (ev_eq (congrArg (fun z => Value.pointer (some z)) (show ((ba (sla (fa12 26))).add ((B0.length - 1) * 9 + 3) : Addr).add 0 = (ba (sla (fa12 26))).add ((B0.length - 1) * 9 + 3) by rw [Addr.add_add'])) (e_fieldAddr (a := (ba (sla (fa12 26))).add ((B0.length - 1) * 9 + 3)) rfl tf7)) ?_
      refine l_mu rfl rfl (m_storeFlPart 2 (F := BodyF) (p := (sla (fa12 26))) (k := B0.length - 1) (o := 3) (xs := B0) (z0 := wb1) (z := wbV) tf2 rfl rfl rfl rfl rfl hl2 (by decide) rfl) ?_
      refine l_nil ?_
      refine f_block ?_
      refine f_then ?_
      refine c_seq ?_
      have hno : ¬ okS (B0.set (B0.length - 1) wbV) R (0 : Int) (0 : Int) := wrong_body (by omega) (by decide)
      refine c_region ?_
      refine l_val (v := .agg #[.slice (sla (fa12 26)) (B0.length) (slc (fa12 26)), .slice p3 (R.length) c4, .int .i64 (0), .int .i64 (0)]) rfl rfl rfl (e_load tf86 (cs := [.slice (sla (fa12 26)) (B0.length) (slc (fa12 26)), .slice p3 (R.length) c4, .int .i64 (0), .int .i64 (0)]) rfl (k_pt 3 (cs := #[.slice (sla (fa12 26)) (B0.length) (slc (fa12 26)), .slice p3 (R.length) c4, .int .i64 (0), .int .i64 (0)]) (vs := [.slice (sla (fa12 26)) (B0.length) (slc (fa12 26)), .slice p3 (R.length) c4, .int .i64 (0), .int .i64 (0)]) rfl rfl) rfl) ?_
      refine l_call rfl rfl rfl (cl_value (fst := []) (cap := []) (vs := [.agg #[.slice (sla (fa12 26)) (B0.length) (slc (fa12 26)), .slice p3 (R.length) c4, .int .i64 (0), .int .i64 (0)]]) (all := [.agg #[.slice (sla (fa12 26)) (B0.length) (slc (fa12 26)), .slice p3 (R.length) c4, .int .i64 (0), .int .i64 (0)]]) tf104 rfl rfl rfl) ?_
      intro w hw
      obtain ⟨β1, sb, kn, hw1, back⟩ := St.frame_all hw
      refine (stepN_ok β1 w hw1 _ _ (0 : Int) (0 : Int) (B0.set (B0.length - 1) wbV) R (kn _ (k_flN 2 (F := BodyF) (m := B0.length) (xs := (B0.set (B0.length - 1) wbV)) rfl List.length_set.symm)) (kn _ (k_flN 0 (F := RopeF) (m := R.length) (xs := R) rfl rfl)) (by omega) (by omega) (GR.mono sb hG) hno).mono ?_
      rintro e w' ⟨rfl, hw'⟩
      refine ⟨_, rfl, _, back _ _ hw', ?_⟩
      clear hw hw1 hw' back kn sb
      refine l_val (v := .tuple #[.agg #[.slice none 0 0, .slice none 0 0, .int .i64 (0), .int .i64 (0)], .slice none 0 0, .int .i64 (2)]) rfl rfl rfl (e_move) ?_
      refine l_val (v := .agg #[.slice none 0 0, .slice none 0 0, .int .i64 (0), .int .i64 (0)]) rfl rfl rfl (e_extract (vs := #[.agg #[.slice none 0 0, .slice none 0 0, .int .i64 (0), .int .i64 (0)], .slice none 0 0, .int .i64 (2)]) rfl rfl) ?_
      refine l_val (v := .slice none 0 0) rfl rfl rfl (e_extract (vs := #[.agg #[.slice none 0 0, .slice none 0 0, .int .i64 (0), .int .i64 (0)], .slice none 0 0, .int .i64 (2)]) rfl rfl) ?_
      refine l_val (v := .int .i64 (2)) rfl rfl rfl (e_extract (vs := #[.agg #[.slice none 0 0, .slice none 0 0, .int .i64 (0), .int .i64 (0)], .slice none 0 0, .int .i64 (2)]) rfl rfl) ?_
      refine l_mv rfl rfl rfl (m_alloc tf85) ?_
      rintro _ _ ⟨b45, rfl, rfl⟩
      refine l_mu rfl rfl (m_store 0 tf86 (b := b45) (o := 0) (T := 27) (cs := #[.slice none 0 0, .slice none 0 0, .int .i64 (0), .int .i64 (0)]) (cs' := #[.slice none 0 0, .slice none 0 0, .int .i64 (0), .int .i64 (0)]) (v := .agg #[.slice none 0 0, .slice none 0 0, .int .i64 (0), .int .i64 (0)]) rfl rfl rfl rfl rfl rfl rfl) ?_
      refine l_val (v := .slice none 0 0) rfl rfl rfl (e_assign) ?_
      refine l_val (v := .int .i64 (2)) rfl rfl rfl (e_assign) ?_
      refine l_nil ?_
      refine f_then ?_
      refine c_seq ?_
      refine c_region ?_
      refine l_val (v := .agg #[.int .u8 (1), .int .i64 (0), .int .i64 (0), .int .i64 (0), .int .i64 (0)]) rfl rfl rfl (e_build tg142 tg141 (vs := [(0, .int .u8 (1))]) (cells := #[.int .u8 (1), .int .i64 (0), .int .i64 (0), .int .i64 (0), .int .i64 (0)]) rfl rfl) ?_
      refine l_val (v := .agg #[.int .i64 (1), .int .i64 (1), .int .i64 (1), .int .i64 (0)]) rfl rfl rfl (e_build_a tg143 tg126 (vs := [(0, .int .i64 (1)), (1, .int .i64 (1)), (2, .int .i64 (1)), (3, .int .i64 (0))]) (cells := #[.int .i64 (1), .int .i64 (1), .int .i64 (1), .int .i64 (0)]) rfl rfl) ?_
      refine l_val (v := .agg #[.int .u8 (3), .int .i64 (1), .int .i64 (1), .int .i64 (1), .int .i64 (0)]) rfl rfl rfl (e_build tg142 tg141 (vs := [(0, .int .u8 (3)), (1, .agg #[.int .i64 (1), .int .i64 (1), .int .i64 (1), .int .i64 (0)])]) (cells := #[.int .u8 (3), .int .i64 (1), .int .i64 (1), .int .i64 (1), .int .i64 (0)]) rfl rfl) ?_
      refine l_mv rfl rfl rfl (m_slices tg115 tg142 (vs := [(0, .agg #[.int .u8 (1), .int .i64 (0), .int .i64 (0), .int .i64 (0), .int .i64 (0)]), (1, .agg #[.int .u8 (3), .int .i64 (1), .int .i64 (1), .int .i64 (1), .int .i64 (0)])]) (cells := #[.int .u8 (1), .int .i64 (0), .int .i64 (0), .int .i64 (0), .int .i64 (0), .int .u8 (3), .int .i64 (1), .int .i64 (1), .int .i64 (1), .int .i64 (0)]) rfl rfl rfl (by kernel_rfl)) ?_
      rintro _ _ ⟨b46, rfl, rfl⟩
      refine l_val (v := .agg #[.int .i64 (1), .slice (some ⟨b46, 0, none⟩) 2 2]) rfl rfl rfl (e_build tg132 tg144 (vs := [(0, .int .i64 (1)), (1, .slice (some ⟨b46, 0, none⟩) 2 2)]) (cells := #[.int .i64 (1), .slice (some ⟨b46, 0, none⟩) 2 2]) rfl rfl) ?_
      refine l_val (v := .agg #[.int .i64 (50), .int .i64 (0), .int .i64 (0), .int .i64 (0)]) rfl rfl rfl (e_build_a tg143 tg126 (vs := [(0, .int .i64 (50))]) (cells := #[.int .i64 (50), .int .i64 (0), .int .i64 (0), .int .i64 (0)]) rfl rfl) ?_
      refine l_val (v := .agg #[.int .u8 (1), .int .i64 (50), .int .i64 (0), .int .i64 (0), .int .i64 (0)]) rfl rfl rfl (e_build tg142 tg141 (vs := [(0, .int .u8 (1)), (1, .agg #[.int .i64 (50), .int .i64 (0), .int .i64 (0), .int .i64 (0)])]) (cells := #[.int .u8 (1), .int .i64 (50), .int .i64 (0), .int .i64 (0), .int .i64 (0)]) rfl rfl) ?_
      refine l_val (v := .agg #[.int .i64 (1), .int .i64 (1), .int .i64 (0), .int .i64 (1)]) rfl rfl rfl (e_build_a tg143 tg126 (vs := [(0, .int .i64 (1)), (1, .int .i64 (1)), (2, .int .i64 (0)), (3, .int .i64 (1))]) (cells := #[.int .i64 (1), .int .i64 (1), .int .i64 (0), .int .i64 (1)]) rfl rfl) ?_
      refine l_val (v := .agg #[.int .u8 (3), .int .i64 (1), .int .i64 (1), .int .i64 (0), .int .i64 (1)]) rfl rfl rfl (e_build tg142 tg141 (vs := [(0, .int .u8 (3)), (1, .agg #[.int .i64 (1), .int .i64 (1), .int .i64 (0), .int .i64 (1)])]) (cells := #[.int .u8 (3), .int .i64 (1), .int .i64 (1), .int .i64 (0), .int .i64 (1)]) rfl rfl) ?_
      refine l_mv rfl rfl rfl (m_slices tg115 tg142 (vs := [(0, .agg #[.int .u8 (1), .int .i64 (50), .int .i64 (0), .int .i64 (0), .int .i64 (0)]), (1, .agg #[.int .u8 (3), .int .i64 (1), .int .i64 (1), .int .i64 (0), .int .i64 (1)])]) (cells := #[.int .u8 (1), .int .i64 (50), .int .i64 (0), .int .i64 (0), .int .i64 (0), .int .u8 (3), .int .i64 (1), .int .i64 (1), .int .i64 (0), .int .i64 (1)]) rfl rfl rfl (by kernel_rfl)) ?_
      rintro _ _ ⟨b47, rfl, rfl⟩
      refine l_val (v := .agg #[.int .i64 (1), .slice (some ⟨b47, 0, none⟩) 2 2]) rfl rfl rfl (e_build tg132 tg144 (vs := [(0, .int .i64 (1)), (1, .slice (some ⟨b47, 0, none⟩) 2 2)]) (cells := #[.int .i64 (1), .slice (some ⟨b47, 0, none⟩) 2 2]) rfl rfl) ?_
      refine l_mv rfl rfl rfl (m_slices tg131 tg132 (vs := [(0, .agg #[.int .i64 (1), .slice (some ⟨b46, 0, none⟩) 2 2]), (1, .agg #[.int .i64 (1), .slice (some ⟨b47, 0, none⟩) 2 2])]) (cells := #[.int .i64 (1), .slice (some ⟨b46, 0, none⟩) 2 2, .int .i64 (1), .slice (some ⟨b47, 0, none⟩) 2 2]) rfl rfl rfl rfl) ?_
      rintro _ _ ⟨b48, rfl, rfl⟩
      refine l_val (v := .agg #[.int .i64 (0), .slice (some ⟨b48, 0, none⟩) 2 2]) rfl rfl rfl (e_build tg135 tg138 (vs := [(1, .slice (some ⟨b48, 0, none⟩) 2 2)]) (cells := #[.int .i64 (0), .slice (some ⟨b48, 0, none⟩) 2 2]) rfl rfl) ?_
      refine l_mv rfl rfl rfl (m_alloc tg135) ?_
      rintro _ _ ⟨b49, rfl, rfl⟩
      refine l_mu rfl rfl (m_store 0 tg136 (b := b49) (o := 0) (T := 70) (cs := #[.int .i64 (0), .slice none 0 0]) (cs' := #[.int .i64 (0), .slice (some ⟨b48, 0, none⟩) 2 2]) (v := .agg #[.int .i64 (0), .slice (some ⟨b48, 0, none⟩) 2 2]) rfl rfl rfl rfl rfl rfl rfl) ?_
      refine l_nil ?_
      refine f_then ?_
      refine c_seq ?_
      refine c_perm (L' := [pt b49 (.cells #[.int .i64 (0), .slice (some ⟨b48, 0, none⟩) 2 2] 70), pt b45 (.cells #[.slice none 0 0, .slice none 0 0, .int .i64 (0), .int .i64 (0)] 27), rowF RopeF 35 p3 c4 R, pt (blk (fa12 25)) (.cells #[.int .i64 (60), .int .i64 (0), .int .i64 (0), .int .i64 (0), .int .i64 (0), .int .i64 (5), .int .i64 (5), .bool false, .bool false, .int .i64 (61), .int .i64 (0), .int .i64 (0), .int .i64 (0), .int .i64 (0), .int .i64 (5), .int .i64 (5), .bool false, .bool false] 31), rowF BodyF 31 (sla (fa12 26)) (slc (fa12 26)) (B0.set (B0.length - 1) wbV), pt b5 (.cells #[.slice (sla (fa12 26)) (B0.length) (slc (fa12 26)), .slice p3 (R.length) c4, .int .i64 (0), .int .i64 (0)] 27), pt b48 (.cells #[.int .i64 (1), .slice (some ⟨b46, 0, none⟩) 2 2, .int .i64 (1), .slice (some ⟨b47, 0, none⟩) 2 2] 76), pt b46 (.cells #[.int .u8 (1), .int .i64 (0), .int .i64 (0), .int .i64 (0), .int .i64 (0), .int .u8 (3), .int .i64 (1), .int .i64 (1), .int .i64 (1), .int .i64 (0)] 73), pt b47 (.cells #[.int .u8 (1), .int .i64 (50), .int .i64 (0), .int .i64 (0), .int .i64 (0), .int .u8 (3), .int .i64 (1), .int .i64 (1), .int .i64 (0), .int .i64 (1)] 73)]) (by exact (perm_ix [0, 4, 5, 6, 7, 8, 1, 3, 2] 9 rfl (by kernel_rfl) (by kernel_rfl))) ?_
      refine c_freeze2 (M := [pt b49 (.cells #[.int .i64 (0), .slice (some ⟨b48, 0, none⟩) 2 2] 70), pt b45 (.cells #[.slice none 0 0, .slice none 0 0, .int .i64 (0), .int .i64 (0)] 27), rowF RopeF 35 p3 c4 R, pt (blk (fa12 25)) (.cells #[.int .i64 (60), .int .i64 (0), .int .i64 (0), .int .i64 (0), .int .i64 (0), .int .i64 (5), .int .i64 (5), .bool false, .bool false, .int .i64 (61), .int .i64 (0), .int .i64 (0), .int .i64 (0), .int .i64 (0), .int .i64 (5), .int .i64 (5), .bool false, .bool false] 31), rowF BodyF 31 (sla (fa12 26)) (slc (fa12 26)) (B0.set (B0.length - 1) wbV), pt b5 (.cells #[.slice (sla (fa12 26)) (B0.length) (slc (fa12 26)), .slice p3 (R.length) c4, .int .i64 (0), .int .i64 (0)] 27)]) (K := [pt b48 (.cells #[.int .i64 (1), .slice (some ⟨b46, 0, none⟩) 2 2, .int .i64 (1), .slice (some ⟨b47, 0, none⟩) 2 2] 76), pt b46 (.cells #[.int .u8 (1), .int .i64 (0), .int .i64 (0), .int .i64 (0), .int .i64 (0), .int .u8 (3), .int .i64 (1), .int .i64 (1), .int .i64 (1), .int .i64 (0)] 73), pt b47 (.cells #[.int .u8 (1), .int .i64 (50), .int .i64 (0), .int .i64 (0), .int .i64 (0), .int .u8 (3), .int .i64 (1), .int .i64 (1), .int .i64 (0), .int .i64 (1)] 73)]) rfl (fun βf ext1 kn1 bk1 => ?_)
      have hG := GR.mono ext1.sub hG
      have hC1 : Sl CompR βf.heap (.slice (some ⟨b46, 0, none⟩) 2 2) [(⟨1, 0, 0, 0, 0⟩ : KComp), (⟨3, 1, 1, 1, 0⟩ : KComp)] := kn1 _ (k_ptFls (F := CompF) 1 (m := 2) (xs := [(⟨1, 0, 0, 0, 0⟩ : KComp), (⟨3, 1, 1, 1, 0⟩ : KComp)]) rfl rfl rfl (by decide))
      have hC2 : Sl CompR βf.heap (.slice (some ⟨b47, 0, none⟩) 2 2) [(⟨1, 50, 0, 0, 0⟩ : KComp), (⟨3, 1, 1, 0, 1⟩ : KComp)] := kn1 _ (k_ptFls (F := CompF) 2 (m := 2) (xs := [(⟨1, 50, 0, 0, 0⟩ : KComp), (⟨3, 1, 1, 0, 1⟩ : KComp)]) rfl rfl rfl (by decide))
      have hE : Sl EntR βf.heap (.slice (some ⟨b48, 0, none⟩) 2 2) wrongE := ents2 (e1 := ⟨1, [(⟨1, 0, 0, 0, 0⟩ : KComp), (⟨3, 1, 1, 1, 0⟩ : KComp)]⟩) (e2 := ⟨1, [(⟨1, 50, 0, 0, 0⟩ : KComp), (⟨3, 1, 1, 0, 1⟩ : KComp)]⟩) (kn1 _ (k_pt 0 (o := 0) (cs := #[.int .i64 (1), .slice (some ⟨b46, 0, none⟩) 2 2, .int .i64 (1), .slice (some ⟨b47, 0, none⟩) 2 2]) (vs := [.int .i64 (1), .slice (some ⟨b46, 0, none⟩) 2 2, .int .i64 (1), .slice (some ⟨b47, 0, none⟩) 2 2]) rfl rfl)) hC1 hC2
      refine c_region ?_
      refine l_val (v := .agg #[.int .i64 (0), .slice (some ⟨b48, 0, none⟩) 2 2]) rfl rfl rfl (e_load tg136 (cs := [.int .i64 (0), .slice (some ⟨b48, 0, none⟩) 2 2]) rfl (k_pt 0 (cs := #[.int .i64 (0), .slice (some ⟨b48, 0, none⟩) 2 2]) (vs := [.int .i64 (0), .slice (some ⟨b48, 0, none⟩) 2 2]) rfl rfl) rfl) ?_
      refine l_val (v := .agg #[.int .i64 (0), .int .i64 (0)]) rfl rfl rfl (e_build tf17 tf16 (vs := []) (cells := #[.int .i64 (0), .int .i64 (0)]) rfl rfl) ?_
      refine l_call rfl rfl rfl (cl_value (fst := []) (cap := []) (vs := [.agg #[.int .i64 (0), .slice (some ⟨b48, 0, none⟩) 2 2], .slice none 0 0, .agg #[.int .i64 (0), .int .i64 (0)]]) (all := [.agg #[.int .i64 (0), .slice (some ⟨b48, 0, none⟩) 2 2], .slice none 0 0, .agg #[.int .i64 (0), .int .i64 (0)]]) tg145 rfl rfl rfl) ?_
      intro w hw
      obtain ⟨β1, sb, kn, hw1, back⟩ := St.frame_all hw
      refine (worldN_ok β1 w hw1 _ _ _ 0 0 wrongE [] (Sl.mono _ _ _ _ _ sb hE) (Sl.nil KRR _) (by decide) (by decide) (by decide) (by decide) (GR.mono sb hG) wrong_world).mono ?_
      rintro e w' ⟨rfl, hw'⟩
      refine ⟨_, rfl, _, back _ _ hw', ?_⟩
      clear hw hw1 hw' back kn sb
      refine l_val (v := .tuple #[.agg #[.int .i64 (0), .slice none 0 0], .slice none 0 0, .int .i64 (2)]) rfl rfl rfl (e_move) ?_
      refine l_val (v := .agg #[.int .i64 (0), .slice none 0 0]) rfl rfl rfl (e_extract (vs := #[.agg #[.int .i64 (0), .slice none 0 0], .slice none 0 0, .int .i64 (2)]) rfl rfl) ?_
      refine l_val (v := .slice none 0 0) rfl rfl rfl (e_extract (vs := #[.agg #[.int .i64 (0), .slice none 0 0], .slice none 0 0, .int .i64 (2)]) rfl rfl) ?_
      refine l_val (v := .int .i64 (2)) rfl rfl rfl (e_extract (vs := #[.agg #[.int .i64 (0), .slice none 0 0], .slice none 0 0, .int .i64 (2)]) rfl rfl) ?_
      refine l_mv rfl rfl rfl (m_alloc tg135) ?_
      rintro _ _ ⟨b50, rfl, rfl⟩
      refine l_mu rfl rfl (m_store 0 tg136 (b := b50) (o := 0) (T := 70) (cs := #[.int .i64 (0), .slice none 0 0]) (cs' := #[.int .i64 (0), .slice none 0 0]) (v := .agg #[.int .i64 (0), .slice none 0 0]) rfl rfl rfl rfl rfl rfl rfl) ?_
      refine l_val (v := .slice none 0 0) rfl rfl rfl (e_assign) ?_
      refine l_val (v := .int .i64 (2)) rfl rfl rfl (e_assign) ?_
      refine l_nil ?_
      refine f_then ?_
      refine c_seq ?_
      refine c_region ?_
      refine l_val (v := .int .i64 (2)) rfl rfl rfl (e_move) ?_
      refine l_val (v := .bool true) rfl rfl rfl (e_eql (a := (2 : Int)) (b := (2 : Int)) rfl rfl) ?_
      refine l_val (v := .bool true) rfl rfl rfl (e_move) ?_
      refine g_val (v := .int .i64 (2)) rfl rfl rfl rfl rfl (e_move) ?_
      refine g_val (v := .bool true) rfl rfl rfl rfl rfl (e_eql (a := (2 : Int)) (b := (2 : Int)) rfl rfl) ?_
      refine l_val (v := .bool true) rfl rfl rfl (e_pick_t rfl) ?_
      refine l_val (v := .bool true) rfl rfl rfl (e_move) ?_
      refine g_val (v := .pointer (some ⟨b45, 0, none⟩)) rfl rfl rfl rfl rfl (e_fieldPt (b := b45) (o := 0) rfl tf49) ?_
      refine g_val (v := .slice none 0 0) rfl rfl rfl rfl rfl (e_load1 tf50 (v := .slice none 0 0) rfl (k_pt 2 (cs := #[.slice none 0 0, .slice none 0 0, .int .i64 (0), .int .i64 (0)]) (vs := [.slice none 0 0]) rfl rfl)) ?_
      refine g_val (v := .int .i64 (0)) rfl rfl rfl rfl rfl (e_len (n := 0) rfl tf40) ?_
      refine g_val (v := .pointer (some ⟨b45, 1, none⟩)) rfl rfl rfl rfl rfl (e_fieldPt (b := b45) (o := 0) rfl tf55) ?_
      refine g_val (v := .slice none 0 0) rfl rfl rfl rfl rfl (e_load1 tf56 (v := .slice none 0 0) rfl (k_pt 2 (cs := #[.slice none 0 0, .slice none 0 0, .int .i64 (0), .int .i64 (0)]) (vs := [.slice none 0 0]) rfl rfl)) ?_
      refine g_val (v := .int .i64 (0)) rfl rfl rfl rfl rfl (e_len (n := 0) rfl tf45) ?_
      refine g_val (v := .int .i64 (0)) rfl rfl rfl rfl rfl (e_add (a := (0 : Int)) (b := (0 : Int)) rfl rfl (by decide)) ?_
      refine g_val (v := .slice none 0 0) rfl rfl rfl rfl rfl (e_move) ?_
      refine g_val (v := .int .i64 (0)) rfl rfl rfl rfl rfl (e_len (n := 0) rfl tf105) ?_
      refine g_val (v := .int .i64 (0)) rfl rfl rfl rfl rfl (e_add (a := (0 : Int)) (b := (0 : Int)) rfl rfl (by decide)) ?_
      refine g_val (v := .pointer (some ⟨b50, 1, none⟩)) rfl rfl rfl rfl rfl (e_fieldPt (b := b50) (o := 0) rfl tg128) ?_
      refine g_val (v := .slice none 0 0) rfl rfl rfl rfl rfl (e_load1 tg129 (v := .slice none 0 0) rfl (k_pt 0 (cs := #[.int .i64 (0), .slice none 0 0]) (vs := [.slice none 0 0]) rfl rfl)) ?_
      refine g_val (v := .int .i64 (0)) rfl rfl rfl rfl rfl (e_len (n := 0) rfl tg130) ?_
      refine g_val (v := .int .i64 (0)) rfl rfl rfl rfl rfl (e_add (a := (0 : Int)) (b := (0 : Int)) rfl rfl (by decide)) ?_
      refine g_val (v := .slice none 0 0) rfl rfl rfl rfl rfl (e_move) ?_
      refine g_val (v := .int .i64 (0)) rfl rfl rfl rfl rfl (e_len (n := 0) rfl tf105) ?_
      refine g_val (v := .int .i64 (0)) rfl rfl rfl rfl rfl (e_add (a := (0 : Int)) (b := (0 : Int)) rfl rfl (by decide)) ?_
      refine g_val (v := .bool true) rfl rfl rfl rfl rfl (e_eql (a := (0 : Int)) (b := (0 : Int)) rfl rfl) ?_
      refine l_val (v := .bool true) rfl rfl rfl (e_pick_t rfl) ?_
      refine l_val (v := .bool true) rfl rfl rfl (e_move) ?_
      refine g_val (v := .pointer (some ⟨b45, 2, none⟩)) rfl rfl rfl rfl rfl (e_fieldPt (b := b45) (o := 0) rfl tf57) ?_
      refine g_val (v := .agg #[.int .i64 (0), .int .i64 (0)]) rfl rfl rfl rfl rfl (e_load tf15 (cs := [.int .i64 (0), .int .i64 (0)]) rfl (k_pt 2 (cs := #[.slice none 0 0, .slice none 0 0, .int .i64 (0), .int .i64 (0)]) (vs := [.int .i64 (0), .int .i64 (0)]) rfl rfl) rfl) ?_
      refine g_val (v := .agg #[.int .i64 (0), .int .i64 (0)]) rfl rfl rfl rfl rfl (e_build tf17 tf16 (vs := []) (cells := #[.int .i64 (0), .int .i64 (0)]) rfl rfl) ?_
      refine g_val (v := .bool true) rfl rfl rfl rfl rfl ((ev_t (by decide) (e_eql_t (p := (0 : Int) = (0 : Int) ∧ (0 : Int) = (0 : Int)) (xs := [.int .i64 (0), .int .i64 (0)]) (ys := [.int .i64 (0), .int .i64 (0)]) tf18 tf19 tf20 rfl rfl rfl rfl vec_eq))) ?_
      refine l_val (v := .bool true) rfl rfl rfl (e_pick_t rfl) ?_
      refine l_val (v := .bool true) rfl rfl rfl (e_assign) ?_
      refine l_nil ?_
      refine f_then ?_
      refine c_ret ?_
      refine ret1 Tryd.results11 (v := .bool true) rfl ?_
      intro w hw
      exact ⟨rfl, st_mask [false, false, false, false, false, false, false, false, false, false] rfl (bk1 _ _ hw)⟩
     ·
      exact absurd (by omega) hc44
end Go.Proofs
