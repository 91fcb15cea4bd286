/-
  BroadJoins: walked. Printed by a program of my own.
-/
import Derived.Test.YtmgpmgckbcjalaaBr9
namespace Go.Proofs
open Go Go.Sl Go.Brd
theorem tf98 : cfB Try.prog 11 = true := by kernel_rfl
theorem tf99 : Try.prog.underlying 4 = some .bool := by kernel_rfl
theorem tf100 : cfB Try.prog 16 = true := by kernel_rfl
theorem tf101 : cfB Try.prog 23 = true := by kernel_rfl
set_option maxHeartbeats 4000000 in
theorem joins_ok (β : Base) (w : World) (hw : St β [] w) (fa fb fc : KF) (x y : Int) : Calls Try.prog 6 #[.agg #[Bx (fa.x), Bx (fa.y), Bx (fa.w), Bx (fa.h)], .agg #[Bx (fb.x), Bx (fb.y), Bx (fb.w), Bx (fb.h)], .agg #[Bx (fc.x), Bx (fc.y), Bx (fc.w), Bx (fc.h)], Ix x, Ix y] w fun r w' => r = .returned (.bool true) ∧ St β [] w' := by
  refine enter (n := 183) Try.func6 rfl Try.ntmps6 rfl ?_ hw
  refine c_seq ?_
  refine c_region ?_
  refine l_mv rfl rfl rfl (m_box (v := .agg #[Bx (fa.x), Bx (fa.y), Bx (fa.w), Bx (fa.h)]) rfl) ?_
  rintro _ _ ⟨b1, rfl, rfl⟩
  refine l_mv rfl rfl rfl (m_box (v := .agg #[Bx (fb.x), Bx (fb.y), Bx (fb.w), Bx (fb.h)]) rfl) ?_
  rintro _ _ ⟨b2, rfl, rfl⟩
  refine l_mv rfl rfl rfl (m_box (v := .agg #[Bx (fc.x), Bx (fc.y), Bx (fc.w), Bx (fc.h)]) rfl) ?_
  rintro _ _ ⟨b3, rfl, rfl⟩
  refine l_val (v := .bool false) rfl rfl rfl (e_assign) ?_
  refine l_nil ?_
  refine f_then ?_
  refine c_seq ?_
  refine c_seq ?_
  refine c_region ?_
  refine l_call rfl rfl rfl (cl_value (fst := []) (cap := []) (vs := []) (all := []) tf98 rfl rfl rfl) ?_
  intro w hw
  obtain ⟨β1, sb, kn, hw1, back⟩ := St.frame_all hw
  refine (awake_ok β1 w hw1).mono ?_
  rintro e w' ⟨rfl, hw'⟩
  refine ⟨_, rfl, _, back _ _ hw', ?_⟩
  clear hw hw1 hw' back kn sb
  refine l_val (v := .bool false) rfl rfl rfl (e_not (a := true) rfl) ?_
  refine l_nil ?_
  refine f_then ?_
  refine c_no rfl ?_
  refine c_skip ?_
  refine f_then ?_
  refine c_seq ?_
  refine c_any [⟨[], [], [0], [31], fun f => f 31 = .agg #[Bx (fa.x), Bx (fa.y), Bx (fa.w), Bx (fa.h)]⟩, ⟨[0], [0], [], [32], fun f => f 32 = .agg (aC (madeA fa))⟩, ⟨[], [], [1], [33], fun f => f 33 = .agg #[Bx (fb.x), Bx (fb.y), Bx (fb.w), Bx (fb.h)]⟩, ⟨[0, 1, 2], [2], [], [34], fun f => f 34 = .agg (aC (madeA fb))⟩, ⟨[], [], [2], [35], fun f => f 35 = .agg #[Bx (fc.x), Bx (fc.y), Bx (fc.w), Bx (fc.h)]⟩, ⟨[0, 1, 2, 3, 4], [4], [], [36], fun f => f 36 = .agg (aC (madeA fc))⟩, ⟨[], [], [], [11], fun f => f 11 = .pointer (some ⟨(blk (f 11)), 0, none⟩)⟩, ⟨[], [], [], [12], fun f => f 12 = .pointer (some ⟨(blk (f 12)), 0, none⟩)⟩, ⟨[], [], [], [13], fun f => f 13 = .pointer (some ⟨(blk (f 13)), 0, none⟩)⟩, ⟨[0, 1, 2, 3, 4, 5, 6, 7, 8], [6, 1], [], [], fun _ => True⟩, ⟨[0, 1, 2, 3, 4, 5, 6, 7, 8, 9], [7, 3], [], [], fun _ => True⟩, ⟨[0, 1, 2, 3, 4, 5, 6, 7, 8, 9, 10], [8, 5], [], [], fun _ => True⟩] [⟨none, none, [4], [], fun _ => pt b3 (.cells #[Bx (fc.x), Bx (fc.y), Bx (fc.w), Bx (fc.h)] 43)⟩, ⟨none, none, [2], [], fun _ => pt b2 (.cells #[Bx (fb.x), Bx (fb.y), Bx (fb.w), Bx (fb.h)] 43)⟩, ⟨none, none, [0], [], fun _ => pt b1 (.cells #[Bx (fa.x), Bx (fa.y), Bx (fa.w), Bx (fa.h)] 43)⟩, ⟨(some 6), (some 9), [9], [11], fun f => pt (blk (f 11)) (.cells #[.int .i64 (0), .int .i64 (0), .int .i64 (0), .int .i64 (0)] 25)⟩, ⟨(some 7), (some 10), [10], [12], fun f => pt (blk (f 12)) (.cells #[.int .i64 (0), .int .i64 (0), .int .i64 (0), .int .i64 (0)] 25)⟩, ⟨(some 8), (some 11), [11], [13], fun f => pt (blk (f 13)) (.cells #[.int .i64 (0), .int .i64 (0), .int .i64 (0), .int .i64 (0)] 25)⟩, ⟨(some 9), none, [], [11], fun f => pt (blk (f 11)) (.cells (aC (madeA fa)) 25)⟩, ⟨(some 10), none, [], [12], fun f => pt (blk (f 12)) (.cells (aC (madeA fb)) 25)⟩, ⟨(some 11), none, [], [13], fun f => pt (blk (f 13)) (.cells (aC (madeA fc)) 25)⟩] [(5, .pointer (some ⟨b1, 0, none⟩)), (6, .pointer (some ⟨b2, 0, none⟩)), (7, .pointer (some ⟨b3, 0, none⟩)), (3, Ix (x)), (4, Ix (y))] [3, 4] [] (by kernel_rfl) (by kernel_rfl) (by kernel_rfl) (by kernel_rfl) rfl ⟨rfl, rfl, rfl, rfl, rfl, trivial⟩ ⟨?_, ?_, ?_, ?_, ?_, ?_, ?_, ?_, ?_, ?_, ?_, ?_, trivial⟩ ?_
  · rintro f M - ⟨i0, -⟩
    have hs5 : f 5 = .pointer (some ⟨b1, 0, none⟩) := i0
    refine ob_start (L' := pt b1 (.cells #[Bx (fa.x), Bx (fa.y), Bx (fa.w), Bx (fa.h)] 43) :: M) (by rfl) (up_cons rfl hs5) ?_
    refine l_val (v := .agg #[Bx (fa.x), Bx (fa.y), Bx (fa.w), Bx (fa.h)]) rfl rfl rfl (e_load tf95 (cs := [Bx (fa.x), Bx (fa.y), Bx (fa.w), Bx (fa.h)]) rfl (k_pt 0 (cs := #[Bx (fa.x), Bx (fa.y), Bx (fa.w), Bx (fa.h)]) (vs := [Bx (fa.x), Bx (fa.y), Bx (fa.w), Bx (fa.h)]) rfl rfl) rfl) ?_
    refine l_nil ?_
    exact f_owes_d (up_cons rfl hs5) rfl (perm_front 0 rfl)
  · rintro f M ⟨k0, -⟩ -
    have hs31 : f 31 = .agg #[Bx (fa.x), Bx (fa.y), Bx (fa.w), Bx (fa.h)] := k0
    refine ob_start (L' := M) (by rfl) (up_cons rfl hs31) ?_
    refine l_call rfl rfl rfl (cl_value (fst := []) (cap := []) (vs := [.agg #[Bx (fa.x), Bx (fa.y), Bx (fa.w), Bx (fa.h)]]) (all := [.agg #[Bx (fa.x), Bx (fa.y), Bx (fa.w), Bx (fa.h)]]) tf96 rfl rfl rfl) ?_
    intro w hw
    obtain ⟨β1, sb, kn, hw1, back⟩ := St.frame_all hw
    refine (made_ok β1 w hw1 fa).mono ?_
    rintro e w' ⟨rfl, hw'⟩
    refine ⟨_, rfl, _, back _ _ hw', ?_⟩
    clear hw hw1 hw' back kn sb
    refine l_nil ?_
    exact f_owes_d (up_cons rfl hs31) rfl (List.Perm.refl _)
  · rintro f M - ⟨i0, -⟩
    have hs6 : f 6 = .pointer (some ⟨b2, 0, none⟩) := i0
    refine ob_start (L' := pt b2 (.cells #[Bx (fb.x), Bx (fb.y), Bx (fb.w), Bx (fb.h)] 43) :: M) (by rfl) (up_cons rfl hs6) ?_
    refine l_val (v := .agg #[Bx (fb.x), Bx (fb.y), Bx (fb.w), Bx (fb.h)]) rfl rfl rfl (e_load tf95 (cs := [Bx (fb.x), Bx (fb.y), Bx (fb.w), Bx (fb.h)]) rfl (k_pt 0 (cs := #[Bx (fb.x), Bx (fb.y), Bx (fb.w), Bx (fb.h)]) (vs := [Bx (fb.x), Bx (fb.y), Bx (fb.w), Bx (fb.h)]) rfl rfl) rfl) ?_
    refine l_nil ?_
    exact f_owes_d (up_cons rfl hs6) rfl (perm_front 0 rfl)
  · rintro f M ⟨k0, -⟩ -
    have hs33 : f 33 = .agg #[Bx (fb.x), Bx (fb.y), Bx (fb.w), Bx (fb.h)] := k0
    refine ob_start (L' := M) (by rfl) (up_cons rfl hs33) ?_
    refine l_call rfl rfl rfl (cl_value (fst := []) (cap := []) (vs := [.agg #[Bx (fb.x), Bx (fb.y), Bx (fb.w), Bx (fb.h)]]) (all := [.agg #[Bx (fb.x), Bx (fb.y), Bx (fb.w), Bx (fb.h)]]) tf96 rfl rfl rfl) ?_
    intro w hw
    obtain ⟨β1, sb, kn, hw1, back⟩ := St.frame_all hw
    refine (made_ok β1 w hw1 fb).mono ?_
    rintro e w' ⟨rfl, hw'⟩
    refine ⟨_, rfl, _, back _ _ hw', ?_⟩
    clear hw hw1 hw' back kn sb
    refine l_nil ?_
    exact f_owes_d (up_cons rfl hs33) rfl (List.Perm.refl _)
  · rintro f M - ⟨i0, -⟩
    have hs7 : f 7 = .pointer (some ⟨b3, 0, none⟩) := i0
    refine ob_start (L' := pt b3 (.cells #[Bx (fc.x), Bx (fc.y), Bx (fc.w), Bx (fc.h)] 43) :: M) (by rfl) (up_cons rfl hs7) ?_
    refine l_val (v := .agg #[Bx (fc.x), Bx (fc.y), Bx (fc.w), Bx (fc.h)]) rfl rfl rfl (e_load tf95 (cs := [Bx (fc.x), Bx (fc.y), Bx (fc.w), Bx (fc.h)]) rfl (k_pt 0 (cs := #[Bx (fc.x), Bx (fc.y), Bx (fc.w), Bx (fc.h)]) (vs := [Bx (fc.x), Bx (fc.y), Bx (fc.w), Bx (fc.h)]) rfl rfl) rfl) ?_
    refine l_nil ?_
    exact f_owes_d (up_cons rfl hs7) rfl (perm_front 0 rfl)
  · rintro f M ⟨k0, -⟩ -
    have hs35 : f 35 = .agg #[Bx (fc.x), Bx (fc.y), Bx (fc.w), Bx (fc.h)] := k0
    refine ob_start (L' := M) (by rfl) (up_cons rfl hs35) ?_
    refine l_call rfl rfl rfl (cl_value (fst := []) (cap := []) (vs := [.agg #[Bx (fc.x), Bx (fc.y), Bx (fc.w), Bx (fc.h)]]) (all := [.agg #[Bx (fc.x), Bx (fc.y), Bx (fc.w), Bx (fc.h)]]) tf96 rfl rfl rfl) ?_
    intro w hw
    obtain ⟨β1, sb, kn, hw1, back⟩ := St.frame_all hw
    refine (made_ok β1 w hw1 fc).mono ?_
    rintro e w' ⟨rfl, hw'⟩
    refine ⟨_, rfl, _, back _ _ hw', ?_⟩
    clear hw hw1 hw' back kn sb
    refine l_nil ?_
    exact f_owes_d (up_cons rfl hs35) rfl (List.Perm.refl _)
  · rintro f M - -
    refine ob_start (L' := M) (by rfl) rfl ?_
    refine l_mv rfl rfl rfl (m_alloc tf6) ?_
    rintro _ _ ⟨b5, rfl, rfl⟩
    refine l_nil ?_
    exact f_owes_d rfl rfl (perm_front 0 rfl)
  · rintro f M - -
    refine ob_start (L' := M) (by rfl) rfl ?_
    refine l_mv rfl rfl rfl (m_alloc tf6) ?_
    rintro _ _ ⟨b7, rfl, rfl⟩
    refine l_nil ?_
    exact f_owes_d rfl rfl (perm_front 0 rfl)
  · rintro f M - -
    refine ob_start (L' := M) (by rfl) rfl ?_
    refine l_mv rfl rfl rfl (m_alloc tf6) ?_
    rintro _ _ ⟨b9, rfl, rfl⟩
    refine l_nil ?_
    exact f_owes_d rfl rfl (perm_front 0 rfl)
  · rintro f M ⟨k0, k1, -⟩ -
    have hs11 : f 11 = .pointer (some ⟨(blk (f 11)), 0, none⟩) := k0
    have hs32 : f 32 = .agg (aC (madeA fa)) := k1
    refine ob_start (L' := pt (blk (f 11)) (.cells #[.int .i64 (0), .int .i64 (0), .int .i64 (0), .int .i64 (0)] 25) :: M) (by rfl) (up_cons (up_cons rfl hs11) hs32) ?_
    refine l_mu rfl rfl (m_store 0 tf10 (b := (blk (f 11))) (o := 0) (T := 25) (cs := #[.int .i64 (0), .int .i64 (0), .int .i64 (0), .int .i64 (0)]) (cs' := (aC (madeA fa))) (v := .agg (aC (madeA fa))) rfl rfl rfl rfl rfl rfl rfl) ?_
    refine l_nil ?_
    exact f_owes_n (up_cons (up_cons rfl hs11) hs32) trivial (perm_front 0 rfl)
  · rintro f M ⟨k0, k1, -⟩ -
    have hs12 : f 12 = .pointer (some ⟨(blk (f 12)), 0, none⟩) := k0
    have hs34 : f 34 = .agg (aC (madeA fb)) := k1
    refine ob_start (L' := pt (blk (f 12)) (.cells #[.int .i64 (0), .int .i64 (0), .int .i64 (0), .int .i64 (0)] 25) :: M) (by rfl) (up_cons (up_cons rfl hs12) hs34) ?_
    refine l_mu rfl rfl (m_store 0 tf10 (b := (blk (f 12))) (o := 0) (T := 25) (cs := #[.int .i64 (0), .int .i64 (0), .int .i64 (0), .int .i64 (0)]) (cs' := (aC (madeA fb))) (v := .agg (aC (madeA fb))) rfl rfl rfl rfl rfl rfl rfl) ?_
    refine l_nil ?_
    exact f_owes_n (up_cons (up_cons rfl hs12) hs34) trivial (perm_front 0 rfl)
  · rintro f M ⟨k0, k1, -⟩ -
    have hs13 : f 13 = .pointer (some ⟨(blk (f 13)), 0, none⟩) := k0
    have hs36 : f 36 = .agg (aC (madeA fc)) := k1
    refine ob_start (L' := pt (blk (f 13)) (.cells #[.int .i64 (0), .int .i64 (0), .int .i64 (0), .int .i64 (0)] 25) :: M) (by rfl) (up_cons (up_cons rfl hs13) hs36) ?_
    refine l_mu rfl rfl (m_store 0 tf10 (b := (blk (f 13))) (o := 0) (T := 25) (cs := #[.int .i64 (0), .int .i64 (0), .int .i64 (0), .int .i64 (0)]) (cs' := (aC (madeA fc))) (v := .agg (aC (madeA fc))) rfl rfl rfl rfl rfl rfl rfl) ?_
    refine l_nil ?_
    exact f_owes_n (up_cons (up_cons rfl hs13) hs36) trivial (perm_front 0 rfl)
  rintro fa10 ⟨-, -, -, -, -, -, k6, k7, k8, -, -, -, -⟩ ⟨j0, j1, -⟩
  refine f_re (L' := [pt b3 (.cells #[Bx (fc.x), Bx (fc.y), Bx (fc.w), Bx (fc.h)] 43), pt b2 (.cells #[Bx (fb.x), Bx (fb.y), Bx (fb.w), Bx (fb.h)] 43), pt b1 (.cells #[Bx (fa.x), Bx (fa.y), Bx (fa.w), Bx (fa.h)] 43), pt (blk (fa10 11)) (.cells (aC (madeA fa)) 25), pt (blk (fa10 12)) (.cells (aC (madeA fb)) 25), pt (blk (fa10 13)) (.cells (aC (madeA fc)) 25)]) (by rfl) ?_
  refine f_rebase (d := 3) (v := Ix (x)) j0 ?_
  refine f_rebase (d := 4) (v := Ix (y)) j1 ?_
  refine f_rebase (d := 11) (v := .pointer (some ⟨(blk (fa10 11)), 0, none⟩)) k6 ?_
  refine f_rebase (d := 12) (v := .pointer (some ⟨(blk (fa10 12)), 0, none⟩)) k7 ?_
  refine f_rebase (d := 13) (v := .pointer (some ⟨(blk (fa10 13)), 0, none⟩)) k8 ?_
  refine f_then ?_
  refine c_seq ?_
  obtain ⟨a, ha⟩ : ∃ z, z = madeA fa := ⟨_, rfl⟩
  have oka : okA a := by rw [ha]; exact made_okA _
  obtain ⟨b, hb⟩ : ∃ z, z = madeA fb := ⟨_, rfl⟩
  have okb : okA b := by rw [hb]; exact made_okA _
  obtain ⟨c, hc⟩ : ∃ z, z = madeA fc := ⟨_, rfl⟩
  have okc : okA c := by rw [hc]; exact made_okA _
  refine c_re (L' := [pt b3 (.cells #[Bx (fc.x), Bx (fc.y), Bx (fc.w), Bx (fc.h)] 43), pt b2 (.cells #[Bx (fb.x), Bx (fb.y), Bx (fb.w), Bx (fb.h)] 43), pt b1 (.cells #[Bx (fa.x), Bx (fa.y), Bx (fa.w), Bx (fa.h)] 43), pt (blk (fa10 11)) (.cells (aC a) 25), pt (blk (fa10 12)) (.cells (aC b) 25), pt (blk (fa10 13)) (.cells (aC c) 25)]) (by rw [ha, hb, hc]) ?_
  refine c_region ?_
  refine l_val (v := .agg (aC a)) rfl rfl rfl (e_load tf10 (cs := (areaE a)) rfl (k_pt 3 (cs := (aC a)) (vs := (areaE a)) rfl rfl) rfl) ?_
  refine l_val (v := .agg (aC b)) rfl rfl rfl (e_load tf10 (cs := (areaE b)) rfl (k_pt 4 (cs := (aC b)) (vs := (areaE b)) rfl rfl) rfl) ?_
  refine l_call rfl rfl rfl (cl_value (fst := []) (cap := []) (vs := [.agg (aC a), .agg (aC b)]) (all := [.agg (aC a), .agg (aC b)]) tf78 rfl rfl rfl) ?_
  intro w hw
  obtain ⟨β1, sb, kn, hw1, back⟩ := St.frame_all hw
  refine (commonR_ok β1 w hw1 a b).mono ?_
  rintro e w' ⟨rfl, hw'⟩
  refine ⟨_, rfl, _, back _ _ hw', ?_⟩
  clear hw hw1 hw' back kn sb
  refine l_val (v := .tuple #[.agg (aC (comR a b)), .bool (decide (meetA a b))]) rfl rfl rfl (e_move) ?_
  refine l_val (v := .agg (aC (comR a b))) rfl rfl rfl (e_extract (vs := #[.agg (aC (comR a b)), .bool (decide (meetA a b))]) rfl rfl) ?_
  refine l_val (v := .bool (decide (meetA a b))) rfl rfl rfl (e_extract (vs := #[.agg (aC (comR a b)), .bool (decide (meetA a b))]) rfl rfl) ?_
  refine l_mv rfl rfl rfl (m_alloc tf6) ?_
  rintro _ _ ⟨b11, rfl, rfl⟩
  refine l_mu rfl rfl (m_store 0 tf10 (b := b11) (o := 0) (T := 25) (cs := #[.int .i64 (0), .int .i64 (0), .int .i64 (0), .int .i64 (0)]) (cs' := (aC (comR a b))) (v := .agg (aC (comR a b))) rfl rfl rfl rfl rfl rfl rfl) ?_
  refine l_val (v := .bool (decide (meetA a b))) rfl rfl rfl (e_assign) ?_
  refine l_nil ?_
  refine f_then ?_
  refine c_seq ?_
  refine c_region ?_
  refine l_val (v := .agg (aC b)) rfl rfl rfl (e_load tf10 (cs := (areaE b)) rfl (k_pt 5 (cs := (aC b)) (vs := (areaE b)) rfl rfl) rfl) ?_
  refine l_val (v := .agg (aC a)) rfl rfl rfl (e_load tf10 (cs := (areaE a)) rfl (k_pt 4 (cs := (aC a)) (vs := (areaE a)) rfl rfl) rfl) ?_
  refine l_call rfl rfl rfl (cl_value (fst := []) (cap := []) (vs := [.agg (aC b), .agg (aC a)]) (all := [.agg (aC b), .agg (aC a)]) tf78 rfl rfl rfl) ?_
  intro w hw
  obtain ⟨β1, sb, kn, hw1, back⟩ := St.frame_all hw
  refine (commonR_ok β1 w hw1 b a).mono ?_
  rintro e w' ⟨rfl, hw'⟩
  refine ⟨_, rfl, _, back _ _ hw', ?_⟩
  clear hw hw1 hw' back kn sb
  refine l_val (v := .tuple #[.agg (aC (comR b a)), .bool (decide (meetA b a))]) rfl rfl rfl (e_move) ?_
  refine l_val (v := .agg (aC (comR b a))) rfl rfl rfl (e_extract (vs := #[.agg (aC (comR b a)), .bool (decide (meetA b a))]) rfl rfl) ?_
  refine l_val (v := .bool (decide (meetA b a))) rfl rfl rfl (e_extract (vs := #[.agg (aC (comR b a)), .bool (decide (meetA b a))]) rfl rfl) ?_
  refine l_mv rfl rfl rfl (m_alloc tf6) ?_
  rintro _ _ ⟨b12, rfl, rfl⟩
  refine l_mu rfl rfl (m_store 0 tf10 (b := b12) (o := 0) (T := 25) (cs := #[.int .i64 (0), .int .i64 (0), .int .i64 (0), .int .i64 (0)]) (cs' := (aC (comR b a))) (v := .agg (aC (comR b a))) rfl rfl rfl rfl rfl rfl rfl) ?_
  refine l_val (v := .bool (decide (meetA b a))) rfl rfl rfl (e_assign) ?_
  refine l_nil ?_
  refine f_then ?_
  refine c_seq ?_
  refine c_region ?_
  refine l_val (v := .agg (aC a)) rfl rfl rfl (e_load tf10 (cs := (areaE a)) rfl (k_pt 5 (cs := (aC a)) (vs := (areaE a)) rfl rfl) rfl) ?_
  refine l_val (v := .agg (aC b)) rfl rfl rfl (e_load tf10 (cs := (areaE b)) rfl (k_pt 6 (cs := (aC b)) (vs := (areaE b)) rfl rfl) rfl) ?_
  refine l_call rfl rfl rfl (cl_value (fst := []) (cap := []) (vs := [.agg (aC a), .agg (aC b)]) (all := [.agg (aC a), .agg (aC b)]) tf82 rfl rfl rfl) ?_
  intro w hw
  obtain ⟨β1, sb, kn, hw1, back⟩ := St.frame_all hw
  refine (join_ok β1 w hw1 a b).mono ?_
  rintro e w' ⟨rfl, hw'⟩
  refine ⟨_, rfl, _, back _ _ hw', ?_⟩
  clear hw hw1 hw' back kn sb
  refine l_mv rfl rfl rfl (m_alloc tf6) ?_
  rintro _ _ ⟨b13, rfl, rfl⟩
  refine l_mu rfl rfl (m_store 0 tf10 (b := b13) (o := 0) (T := 25) (cs := #[.int .i64 (0), .int .i64 (0), .int .i64 (0), .int .i64 (0)]) (cs' := (aC (joinR a b))) (v := .agg (aC (joinR a b))) rfl rfl rfl rfl rfl rfl rfl) ?_
  refine l_nil ?_
  refine f_then ?_
  refine c_seq ?_
  refine c_region ?_
  refine l_val (v := .agg (aC a)) rfl rfl rfl (e_load tf10 (cs := (areaE a)) rfl (k_pt 6 (cs := (aC a)) (vs := (areaE a)) rfl rfl) rfl) ?_
  refine l_val (v := .agg (aC (joinR a b))) rfl rfl rfl (e_load tf10 (cs := (areaE (joinR a b))) rfl (k_pt 0 (cs := (aC (joinR a b))) (vs := (areaE (joinR a b))) rfl rfl) rfl) ?_
  refine l_call rfl rfl rfl (cl_value (fst := []) (cap := []) (vs := [.agg (aC a), .agg (aC (joinR a b))]) (all := [.agg (aC a), .agg (aC (joinR a b))]) tf78 rfl rfl rfl) ?_
  intro w hw
  obtain ⟨β1, sb, kn, hw1, back⟩ := St.frame_all hw
  refine (commonR_ok β1 w hw1 a (joinR a b)).mono ?_
  rintro e w' ⟨rfl, hw'⟩
  refine ⟨_, rfl, _, back _ _ hw', ?_⟩
  clear hw hw1 hw' back kn sb
  refine l_val (v := .tuple #[.agg (aC (comR a (joinR a b))), .bool (decide (meetA a (joinR a b)))]) rfl rfl rfl (e_move) ?_
  refine l_val (v := .agg (aC (comR a (joinR a b)))) rfl rfl rfl (e_extract (vs := #[.agg (aC (comR a (joinR a b))), .bool (decide (meetA a (joinR a b)))]) rfl rfl) ?_
  refine l_val (v := .bool (decide (meetA a (joinR a b)))) rfl rfl rfl (e_extract (vs := #[.agg (aC (comR a (joinR a b))), .bool (decide (meetA a (joinR a b)))]) rfl rfl) ?_
  refine l_mv rfl rfl rfl (m_alloc tf6) ?_
  rintro _ _ ⟨b14, rfl, rfl⟩
  refine l_mu rfl rfl (m_store 0 tf10 (b := b14) (o := 0) (T := 25) (cs := #[.int .i64 (0), .int .i64 (0), .int .i64 (0), .int .i64 (0)]) (cs' := (aC (comR a (joinR a b)))) (v := .agg (aC (comR a (joinR a b)))) rfl rfl rfl rfl rfl rfl rfl) ?_
  refine l_val (v := .bool (decide (meetA a (joinR a b)))) rfl rfl rfl (e_assign) ?_
  refine l_nil ?_
  refine f_then ?_
  refine c_seq ?_
  refine c_seq ?_
  refine c_any [⟨[], [], [0], [58], fun f => f 58 = .agg (aC (comR a b))⟩, ⟨[], [], [1], [59], fun f => f 59 = .agg (aC (comR b a))⟩, ⟨[0, 1], [0, 1], [], [60], fun f => f 60 = .bool false⟩, ⟨[0, 1, 2], [2], [], [61], fun f => f 61 = .bool false⟩, ⟨[0, 1, 2, 3], [3], [2], [62], fun f => f 62 = .bool (decide (meetA a b))⟩, ⟨[0, 1, 2, 3], [3], [3], [63], fun f => f 63 = .bool (decide (meetA b a))⟩, ⟨[0, 1, 2, 3, 4, 5], [4, 5, 3], [], [64], fun f => f 64 = .bool false⟩, ⟨[0, 1, 2, 3, 4, 5, 6], [3, 6], [], [65], fun f => f 65 = .bool false⟩, ⟨[0, 1, 2, 3, 4, 5, 6, 7], [7], [], [66], fun f => f 66 = .bool false⟩, ⟨[0, 1, 2, 3, 4, 5, 6, 7, 8], [8], [2], [67], fun f => f 67 = .bool (decide (meetA a b))⟩, ⟨[0, 1, 2, 3, 4, 5, 6, 7, 8], [8], [4], [68], fun f => f 68 = .agg (aC a)⟩, ⟨[0, 1, 2, 3, 4, 5, 6, 7, 8], [8], [5], [69], fun f => f 69 = .agg (aC b)⟩, ⟨[0, 1, 2, 3, 4, 5, 6, 7, 8, 10, 11], [10, 11, 8], [], [70], fun f => f 70 = .bool (decide (touchA a b))⟩, ⟨[0, 1, 2, 3, 4, 5, 6, 7, 8, 9, 10, 11, 12], [9, 12, 8], [], [71], fun f => f 71 = .bool false⟩, ⟨[0, 1, 2, 3, 4, 5, 6, 7, 8, 9, 10, 11, 12, 13], [8, 13], [], [72], fun f => f 72 = .bool false⟩, ⟨[0, 1, 2, 3, 4, 5, 6, 7, 8, 9, 10, 11, 12, 13, 14], [14], [], [73], fun f => f 73 = .bool false⟩, ⟨[0, 1, 2, 3, 4, 5, 6, 7, 8, 9, 10, 11, 12, 13, 14, 15], [15], [6], [74], fun f => f 74 = .agg (aC (joinR a b))⟩, ⟨[0, 1, 2, 3, 4, 5, 6, 7, 8, 9, 10, 11, 12, 13, 14, 15], [15], [5], [75], fun f => f 75 = .agg (aC b)⟩, ⟨[0, 1, 2, 3, 4, 5, 6, 7, 8, 9, 10, 11, 12, 13, 14, 15], [15], [4], [76], fun f => f 76 = .agg (aC a)⟩, ⟨[0, 1, 2, 3, 4, 5, 6, 7, 8, 9, 10, 11, 12, 13, 14, 15, 17, 18], [17, 18, 15], [], [77], fun f => f 77 = .agg (aC (joinR b a))⟩, ⟨[0, 1, 2, 3, 4, 5, 6, 7, 8, 9, 10, 11, 12, 13, 14, 15, 16, 17, 18, 19], [16, 19, 15], [], [78], fun f => f 78 = .bool false⟩, ⟨[0, 1, 2, 3, 4, 5, 6, 7, 8, 9, 10, 11, 12, 13, 14, 15, 16, 17, 18, 19, 20], [15, 20], [], [79], fun f => f 79 = .bool false⟩, ⟨[0, 1, 2, 3, 4, 5, 6, 7, 8, 9, 10, 11, 12, 13, 14, 15, 16, 17, 18, 19, 20, 21], [21], [], [80], fun f => f 80 = .bool false⟩, ⟨[0, 1, 2, 3, 4, 5, 6, 7, 8, 9, 10, 11, 12, 13, 14, 15, 16, 17, 18, 19, 20, 21, 22], [22], [7], [81], fun f => f 81 = .agg (aC (comR a (joinR a b)))⟩, ⟨[0, 1, 2, 3, 4, 5, 6, 7, 8, 9, 10, 11, 12, 13, 14, 15, 16, 17, 18, 19, 20, 21, 22], [22], [4], [82], fun f => f 82 = .agg (aC a)⟩, ⟨[0, 1, 2, 3, 4, 5, 6, 7, 8, 9, 10, 11, 12, 13, 14, 15, 16, 17, 18, 19, 20, 21, 22, 23, 24], [23, 24, 22], [], [83], fun f => f 83 = .bool false⟩, ⟨[0, 1, 2, 3, 4, 5, 6, 7, 8, 9, 10, 11, 12, 13, 14, 15, 16, 17, 18, 19, 20, 21, 22, 23, 24, 25], [22, 25], [], [84], fun f => f 84 = .bool false⟩, ⟨[0, 1, 2, 3, 4, 5, 6, 7, 8, 9, 10, 11, 12, 13, 14, 15, 16, 17, 18, 19, 20, 21, 22, 23, 24, 25, 26], [26], [], [85], fun f => f 85 = .bool false⟩, ⟨[0, 1, 2, 3, 4, 5, 6, 7, 8, 9, 10, 11, 12, 13, 14, 15, 16, 17, 18, 19, 20, 21, 22, 23, 24, 25, 26, 27], [27], [8], [86], fun f => f 86 = .bool true⟩, ⟨[0, 1, 2, 3, 4, 5, 6, 7, 8, 9, 10, 11, 12, 13, 14, 15, 16, 17, 18, 19, 20, 21, 22, 23, 24, 25, 26, 27, 28], [28, 27], [], [87], fun f => f 87 = .bool false⟩, ⟨[0, 1, 2, 3, 4, 5, 6, 7, 8, 9, 10, 11, 12, 13, 14, 15, 16, 17, 18, 19, 20, 21, 22, 23, 24, 25, 26, 27, 28, 29], [27, 29], [], [88], fun f => f 88 = .bool false⟩, ⟨[0, 1, 2, 3, 4, 5, 6, 7, 8, 9, 10, 11, 12, 13, 14, 15, 16, 17, 18, 19, 20, 21, 22, 23, 24, 25, 26, 27, 28, 29, 30], [30], [], [89], fun f => f 89 = .bool false⟩, ⟨[0, 1, 2, 3, 4, 5, 6, 7, 8, 9, 10, 11, 12, 13, 14, 15, 16, 17, 18, 19, 20, 21, 22, 23, 24, 25, 26, 27, 28, 29, 30, 31], [31], [6], [90], fun f => f 90 = .agg (aC (joinR a b))⟩, ⟨[0, 1, 2, 3, 4, 5, 6, 7, 8, 9, 10, 11, 12, 13, 14, 15, 16, 17, 18, 19, 20, 21, 22, 23, 24, 25, 26, 27, 28, 29, 30, 31], [31], [9], [91], fun f => f 91 = .agg (aC c)⟩, ⟨[0, 1, 2, 3, 4, 5, 6, 7, 8, 9, 10, 11, 12, 13, 14, 15, 16, 17, 18, 19, 20, 21, 22, 23, 24, 25, 26, 27, 28, 29, 30, 31, 32, 33], [32, 33, 31], [], [92], fun f => f 92 = .agg (aC (joinR (joinR a b) c))⟩, ⟨[0, 1, 2, 3, 4, 5, 6, 7, 8, 9, 10, 11, 12, 13, 14, 15, 16, 17, 18, 19, 20, 21, 22, 23, 24, 25, 26, 27, 28, 29, 30, 31], [31], [4], [93], fun f => f 93 = .agg (aC a)⟩, ⟨[0, 1, 2, 3, 4, 5, 6, 7, 8, 9, 10, 11, 12, 13, 14, 15, 16, 17, 18, 19, 20, 21, 22, 23, 24, 25, 26, 27, 28, 29, 30, 31], [31], [5], [94], fun f => f 94 = .agg (aC b)⟩, ⟨[0, 1, 2, 3, 4, 5, 6, 7, 8, 9, 10, 11, 12, 13, 14, 15, 16, 17, 18, 19, 20, 21, 22, 23, 24, 25, 26, 27, 28, 29, 30, 31], [31], [9], [95], fun f => f 95 = .agg (aC c)⟩, ⟨[0, 1, 2, 3, 4, 5, 6, 7, 8, 9, 10, 11, 12, 13, 14, 15, 16, 17, 18, 19, 20, 21, 22, 23, 24, 25, 26, 27, 28, 29, 30, 31, 32, 33, 34, 36, 37], [36, 37, 31], [], [96], fun f => f 96 = .agg (aC (joinR b c))⟩, ⟨[0, 1, 2, 3, 4, 5, 6, 7, 8, 9, 10, 11, 12, 13, 14, 15, 16, 17, 18, 19, 20, 21, 22, 23, 24, 25, 26, 27, 28, 29, 30, 31, 32, 33, 34, 35, 36, 37, 38], [35, 38, 31], [], [97], fun f => f 97 = .agg (aC (joinR a (joinR b c)))⟩, ⟨[0, 1, 2, 3, 4, 5, 6, 7, 8, 9, 10, 11, 12, 13, 14, 15, 16, 17, 18, 19, 20, 21, 22, 23, 24, 25, 26, 27, 28, 29, 30, 31, 32, 33, 34, 35, 36, 37, 38, 39], [34, 39, 31], [], [98], fun f => f 98 = .bool false⟩, ⟨[0, 1, 2, 3, 4, 5, 6, 7, 8, 9, 10, 11, 12, 13, 14, 15, 16, 17, 18, 19, 20, 21, 22, 23, 24, 25, 26, 27, 28, 29, 30, 31, 32, 33, 34, 35, 36, 37, 38, 39, 40], [31, 40], [], [99], fun f => f 99 = .bool false⟩] [⟨none, none, [23], [], fun _ => pt b14 (.cells (aC (comR a (joinR a b))) 25)⟩, ⟨none, none, [16, 32], [], fun _ => pt b13 (.cells (aC (joinR a b)) 25)⟩, ⟨none, none, [1], [], fun _ => pt b12 (.cells (aC (comR b a)) 25)⟩, ⟨none, none, [0], [], fun _ => pt b11 (.cells (aC (comR a b)) 25)⟩, ⟨none, none, [], [], fun _ => pt b3 (.cells #[Bx (fc.x), Bx (fc.y), Bx (fc.w), Bx (fc.h)] 43)⟩, ⟨none, none, [], [], fun _ => pt b2 (.cells #[Bx (fb.x), Bx (fb.y), Bx (fb.w), Bx (fb.h)] 43)⟩, ⟨none, none, [], [], fun _ => pt b1 (.cells #[Bx (fa.x), Bx (fa.y), Bx (fa.w), Bx (fa.h)] 43)⟩, ⟨none, none, [10, 18, 24, 35], [], fun _ => pt (blk (fa10 11)) (.cells (aC a) 25)⟩, ⟨none, none, [11, 17, 36], [], fun _ => pt (blk (fa10 12)) (.cells (aC b) 25)⟩, ⟨none, none, [33, 37], [], fun _ => pt (blk (fa10 13)) (.cells (aC c) 25)⟩] [(14, .pointer (some ⟨b11, 0, none⟩)), (16, .pointer (some ⟨b12, 0, none⟩)), (15, .bool (decide (meetA a b))), (17, .bool (decide (meetA b a))), (11, .pointer (some ⟨(blk (fa10 11)), 0, none⟩)), (12, .pointer (some ⟨(blk (fa10 12)), 0, none⟩)), (18, .pointer (some ⟨b13, 0, none⟩)), (19, .pointer (some ⟨b14, 0, none⟩)), (20, .bool (decide (meetA a (joinR a b)))), (13, .pointer (some ⟨(blk (fa10 13)), 0, none⟩)), (3, Ix (x)), (4, Ix (y))] [10, 11, 4, 5, 9, 0, 2, 6] [] (by kernel_rfl) (by kernel_rfl) (by kernel_rfl) (by kernel_rfl) rfl ⟨rfl, rfl, rfl, rfl, rfl, rfl, rfl, rfl, rfl, rfl, rfl, rfl, trivial⟩ ⟨?_, ?_, ?_, ?_, ?_, ?_, ?_, ?_, ?_, ?_, ?_, ?_, ?_, ?_, ?_, ?_, ?_, ?_, ?_, ?_, ?_, ?_, ?_, ?_, ?_, ?_, ?_, ?_, ?_, ?_, ?_, ?_, ?_, ?_, ?_, ?_, ?_, ?_, ?_, ?_, ?_, ?_, trivial⟩ ?_
  · rintro f M - ⟨i0, -⟩
    have hs14 : f 14 = .pointer (some ⟨b11, 0, none⟩) := i0
    refine ob_start (L' := pt b11 (.cells (aC (comR a b)) 25) :: M) (by rfl) (up_cons rfl hs14) ?_
    refine l_val (v := .agg (aC (comR a b))) rfl rfl rfl (e_load tf10 (cs := (areaE (comR a b))) rfl (k_pt 0 (cs := (aC (comR a b))) (vs := (areaE (comR a b))) rfl rfl) rfl) ?_
    refine l_nil ?_
    exact f_owes_d (up_cons rfl hs14) rfl (perm_front 0 rfl)
  · rintro f M - ⟨i0, -⟩
    have hs16 : f 16 = .pointer (some ⟨b12, 0, none⟩) := i0
    refine ob_start (L' := pt b12 (.cells (aC (comR b a)) 25) :: M) (by rfl) (up_cons rfl hs16) ?_
    refine l_val (v := .agg (aC (comR b a))) rfl rfl rfl (e_load tf10 (cs := (areaE (comR b a))) rfl (k_pt 0 (cs := (aC (comR b a))) (vs := (areaE (comR b a))) rfl rfl) rfl) ?_
    refine l_nil ?_
    exact f_owes_d (up_cons rfl hs16) rfl (perm_front 0 rfl)
  · rintro f M ⟨k0, k1, -⟩ -
    have hs58 : f 58 = .agg (aC (comR a b)) := k0
    have hs59 : f 59 = .agg (aC (comR b a)) := k1
    refine ob_start (L' := M) (by rfl) (up_cons (up_cons rfl hs58) hs59) ?_
    refine l_val (v := .bool false) rfl rfl rfl ((ev_f (fun q => q (com_comm a b)) (e_neq_t (xs := areaE (comR a b)) (ys := areaE (comR b a)) tf79 tf80 tf81 rfl rfl rfl rfl (not_congr (area_eq (x := (comR a b)) (y := (comR b a))))))) ?_
    refine l_nil ?_
    exact f_owes_d (up_cons (up_cons rfl hs58) hs59) rfl (List.Perm.refl _)
  · rintro f M ⟨k0, -⟩ -
    have hs60 : f 60 = .bool false := k0
    refine ob_start (L' := M) (by rfl) (up_cons rfl hs60) ?_
    refine l_val (v := .bool false) rfl rfl rfl (e_move) ?_
    refine l_nil ?_
    exact f_owes_d (up_cons rfl hs60) rfl (List.Perm.refl _)
  · rintro f M ⟨k0, -⟩ ⟨i0, -⟩
    have hs15 : f 15 = .bool (decide (meetA a b)) := i0
    have hs61 : f 61 = .bool false := k0
    refine ob_start (L' := M) (by rfl) (up_cons (up_cons rfl hs15) hs61) ?_
    refine g_val (v := .bool (decide (meetA a b))) rfl rfl rfl rfl rfl (e_move) ?_
    refine l_nil ?_
    exact f_owes_d (up_cons (up_cons rfl hs15) hs61) rfl (List.Perm.refl _)
  · rintro f M ⟨k0, -⟩ ⟨i0, -⟩
    have hs17 : f 17 = .bool (decide (meetA b a)) := i0
    have hs61 : f 61 = .bool false := k0
    refine ob_start (L' := M) (by rfl) (up_cons (up_cons rfl hs17) hs61) ?_
    refine g_val (v := .bool (decide (meetA b a))) rfl rfl rfl rfl rfl (e_move) ?_
    refine l_nil ?_
    exact f_owes_d (up_cons (up_cons rfl hs17) hs61) rfl (List.Perm.refl _)
  · rintro f M ⟨k0, k1, k2, -⟩ -
    have hs62 : f 62 = .bool (decide (meetA a b)) := k0
    have hs63 : f 63 = .bool (decide (meetA b a)) := k1
    have hs61 : f 61 = .bool false := k2
    refine ob_start (L' := M) (by rfl) (up_cons (up_cons (up_cons rfl hs62) hs63) hs61) ?_
    refine g_val (v := .bool false) rfl rfl rfl rfl rfl ((ev_b (c := false) (show (!((decide (meetA a b)) == (decide (meetA b a)))) = false from (by simp [meet_comm a b])) (e_neq_b (a := decide (meetA a b)) (b := decide (meetA b a)) rfl rfl tf99))) ?_
    refine l_nil ?_
    exact f_owes_d (up_cons (up_cons (up_cons rfl hs62) hs63) hs61) rfl (List.Perm.refl _)
  · rintro f M ⟨k0, k1, -⟩ -
    have hs61 : f 61 = .bool false := k0
    have hs64 : f 64 = .bool false := k1
    refine ob_start (L' := M) (by rfl) (up_cons (up_cons rfl hs61) hs64) ?_
    refine l_val (v := .bool false) rfl rfl rfl (e_pick_f rfl) ?_
    refine l_nil ?_
    exact f_owes_d (up_cons (up_cons rfl hs61) hs64) rfl (List.Perm.refl _)
  · rintro f M ⟨k0, -⟩ -
    have hs65 : f 65 = .bool false := k0
    refine ob_start (L' := M) (by rfl) (up_cons rfl hs65) ?_
    refine l_val (v := .bool false) rfl rfl rfl (e_move) ?_
    refine l_nil ?_
    exact f_owes_d (up_cons rfl hs65) rfl (List.Perm.refl _)
  · rintro f M ⟨k0, -⟩ ⟨i0, -⟩
    have hs15 : f 15 = .bool (decide (meetA a b)) := i0
    have hs66 : f 66 = .bool false := k0
    refine ob_start (L' := M) (by rfl) (up_cons (up_cons rfl hs15) hs66) ?_
    refine g_val (v := .bool (decide (meetA a b))) rfl rfl rfl rfl rfl (e_move) ?_
    refine l_nil ?_
    exact f_owes_d (up_cons (up_cons rfl hs15) hs66) rfl (List.Perm.refl _)
  · rintro f M ⟨k0, -⟩ ⟨i0, -⟩
    have hs11 : f 11 = .pointer (some ⟨(blk (fa10 11)), 0, none⟩) := i0
    have hs66 : f 66 = .bool false := k0
    refine ob_start (L' := pt (blk (fa10 11)) (.cells (aC a) 25) :: M) (by rfl) (up_cons (up_cons rfl hs11) hs66) ?_
    refine g_val (v := .agg (aC a)) rfl rfl rfl rfl rfl (e_load tf10 (cs := (areaE a)) rfl (k_pt 0 (cs := (aC a)) (vs := (areaE a)) rfl rfl) rfl) ?_
    refine l_nil ?_
    exact f_owes_d (up_cons (up_cons rfl hs11) hs66) rfl (perm_front 0 rfl)
  · rintro f M ⟨k0, -⟩ ⟨i0, -⟩
    have hs12 : f 12 = .pointer (some ⟨(blk (fa10 12)), 0, none⟩) := i0
    have hs66 : f 66 = .bool false := k0
    refine ob_start (L' := pt (blk (fa10 12)) (.cells (aC b) 25) :: M) (by rfl) (up_cons (up_cons rfl hs12) hs66) ?_
    refine g_val (v := .agg (aC b)) rfl rfl rfl rfl rfl (e_load tf10 (cs := (areaE b)) rfl (k_pt 0 (cs := (aC b)) (vs := (areaE b)) rfl rfl) rfl) ?_
    refine l_nil ?_
    exact f_owes_d (up_cons (up_cons rfl hs12) hs66) rfl (perm_front 0 rfl)
  · rintro f M ⟨k0, k1, k2, -⟩ -
    have hs68 : f 68 = .agg (aC a) := k0
    have hs69 : f 69 = .agg (aC b) := k1
    have hs66 : f 66 = .bool false := k2
    refine ob_start (L' := M) (by rfl) (up_cons (up_cons (up_cons rfl hs68) hs69) hs66) ?_
    refine g_call rfl rfl rfl rfl rfl (cl_value (fst := []) (cap := []) (vs := [.agg (aC a), .agg (aC b)]) (all := [.agg (aC a), .agg (aC b)]) tf100 rfl rfl rfl) ?_
    intro w hw
    obtain ⟨β1, sb, kn, hw1, back⟩ := St.frame_all hw
    refine (touch_ok β1 w hw1 a b).mono ?_
    rintro e w' ⟨rfl, hw'⟩
    refine ⟨_, rfl, _, back _ _ hw', ?_⟩
    clear hw hw1 hw' back kn sb
    refine l_nil ?_
    exact f_owes_d (up_cons (up_cons (up_cons rfl hs68) hs69) hs66) rfl (List.Perm.refl _)
  · rintro f M ⟨k0, k1, k2, -⟩ -
    have hs67 : f 67 = .bool (decide (meetA a b)) := k0
    have hs70 : f 70 = .bool (decide (touchA a b)) := k1
    have hs66 : f 66 = .bool false := k2
    refine ob_start (L' := M) (by rfl) (up_cons (up_cons (up_cons rfl hs67) hs70) hs66) ?_
    refine g_val (v := .bool false) rfl rfl rfl rfl rfl ((ev_b (c := false) (show (!((decide (meetA a b)) == (decide (touchA a b)))) = false from (by simp [meet_touch oka okb])) (e_neq_b (a := decide (meetA a b)) (b := decide (touchA a b)) rfl rfl tf99))) ?_
    refine l_nil ?_
    exact f_owes_d (up_cons (up_cons (up_cons rfl hs67) hs70) hs66) rfl (List.Perm.refl _)
  · rintro f M ⟨k0, k1, -⟩ -
    have hs66 : f 66 = .bool false := k0
    have hs71 : f 71 = .bool false := k1
    refine ob_start (L' := M) (by rfl) (up_cons (up_cons rfl hs66) hs71) ?_
    refine l_val (v := .bool false) rfl rfl rfl (e_pick_f rfl) ?_
    refine l_nil ?_
    exact f_owes_d (up_cons (up_cons rfl hs66) hs71) rfl (List.Perm.refl _)
  · rintro f M ⟨k0, -⟩ -
    have hs72 : f 72 = .bool false := k0
    refine ob_start (L' := M) (by rfl) (up_cons rfl hs72) ?_
    refine l_val (v := .bool false) rfl rfl rfl (e_move) ?_
    refine l_nil ?_
    exact f_owes_d (up_cons rfl hs72) rfl (List.Perm.refl _)
  · rintro f M ⟨k0, -⟩ ⟨i0, -⟩
    have hs18 : f 18 = .pointer (some ⟨b13, 0, none⟩) := i0
    have hs73 : f 73 = .bool false := k0
    refine ob_start (L' := pt b13 (.cells (aC (joinR a b)) 25) :: M) (by rfl) (up_cons (up_cons rfl hs18) hs73) ?_
    refine g_val (v := .agg (aC (joinR a b))) rfl rfl rfl rfl rfl (e_load tf10 (cs := (areaE (joinR a b))) rfl (k_pt 0 (cs := (aC (joinR a b))) (vs := (areaE (joinR a b))) rfl rfl) rfl) ?_
    refine l_nil ?_
    exact f_owes_d (up_cons (up_cons rfl hs18) hs73) rfl (perm_front 0 rfl)
  · rintro f M ⟨k0, -⟩ ⟨i0, -⟩
    have hs12 : f 12 = .pointer (some ⟨(blk (fa10 12)), 0, none⟩) := i0
    have hs73 : f 73 = .bool false := k0
    refine ob_start (L' := pt (blk (fa10 12)) (.cells (aC b) 25) :: M) (by rfl) (up_cons (up_cons rfl hs12) hs73) ?_
    refine g_val (v := .agg (aC b)) rfl rfl rfl rfl rfl (e_load tf10 (cs := (areaE b)) rfl (k_pt 0 (cs := (aC b)) (vs := (areaE b)) rfl rfl) rfl) ?_
    refine l_nil ?_
    exact f_owes_d (up_cons (up_cons rfl hs12) hs73) rfl (perm_front 0 rfl)
  · rintro f M ⟨k0, -⟩ ⟨i0, -⟩
    have hs11 : f 11 = .pointer (some ⟨(blk (fa10 11)), 0, none⟩) := i0
    have hs73 : f 73 = .bool false := k0
    refine ob_start (L' := pt (blk (fa10 11)) (.cells (aC a) 25) :: M) (by rfl) (up_cons (up_cons rfl hs11) hs73) ?_
    refine g_val (v := .agg (aC a)) rfl rfl rfl rfl rfl (e_load tf10 (cs := (areaE a)) rfl (k_pt 0 (cs := (aC a)) (vs := (areaE a)) rfl rfl) rfl) ?_
    refine l_nil ?_
    exact f_owes_d (up_cons (up_cons rfl hs11) hs73) rfl (perm_front 0 rfl)
  · rintro f M ⟨k0, k1, k2, -⟩ -
    have hs75 : f 75 = .agg (aC b) := k0
    have hs76 : f 76 = .agg (aC a) := k1
    have hs73 : f 73 = .bool false := k2
    refine ob_start (L' := M) (by rfl) (up_cons (up_cons (up_cons rfl hs75) hs76) hs73) ?_
    refine g_call rfl rfl rfl rfl rfl (cl_value (fst := []) (cap := []) (vs := [.agg (aC b), .agg (aC a)]) (all := [.agg (aC b), .agg (aC a)]) tf82 rfl rfl rfl) ?_
    intro w hw
    obtain ⟨β1, sb, kn, hw1, back⟩ := St.frame_all hw
    refine (join_ok β1 w hw1 b a).mono ?_
    rintro e w' ⟨rfl, hw'⟩
    refine ⟨_, rfl, _, back _ _ hw', ?_⟩
    clear hw hw1 hw' back kn sb
    refine l_nil ?_
    exact f_owes_d (up_cons (up_cons (up_cons rfl hs75) hs76) hs73) rfl (List.Perm.refl _)
  · rintro f M ⟨k0, k1, k2, -⟩ -
    have hs74 : f 74 = .agg (aC (joinR a b)) := k0
    have hs77 : f 77 = .agg (aC (joinR b a)) := k1
    have hs73 : f 73 = .bool false := k2
    refine ob_start (L' := M) (by rfl) (up_cons (up_cons (up_cons rfl hs74) hs77) hs73) ?_
    refine g_val (v := .bool false) rfl rfl rfl rfl rfl ((ev_f (fun q => q (join_comm a b)) (e_neq_t (xs := areaE (joinR a b)) (ys := areaE (joinR b a)) tf79 tf80 tf81 rfl rfl rfl rfl (not_congr (area_eq (x := (joinR a b)) (y := (joinR b a))))))) ?_
    refine l_nil ?_
    exact f_owes_d (up_cons (up_cons (up_cons rfl hs74) hs77) hs73) rfl (List.Perm.refl _)
  · rintro f M ⟨k0, k1, -⟩ -
    have hs73 : f 73 = .bool false := k0
    have hs78 : f 78 = .bool false := k1
    refine ob_start (L' := M) (by rfl) (up_cons (up_cons rfl hs73) hs78) ?_
    refine l_val (v := .bool false) rfl rfl rfl (e_pick_f rfl) ?_
    refine l_nil ?_
    exact f_owes_d (up_cons (up_cons rfl hs73) hs78) rfl (List.Perm.refl _)
  · rintro f M ⟨k0, -⟩ -
    have hs79 : f 79 = .bool false := k0
    refine ob_start (L' := M) (by rfl) (up_cons rfl hs79) ?_
    refine l_val (v := .bool false) rfl rfl rfl (e_move) ?_
    refine l_nil ?_
    exact f_owes_d (up_cons rfl hs79) rfl (List.Perm.refl _)
  · rintro f M ⟨k0, -⟩ ⟨i0, -⟩
    have hs19 : f 19 = .pointer (some ⟨b14, 0, none⟩) := i0
    have hs80 : f 80 = .bool false := k0
    refine ob_start (L' := pt b14 (.cells (aC (comR a (joinR a b))) 25) :: M) (by rfl) (up_cons (up_cons rfl hs19) hs80) ?_
    refine g_val (v := .agg (aC (comR a (joinR a b)))) rfl rfl rfl rfl rfl (e_load tf10 (cs := (areaE (comR a (joinR a b)))) rfl (k_pt 0 (cs := (aC (comR a (joinR a b)))) (vs := (areaE (comR a (joinR a b)))) rfl rfl) rfl) ?_
    refine l_nil ?_
    exact f_owes_d (up_cons (up_cons rfl hs19) hs80) rfl (perm_front 0 rfl)
  · rintro f M ⟨k0, -⟩ ⟨i0, -⟩
    have hs11 : f 11 = .pointer (some ⟨(blk (fa10 11)), 0, none⟩) := i0
    have hs80 : f 80 = .bool false := k0
    refine ob_start (L' := pt (blk (fa10 11)) (.cells (aC a) 25) :: M) (by rfl) (up_cons (up_cons rfl hs11) hs80) ?_
    refine g_val (v := .agg (aC a)) rfl rfl rfl rfl rfl (e_load tf10 (cs := (areaE a)) rfl (k_pt 0 (cs := (aC a)) (vs := (areaE a)) rfl rfl) rfl) ?_
    refine l_nil ?_
    exact f_owes_d (up_cons (up_cons rfl hs11) hs80) rfl (perm_front 0 rfl)
  · rintro f M ⟨k0, k1, k2, -⟩ -
    have hs81 : f 81 = .agg (aC (comR a (joinR a b))) := k0
    have hs82 : f 82 = .agg (aC a) := k1
    have hs80 : f 80 = .bool false := k2
    refine ob_start (L' := M) (by rfl) (up_cons (up_cons (up_cons rfl hs81) hs82) hs80) ?_
    refine g_val (v := .bool false) rfl rfl rfl rfl rfl ((ev_f (fun q => q (com_own oka okb)) (e_neq_t (xs := areaE (comR a (joinR a b))) (ys := areaE a) tf79 tf80 tf81 rfl rfl rfl rfl (not_congr (area_eq (x := (comR a (joinR a b))) (y := a)))))) ?_
    refine l_nil ?_
    exact f_owes_d (up_cons (up_cons (up_cons rfl hs81) hs82) hs80) rfl (List.Perm.refl _)
  · rintro f M ⟨k0, k1, -⟩ -
    have hs80 : f 80 = .bool false := k0
    have hs83 : f 83 = .bool false := k1
    refine ob_start (L' := M) (by rfl) (up_cons (up_cons rfl hs80) hs83) ?_
    refine l_val (v := .bool false) rfl rfl rfl (e_pick_f rfl) ?_
    refine l_nil ?_
    exact f_owes_d (up_cons (up_cons rfl hs80) hs83) rfl (List.Perm.refl _)
  · rintro f M ⟨k0, -⟩ -
    have hs84 : f 84 = .bool false := k0
    refine ob_start (L' := M) (by rfl) (up_cons rfl hs84) ?_
    refine l_val (v := .bool false) rfl rfl rfl (e_move) ?_
    refine l_nil ?_
    exact f_owes_d (up_cons rfl hs84) rfl (List.Perm.refl _)
  · rintro f M ⟨k0, -⟩ ⟨i0, -⟩
    have hs20 : f 20 = .bool (decide (meetA a (joinR a b))) := i0
    have hs85 : f 85 = .bool false := k0
    refine ob_start (L' := M) (by rfl) (up_cons (up_cons rfl hs20) hs85) ?_
    refine g_val (v := .bool true) rfl rfl rfl rfl rfl ((ev_t (meet_own oka okb) (e_move))) ?_
    refine l_nil ?_
    exact f_owes_d (up_cons (up_cons rfl hs20) hs85) rfl (List.Perm.refl _)
  · rintro f M ⟨k0, k1, -⟩ -
    have hs86 : f 86 = .bool true := k0
    have hs85 : f 85 = .bool false := k1
    refine ob_start (L' := M) (by rfl) (up_cons (up_cons rfl hs86) hs85) ?_
    refine g_val (v := .bool false) rfl rfl rfl rfl rfl (e_not (a := true) rfl) ?_
    refine l_nil ?_
    exact f_owes_d (up_cons (up_cons rfl hs86) hs85) rfl (List.Perm.refl _)
  · rintro f M ⟨k0, k1, -⟩ -
    have hs85 : f 85 = .bool false := k0
    have hs87 : f 87 = .bool false := k1
    refine ob_start (L' := M) (by rfl) (up_cons (up_cons rfl hs85) hs87) ?_
    refine l_val (v := .bool false) rfl rfl rfl (e_pick_f rfl) ?_
    refine l_nil ?_
    exact f_owes_d (up_cons (up_cons rfl hs85) hs87) rfl (List.Perm.refl _)
  · rintro f M ⟨k0, -⟩ -
    have hs88 : f 88 = .bool false := k0
    refine ob_start (L' := M) (by rfl) (up_cons rfl hs88) ?_
    refine l_val (v := .bool false) rfl rfl rfl (e_move) ?_
    refine l_nil ?_
    exact f_owes_d (up_cons rfl hs88) rfl (List.Perm.refl _)
  · rintro f M ⟨k0, -⟩ ⟨i0, -⟩
    have hs18 : f 18 = .pointer (some ⟨b13, 0, none⟩) := i0
    have hs89 : f 89 = .bool false := k0
    refine ob_start (L' := pt b13 (.cells (aC (joinR a b)) 25) :: M) (by rfl) (up_cons (up_cons rfl hs18) hs89) ?_
    refine g_val (v := .agg (aC (joinR a b))) rfl rfl rfl rfl rfl (e_load tf10 (cs := (areaE (joinR a b))) rfl (k_pt 0 (cs := (aC (joinR a b))) (vs := (areaE (joinR a b))) rfl rfl) rfl) ?_
    refine l_nil ?_
    exact f_owes_d (up_cons (up_cons rfl hs18) hs89) rfl (perm_front 0 rfl)
  · rintro f M ⟨k0, -⟩ ⟨i0, -⟩
    have hs13 : f 13 = .pointer (some ⟨(blk (fa10 13)), 0, none⟩) := i0
    have hs89 : f 89 = .bool false := k0
    refine ob_start (L' := pt (blk (fa10 13)) (.cells (aC c) 25) :: M) (by rfl) (up_cons (up_cons rfl hs13) hs89) ?_
    refine g_val (v := .agg (aC c)) rfl rfl rfl rfl rfl (e_load tf10 (cs := (areaE c)) rfl (k_pt 0 (cs := (aC c)) (vs := (areaE c)) rfl rfl) rfl) ?_
    refine l_nil ?_
    exact f_owes_d (up_cons (up_cons rfl hs13) hs89) rfl (perm_front 0 rfl)
  · rintro f M ⟨k0, k1, k2, -⟩ -
    have hs90 : f 90 = .agg (aC (joinR a b)) := k0
    have hs91 : f 91 = .agg (aC c) := k1
    have hs89 : f 89 = .bool false := k2
    refine ob_start (L' := M) (by rfl) (up_cons (up_cons (up_cons rfl hs90) hs91) hs89) ?_
    refine g_call rfl rfl rfl rfl rfl (cl_value (fst := []) (cap := []) (vs := [.agg (aC (joinR a b)), .agg (aC c)]) (all := [.agg (aC (joinR a b)), .agg (aC c)]) tf82 rfl rfl rfl) ?_
    intro w hw
    obtain ⟨β1, sb, kn, hw1, back⟩ := St.frame_all hw
    refine (join_ok β1 w hw1 (joinR a b) c).mono ?_
    rintro e w' ⟨rfl, hw'⟩
    refine ⟨_, rfl, _, back _ _ hw', ?_⟩
    clear hw hw1 hw' back kn sb
    refine l_nil ?_
    exact f_owes_d (up_cons (up_cons (up_cons rfl hs90) hs91) hs89) rfl (List.Perm.refl _)
  · rintro f M ⟨k0, -⟩ ⟨i0, -⟩
    have hs11 : f 11 = .pointer (some ⟨(blk (fa10 11)), 0, none⟩) := i0
    have hs89 : f 89 = .bool false := k0
    refine ob_start (L' := pt (blk (fa10 11)) (.cells (aC a) 25) :: M) (by rfl) (up_cons (up_cons rfl hs11) hs89) ?_
    refine g_val (v := .agg (aC a)) rfl rfl rfl rfl rfl (e_load tf10 (cs := (areaE a)) rfl (k_pt 0 (cs := (aC a)) (vs := (areaE a)) rfl rfl) rfl) ?_
    refine l_nil ?_
    exact f_owes_d (up_cons (up_cons rfl hs11) hs89) rfl (perm_front 0 rfl)
  · rintro f M ⟨k0, -⟩ ⟨i0, -⟩
    have hs12 : f 12 = .pointer (some ⟨(blk (fa10 12)), 0, none⟩) := i0
    have hs89 : f 89 = .bool false := k0
    refine ob_start (L' := pt (blk (fa10 12)) (.cells (aC b) 25) :: M) (by rfl) (up_cons (up_cons rfl hs12) hs89) ?_
    refine g_val (v := .agg (aC b)) rfl rfl rfl rfl rfl (e_load tf10 (cs := (areaE b)) rfl (k_pt 0 (cs := (aC b)) (vs := (areaE b)) rfl rfl) rfl) ?_
    refine l_nil ?_
    exact f_owes_d (up_cons (up_cons rfl hs12) hs89) rfl (perm_front 0 rfl)
  · rintro f M ⟨k0, -⟩ ⟨i0, -⟩
    have hs13 : f 13 = .pointer (some ⟨(blk (fa10 13)), 0, none⟩) := i0
    have hs89 : f 89 = .bool false := k0
    refine ob_start (L' := pt (blk (fa10 13)) (.cells (aC c) 25) :: M) (by rfl) (up_cons (up_cons rfl hs13) hs89) ?_
    refine g_val (v := .agg (aC c)) rfl rfl rfl rfl rfl (e_load tf10 (cs := (areaE c)) rfl (k_pt 0 (cs := (aC c)) (vs := (areaE c)) rfl rfl) rfl) ?_
    refine l_nil ?_
    exact f_owes_d (up_cons (up_cons rfl hs13) hs89) rfl (perm_front 0 rfl)
  · rintro f M ⟨k0, k1, k2, -⟩ -
    have hs94 : f 94 = .agg (aC b) := k0
    have hs95 : f 95 = .agg (aC c) := k1
    have hs89 : f 89 = .bool false := k2
    refine ob_start (L' := M) (by rfl) (up_cons (up_cons (up_cons rfl hs94) hs95) hs89) ?_
    refine g_call rfl rfl rfl rfl rfl (cl_value (fst := []) (cap := []) (vs := [.agg (aC b), .agg (aC c)]) (all := [.agg (aC b), .agg (aC c)]) tf82 rfl rfl rfl) ?_
    intro w hw
    obtain ⟨β1, sb, kn, hw1, back⟩ := St.frame_all hw
    refine (join_ok β1 w hw1 b c).mono ?_
    rintro e w' ⟨rfl, hw'⟩
    refine ⟨_, rfl, _, back _ _ hw', ?_⟩
    clear hw hw1 hw' back kn sb
    refine l_nil ?_
    exact f_owes_d (up_cons (up_cons (up_cons rfl hs94) hs95) hs89) rfl (List.Perm.refl _)
  · rintro f M ⟨k0, k1, k2, -⟩ -
    have hs93 : f 93 = .agg (aC a) := k0
    have hs96 : f 96 = .agg (aC (joinR b c)) := k1
    have hs89 : f 89 = .bool false := k2
    refine ob_start (L' := M) (by rfl) (up_cons (up_cons (up_cons rfl hs93) hs96) hs89) ?_
    refine g_call rfl rfl rfl rfl rfl (cl_value (fst := []) (cap := []) (vs := [.agg (aC a), .agg (aC (joinR b c))]) (all := [.agg (aC a), .agg (aC (joinR b c))]) tf82 rfl rfl rfl) ?_
    intro w hw
    obtain ⟨β1, sb, kn, hw1, back⟩ := St.frame_all hw
    refine (join_ok β1 w hw1 a (joinR b c)).mono ?_
    rintro e w' ⟨rfl, hw'⟩
    refine ⟨_, rfl, _, back _ _ hw', ?_⟩
    clear hw hw1 hw' back kn sb
    refine l_nil ?_
    exact f_owes_d (up_cons (up_cons (up_cons rfl hs93) hs96) hs89) rfl (List.Perm.refl _)
  · rintro f M ⟨k0, k1, k2, -⟩ -
    have hs92 : f 92 = .agg (aC (joinR (joinR a b) c)) := k0
    have hs97 : f 97 = .agg (aC (joinR a (joinR b c))) := k1
    have hs89 : f 89 = .bool false := k2
    refine ob_start (L' := M) (by rfl) (up_cons (up_cons (up_cons rfl hs92) hs97) hs89) ?_
    refine g_val (v := .bool false) rfl rfl rfl rfl rfl ((ev_f (fun q => q (join_assoc oka okb okc)) (e_neq_t (xs := areaE (joinR (joinR a b) c)) (ys := areaE (joinR a (joinR b c))) tf79 tf80 tf81 rfl rfl rfl rfl (not_congr (area_eq (x := (joinR (joinR a b) c)) (y := (joinR a (joinR b c)))))))) ?_
    refine l_nil ?_
    exact f_owes_d (up_cons (up_cons (up_cons rfl hs92) hs97) hs89) rfl (List.Perm.refl _)
  · rintro f M ⟨k0, k1, -⟩ -
    have hs89 : f 89 = .bool false := k0
    have hs98 : f 98 = .bool false := k1
    refine ob_start (L' := M) (by rfl) (up_cons (up_cons rfl hs89) hs98) ?_
    refine l_val (v := .bool false) rfl rfl rfl (e_pick_f rfl) ?_
    refine l_nil ?_
    exact f_owes_d (up_cons (up_cons rfl hs89) hs98) rfl (List.Perm.refl _)
  rintro fa15 ⟨-, -, -, -, -, -, -, -, -, -, -, -, -, -, -, -, -, -, -, -, -, -, -, -, -, -, -, -, -, -, -, -, -, -, -, -, -, -, -, -, -, k41, -⟩ ⟨j0, j1, j2, j3, j4, j5, j6, j7, -⟩
  refine f_re (L' := [pt b14 (.cells (aC (comR a (joinR a b))) 25), pt b13 (.cells (aC (joinR a b)) 25), pt b12 (.cells (aC (comR b a)) 25), pt b11 (.cells (aC (comR a b)) 25), pt b3 (.cells #[Bx (fc.x), Bx (fc.y), Bx (fc.w), Bx (fc.h)] 43), pt b2 (.cells #[Bx (fb.x), Bx (fb.y), Bx (fb.w), Bx (fb.h)] 43), pt b1 (.cells #[Bx (fa.x), Bx (fa.y), Bx (fa.w), Bx (fa.h)] 43), pt (blk (fa10 11)) (.cells (aC a) 25), pt (blk (fa10 12)) (.cells (aC b) 25), pt (blk (fa10 13)) (.cells (aC c) 25)]) (by rfl) ?_
  refine f_rebase (d := 3) (v := Ix (x)) j0 ?_
  refine f_rebase (d := 4) (v := Ix (y)) j1 ?_
  refine f_rebase (d := 11) (v := .pointer (some ⟨(blk (fa10 11)), 0, none⟩)) j2 ?_
  refine f_rebase (d := 12) (v := .pointer (some ⟨(blk (fa10 12)), 0, none⟩)) j3 ?_
  refine f_rebase (d := 13) (v := .pointer (some ⟨(blk (fa10 13)), 0, none⟩)) j4 ?_
  refine f_rebase (d := 14) (v := .pointer (some ⟨b11, 0, none⟩)) j5 ?_
  refine f_rebase (d := 15) (v := .bool (decide (meetA a b))) j6 ?_
  refine f_rebase (d := 18) (v := .pointer (some ⟨b13, 0, none⟩)) j7 ?_
  refine f_rebase (d := 99) (v := .bool false) k41 ?_
  refine f_then ?_
  refine c_no rfl ?_
  refine c_skip ?_
  refine f_then ?_
  refine c_seq ?_
  refine c_region ?_
  refine l_val (v := Ix (x)) rfl rfl rfl (e_move) ?_
  refine l_call rfl rfl rfl (cl_value (fst := []) (cap := []) (vs := [Ix (x), .int .i64 (801)]) (all := [Ix (x), .int .i64 (801)]) tf101 rfl rfl rfl) ?_
  intro w hw
  obtain ⟨β1, sb, kn, hw1, back⟩ := St.frame_all hw
  refine (pick_ok β1 w hw1 x).mono ?_
  rintro e w' ⟨_, rfl, rfl, hy17, hy18, hw'⟩
  refine ⟨_, rfl, _, back _ _ hw', ?_⟩
  clear hw hw1 hw' back kn sb
  refine l_val (v := Ix ((pickI x) - (400 : Int))) rfl rfl rfl (e_sub (a := (pickI x)) (b := (400 : Int)) rfl rfl (i64w (by omega))) ?_
  refine l_val (v := Ix (y)) rfl rfl rfl (e_move) ?_
  refine l_call rfl rfl rfl (cl_value (fst := []) (cap := []) (vs := [Ix (y), .int .i64 (801)]) (all := [Ix (y), .int .i64 (801)]) tf101 rfl rfl rfl) ?_
  intro w hw
  obtain ⟨β1, sb, kn, hw1, back⟩ := St.frame_all hw
  refine (pick_ok β1 w hw1 y).mono ?_
  rintro e w' ⟨_, rfl, rfl, hy20, hy21, hw'⟩
  refine ⟨_, rfl, _, back _ _ hw', ?_⟩
  clear hw hw1 hw' back kn sb
  refine l_val (v := Ix ((pickI y) - (400 : Int))) rfl rfl rfl (e_sub (a := (pickI y)) (b := (400 : Int)) rfl rfl (i64w (by omega))) ?_
  refine l_val (v := Ix (x)) rfl rfl rfl (e_move) ?_
  refine l_call rfl rfl rfl (cl_value (fst := []) (cap := []) (vs := [Ix (x), .int .i64 (801)]) (all := [Ix (x), .int .i64 (801)]) tf101 rfl rfl rfl) ?_
  intro w hw
  obtain ⟨β1, sb, kn, hw1, back⟩ := St.frame_all hw
  refine (pick_ok β1 w hw1 x).mono ?_
  rintro e w' ⟨_, rfl, rfl, -, -, hw'⟩
  refine ⟨_, rfl, _, back _ _ hw', ?_⟩
  clear hw hw1 hw' back kn sb
  refine l_val (v := Ix ((pickI x) - (400 : Int))) rfl rfl rfl (e_sub (a := (pickI x)) (b := (400 : Int)) rfl rfl (i64w (by omega))) ?_
  refine l_val (v := Ix (y)) rfl rfl rfl (e_move) ?_
  refine l_call rfl rfl rfl (cl_value (fst := []) (cap := []) (vs := [Ix (y), .int .i64 (801)]) (all := [Ix (y), .int .i64 (801)]) tf101 rfl rfl rfl) ?_
  intro w hw
  obtain ⟨β1, sb, kn, hw1, back⟩ := St.frame_all hw
  refine (pick_ok β1 w hw1 y).mono ?_
  rintro e w' ⟨_, rfl, rfl, -, -, hw'⟩
  refine ⟨_, rfl, _, back _ _ hw', ?_⟩
  clear hw hw1 hw' back kn sb
  refine l_val (v := Ix ((pickI y) - (400 : Int))) rfl rfl rfl (e_sub (a := (pickI y)) (b := (400 : Int)) rfl rfl (i64w (by omega))) ?_
  refine l_call rfl rfl rfl (cl_value (fst := []) (cap := []) (vs := [Ix ((pickI x) - (400 : Int)), Ix ((pickI y) - (400 : Int)), Ix ((pickI x) - (400 : Int)), Ix ((pickI y) - (400 : Int))]) (all := [Ix ((pickI x) - (400 : Int)), Ix ((pickI y) - (400 : Int)), Ix ((pickI x) - (400 : Int)), Ix ((pickI y) - (400 : Int))]) tf71 rfl rfl rfl) ?_
  intro w hw
  obtain ⟨β1, sb, kn, hw1, back⟩ := St.frame_all hw
  refine (area_ok β1 w hw1 ((pickI x) - (400 : Int)) ((pickI y) - (400 : Int)) ((pickI x) - (400 : Int)) ((pickI y) - (400 : Int))).mono ?_
  rintro e w' ⟨rfl, hw'⟩
  refine ⟨_, rfl, _, back _ _ hw', ?_⟩
  clear hw hw1 hw' back kn sb
  refine l_mv rfl rfl rfl (m_alloc tf6) ?_
  rintro _ _ ⟨b28, rfl, rfl⟩
  refine l_mu rfl rfl (m_store 0 tf10 (b := b28) (o := 0) (T := 25) (cs := #[.int .i64 (0), .int .i64 (0), .int .i64 (0), .int .i64 (0)]) (cs' := #[Ix ((pickI x) - (400 : Int)), Ix ((pickI y) - (400 : Int)), Ix ((pickI x) - (400 : Int)), Ix ((pickI y) - (400 : Int))]) (v := .agg #[Ix ((pickI x) - (400 : Int)), Ix ((pickI y) - (400 : Int)), Ix ((pickI x) - (400 : Int)), Ix ((pickI y) - (400 : Int))]) rfl rfl rfl rfl rfl rfl rfl) ?_
  refine l_nil ?_
  refine f_then ?_
  refine c_seq ?_
  refine c_region ?_
  refine l_val (v := .agg #[Ix ((pickI x) - (400 : Int)), Ix ((pickI y) - (400 : Int)), Ix ((pickI x) - (400 : Int)), Ix ((pickI y) - (400 : Int))]) rfl rfl rfl (e_load tf10 (cs := [Ix ((pickI x) - (400 : Int)), Ix ((pickI y) - (400 : Int)), Ix ((pickI x) - (400 : Int)), Ix ((pickI y) - (400 : Int))]) rfl (k_pt 0 (cs := #[Ix ((pickI x) - (400 : Int)), Ix ((pickI y) - (400 : Int)), Ix ((pickI x) - (400 : Int)), Ix ((pickI y) - (400 : Int))]) (vs := [Ix ((pickI x) - (400 : Int)), Ix ((pickI y) - (400 : Int)), Ix ((pickI x) - (400 : Int)), Ix ((pickI y) - (400 : Int))]) rfl rfl) rfl) ?_
  refine l_val (v := .agg (aC a)) rfl rfl rfl (e_load tf10 (cs := (areaE a)) rfl (k_pt 8 (cs := (aC a)) (vs := (areaE a)) rfl rfl) rfl) ?_
  refine l_call rfl rfl rfl (cl_value (fst := []) (cap := []) (vs := [.agg #[Ix ((pickI x) - (400 : Int)), Ix ((pickI y) - (400 : Int)), Ix ((pickI x) - (400 : Int)), Ix ((pickI y) - (400 : Int))], .agg (aC a)]) (all := [.agg #[Ix ((pickI x) - (400 : Int)), Ix ((pickI y) - (400 : Int)), Ix ((pickI x) - (400 : Int)), Ix ((pickI y) - (400 : Int))], .agg (aC a)]) tf13 rfl rfl rfl) ?_
  intro w hw
  obtain ⟨β1, sb, kn, hw1, back⟩ := St.frame_all hw
  refine (meet_ok β1 w hw1 (⟨(pickI x) - (400 : Int), (pickI y) - (400 : Int), (pickI x) - (400 : Int), (pickI y) - (400 : Int)⟩ : KA) a).mono ?_
  rintro e w' ⟨rfl, hw'⟩
  refine ⟨_, rfl, _, back _ _ hw', ?_⟩
  clear hw hw1 hw' back kn sb
  refine l_val (v := .bool (decide (meetA (⟨(pickI x) - (400 : Int), (pickI y) - (400 : Int), (pickI x) - (400 : Int), (pickI y) - (400 : Int)⟩ : KA) a))) rfl rfl rfl (e_move) ?_
  refine l_split (s := 116) (p := meetA (⟨(pickI x) - (400 : Int), (pickI y) - (400 : Int), (pickI x) - (400 : Int), (pickI y) - (400 : Int)⟩ : KA) a) rfl (fun hg29 => ?_) (fun hg29 => ?_)
  ·
    refine g_val (v := .agg #[Ix ((pickI x) - (400 : Int)), Ix ((pickI y) - (400 : Int)), Ix ((pickI x) - (400 : Int)), Ix ((pickI y) - (400 : Int))]) rfl rfl rfl rfl rfl (e_load tf10 (cs := [Ix ((pickI x) - (400 : Int)), Ix ((pickI y) - (400 : Int)), Ix ((pickI x) - (400 : Int)), Ix ((pickI y) - (400 : Int))]) rfl (k_pt 0 (cs := #[Ix ((pickI x) - (400 : Int)), Ix ((pickI y) - (400 : Int)), Ix ((pickI x) - (400 : Int)), Ix ((pickI y) - (400 : Int))]) (vs := [Ix ((pickI x) - (400 : Int)), Ix ((pickI y) - (400 : Int)), Ix ((pickI x) - (400 : Int)), Ix ((pickI y) - (400 : Int))]) rfl rfl) rfl) ?_
    refine g_val (v := .agg (aC b)) rfl rfl rfl rfl rfl (e_load tf10 (cs := (areaE b)) rfl (k_pt 9 (cs := (aC b)) (vs := (areaE b)) rfl rfl) rfl) ?_
    refine g_call rfl rfl rfl rfl rfl (cl_value (fst := []) (cap := []) (vs := [.agg #[Ix ((pickI x) - (400 : Int)), Ix ((pickI y) - (400 : Int)), Ix ((pickI x) - (400 : Int)), Ix ((pickI y) - (400 : Int))], .agg (aC b)]) (all := [.agg #[Ix ((pickI x) - (400 : Int)), Ix ((pickI y) - (400 : Int)), Ix ((pickI x) - (400 : Int)), Ix ((pickI y) - (400 : Int))], .agg (aC b)]) tf13 rfl rfl rfl) ?_
    intro w hw
    obtain ⟨β1, sb, kn, hw1, back⟩ := St.frame_all hw
    refine (meet_ok β1 w hw1 (⟨(pickI x) - (400 : Int), (pickI y) - (400 : Int), (pickI x) - (400 : Int), (pickI y) - (400 : Int)⟩ : KA) b).mono ?_
    rintro e w' ⟨rfl, hw'⟩
    refine ⟨_, rfl, _, back _ _ hw', ?_⟩
    clear hw hw1 hw' back kn sb
    refine l_val (v := .bool (decide (meetA (⟨(pickI x) - (400 : Int), (pickI y) - (400 : Int), (pickI x) - (400 : Int), (pickI y) - (400 : Int)⟩ : KA) b))) rfl rfl rfl (e_pick_t rfl) ?_
    refine l_val (v := .bool (decide (meetA (⟨(pickI x) - (400 : Int), (pickI y) - (400 : Int), (pickI x) - (400 : Int), (pickI y) - (400 : Int)⟩ : KA) b))) rfl rfl rfl (e_assign) ?_
    refine l_nil ?_
    refine f_then ?_
    refine c_seq ?_
    refine c_seq ?_
    refine c_region ?_
    refine l_val (v := .bool (decide (meetA a b))) rfl rfl rfl (e_move) ?_
    refine l_val (v := .bool (decide (¬ (meetA a b)))) rfl rfl rfl (e_not_p (p := meetA a b) rfl) ?_
    refine l_nil ?_
    refine f_then ?_
    refine c_if (¬ (meetA a b)) rfl (fun hc30 => ?_) (fun hc30 => ?_)
    ·
      refine c_seq ?_
      refine c_region ?_
      refine l_val (v := .agg (aC (comR a b))) rfl rfl rfl (e_load tf10 (cs := (areaE (comR a b))) rfl (k_pt 4 (cs := (aC (comR a b))) (vs := (areaE (comR a b))) rfl rfl) rfl) ?_
      refine l_val (v := .agg #[.int .i64 (0), .int .i64 (0), .int .i64 (0), .int .i64 (0)]) rfl rfl rfl (e_build tf6 tf9 (vs := []) (cells := #[.int .i64 (0), .int .i64 (0), .int .i64 (0), .int .i64 (0)]) rfl rfl) ?_
      refine l_val (v := .bool (decide ((comR a b) = (⟨0, 0, 0, 0⟩ : KA)))) rfl rfl rfl (e_eql_t (xs := areaE (comR a b)) (ys := areaE (⟨0, 0, 0, 0⟩ : KA)) tf79 tf80 tf81 rfl rfl rfl rfl (area_eq (x := (comR a b)) (y := (⟨0, 0, 0, 0⟩ : KA)))) ?_
      refine l_val (v := .bool (decide ((comR a b) = (⟨0, 0, 0, 0⟩ : KA)))) rfl rfl rfl (e_move) ?_
      refine l_split (s := 126) (p := (comR a b) = (⟨0, 0, 0, 0⟩ : KA)) rfl (fun h => ?_) (fun h => ?_)
      rotate_left; exact absurd (comR_no hc30) h
      refine g_val (v := .bool (decide (meetA (⟨(pickI x) - (400 : Int), (pickI y) - (400 : Int), (pickI x) - (400 : Int), (pickI y) - (400 : Int)⟩ : KA) b))) rfl rfl rfl rfl rfl (e_move) ?_
      refine g_val (v := .bool (decide (¬ (meetA (⟨(pickI x) - (400 : Int), (pickI y) - (400 : Int), (pickI x) - (400 : Int), (pickI y) - (400 : Int)⟩ : KA) b)))) rfl rfl rfl rfl rfl (e_not_p (p := meetA (⟨(pickI x) - (400 : Int), (pickI y) - (400 : Int), (pickI x) - (400 : Int), (pickI y) - (400 : Int)⟩ : KA) b) rfl) ?_
      refine l_val (v := .bool (decide (¬ (meetA (⟨(pickI x) - (400 : Int), (pickI y) - (400 : Int), (pickI x) - (400 : Int), (pickI y) - (400 : Int)⟩ : KA) b)))) rfl rfl rfl (e_pick_t rfl) ?_
      refine l_val (v := .bool (decide (¬ (meetA (⟨(pickI x) - (400 : Int), (pickI y) - (400 : Int), (pickI x) - (400 : Int), (pickI y) - (400 : Int)⟩ : KA) b)))) rfl rfl rfl (e_assign) ?_
      refine l_nil ?_
      refine f_then ?_
      refine c_ret ?_
      refine f_then_ret ?_
      refine ret1 Try.results6 (v := .bool (decide (¬ (meetA (⟨(pickI x) - (400 : Int), (pickI y) - (400 : Int), (pickI x) - (400 : Int), (pickI y) - (400 : Int)⟩ : KA) b)))) rfl ?_
      intro w hw
      exact ⟨congrArg (fun b : Bool => Ending.returned (.bool b)) (decide_eq_true ((fun q => pt_two hc30 ⟨hg29, q⟩))), st_mask [false, false, false, false, false, false, false, false, false, false, false] rfl hw⟩
    ·
      refine c_skip ?_
      refine f_then ?_
      refine c_seq ?_
      refine c_region ?_
      refine l_val (v := .agg (aC (comR a b))) rfl rfl rfl (e_load tf10 (cs := (areaE (comR a b))) rfl (k_pt 4 (cs := (aC (comR a b))) (vs := (areaE (comR a b))) rfl rfl) rfl) ?_
      refine l_val (v := .agg (aC c)) rfl rfl rfl (e_load tf10 (cs := (areaE c)) rfl (k_pt 10 (cs := (aC c)) (vs := (areaE c)) rfl rfl) rfl) ?_
      refine l_call rfl rfl rfl (cl_value (fst := []) (cap := []) (vs := [.agg (aC (comR a b)), .agg (aC c)]) (all := [.agg (aC (comR a b)), .agg (aC c)]) tf78 rfl rfl rfl) ?_
      intro w hw
      obtain ⟨β1, sb, kn, hw1, back⟩ := St.frame_all hw
      refine (commonR_ok β1 w hw1 (comR a b) c).mono ?_
      rintro e w' ⟨rfl, hw'⟩
      refine ⟨_, rfl, _, back _ _ hw', ?_⟩
      clear hw hw1 hw' back kn sb
      refine l_val (v := .tuple #[.agg (aC (comR (comR a b) c)), .bool (decide (meetA (comR a b) c))]) rfl rfl rfl (e_move) ?_
      refine l_val (v := .agg (aC (comR (comR a b) c))) rfl rfl rfl (e_extract (vs := #[.agg (aC (comR (comR a b) c)), .bool (decide (meetA (comR a b) c))]) rfl rfl) ?_
      refine l_val (v := .bool (decide (meetA (comR a b) c))) rfl rfl rfl (e_extract (vs := #[.agg (aC (comR (comR a b) c)), .bool (decide (meetA (comR a b) c))]) rfl rfl) ?_
      refine l_mv rfl rfl rfl (m_alloc tf6) ?_
      rintro _ _ ⟨b31, rfl, rfl⟩
      refine l_mu rfl rfl (m_store 0 tf10 (b := b31) (o := 0) (T := 25) (cs := #[.int .i64 (0), .int .i64 (0), .int .i64 (0), .int .i64 (0)]) (cs' := (aC (comR (comR a b) c))) (v := .agg (aC (comR (comR a b) c))) rfl rfl rfl rfl rfl rfl rfl) ?_
      refine l_val (v := .bool (decide (meetA (comR a b) c))) rfl rfl rfl (e_assign) ?_
      refine l_nil ?_
      refine f_then ?_
      refine c_seq ?_
      refine c_region ?_
      refine l_val (v := .agg (aC b)) rfl rfl rfl (e_load tf10 (cs := (areaE b)) rfl (k_pt 10 (cs := (aC b)) (vs := (areaE b)) rfl rfl) rfl) ?_
      refine l_val (v := .agg (aC c)) rfl rfl rfl (e_load tf10 (cs := (areaE c)) rfl (k_pt 11 (cs := (aC c)) (vs := (areaE c)) rfl rfl) rfl) ?_
      refine l_call rfl rfl rfl (cl_value (fst := []) (cap := []) (vs := [.agg (aC b), .agg (aC c)]) (all := [.agg (aC b), .agg (aC c)]) tf78 rfl rfl rfl) ?_
      intro w hw
      obtain ⟨β1, sb, kn, hw1, back⟩ := St.frame_all hw
      refine (commonR_ok β1 w hw1 b c).mono ?_
      rintro e w' ⟨rfl, hw'⟩
      refine ⟨_, rfl, _, back _ _ hw', ?_⟩
      clear hw hw1 hw' back kn sb
      refine l_val (v := .tuple #[.agg (aC (comR b c)), .bool (decide (meetA b c))]) rfl rfl rfl (e_move) ?_
      refine l_val (v := .agg (aC (comR b c))) rfl rfl rfl (e_extract (vs := #[.agg (aC (comR b c)), .bool (decide (meetA b c))]) rfl rfl) ?_
      refine l_val (v := .bool (decide (meetA b c))) rfl rfl rfl (e_extract (vs := #[.agg (aC (comR b c)), .bool (decide (meetA b c))]) rfl rfl) ?_
      refine l_mv rfl rfl rfl (m_alloc tf6) ?_
      rintro _ _ ⟨b32, rfl, rfl⟩
      refine l_mu rfl rfl (m_store 0 tf10 (b := b32) (o := 0) (T := 25) (cs := #[.int .i64 (0), .int .i64 (0), .int .i64 (0), .int .i64 (0)]) (cs' := (aC (comR b c))) (v := .agg (aC (comR b c))) rfl rfl rfl rfl rfl rfl rfl) ?_
      refine l_val (v := .bool (decide (meetA b c))) rfl rfl rfl (e_assign) ?_
      refine l_nil ?_
      refine f_then ?_
      refine c_seq ?_
      refine c_region ?_
      refine l_val (v := .agg (aC a)) rfl rfl rfl (e_load tf10 (cs := (areaE a)) rfl (k_pt 10 (cs := (aC a)) (vs := (areaE a)) rfl rfl) rfl) ?_
      refine l_val (v := .agg (aC (comR b c))) rfl rfl rfl (e_load tf10 (cs := (areaE (comR b c))) rfl (k_pt 0 (cs := (aC (comR b c))) (vs := (areaE (comR b c))) rfl rfl) rfl) ?_
      refine l_call rfl rfl rfl (cl_value (fst := []) (cap := []) (vs := [.agg (aC a), .agg (aC (comR b c))]) (all := [.agg (aC a), .agg (aC (comR b c))]) tf78 rfl rfl rfl) ?_
      intro w hw
      obtain ⟨β1, sb, kn, hw1, back⟩ := St.frame_all hw
      refine (commonR_ok β1 w hw1 a (comR b c)).mono ?_
      rintro e w' ⟨rfl, hw'⟩
      refine ⟨_, rfl, _, back _ _ hw', ?_⟩
      clear hw hw1 hw' back kn sb
      refine l_val (v := .tuple #[.agg (aC (comR a (comR b c))), .bool (decide (meetA a (comR b c)))]) rfl rfl rfl (e_move) ?_
      refine l_val (v := .agg (aC (comR a (comR b c)))) rfl rfl rfl (e_extract (vs := #[.agg (aC (comR a (comR b c))), .bool (decide (meetA a (comR b c)))]) rfl rfl) ?_
      refine l_val (v := .bool (decide (meetA a (comR b c)))) rfl rfl rfl (e_extract (vs := #[.agg (aC (comR a (comR b c))), .bool (decide (meetA a (comR b c)))]) rfl rfl) ?_
      refine l_mv rfl rfl rfl (m_alloc tf6) ?_
      rintro _ _ ⟨b33, rfl, rfl⟩
      refine l_mu rfl rfl (m_store 0 tf10 (b := b33) (o := 0) (T := 25) (cs := #[.int .i64 (0), .int .i64 (0), .int .i64 (0), .int .i64 (0)]) (cs' := (aC (comR a (comR b c)))) (v := .agg (aC (comR a (comR b c)))) rfl rfl rfl rfl rfl rfl rfl) ?_
      refine l_val (v := .bool (decide (meetA a (comR b c)))) rfl rfl rfl (e_assign) ?_
      refine l_nil ?_
      refine f_then ?_
      refine c_seq ?_
      refine c_seq ?_
      refine c_quiet (by kernel_rfl) (by kernel_rfl) ?_
      refine q_val (v := .bool (decide (meetA (comR a b) c))) rfl rfl rfl (e_move) ?_
      refine q_val (v := .bool (decide (meetA b c))) rfl rfl rfl (e_move) ?_
      refine q_val (v := .bool (decide (meetA b c))) rfl rfl rfl (e_move) ?_
      refine q_split (s := 150) (p := meetA b c) rfl (fun hg34 => ?_) (fun hg34 => ?_)
      ·
        refine qg_val (v := .bool (decide (meetA a (comR b c)))) rfl rfl rfl rfl rfl (e_move) ?_
        refine q_val (v := .bool (decide (meetA a (comR b c)))) rfl rfl rfl (e_pick_t rfl) ?_
        refine q_val (v := .bool (!((decide (meetA (comR a b) c)) == (decide (meetA a (comR b c)))))) rfl rfl rfl (e_neq_b (a := decide (meetA (comR a b) c)) (b := decide (meetA a (comR b c))) rfl rfl tf99) ?_
        refine q_val (v := .bool (!((decide (meetA (comR a b) c)) == (decide (meetA a (comR b c)))))) rfl rfl rfl (e_move) ?_
        refine q_splitb (s := 154) (b := !((decide (meetA (comR a b) c)) == (decide (meetA a (comR b c))))) rfl (fun h => ?_) (fun h => ?_)
        (rw [(show (!((decide (meetA (comR a b) c)) == (decide (meetA a (comR b c))))) = false from (by simp [com_one (Decidable.not_not.1 hc30) okc, hg34]))] at h; cases h)
        refine qg_val (v := .bool (decide (meetA (comR a b) c))) rfl rfl rfl rfl rfl (e_move) ?_
        refine qg_val (v := .bool (decide (meetA (comR a b) c))) rfl rfl rfl rfl rfl (e_move) ?_
        refine q_split (s := 156) (p := meetA (comR a b) c) rfl (fun hg35 => ?_) (fun hg35 => ?_)
        ·
          refine qg_val (v := .agg (aC (comR (comR a b) c))) rfl rfl rfl rfl rfl (e_load tf10 (cs := (areaE (comR (comR a b) c))) rfl (k_pt 2 (cs := (aC (comR (comR a b) c))) (vs := (areaE (comR (comR a b) c))) rfl rfl) rfl) ?_
          refine qg_val (v := .agg (aC (comR a (comR b c)))) rfl rfl rfl rfl rfl (e_load tf10 (cs := (areaE (comR a (comR b c)))) rfl (k_pt 0 (cs := (aC (comR a (comR b c)))) (vs := (areaE (comR a (comR b c)))) rfl rfl) rfl) ?_
          refine qg_val (v := .bool (decide (¬ ((comR (comR a b) c) = (comR a (comR b c)))))) rfl rfl rfl rfl rfl (e_neq_t (xs := areaE (comR (comR a b) c)) (ys := areaE (comR a (comR b c))) tf79 tf80 tf81 rfl rfl rfl rfl (not_congr (area_eq (x := (comR (comR a b) c)) (y := (comR a (comR b c)))))) ?_
          refine qg_val (v := .bool (decide (¬ ((comR (comR a b) c) = (comR a (comR b c)))))) rfl rfl rfl rfl rfl (e_pick_t rfl) ?_
          refine q_val (v := .bool (decide (¬ ((comR (comR a b) c) = (comR a (comR b c)))))) rfl rfl rfl (e_pick_f rfl) ?_
          refine q_val (v := .bool (decide (¬ ((comR (comR a b) c) = (comR a (comR b c)))))) rfl rfl rfl (e_move) ?_
          refine q_split (s := 162) (p := ¬ ((comR (comR a b) c) = (comR a (comR b c)))) rfl (fun h => ?_) (fun h => ?_)
          exact absurd h (fun q => q (com_assoc (Decidable.not_not.1 hc30) okc hg35))
          refine qg_val (v := .agg (aC a)) rfl rfl rfl rfl rfl (e_load tf10 (cs := (areaE a)) rfl (k_pt 11 (cs := (aC a)) (vs := (areaE a)) rfl rfl) rfl) ?_
          refine qg_val (v := .agg (aC (comR a b))) rfl rfl rfl rfl rfl (e_load tf10 (cs := (areaE (comR a b))) rfl (k_pt 7 (cs := (aC (comR a b))) (vs := (areaE (comR a b))) rfl rfl) rfl) ?_
          refine qg_call (v := .agg (aC (joinR a (comR a b)))) rfl rfl rfl rfl rfl (cl_value (fst := []) (cap := []) (vs := [.agg (aC a), .agg (aC (comR a b))]) (all := [.agg (aC a), .agg (aC (comR a b))]) tf82 rfl rfl rfl) (fun w hw => ?_) ?_
          · obtain ⟨β1, sb, kn, hw1, back⟩ := St.frame_all hw
            exact (join_ok β1 w hw1 a (comR a b)).mono (fun e w' ⟨he, hw'⟩ => ⟨he, st_mask [true, true, true, true, true, true, true, true, true, true, true, true, true, true] rfl (back _ _ hw')⟩)
          refine qg_val (v := .agg (aC a)) rfl rfl rfl rfl rfl (e_load tf10 (cs := (areaE a)) rfl (k_pt 11 (cs := (aC a)) (vs := (areaE a)) rfl rfl) rfl) ?_
          refine qg_val (v := .bool (decide (¬ ((joinR a (comR a b)) = a)))) rfl rfl rfl rfl rfl (e_neq_t (xs := areaE (joinR a (comR a b))) (ys := areaE a) tf79 tf80 tf81 rfl rfl rfl rfl (not_congr (area_eq (x := (joinR a (comR a b))) (y := a)))) ?_
          refine q_val (v := .bool (decide (¬ ((joinR a (comR a b)) = a)))) rfl rfl rfl (e_pick_f rfl) ?_
          refine q_nil ?_
          refine f_then ?_
          refine c_if (¬ ((joinR a (comR a b)) = a)) rfl (fun hc36 => ?_) (fun hc36 => ?_)
          ·
            exact absurd hc36 (fun q => q (join_com (Decidable.not_not.1 hc30)))
          ·
            refine c_skip ?_
            refine f_then ?_
            refine c_seq ?_
            refine c_region ?_
            refine l_val (v := .agg #[Ix ((pickI x) - (400 : Int)), Ix ((pickI y) - (400 : Int)), Ix ((pickI x) - (400 : Int)), Ix ((pickI y) - (400 : Int))]) rfl rfl rfl (e_load tf10 (cs := [Ix ((pickI x) - (400 : Int)), Ix ((pickI y) - (400 : Int)), Ix ((pickI x) - (400 : Int)), Ix ((pickI y) - (400 : Int))]) rfl (k_pt 3 (cs := #[Ix ((pickI x) - (400 : Int)), Ix ((pickI y) - (400 : Int)), Ix ((pickI x) - (400 : Int)), Ix ((pickI y) - (400 : Int))]) (vs := [Ix ((pickI x) - (400 : Int)), Ix ((pickI y) - (400 : Int)), Ix ((pickI x) - (400 : Int)), Ix ((pickI y) - (400 : Int))]) rfl rfl) rfl) ?_
            refine l_val (v := .agg (aC (comR a b))) rfl rfl rfl (e_load tf10 (cs := (areaE (comR a b))) rfl (k_pt 7 (cs := (aC (comR a b))) (vs := (areaE (comR a b))) rfl rfl) rfl) ?_
            refine l_call rfl rfl rfl (cl_value (fst := []) (cap := []) (vs := [.agg #[Ix ((pickI x) - (400 : Int)), Ix ((pickI y) - (400 : Int)), Ix ((pickI x) - (400 : Int)), Ix ((pickI y) - (400 : Int))], .agg (aC (comR a b))]) (all := [.agg #[Ix ((pickI x) - (400 : Int)), Ix ((pickI y) - (400 : Int)), Ix ((pickI x) - (400 : Int)), Ix ((pickI y) - (400 : Int))], .agg (aC (comR a b))]) tf13 rfl rfl rfl) ?_
            intro w hw
            obtain ⟨β1, sb, kn, hw1, back⟩ := St.frame_all hw
            refine (meet_ok β1 w hw1 (⟨(pickI x) - (400 : Int), (pickI y) - (400 : Int), (pickI x) - (400 : Int), (pickI y) - (400 : Int)⟩ : KA) (comR a b)).mono ?_
            rintro e w' ⟨rfl, hw'⟩
            refine ⟨_, rfl, _, back _ _ hw', ?_⟩
            clear hw hw1 hw' back kn sb
            refine l_val (v := .bool (decide (meetA (⟨(pickI x) - (400 : Int), (pickI y) - (400 : Int), (pickI x) - (400 : Int), (pickI y) - (400 : Int)⟩ : KA) b))) rfl rfl rfl (e_move) ?_
            refine l_val (v := .bool (((decide (meetA (⟨(pickI x) - (400 : Int), (pickI y) - (400 : Int), (pickI x) - (400 : Int), (pickI y) - (400 : Int)⟩ : KA) (comR a b))) == (decide (meetA (⟨(pickI x) - (400 : Int), (pickI y) - (400 : Int), (pickI x) - (400 : Int), (pickI y) - (400 : Int)⟩ : KA) b))))) rfl rfl rfl (e_eql_b (a := decide (meetA (⟨(pickI x) - (400 : Int), (pickI y) - (400 : Int), (pickI x) - (400 : Int), (pickI y) - (400 : Int)⟩ : KA) (comR a b))) (b := decide (meetA (⟨(pickI x) - (400 : Int), (pickI y) - (400 : Int), (pickI x) - (400 : Int), (pickI y) - (400 : Int)⟩ : KA) b)) rfl rfl tf99) ?_
            refine l_val (v := .bool (((decide (meetA (⟨(pickI x) - (400 : Int), (pickI y) - (400 : Int), (pickI x) - (400 : Int), (pickI y) - (400 : Int)⟩ : KA) (comR a b))) == (decide (meetA (⟨(pickI x) - (400 : Int), (pickI y) - (400 : Int), (pickI x) - (400 : Int), (pickI y) - (400 : Int)⟩ : KA) b))))) rfl rfl rfl (e_move) ?_
            refine l_splitb (s := 174) (b := ((decide (meetA (⟨(pickI x) - (400 : Int), (pickI y) - (400 : Int), (pickI x) - (400 : Int), (pickI y) - (400 : Int)⟩ : KA) (comR a b))) == (decide (meetA (⟨(pickI x) - (400 : Int), (pickI y) - (400 : Int), (pickI x) - (400 : Int), (pickI y) - (400 : Int)⟩ : KA) b)))) rfl (fun h => ?_) (fun h => ?_)
            rotate_left; (rw [(show (((decide (meetA (⟨(pickI x) - (400 : Int), (pickI y) - (400 : Int), (pickI x) - (400 : Int), (pickI y) - (400 : Int)⟩ : KA) (comR a b))) == (decide (meetA (⟨(pickI x) - (400 : Int), (pickI y) - (400 : Int), (pickI x) - (400 : Int), (pickI y) - (400 : Int)⟩ : KA) b)))) = true from (by have h := pt_com (x := pickI x - 400) (y := pickI y - 400) (Decidable.not_not.1 hc30); unfold ptA at h; simp [h, hg29]))] at h; cases h)
            refine g_val (v := .bool (decide (meetA (⟨(pickI x) - (400 : Int), (pickI y) - (400 : Int), (pickI x) - (400 : Int), (pickI y) - (400 : Int)⟩ : KA) b))) rfl rfl rfl rfl rfl (e_move) ?_
            refine g_val (v := .bool (decide (¬ (meetA (⟨(pickI x) - (400 : Int), (pickI y) - (400 : Int), (pickI x) - (400 : Int), (pickI y) - (400 : Int)⟩ : KA) b)))) rfl rfl rfl rfl rfl (e_not_p (p := meetA (⟨(pickI x) - (400 : Int), (pickI y) - (400 : Int), (pickI x) - (400 : Int), (pickI y) - (400 : Int)⟩ : KA) b) rfl) ?_
            refine g_val (v := .bool (decide (¬ (meetA (⟨(pickI x) - (400 : Int), (pickI y) - (400 : Int), (pickI x) - (400 : Int), (pickI y) - (400 : Int)⟩ : KA) b)))) rfl rfl rfl rfl rfl (e_move) ?_
            refine l_split (s := 177) (p := ¬ (meetA (⟨(pickI x) - (400 : Int), (pickI y) - (400 : Int), (pickI x) - (400 : Int), (pickI y) - (400 : Int)⟩ : KA) b)) rfl (fun hg37 => ?_) (fun hg37 => ?_)
            ·
              refine l_skip rfl rfl rfl rfl rfl rfl ?_
              refine l_skip rfl rfl rfl rfl rfl rfl ?_
              refine l_skip rfl rfl rfl rfl rfl rfl ?_
              refine g_val (v := .bool true) rfl rfl rfl rfl rfl (e_pick_t rfl) ?_
              refine l_val (v := .bool true) rfl rfl rfl (e_pick_t rfl) ?_
              refine l_val (v := .bool true) rfl rfl rfl (e_assign) ?_
              refine l_nil ?_
              refine f_then ?_
              refine c_ret ?_
              refine ret1 Try.results6 (v := .bool true) rfl ?_
              intro w hw
              exact ⟨congrArg (fun b : Bool => Ending.returned (.bool b)) rfl, st_mask [false, false, false, false, false, false, false, false, false, false, false, false, false, false] rfl hw⟩
            ·
              refine g_val (v := .agg #[Ix ((pickI x) - (400 : Int)), Ix ((pickI y) - (400 : Int)), Ix ((pickI x) - (400 : Int)), Ix ((pickI y) - (400 : Int))]) rfl rfl rfl rfl rfl (e_load tf10 (cs := [Ix ((pickI x) - (400 : Int)), Ix ((pickI y) - (400 : Int)), Ix ((pickI x) - (400 : Int)), Ix ((pickI y) - (400 : Int))]) rfl (k_pt 3 (cs := #[Ix ((pickI x) - (400 : Int)), Ix ((pickI y) - (400 : Int)), Ix ((pickI x) - (400 : Int)), Ix ((pickI y) - (400 : Int))]) (vs := [Ix ((pickI x) - (400 : Int)), Ix ((pickI y) - (400 : Int)), Ix ((pickI x) - (400 : Int)), Ix ((pickI y) - (400 : Int))]) rfl rfl) rfl) ?_
              refine g_val (v := .agg (aC (joinR a b))) rfl rfl rfl rfl rfl (e_load tf10 (cs := (areaE (joinR a b))) rfl (k_pt 5 (cs := (aC (joinR a b))) (vs := (areaE (joinR a b))) rfl rfl) rfl) ?_
              refine g_call rfl rfl rfl rfl rfl (cl_value (fst := []) (cap := []) (vs := [.agg #[Ix ((pickI x) - (400 : Int)), Ix ((pickI y) - (400 : Int)), Ix ((pickI x) - (400 : Int)), Ix ((pickI y) - (400 : Int))], .agg (aC (joinR a b))]) (all := [.agg #[Ix ((pickI x) - (400 : Int)), Ix ((pickI y) - (400 : Int)), Ix ((pickI x) - (400 : Int)), Ix ((pickI y) - (400 : Int))], .agg (aC (joinR a b))]) tf13 rfl rfl rfl) ?_
              intro w hw
              obtain ⟨β1, sb, kn, hw1, back⟩ := St.frame_all hw
              refine (meet_ok β1 w hw1 (⟨(pickI x) - (400 : Int), (pickI y) - (400 : Int), (pickI x) - (400 : Int), (pickI y) - (400 : Int)⟩ : KA) (joinR a b)).mono ?_
              rintro e w' ⟨rfl, hw'⟩
              refine ⟨_, rfl, _, back _ _ hw', ?_⟩
              clear hw hw1 hw' back kn sb
              refine g_val (v := .bool (decide (meetA (⟨(pickI x) - (400 : Int), (pickI y) - (400 : Int), (pickI x) - (400 : Int), (pickI y) - (400 : Int)⟩ : KA) (joinR a b)))) rfl rfl rfl rfl rfl (e_pick_f rfl) ?_
              refine l_val (v := .bool (decide (meetA (⟨(pickI x) - (400 : Int), (pickI y) - (400 : Int), (pickI x) - (400 : Int), (pickI y) - (400 : Int)⟩ : KA) (joinR a b)))) rfl rfl rfl (e_pick_t rfl) ?_
              refine l_val (v := .bool (decide (meetA (⟨(pickI x) - (400 : Int), (pickI y) - (400 : Int), (pickI x) - (400 : Int), (pickI y) - (400 : Int)⟩ : KA) (joinR a b)))) rfl rfl rfl (e_assign) ?_
              refine l_nil ?_
              refine f_then ?_
              refine c_ret ?_
              refine ret1 Try.results6 (v := .bool (decide (meetA (⟨(pickI x) - (400 : Int), (pickI y) - (400 : Int), (pickI x) - (400 : Int), (pickI y) - (400 : Int)⟩ : KA) (joinR a b)))) rfl ?_
              intro w hw
              exact ⟨congrArg (fun b : Bool => Ending.returned (.bool b)) (decide_eq_true ((pt_join okb hg29))), st_mask [false, false, false, false, false, false, false, false, false, false, false, false, false, false] rfl hw⟩
        ·
          refine q_skip rfl rfl rfl rfl rfl rfl ?_
          refine q_skip rfl rfl rfl rfl rfl rfl ?_
          refine q_skip rfl rfl rfl rfl rfl rfl ?_
          refine qg_val (v := .bool false) rfl rfl rfl rfl rfl (e_pick_f rfl) ?_
          refine q_val (v := .bool false) rfl rfl rfl (e_pick_f rfl) ?_
          refine q_val (v := .bool false) rfl rfl rfl (e_move) ?_
          refine qg_val (v := .agg (aC a)) rfl rfl rfl rfl rfl (e_load tf10 (cs := (areaE a)) rfl (k_pt 11 (cs := (aC a)) (vs := (areaE a)) rfl rfl) rfl) ?_
          refine qg_val (v := .agg (aC (comR a b))) rfl rfl rfl rfl rfl (e_load tf10 (cs := (areaE (comR a b))) rfl (k_pt 7 (cs := (aC (comR a b))) (vs := (areaE (comR a b))) rfl rfl) rfl) ?_
          refine qg_call (v := .agg (aC (joinR a (comR a b)))) rfl rfl rfl rfl rfl (cl_value (fst := []) (cap := []) (vs := [.agg (aC a), .agg (aC (comR a b))]) (all := [.agg (aC a), .agg (aC (comR a b))]) tf82 rfl rfl rfl) (fun w hw => ?_) ?_
          · obtain ⟨β1, sb, kn, hw1, back⟩ := St.frame_all hw
            exact (join_ok β1 w hw1 a (comR a b)).mono (fun e w' ⟨he, hw'⟩ => ⟨he, st_mask [true, true, true, true, true, true, true, true, true, true, true, true, true, true] rfl (back _ _ hw')⟩)
          refine qg_val (v := .agg (aC a)) rfl rfl rfl rfl rfl (e_load tf10 (cs := (areaE a)) rfl (k_pt 11 (cs := (aC a)) (vs := (areaE a)) rfl rfl) rfl) ?_
          refine qg_val (v := .bool (decide (¬ ((joinR a (comR a b)) = a)))) rfl rfl rfl rfl rfl (e_neq_t (xs := areaE (joinR a (comR a b))) (ys := areaE a) tf79 tf80 tf81 rfl rfl rfl rfl (not_congr (area_eq (x := (joinR a (comR a b))) (y := a)))) ?_
          refine q_val (v := .bool (decide (¬ ((joinR a (comR a b)) = a)))) rfl rfl rfl (e_pick_f rfl) ?_
          refine q_nil ?_
          refine f_then ?_
          refine c_if (¬ ((joinR a (comR a b)) = a)) rfl (fun hc38 => ?_) (fun hc38 => ?_)
          ·
            exact absurd hc38 (fun q => q (join_com (Decidable.not_not.1 hc30)))
          ·
            refine c_skip ?_
            refine f_then ?_
            refine c_seq ?_
            refine c_region ?_
            refine l_val (v := .agg #[Ix ((pickI x) - (400 : Int)), Ix ((pickI y) - (400 : Int)), Ix ((pickI x) - (400 : Int)), Ix ((pickI y) - (400 : Int))]) rfl rfl rfl (e_load tf10 (cs := [Ix ((pickI x) - (400 : Int)), Ix ((pickI y) - (400 : Int)), Ix ((pickI x) - (400 : Int)), Ix ((pickI y) - (400 : Int))]) rfl (k_pt 3 (cs := #[Ix ((pickI x) - (400 : Int)), Ix ((pickI y) - (400 : Int)), Ix ((pickI x) - (400 : Int)), Ix ((pickI y) - (400 : Int))]) (vs := [Ix ((pickI x) - (400 : Int)), Ix ((pickI y) - (400 : Int)), Ix ((pickI x) - (400 : Int)), Ix ((pickI y) - (400 : Int))]) rfl rfl) rfl) ?_
            refine l_val (v := .agg (aC (comR a b))) rfl rfl rfl (e_load tf10 (cs := (areaE (comR a b))) rfl (k_pt 7 (cs := (aC (comR a b))) (vs := (areaE (comR a b))) rfl rfl) rfl) ?_
            refine l_call rfl rfl rfl (cl_value (fst := []) (cap := []) (vs := [.agg #[Ix ((pickI x) - (400 : Int)), Ix ((pickI y) - (400 : Int)), Ix ((pickI x) - (400 : Int)), Ix ((pickI y) - (400 : Int))], .agg (aC (comR a b))]) (all := [.agg #[Ix ((pickI x) - (400 : Int)), Ix ((pickI y) - (400 : Int)), Ix ((pickI x) - (400 : Int)), Ix ((pickI y) - (400 : Int))], .agg (aC (comR a b))]) tf13 rfl rfl rfl) ?_
            intro w hw
            obtain ⟨β1, sb, kn, hw1, back⟩ := St.frame_all hw
            refine (meet_ok β1 w hw1 (⟨(pickI x) - (400 : Int), (pickI y) - (400 : Int), (pickI x) - (400 : Int), (pickI y) - (400 : Int)⟩ : KA) (comR a b)).mono ?_
            rintro e w' ⟨rfl, hw'⟩
            refine ⟨_, rfl, _, back _ _ hw', ?_⟩
            clear hw hw1 hw' back kn sb
            refine l_val (v := .bool (decide (meetA (⟨(pickI x) - (400 : Int), (pickI y) - (400 : Int), (pickI x) - (400 : Int), (pickI y) - (400 : Int)⟩ : KA) b))) rfl rfl rfl (e_move) ?_
            refine l_val (v := .bool (((decide (meetA (⟨(pickI x) - (400 : Int), (pickI y) - (400 : Int), (pickI x) - (400 : Int), (pickI y) - (400 : Int)⟩ : KA) (comR a b))) == (decide (meetA (⟨(pickI x) - (400 : Int), (pickI y) - (400 : Int), (pickI x) - (400 : Int), (pickI y) - (400 : Int)⟩ : KA) b))))) rfl rfl rfl (e_eql_b (a := decide (meetA (⟨(pickI x) - (400 : Int), (pickI y) - (400 : Int), (pickI x) - (400 : Int), (pickI y) - (400 : Int)⟩ : KA) (comR a b))) (b := decide (meetA (⟨(pickI x) - (400 : Int), (pickI y) - (400 : Int), (pickI x) - (400 : Int), (pickI y) - (400 : Int)⟩ : KA) b)) rfl rfl tf99) ?_
            refine l_val (v := .bool (((decide (meetA (⟨(pickI x) - (400 : Int), (pickI y) - (400 : Int), (pickI x) - (400 : Int), (pickI y) - (400 : Int)⟩ : KA) (comR a b))) == (decide (meetA (⟨(pickI x) - (400 : Int), (pickI y) - (400 : Int), (pickI x) - (400 : Int), (pickI y) - (400 : Int)⟩ : KA) b))))) rfl rfl rfl (e_move) ?_
            refine l_splitb (s := 174) (b := ((decide (meetA (⟨(pickI x) - (400 : Int), (pickI y) - (400 : Int), (pickI x) - (400 : Int), (pickI y) - (400 : Int)⟩ : KA) (comR a b))) == (decide (meetA (⟨(pickI x) - (400 : Int), (pickI y) - (400 : Int), (pickI x) - (400 : Int), (pickI y) - (400 : Int)⟩ : KA) b)))) rfl (fun h => ?_) (fun h => ?_)
            rotate_left; (rw [(show (((decide (meetA (⟨(pickI x) - (400 : Int), (pickI y) - (400 : Int), (pickI x) - (400 : Int), (pickI y) - (400 : Int)⟩ : KA) (comR a b))) == (decide (meetA (⟨(pickI x) - (400 : Int), (pickI y) - (400 : Int), (pickI x) - (400 : Int), (pickI y) - (400 : Int)⟩ : KA) b)))) = true from (by have h := pt_com (x := pickI x - 400) (y := pickI y - 400) (Decidable.not_not.1 hc30); unfold ptA at h; simp [h, hg29]))] at h; cases h)
            refine g_val (v := .bool (decide (meetA (⟨(pickI x) - (400 : Int), (pickI y) - (400 : Int), (pickI x) - (400 : Int), (pickI y) - (400 : Int)⟩ : KA) b))) rfl rfl rfl rfl rfl (e_move) ?_
            refine g_val (v := .bool (decide (¬ (meetA (⟨(pickI x) - (400 : Int), (pickI y) - (400 : Int), (pickI x) - (400 : Int), (pickI y) - (400 : Int)⟩ : KA) b)))) rfl rfl rfl rfl rfl (e_not_p (p := meetA (⟨(pickI x) - (400 : Int), (pickI y) - (400 : Int), (pickI x) - (400 : Int), (pickI y) - (400 : Int)⟩ : KA) b) rfl) ?_
            refine g_val (v := .bool (decide (¬ (meetA (⟨(pickI x) - (400 : Int), (pickI y) - (400 : Int), (pickI x) - (400 : Int), (pickI y) - (400 : Int)⟩ : KA) b)))) rfl rfl rfl rfl rfl (e_move) ?_
            refine l_split (s := 177) (p := ¬ (meetA (⟨(pickI x) - (400 : Int), (pickI y) - (400 : Int), (pickI x) - (400 : Int), (pickI y) - (400 : Int)⟩ : KA) b)) rfl (fun hg39 => ?_) (fun hg39 => ?_)
            ·
              refine l_skip rfl rfl rfl rfl rfl rfl ?_
              refine l_skip rfl rfl rfl rfl rfl rfl ?_
              refine l_skip rfl rfl rfl rfl rfl rfl ?_
              refine g_val (v := .bool true) rfl rfl rfl rfl rfl (e_pick_t rfl) ?_
              refine l_val (v := .bool true) rfl rfl rfl (e_pick_t rfl) ?_
              refine l_val (v := .bool true) rfl rfl rfl (e_assign) ?_
              refine l_nil ?_
              refine f_then ?_
              refine c_ret ?_
              refine ret1 Try.results6 (v := .bool true) rfl ?_
              intro w hw
              exact ⟨congrArg (fun b : Bool => Ending.returned (.bool b)) rfl, st_mask [false, false, false, false, false, false, false, false, false, false, false, false, false, false] rfl hw⟩
            ·
              refine g_val (v := .agg #[Ix ((pickI x) - (400 : Int)), Ix ((pickI y) - (400 : Int)), Ix ((pickI x) - (400 : Int)), Ix ((pickI y) - (400 : Int))]) rfl rfl rfl rfl rfl (e_load tf10 (cs := [Ix ((pickI x) - (400 : Int)), Ix ((pickI y) - (400 : Int)), Ix ((pickI x) - (400 : Int)), Ix ((pickI y) - (400 : Int))]) rfl (k_pt 3 (cs := #[Ix ((pickI x) - (400 : Int)), Ix ((pickI y) - (400 : Int)), Ix ((pickI x) - (400 : Int)), Ix ((pickI y) - (400 : Int))]) (vs := [Ix ((pickI x) - (400 : Int)), Ix ((pickI y) - (400 : Int)), Ix ((pickI x) - (400 : Int)), Ix ((pickI y) - (400 : Int))]) rfl rfl) rfl) ?_
              refine g_val (v := .agg (aC (joinR a b))) rfl rfl rfl rfl rfl (e_load tf10 (cs := (areaE (joinR a b))) rfl (k_pt 5 (cs := (aC (joinR a b))) (vs := (areaE (joinR a b))) rfl rfl) rfl) ?_
              refine g_call rfl rfl rfl rfl rfl (cl_value (fst := []) (cap := []) (vs := [.agg #[Ix ((pickI x) - (400 : Int)), Ix ((pickI y) - (400 : Int)), Ix ((pickI x) - (400 : Int)), Ix ((pickI y) - (400 : Int))], .agg (aC (joinR a b))]) (all := [.agg #[Ix ((pickI x) - (400 : Int)), Ix ((pickI y) - (400 : Int)), Ix ((pickI x) - (400 : Int)), Ix ((pickI y) - (400 : Int))], .agg (aC (joinR a b))]) tf13 rfl rfl rfl) ?_
              intro w hw
              obtain ⟨β1, sb, kn, hw1, back⟩ := St.frame_all hw
              refine (meet_ok β1 w hw1 (⟨(pickI x) - (400 : Int), (pickI y) - (400 : Int), (pickI x) - (400 : Int), (pickI y) - (400 : Int)⟩ : KA) (joinR a b)).mono ?_
              rintro e w' ⟨rfl, hw'⟩
              refine ⟨_, rfl, _, back _ _ hw', ?_⟩
              clear hw hw1 hw' back kn sb
              refine g_val (v := .bool (decide (meetA (⟨(pickI x) - (400 : Int), (pickI y) - (400 : Int), (pickI x) - (400 : Int), (pickI y) - (400 : Int)⟩ : KA) (joinR a b)))) rfl rfl rfl rfl rfl (e_pick_f rfl) ?_
              refine l_val (v := .bool (decide (meetA (⟨(pickI x) - (400 : Int), (pickI y) - (400 : Int), (pickI x) - (400 : Int), (pickI y) - (400 : Int)⟩ : KA) (joinR a b)))) rfl rfl rfl (e_pick_t rfl) ?_
              refine l_val (v := .bool (decide (meetA (⟨(pickI x) - (400 : Int), (pickI y) - (400 : Int), (pickI x) - (400 : Int), (pickI y) - (400 : Int)⟩ : KA) (joinR a b)))) rfl rfl rfl (e_assign) ?_
              refine l_nil ?_
              refine f_then ?_
              refine c_ret ?_
              refine ret1 Try.results6 (v := .bool (decide (meetA (⟨(pickI x) - (400 : Int), (pickI y) - (400 : Int), (pickI x) - (400 : Int), (pickI y) - (400 : Int)⟩ : KA) (joinR a b)))) rfl ?_
              intro w hw
              exact ⟨congrArg (fun b : Bool => Ending.returned (.bool b)) (decide_eq_true ((pt_join okb hg29))), st_mask [false, false, false, false, false, false, false, false, false, false, false, false, false, false] rfl hw⟩
      ·
        refine q_skip rfl rfl rfl rfl rfl rfl ?_
        refine q_val (v := .bool false) rfl rfl rfl (e_pick_f rfl) ?_
        refine q_val (v := .bool (!((decide (meetA (comR a b) c)) == false))) rfl rfl rfl (e_neq_b (a := decide (meetA (comR a b) c)) (b := false) rfl rfl tf99) ?_
        refine q_val (v := .bool (!((decide (meetA (comR a b) c)) == false))) rfl rfl rfl (e_move) ?_
        refine q_splitb (s := 154) (b := !((decide (meetA (comR a b) c)) == false)) rfl (fun h => ?_) (fun h => ?_)
        (rw [(show (!((decide (meetA (comR a b) c)) == false)) = false from (by simp [com_one (Decidable.not_not.1 hc30) okc, hg34]))] at h; cases h)
        refine qg_val (v := .bool (decide (meetA (comR a b) c))) rfl rfl rfl rfl rfl (e_move) ?_
        refine qg_val (v := .bool (decide (meetA (comR a b) c))) rfl rfl rfl rfl rfl (e_move) ?_
        refine q_split (s := 156) (p := meetA (comR a b) c) rfl (fun hg40 => ?_) (fun hg40 => ?_)
        ·
          refine qg_val (v := .agg (aC (comR (comR a b) c))) rfl rfl rfl rfl rfl (e_load tf10 (cs := (areaE (comR (comR a b) c))) rfl (k_pt 2 (cs := (aC (comR (comR a b) c))) (vs := (areaE (comR (comR a b) c))) rfl rfl) rfl) ?_
          refine qg_val (v := .agg (aC (comR a (comR b c)))) rfl rfl rfl rfl rfl (e_load tf10 (cs := (areaE (comR a (comR b c)))) rfl (k_pt 0 (cs := (aC (comR a (comR b c)))) (vs := (areaE (comR a (comR b c)))) rfl rfl) rfl) ?_
          refine qg_val (v := .bool (decide (¬ ((comR (comR a b) c) = (comR a (comR b c)))))) rfl rfl rfl rfl rfl (e_neq_t (xs := areaE (comR (comR a b) c)) (ys := areaE (comR a (comR b c))) tf79 tf80 tf81 rfl rfl rfl rfl (not_congr (area_eq (x := (comR (comR a b) c)) (y := (comR a (comR b c)))))) ?_
          refine qg_val (v := .bool (decide (¬ ((comR (comR a b) c) = (comR a (comR b c)))))) rfl rfl rfl rfl rfl (e_pick_t rfl) ?_
          refine q_val (v := .bool (decide (¬ ((comR (comR a b) c) = (comR a (comR b c)))))) rfl rfl rfl (e_pick_f rfl) ?_
          refine q_val (v := .bool (decide (¬ ((comR (comR a b) c) = (comR a (comR b c)))))) rfl rfl rfl (e_move) ?_
          refine q_split (s := 162) (p := ¬ ((comR (comR a b) c) = (comR a (comR b c)))) rfl (fun h => ?_) (fun h => ?_)
          exact absurd h (fun q => q (com_assoc (Decidable.not_not.1 hc30) okc hg40))
          refine qg_val (v := .agg (aC a)) rfl rfl rfl rfl rfl (e_load tf10 (cs := (areaE a)) rfl (k_pt 11 (cs := (aC a)) (vs := (areaE a)) rfl rfl) rfl) ?_
          refine qg_val (v := .agg (aC (comR a b))) rfl rfl rfl rfl rfl (e_load tf10 (cs := (areaE (comR a b))) rfl (k_pt 7 (cs := (aC (comR a b))) (vs := (areaE (comR a b))) rfl rfl) rfl) ?_
          refine qg_call (v := .agg (aC (joinR a (comR a b)))) rfl rfl rfl rfl rfl (cl_value (fst := []) (cap := []) (vs := [.agg (aC a), .agg (aC (comR a b))]) (all := [.agg (aC a), .agg (aC (comR a b))]) tf82 rfl rfl rfl) (fun w hw => ?_) ?_
          · obtain ⟨β1, sb, kn, hw1, back⟩ := St.frame_all hw
            exact (join_ok β1 w hw1 a (comR a b)).mono (fun e w' ⟨he, hw'⟩ => ⟨he, st_mask [true, true, true, true, true, true, true, true, true, true, true, true, true, true] rfl (back _ _ hw')⟩)
          refine qg_val (v := .agg (aC a)) rfl rfl rfl rfl rfl (e_load tf10 (cs := (areaE a)) rfl (k_pt 11 (cs := (aC a)) (vs := (areaE a)) rfl rfl) rfl) ?_
          refine qg_val (v := .bool (decide (¬ ((joinR a (comR a b)) = a)))) rfl rfl rfl rfl rfl (e_neq_t (xs := areaE (joinR a (comR a b))) (ys := areaE a) tf79 tf80 tf81 rfl rfl rfl rfl (not_congr (area_eq (x := (joinR a (comR a b))) (y := a)))) ?_
          refine q_val (v := .bool (decide (¬ ((joinR a (comR a b)) = a)))) rfl rfl rfl (e_pick_f rfl) ?_
          refine q_nil ?_
          refine f_then ?_
          refine c_if (¬ ((joinR a (comR a b)) = a)) rfl (fun hc41 => ?_) (fun hc41 => ?_)
          ·
            exact absurd hc41 (fun q => q (join_com (Decidable.not_not.1 hc30)))
          ·
            refine c_skip ?_
            refine f_then ?_
            refine c_seq ?_
            refine c_region ?_
            refine l_val (v := .agg #[Ix ((pickI x) - (400 : Int)), Ix ((pickI y) - (400 : Int)), Ix ((pickI x) - (400 : Int)), Ix ((pickI y) - (400 : Int))]) rfl rfl rfl (e_load tf10 (cs := [Ix ((pickI x) - (400 : Int)), Ix ((pickI y) - (400 : Int)), Ix ((pickI x) - (400 : Int)), Ix ((pickI y) - (400 : Int))]) rfl (k_pt 3 (cs := #[Ix ((pickI x) - (400 : Int)), Ix ((pickI y) - (400 : Int)), Ix ((pickI x) - (400 : Int)), Ix ((pickI y) - (400 : Int))]) (vs := [Ix ((pickI x) - (400 : Int)), Ix ((pickI y) - (400 : Int)), Ix ((pickI x) - (400 : Int)), Ix ((pickI y) - (400 : Int))]) rfl rfl) rfl) ?_
            refine l_val (v := .agg (aC (comR a b))) rfl rfl rfl (e_load tf10 (cs := (areaE (comR a b))) rfl (k_pt 7 (cs := (aC (comR a b))) (vs := (areaE (comR a b))) rfl rfl) rfl) ?_
            refine l_call rfl rfl rfl (cl_value (fst := []) (cap := []) (vs := [.agg #[Ix ((pickI x) - (400 : Int)), Ix ((pickI y) - (400 : Int)), Ix ((pickI x) - (400 : Int)), Ix ((pickI y) - (400 : Int))], .agg (aC (comR a b))]) (all := [.agg #[Ix ((pickI x) - (400 : Int)), Ix ((pickI y) - (400 : Int)), Ix ((pickI x) - (400 : Int)), Ix ((pickI y) - (400 : Int))], .agg (aC (comR a b))]) tf13 rfl rfl rfl) ?_
            intro w hw
            obtain ⟨β1, sb, kn, hw1, back⟩ := St.frame_all hw
            refine (meet_ok β1 w hw1 (⟨(pickI x) - (400 : Int), (pickI y) - (400 : Int), (pickI x) - (400 : Int), (pickI y) - (400 : Int)⟩ : KA) (comR a b)).mono ?_
            rintro e w' ⟨rfl, hw'⟩
            refine ⟨_, rfl, _, back _ _ hw', ?_⟩
            clear hw hw1 hw' back kn sb
            refine l_val (v := .bool (decide (meetA (⟨(pickI x) - (400 : Int), (pickI y) - (400 : Int), (pickI x) - (400 : Int), (pickI y) - (400 : Int)⟩ : KA) b))) rfl rfl rfl (e_move) ?_
            refine l_val (v := .bool (((decide (meetA (⟨(pickI x) - (400 : Int), (pickI y) - (400 : Int), (pickI x) - (400 : Int), (pickI y) - (400 : Int)⟩ : KA) (comR a b))) == (decide (meetA (⟨(pickI x) - (400 : Int), (pickI y) - (400 : Int), (pickI x) - (400 : Int), (pickI y) - (400 : Int)⟩ : KA) b))))) rfl rfl rfl (e_eql_b (a := decide (meetA (⟨(pickI x) - (400 : Int), (pickI y) - (400 : Int), (pickI x) - (400 : Int), (pickI y) - (400 : Int)⟩ : KA) (comR a b))) (b := decide (meetA (⟨(pickI x) - (400 : Int), (pickI y) - (400 : Int), (pickI x) - (400 : Int), (pickI y) - (400 : Int)⟩ : KA) b)) rfl rfl tf99) ?_
            refine l_val (v := .bool (((decide (meetA (⟨(pickI x) - (400 : Int), (pickI y) - (400 : Int), (pickI x) - (400 : Int), (pickI y) - (400 : Int)⟩ : KA) (comR a b))) == (decide (meetA (⟨(pickI x) - (400 : Int), (pickI y) - (400 : Int), (pickI x) - (400 : Int), (pickI y) - (400 : Int)⟩ : KA) b))))) rfl rfl rfl (e_move) ?_
            refine l_splitb (s := 174) (b := ((decide (meetA (⟨(pickI x) - (400 : Int), (pickI y) - (400 : Int), (pickI x) - (400 : Int), (pickI y) - (400 : Int)⟩ : KA) (comR a b))) == (decide (meetA (⟨(pickI x) - (400 : Int), (pickI y) - (400 : Int), (pickI x) - (400 : Int), (pickI y) - (400 : Int)⟩ : KA) b)))) rfl (fun h => ?_) (fun h => ?_)
            rotate_left; (rw [(show (((decide (meetA (⟨(pickI x) - (400 : Int), (pickI y) - (400 : Int), (pickI x) - (400 : Int), (pickI y) - (400 : Int)⟩ : KA) (comR a b))) == (decide (meetA (⟨(pickI x) - (400 : Int), (pickI y) - (400 : Int), (pickI x) - (400 : Int), (pickI y) - (400 : Int)⟩ : KA) b)))) = true from (by have h := pt_com (x := pickI x - 400) (y := pickI y - 400) (Decidable.not_not.1 hc30); unfold ptA at h; simp [h, hg29]))] at h; cases h)
            refine g_val (v := .bool (decide (meetA (⟨(pickI x) - (400 : Int), (pickI y) - (400 : Int), (pickI x) - (400 : Int), (pickI y) - (400 : Int)⟩ : KA) b))) rfl rfl rfl rfl rfl (e_move) ?_
            refine g_val (v := .bool (decide (¬ (meetA (⟨(pickI x) - (400 : Int), (pickI y) - (400 : Int), (pickI x) - (400 : Int), (pickI y) - (400 : Int)⟩ : KA) b)))) rfl rfl rfl rfl rfl (e_not_p (p := meetA (⟨(pickI x) - (400 : Int), (pickI y) - (400 : Int), (pickI x) - (400 : Int), (pickI y) - (400 : Int)⟩ : KA) b) rfl) ?_
            refine g_val (v := .bool (decide (¬ (meetA (⟨(pickI x) - (400 : Int), (pickI y) - (400 : Int), (pickI x) - (400 : Int), (pickI y) - (400 : Int)⟩ : KA) b)))) rfl rfl rfl rfl rfl (e_move) ?_
            refine l_split (s := 177) (p := ¬ (meetA (⟨(pickI x) - (400 : Int), (pickI y) - (400 : Int), (pickI x) - (400 : Int), (pickI y) - (400 : Int)⟩ : KA) b)) rfl (fun hg42 => ?_) (fun hg42 => ?_)
            ·
              refine l_skip rfl rfl rfl rfl rfl rfl ?_
              refine l_skip rfl rfl rfl rfl rfl rfl ?_
              refine l_skip rfl rfl rfl rfl rfl rfl ?_
              refine g_val (v := .bool true) rfl rfl rfl rfl rfl (e_pick_t rfl) ?_
              refine l_val (v := .bool true) rfl rfl rfl (e_pick_t rfl) ?_
              refine l_val (v := .bool true) rfl rfl rfl (e_assign) ?_
              refine l_nil ?_
              refine f_then ?_
              refine c_ret ?_
              refine ret1 Try.results6 (v := .bool true) rfl ?_
              intro w hw
              exact ⟨congrArg (fun b : Bool => Ending.returned (.bool b)) rfl, st_mask [false, false, false, false, false, false, false, false, false, false, false, false, false, false] rfl hw⟩
            ·
              refine g_val (v := .agg #[Ix ((pickI x) - (400 : Int)), Ix ((pickI y) - (400 : Int)), Ix ((pickI x) - (400 : Int)), Ix ((pickI y) - (400 : Int))]) rfl rfl rfl rfl rfl (e_load tf10 (cs := [Ix ((pickI x) - (400 : Int)), Ix ((pickI y) - (400 : Int)), Ix ((pickI x) - (400 : Int)), Ix ((pickI y) - (400 : Int))]) rfl (k_pt 3 (cs := #[Ix ((pickI x) - (400 : Int)), Ix ((pickI y) - (400 : Int)), Ix ((pickI x) - (400 : Int)), Ix ((pickI y) - (400 : Int))]) (vs := [Ix ((pickI x) - (400 : Int)), Ix ((pickI y) - (400 : Int)), Ix ((pickI x) - (400 : Int)), Ix ((pickI y) - (400 : Int))]) rfl rfl) rfl) ?_
              refine g_val (v := .agg (aC (joinR a b))) rfl rfl rfl rfl rfl (e_load tf10 (cs := (areaE (joinR a b))) rfl (k_pt 5 (cs := (aC (joinR a b))) (vs := (areaE (joinR a b))) rfl rfl) rfl) ?_
              refine g_call rfl rfl rfl rfl rfl (cl_value (fst := []) (cap := []) (vs := [.agg #[Ix ((pickI x) - (400 : Int)), Ix ((pickI y) - (400 : Int)), Ix ((pickI x) - (400 : Int)), Ix ((pickI y) - (400 : Int))], .agg (aC (joinR a b))]) (all := [.agg #[Ix ((pickI x) - (400 : Int)), Ix ((pickI y) - (400 : Int)), Ix ((pickI x) - (400 : Int)), Ix ((pickI y) - (400 : Int))], .agg (aC (joinR a b))]) tf13 rfl rfl rfl) ?_
              intro w hw
              obtain ⟨β1, sb, kn, hw1, back⟩ := St.frame_all hw
              refine (meet_ok β1 w hw1 (⟨(pickI x) - (400 : Int), (pickI y) - (400 : Int), (pickI x) - (400 : Int), (pickI y) - (400 : Int)⟩ : KA) (joinR a b)).mono ?_
              rintro e w' ⟨rfl, hw'⟩
              refine ⟨_, rfl, _, back _ _ hw', ?_⟩
              clear hw hw1 hw' back kn sb
              refine g_val (v := .bool (decide (meetA (⟨(pickI x) - (400 : Int), (pickI y) - (400 : Int), (pickI x) - (400 : Int), (pickI y) - (400 : Int)⟩ : KA) (joinR a b)))) rfl rfl rfl rfl rfl (e_pick_f rfl) ?_
              refine l_val (v := .bool (decide (meetA (⟨(pickI x) - (400 : Int), (pickI y) - (400 : Int), (pickI x) - (400 : Int), (pickI y) - (400 : Int)⟩ : KA) (joinR a b)))) rfl rfl rfl (e_pick_t rfl) ?_
              refine l_val (v := .bool (decide (meetA (⟨(pickI x) - (400 : Int), (pickI y) - (400 : Int), (pickI x) - (400 : Int), (pickI y) - (400 : Int)⟩ : KA) (joinR a b)))) rfl rfl rfl (e_assign) ?_
              refine l_nil ?_
              refine f_then ?_
              refine c_ret ?_
              refine ret1 Try.results6 (v := .bool (decide (meetA (⟨(pickI x) - (400 : Int), (pickI y) - (400 : Int), (pickI x) - (400 : Int), (pickI y) - (400 : Int)⟩ : KA) (joinR a b)))) rfl ?_
              intro w hw
              exact ⟨congrArg (fun b : Bool => Ending.returned (.bool b)) (decide_eq_true ((pt_join okb hg29))), st_mask [false, false, false, false, false, false, false, false, false, false, false, false, false, false] rfl hw⟩
        ·
          refine q_skip rfl rfl rfl rfl rfl rfl ?_
          refine q_skip rfl rfl rfl rfl rfl rfl ?_
          refine q_skip rfl rfl rfl rfl rfl rfl ?_
          refine qg_val (v := .bool false) rfl rfl rfl rfl rfl (e_pick_f rfl) ?_
          refine q_val (v := .bool false) rfl rfl rfl (e_pick_f rfl) ?_
          refine q_val (v := .bool false) rfl rfl rfl (e_move) ?_
          refine qg_val (v := .agg (aC a)) rfl rfl rfl rfl rfl (e_load tf10 (cs := (areaE a)) rfl (k_pt 11 (cs := (aC a)) (vs := (areaE a)) rfl rfl) rfl) ?_
          refine qg_val (v := .agg (aC (comR a b))) rfl rfl rfl rfl rfl (e_load tf10 (cs := (areaE (comR a b))) rfl (k_pt 7 (cs := (aC (comR a b))) (vs := (areaE (comR a b))) rfl rfl) rfl) ?_
          refine qg_call (v := .agg (aC (joinR a (comR a b)))) rfl rfl rfl rfl rfl (cl_value (fst := []) (cap := []) (vs := [.agg (aC a), .agg (aC (comR a b))]) (all := [.agg (aC a), .agg (aC (comR a b))]) tf82 rfl rfl rfl) (fun w hw => ?_) ?_
          · obtain ⟨β1, sb, kn, hw1, back⟩ := St.frame_all hw
            exact (join_ok β1 w hw1 a (comR a b)).mono (fun e w' ⟨he, hw'⟩ => ⟨he, st_mask [true, true, true, true, true, true, true, true, true, true, true, true, true, true] rfl (back _ _ hw')⟩)
          refine qg_val (v := .agg (aC a)) rfl rfl rfl rfl rfl (e_load tf10 (cs := (areaE a)) rfl (k_pt 11 (cs := (aC a)) (vs := (areaE a)) rfl rfl) rfl) ?_
          refine qg_val (v := .bool (decide (¬ ((joinR a (comR a b)) = a)))) rfl rfl rfl rfl rfl (e_neq_t (xs := areaE (joinR a (comR a b))) (ys := areaE a) tf79 tf80 tf81 rfl rfl rfl rfl (not_congr (area_eq (x := (joinR a (comR a b))) (y := a)))) ?_
          refine q_val (v := .bool (decide (¬ ((joinR a (comR a b)) = a)))) rfl rfl rfl (e_pick_f rfl) ?_
          refine q_nil ?_
          refine f_then ?_
          refine c_if (¬ ((joinR a (comR a b)) = a)) rfl (fun hc43 => ?_) (fun hc43 => ?_)
          ·
            exact absurd hc43 (fun q => q (join_com (Decidable.not_not.1 hc30)))
          ·
            refine c_skip ?_
            refine f_then ?_
            refine c_seq ?_
            refine c_region ?_
            refine l_val (v := .agg #[Ix ((pickI x) - (400 : Int)), Ix ((pickI y) - (400 : Int)), Ix ((pickI x) - (400 : Int)), Ix ((pickI y) - (400 : Int))]) rfl rfl rfl (e_load tf10 (cs := [Ix ((pickI x) - (400 : Int)), Ix ((pickI y) - (400 : Int)), Ix ((pickI x) - (400 : Int)), Ix ((pickI y) - (400 : Int))]) rfl (k_pt 3 (cs := #[Ix ((pickI x) - (400 : Int)), Ix ((pickI y) - (400 : Int)), Ix ((pickI x) - (400 : Int)), Ix ((pickI y) - (400 : Int))]) (vs := [Ix ((pickI x) - (400 : Int)), Ix ((pickI y) - (400 : Int)), Ix ((pickI x) - (400 : Int)), Ix ((pickI y) - (400 : Int))]) rfl rfl) rfl) ?_
            refine l_val (v := .agg (aC (comR a b))) rfl rfl rfl (e_load tf10 (cs := (areaE (comR a b))) rfl (k_pt 7 (cs := (aC (comR a b))) (vs := (areaE (comR a b))) rfl rfl) rfl) ?_
            refine l_call rfl rfl rfl (cl_value (fst := []) (cap := []) (vs := [.agg #[Ix ((pickI x) - (400 : Int)), Ix ((pickI y) - (400 : Int)), Ix ((pickI x) - (400 : Int)), Ix ((pickI y) - (400 : Int))], .agg (aC (comR a b))]) (all := [.agg #[Ix ((pickI x) - (400 : Int)), Ix ((pickI y) - (400 : Int)), Ix ((pickI x) - (400 : Int)), Ix ((pickI y) - (400 : Int))], .agg (aC (comR a b))]) tf13 rfl rfl rfl) ?_
            intro w hw
            obtain ⟨β1, sb, kn, hw1, back⟩ := St.frame_all hw
            refine (meet_ok β1 w hw1 (⟨(pickI x) - (400 : Int), (pickI y) - (400 : Int), (pickI x) - (400 : Int), (pickI y) - (400 : Int)⟩ : KA) (comR a b)).mono ?_
            rintro e w' ⟨rfl, hw'⟩
            refine ⟨_, rfl, _, back _ _ hw', ?_⟩
            clear hw hw1 hw' back kn sb
            refine l_val (v := .bool (decide (meetA (⟨(pickI x) - (400 : Int), (pickI y) - (400 : Int), (pickI x) - (400 : Int), (pickI y) - (400 : Int)⟩ : KA) b))) rfl rfl rfl (e_move) ?_
            refine l_val (v := .bool (((decide (meetA (⟨(pickI x) - (400 : Int), (pickI y) - (400 : Int), (pickI x) - (400 : Int), (pickI y) - (400 : Int)⟩ : KA) (comR a b))) == (decide (meetA (⟨(pickI x) - (400 : Int), (pickI y) - (400 : Int), (pickI x) - (400 : Int), (pickI y) - (400 : Int)⟩ : KA) b))))) rfl rfl rfl (e_eql_b (a := decide (meetA (⟨(pickI x) - (400 : Int), (pickI y) - (400 : Int), (pickI x) - (400 : Int), (pickI y) - (400 : Int)⟩ : KA) (comR a b))) (b := decide (meetA (⟨(pickI x) - (400 : Int), (pickI y) - (400 : Int), (pickI x) - (400 : Int), (pickI y) - (400 : Int)⟩ : KA) b)) rfl rfl tf99) ?_
            refine l_val (v := .bool (((decide (meetA (⟨(pickI x) - (400 : Int), (pickI y) - (400 : Int), (pickI x) - (400 : Int), (pickI y) - (400 : Int)⟩ : KA) (comR a b))) == (decide (meetA (⟨(pickI x) - (400 : Int), (pickI y) - (400 : Int), (pickI x) - (400 : Int), (pickI y) - (400 : Int)⟩ : KA) b))))) rfl rfl rfl (e_move) ?_
            refine l_splitb (s := 174) (b := ((decide (meetA (⟨(pickI x) - (400 : Int), (pickI y) - (400 : Int), (pickI x) - (400 : Int), (pickI y) - (400 : Int)⟩ : KA) (comR a b))) == (decide (meetA (⟨(pickI x) - (400 : Int), (pickI y) - (400 : Int), (pickI x) - (400 : Int), (pickI y) - (400 : Int)⟩ : KA) b)))) rfl (fun h => ?_) (fun h => ?_)
            rotate_left; (rw [(show (((decide (meetA (⟨(pickI x) - (400 : Int), (pickI y) - (400 : Int), (pickI x) - (400 : Int), (pickI y) - (400 : Int)⟩ : KA) (comR a b))) == (decide (meetA (⟨(pickI x) - (400 : Int), (pickI y) - (400 : Int), (pickI x) - (400 : Int), (pickI y) - (400 : Int)⟩ : KA) b)))) = true from (by have h := pt_com (x := pickI x - 400) (y := pickI y - 400) (Decidable.not_not.1 hc30); unfold ptA at h; simp [h, hg29]))] at h; cases h)
            refine g_val (v := .bool (decide (meetA (⟨(pickI x) - (400 : Int), (pickI y) - (400 : Int), (pickI x) - (400 : Int), (pickI y) - (400 : Int)⟩ : KA) b))) rfl rfl rfl rfl rfl (e_move) ?_
            refine g_val (v := .bool (decide (¬ (meetA (⟨(pickI x) - (400 : Int), (pickI y) - (400 : Int), (pickI x) - (400 : Int), (pickI y) - (400 : Int)⟩ : KA) b)))) rfl rfl rfl rfl rfl (e_not_p (p := meetA (⟨(pickI x) - (400 : Int), (pickI y) - (400 : Int), (pickI x) - (400 : Int), (pickI y) - (400 : Int)⟩ : KA) b) rfl) ?_
            refine g_val (v := .bool (decide (¬ (meetA (⟨(pickI x) - (400 : Int), (pickI y) - (400 : Int), (pickI x) - (400 : Int), (pickI y) - (400 : Int)⟩ : KA) b)))) rfl rfl rfl rfl rfl (e_move) ?_
            refine l_split (s := 177) (p := ¬ (meetA (⟨(pickI x) - (400 : Int), (pickI y) - (400 : Int), (pickI x) - (400 : Int), (pickI y) - (400 : Int)⟩ : KA) b)) rfl (fun hg44 => ?_) (fun hg44 => ?_)
            ·
              refine l_skip rfl rfl rfl rfl rfl rfl ?_
              refine l_skip rfl rfl rfl rfl rfl rfl ?_
              refine l_skip rfl rfl rfl rfl rfl rfl ?_
              refine g_val (v := .bool true) rfl rfl rfl rfl rfl (e_pick_t rfl) ?_
              refine l_val (v := .bool true) rfl rfl rfl (e_pick_t rfl) ?_
              refine l_val (v := .bool true) rfl rfl rfl (e_assign) ?_
              refine l_nil ?_
              refine f_then ?_
              refine c_ret ?_
              refine ret1 Try.results6 (v := .bool true) rfl ?_
              intro w hw
              exact ⟨congrArg (fun b : Bool => Ending.returned (.bool b)) rfl, st_mask [false, false, false, false, false, false, false, false, false, false, false, false, false, false] rfl hw⟩
            ·
              refine g_val (v := .agg #[Ix ((pickI x) - (400 : Int)), Ix ((pickI y) - (400 : Int)), Ix ((pickI x) - (400 : Int)), Ix ((pickI y) - (400 : Int))]) rfl rfl rfl rfl rfl (e_load tf10 (cs := [Ix ((pickI x) - (400 : Int)), Ix ((pickI y) - (400 : Int)), Ix ((pickI x) - (400 : Int)), Ix ((pickI y) - (400 : Int))]) rfl (k_pt 3 (cs := #[Ix ((pickI x) - (400 : Int)), Ix ((pickI y) - (400 : Int)), Ix ((pickI x) - (400 : Int)), Ix ((pickI y) - (400 : Int))]) (vs := [Ix ((pickI x) - (400 : Int)), Ix ((pickI y) - (400 : Int)), Ix ((pickI x) - (400 : Int)), Ix ((pickI y) - (400 : Int))]) rfl rfl) rfl) ?_
              refine g_val (v := .agg (aC (joinR a b))) rfl rfl rfl rfl rfl (e_load tf10 (cs := (areaE (joinR a b))) rfl (k_pt 5 (cs := (aC (joinR a b))) (vs := (areaE (joinR a b))) rfl rfl) rfl) ?_
              refine g_call rfl rfl rfl rfl rfl (cl_value (fst := []) (cap := []) (vs := [.agg #[Ix ((pickI x) - (400 : Int)), Ix ((pickI y) - (400 : Int)), Ix ((pickI x) - (400 : Int)), Ix ((pickI y) - (400 : Int))], .agg (aC (joinR a b))]) (all := [.agg #[Ix ((pickI x) - (400 : Int)), Ix ((pickI y) - (400 : Int)), Ix ((pickI x) - (400 : Int)), Ix ((pickI y) - (400 : Int))], .agg (aC (joinR a b))]) tf13 rfl rfl rfl) ?_
              intro w hw
              obtain ⟨β1, sb, kn, hw1, back⟩ := St.frame_all hw
              refine (meet_ok β1 w hw1 (⟨(pickI x) - (400 : Int), (pickI y) - (400 : Int), (pickI x) - (400 : Int), (pickI y) - (400 : Int)⟩ : KA) (joinR a b)).mono ?_
              rintro e w' ⟨rfl, hw'⟩
              refine ⟨_, rfl, _, back _ _ hw', ?_⟩
              clear hw hw1 hw' back kn sb
              refine g_val (v := .bool (decide (meetA (⟨(pickI x) - (400 : Int), (pickI y) - (400 : Int), (pickI x) - (400 : Int), (pickI y) - (400 : Int)⟩ : KA) (joinR a b)))) rfl rfl rfl rfl rfl (e_pick_f rfl) ?_
              refine l_val (v := .bool (decide (meetA (⟨(pickI x) - (400 : Int), (pickI y) - (400 : Int), (pickI x) - (400 : Int), (pickI y) - (400 : Int)⟩ : KA) (joinR a b)))) rfl rfl rfl (e_pick_t rfl) ?_
              refine l_val (v := .bool (decide (meetA (⟨(pickI x) - (400 : Int), (pickI y) - (400 : Int), (pickI x) - (400 : Int), (pickI y) - (400 : Int)⟩ : KA) (joinR a b)))) rfl rfl rfl (e_assign) ?_
              refine l_nil ?_
              refine f_then ?_
              refine c_ret ?_
              refine ret1 Try.results6 (v := .bool (decide (meetA (⟨(pickI x) - (400 : Int), (pickI y) - (400 : Int), (pickI x) - (400 : Int), (pickI y) - (400 : Int)⟩ : KA) (joinR a b)))) rfl ?_
              intro w hw
              exact ⟨congrArg (fun b : Bool => Ending.returned (.bool b)) (decide_eq_true ((pt_join okb hg29))), st_mask [false, false, false, false, false, false, false, false, false, false, false, false, false, false] rfl hw⟩
  ·
    refine l_skip rfl rfl rfl rfl rfl rfl ?_
    refine l_skip rfl rfl rfl rfl rfl rfl ?_
    refine l_skip rfl rfl rfl rfl rfl rfl ?_
    refine l_val (v := .bool false) rfl rfl rfl (e_pick_f rfl) ?_
    refine l_val (v := .bool false) rfl rfl rfl (e_assign) ?_
    refine l_nil ?_
    refine f_then ?_
    refine c_seq ?_
    refine c_seq ?_
    refine c_region ?_
    refine l_val (v := .bool (decide (meetA a b))) rfl rfl rfl (e_move) ?_
    refine l_val (v := .bool (decide (¬ (meetA a b)))) rfl rfl rfl (e_not_p (p := meetA a b) rfl) ?_
    refine l_nil ?_
    refine f_then ?_
    refine c_if (¬ (meetA a b)) rfl (fun hc45 => ?_) (fun hc45 => ?_)
    ·
      refine c_seq ?_
      refine c_region ?_
      refine l_val (v := .agg (aC (comR a b))) rfl rfl rfl (e_load tf10 (cs := (areaE (comR a b))) rfl (k_pt 4 (cs := (aC (comR a b))) (vs := (areaE (comR a b))) rfl rfl) rfl) ?_
      refine l_val (v := .agg #[.int .i64 (0), .int .i64 (0), .int .i64 (0), .int .i64 (0)]) rfl rfl rfl (e_build tf6 tf9 (vs := []) (cells := #[.int .i64 (0), .int .i64 (0), .int .i64 (0), .int .i64 (0)]) rfl rfl) ?_
      refine l_val (v := .bool (decide ((comR a b) = (⟨0, 0, 0, 0⟩ : KA)))) rfl rfl rfl (e_eql_t (xs := areaE (comR a b)) (ys := areaE (⟨0, 0, 0, 0⟩ : KA)) tf79 tf80 tf81 rfl rfl rfl rfl (area_eq (x := (comR a b)) (y := (⟨0, 0, 0, 0⟩ : KA)))) ?_
      refine l_val (v := .bool (decide ((comR a b) = (⟨0, 0, 0, 0⟩ : KA)))) rfl rfl rfl (e_move) ?_
      refine l_split (s := 126) (p := (comR a b) = (⟨0, 0, 0, 0⟩ : KA)) rfl (fun h => ?_) (fun h => ?_)
      rotate_left; exact absurd (comR_no hc45) h
      refine g_val (v := .bool false) rfl rfl rfl rfl rfl (e_move) ?_
      refine g_val (v := .bool true) rfl rfl rfl rfl rfl (e_not (a := false) rfl) ?_
      refine l_val (v := .bool true) rfl rfl rfl (e_pick_t rfl) ?_
      refine l_val (v := .bool true) rfl rfl rfl (e_assign) ?_
      refine l_nil ?_
      refine f_then ?_
      refine c_ret ?_
      refine f_then_ret ?_
      refine ret1 Try.results6 (v := .bool true) rfl ?_
      intro w hw
      exact ⟨congrArg (fun b : Bool => Ending.returned (.bool b)) rfl, st_mask [false, false, false, false, false, false, false, false, false, false, false] rfl hw⟩
    ·
      refine c_skip ?_
      refine f_then ?_
      refine c_seq ?_
      refine c_region ?_
      refine l_val (v := .agg (aC (comR a b))) rfl rfl rfl (e_load tf10 (cs := (areaE (comR a b))) rfl (k_pt 4 (cs := (aC (comR a b))) (vs := (areaE (comR a b))) rfl rfl) rfl) ?_
      refine l_val (v := .agg (aC c)) rfl rfl rfl (e_load tf10 (cs := (areaE c)) rfl (k_pt 10 (cs := (aC c)) (vs := (areaE c)) rfl rfl) rfl) ?_
      refine l_call rfl rfl rfl (cl_value (fst := []) (cap := []) (vs := [.agg (aC (comR a b)), .agg (aC c)]) (all := [.agg (aC (comR a b)), .agg (aC c)]) tf78 rfl rfl rfl) ?_
      intro w hw
      obtain ⟨β1, sb, kn, hw1, back⟩ := St.frame_all hw
      refine (commonR_ok β1 w hw1 (comR a b) c).mono ?_
      rintro e w' ⟨rfl, hw'⟩
      refine ⟨_, rfl, _, back _ _ hw', ?_⟩
      clear hw hw1 hw' back kn sb
      refine l_val (v := .tuple #[.agg (aC (comR (comR a b) c)), .bool (decide (meetA (comR a b) c))]) rfl rfl rfl (e_move) ?_
      refine l_val (v := .agg (aC (comR (comR a b) c))) rfl rfl rfl (e_extract (vs := #[.agg (aC (comR (comR a b) c)), .bool (decide (meetA (comR a b) c))]) rfl rfl) ?_
      refine l_val (v := .bool (decide (meetA (comR a b) c))) rfl rfl rfl (e_extract (vs := #[.agg (aC (comR (comR a b) c)), .bool (decide (meetA (comR a b) c))]) rfl rfl) ?_
      refine l_mv rfl rfl rfl (m_alloc tf6) ?_
      rintro _ _ ⟨b46, rfl, rfl⟩
      refine l_mu rfl rfl (m_store 0 tf10 (b := b46) (o := 0) (T := 25) (cs := #[.int .i64 (0), .int .i64 (0), .int .i64 (0), .int .i64 (0)]) (cs' := (aC (comR (comR a b) c))) (v := .agg (aC (comR (comR a b) c))) rfl rfl rfl rfl rfl rfl rfl) ?_
      refine l_val (v := .bool (decide (meetA (comR a b) c))) rfl rfl rfl (e_assign) ?_
      refine l_nil ?_
      refine f_then ?_
      refine c_seq ?_
      refine c_region ?_
      refine l_val (v := .agg (aC b)) rfl rfl rfl (e_load tf10 (cs := (areaE b)) rfl (k_pt 10 (cs := (aC b)) (vs := (areaE b)) rfl rfl) rfl) ?_
      refine l_val (v := .agg (aC c)) rfl rfl rfl (e_load tf10 (cs := (areaE c)) rfl (k_pt 11 (cs := (aC c)) (vs := (areaE c)) rfl rfl) rfl) ?_
      refine l_call rfl rfl rfl (cl_value (fst := []) (cap := []) (vs := [.agg (aC b), .agg (aC c)]) (all := [.agg (aC b), .agg (aC c)]) tf78 rfl rfl rfl) ?_
      intro w hw
      obtain ⟨β1, sb, kn, hw1, back⟩ := St.frame_all hw
      refine (commonR_ok β1 w hw1 b c).mono ?_
      rintro e w' ⟨rfl, hw'⟩
      refine ⟨_, rfl, _, back _ _ hw', ?_⟩
      clear hw hw1 hw' back kn sb
      refine l_val (v := .tuple #[.agg (aC (comR b c)), .bool (decide (meetA b c))]) rfl rfl rfl (e_move) ?_
      refine l_val (v := .agg (aC (comR b c))) rfl rfl rfl (e_extract (vs := #[.agg (aC (comR b c)), .bool (decide (meetA b c))]) rfl rfl) ?_
      refine l_val (v := .bool (decide (meetA b c))) rfl rfl rfl (e_extract (vs := #[.agg (aC (comR b c)), .bool (decide (meetA b c))]) rfl rfl) ?_
      refine l_mv rfl rfl rfl (m_alloc tf6) ?_
      rintro _ _ ⟨b47, rfl, rfl⟩
      refine l_mu rfl rfl (m_store 0 tf10 (b := b47) (o := 0) (T := 25) (cs := #[.int .i64 (0), .int .i64 (0), .int .i64 (0), .int .i64 (0)]) (cs' := (aC (comR b c))) (v := .agg (aC (comR b c))) rfl rfl rfl rfl rfl rfl rfl) ?_
      refine l_val (v := .bool (decide (meetA b c))) rfl rfl rfl (e_assign) ?_
      refine l_nil ?_
      refine f_then ?_
      refine c_seq ?_
      refine c_region ?_
      refine l_val (v := .agg (aC a)) rfl rfl rfl (e_load tf10 (cs := (areaE a)) rfl (k_pt 10 (cs := (aC a)) (vs := (areaE a)) rfl rfl) rfl) ?_
      refine l_val (v := .agg (aC (comR b c))) rfl rfl rfl (e_load tf10 (cs := (areaE (comR b c))) rfl (k_pt 0 (cs := (aC (comR b c))) (vs := (areaE (comR b c))) rfl rfl) rfl) ?_
      refine l_call rfl rfl rfl (cl_value (fst := []) (cap := []) (vs := [.agg (aC a), .agg (aC (comR b c))]) (all := [.agg (aC a), .agg (aC (comR b c))]) tf78 rfl rfl rfl) ?_
      intro w hw
      obtain ⟨β1, sb, kn, hw1, back⟩ := St.frame_all hw
      refine (commonR_ok β1 w hw1 a (comR b c)).mono ?_
      rintro e w' ⟨rfl, hw'⟩
      refine ⟨_, rfl, _, back _ _ hw', ?_⟩
      clear hw hw1 hw' back kn sb
      refine l_val (v := .tuple #[.agg (aC (comR a (comR b c))), .bool (decide (meetA a (comR b c)))]) rfl rfl rfl (e_move) ?_
      refine l_val (v := .agg (aC (comR a (comR b c)))) rfl rfl rfl (e_extract (vs := #[.agg (aC (comR a (comR b c))), .bool (decide (meetA a (comR b c)))]) rfl rfl) ?_
      refine l_val (v := .bool (decide (meetA a (comR b c)))) rfl rfl rfl (e_extract (vs := #[.agg (aC (comR a (comR b c))), .bool (decide (meetA a (comR b c)))]) rfl rfl) ?_
      refine l_mv rfl rfl rfl (m_alloc tf6) ?_
      rintro _ _ ⟨b48, rfl, rfl⟩
      refine l_mu rfl rfl (m_store 0 tf10 (b := b48) (o := 0) (T := 25) (cs := #[.int .i64 (0), .int .i64 (0), .int .i64 (0), .int .i64 (0)]) (cs' := (aC (comR a (comR b c)))) (v := .agg (aC (comR a (comR b c)))) rfl rfl rfl rfl rfl rfl rfl) ?_
      refine l_val (v := .bool (decide (meetA a (comR b c)))) rfl rfl rfl (e_assign) ?_
      refine l_nil ?_
      refine f_then ?_
      refine c_seq ?_
      refine c_seq ?_
      refine c_quiet (by kernel_rfl) (by kernel_rfl) ?_
      refine q_val (v := .bool (decide (meetA (comR a b) c))) rfl rfl rfl (e_move) ?_
      refine q_val (v := .bool (decide (meetA b c))) rfl rfl rfl (e_move) ?_
      refine q_val (v := .bool (decide (meetA b c))) rfl rfl rfl (e_move) ?_
      refine q_split (s := 150) (p := meetA b c) rfl (fun hg49 => ?_) (fun hg49 => ?_)
      ·
        refine qg_val (v := .bool (decide (meetA a (comR b c)))) rfl rfl rfl rfl rfl (e_move) ?_
        refine q_val (v := .bool (decide (meetA a (comR b c)))) rfl rfl rfl (e_pick_t rfl) ?_
        refine q_val (v := .bool (!((decide (meetA (comR a b) c)) == (decide (meetA a (comR b c)))))) rfl rfl rfl (e_neq_b (a := decide (meetA (comR a b) c)) (b := decide (meetA a (comR b c))) rfl rfl tf99) ?_
        refine q_val (v := .bool (!((decide (meetA (comR a b) c)) == (decide (meetA a (comR b c)))))) rfl rfl rfl (e_move) ?_
        refine q_splitb (s := 154) (b := !((decide (meetA (comR a b) c)) == (decide (meetA a (comR b c))))) rfl (fun h => ?_) (fun h => ?_)
        (rw [(show (!((decide (meetA (comR a b) c)) == (decide (meetA a (comR b c))))) = false from (by simp [com_one (Decidable.not_not.1 hc45) okc, hg49]))] at h; cases h)
        refine qg_val (v := .bool (decide (meetA (comR a b) c))) rfl rfl rfl rfl rfl (e_move) ?_
        refine qg_val (v := .bool (decide (meetA (comR a b) c))) rfl rfl rfl rfl rfl (e_move) ?_
        refine q_split (s := 156) (p := meetA (comR a b) c) rfl (fun hg50 => ?_) (fun hg50 => ?_)
        ·
          refine qg_val (v := .agg (aC (comR (comR a b) c))) rfl rfl rfl rfl rfl (e_load tf10 (cs := (areaE (comR (comR a b) c))) rfl (k_pt 2 (cs := (aC (comR (comR a b) c))) (vs := (areaE (comR (comR a b) c))) rfl rfl) rfl) ?_
          refine qg_val (v := .agg (aC (comR a (comR b c)))) rfl rfl rfl rfl rfl (e_load tf10 (cs := (areaE (comR a (comR b c)))) rfl (k_pt 0 (cs := (aC (comR a (comR b c)))) (vs := (areaE (comR a (comR b c)))) rfl rfl) rfl) ?_
          refine qg_val (v := .bool (decide (¬ ((comR (comR a b) c) = (comR a (comR b c)))))) rfl rfl rfl rfl rfl (e_neq_t (xs := areaE (comR (comR a b) c)) (ys := areaE (comR a (comR b c))) tf79 tf80 tf81 rfl rfl rfl rfl (not_congr (area_eq (x := (comR (comR a b) c)) (y := (comR a (comR b c)))))) ?_
          refine qg_val (v := .bool (decide (¬ ((comR (comR a b) c) = (comR a (comR b c)))))) rfl rfl rfl rfl rfl (e_pick_t rfl) ?_
          refine q_val (v := .bool (decide (¬ ((comR (comR a b) c) = (comR a (comR b c)))))) rfl rfl rfl (e_pick_f rfl) ?_
          refine q_val (v := .bool (decide (¬ ((comR (comR a b) c) = (comR a (comR b c)))))) rfl rfl rfl (e_move) ?_
          refine q_split (s := 162) (p := ¬ ((comR (comR a b) c) = (comR a (comR b c)))) rfl (fun h => ?_) (fun h => ?_)
          exact absurd h (fun q => q (com_assoc (Decidable.not_not.1 hc45) okc hg50))
          refine qg_val (v := .agg (aC a)) rfl rfl rfl rfl rfl (e_load tf10 (cs := (areaE a)) rfl (k_pt 11 (cs := (aC a)) (vs := (areaE a)) rfl rfl) rfl) ?_
          refine qg_val (v := .agg (aC (comR a b))) rfl rfl rfl rfl rfl (e_load tf10 (cs := (areaE (comR a b))) rfl (k_pt 7 (cs := (aC (comR a b))) (vs := (areaE (comR a b))) rfl rfl) rfl) ?_
          refine qg_call (v := .agg (aC (joinR a (comR a b)))) rfl rfl rfl rfl rfl (cl_value (fst := []) (cap := []) (vs := [.agg (aC a), .agg (aC (comR a b))]) (all := [.agg (aC a), .agg (aC (comR a b))]) tf82 rfl rfl rfl) (fun w hw => ?_) ?_
          · obtain ⟨β1, sb, kn, hw1, back⟩ := St.frame_all hw
            exact (join_ok β1 w hw1 a (comR a b)).mono (fun e w' ⟨he, hw'⟩ => ⟨he, st_mask [true, true, true, true, true, true, true, true, true, true, true, true, true, true] rfl (back _ _ hw')⟩)
          refine qg_val (v := .agg (aC a)) rfl rfl rfl rfl rfl (e_load tf10 (cs := (areaE a)) rfl (k_pt 11 (cs := (aC a)) (vs := (areaE a)) rfl rfl) rfl) ?_
          refine qg_val (v := .bool (decide (¬ ((joinR a (comR a b)) = a)))) rfl rfl rfl rfl rfl (e_neq_t (xs := areaE (joinR a (comR a b))) (ys := areaE a) tf79 tf80 tf81 rfl rfl rfl rfl (not_congr (area_eq (x := (joinR a (comR a b))) (y := a)))) ?_
          refine q_val (v := .bool (decide (¬ ((joinR a (comR a b)) = a)))) rfl rfl rfl (e_pick_f rfl) ?_
          refine q_nil ?_
          refine f_then ?_
          refine c_if (¬ ((joinR a (comR a b)) = a)) rfl (fun hc51 => ?_) (fun hc51 => ?_)
          ·
            exact absurd hc51 (fun q => q (join_com (Decidable.not_not.1 hc45)))
          ·
            refine c_skip ?_
            refine f_then ?_
            refine c_seq ?_
            refine c_region ?_
            refine l_val (v := .agg #[Ix ((pickI x) - (400 : Int)), Ix ((pickI y) - (400 : Int)), Ix ((pickI x) - (400 : Int)), Ix ((pickI y) - (400 : Int))]) rfl rfl rfl (e_load tf10 (cs := [Ix ((pickI x) - (400 : Int)), Ix ((pickI y) - (400 : Int)), Ix ((pickI x) - (400 : Int)), Ix ((pickI y) - (400 : Int))]) rfl (k_pt 3 (cs := #[Ix ((pickI x) - (400 : Int)), Ix ((pickI y) - (400 : Int)), Ix ((pickI x) - (400 : Int)), Ix ((pickI y) - (400 : Int))]) (vs := [Ix ((pickI x) - (400 : Int)), Ix ((pickI y) - (400 : Int)), Ix ((pickI x) - (400 : Int)), Ix ((pickI y) - (400 : Int))]) rfl rfl) rfl) ?_
            refine l_val (v := .agg (aC (comR a b))) rfl rfl rfl (e_load tf10 (cs := (areaE (comR a b))) rfl (k_pt 7 (cs := (aC (comR a b))) (vs := (areaE (comR a b))) rfl rfl) rfl) ?_
            refine l_call rfl rfl rfl (cl_value (fst := []) (cap := []) (vs := [.agg #[Ix ((pickI x) - (400 : Int)), Ix ((pickI y) - (400 : Int)), Ix ((pickI x) - (400 : Int)), Ix ((pickI y) - (400 : Int))], .agg (aC (comR a b))]) (all := [.agg #[Ix ((pickI x) - (400 : Int)), Ix ((pickI y) - (400 : Int)), Ix ((pickI x) - (400 : Int)), Ix ((pickI y) - (400 : Int))], .agg (aC (comR a b))]) tf13 rfl rfl rfl) ?_
            intro w hw
            obtain ⟨β1, sb, kn, hw1, back⟩ := St.frame_all hw
            refine (meet_ok β1 w hw1 (⟨(pickI x) - (400 : Int), (pickI y) - (400 : Int), (pickI x) - (400 : Int), (pickI y) - (400 : Int)⟩ : KA) (comR a b)).mono ?_
            rintro e w' ⟨rfl, hw'⟩
            refine ⟨_, rfl, _, back _ _ hw', ?_⟩
            clear hw hw1 hw' back kn sb
            refine l_val (v := .bool false) rfl rfl rfl (e_move) ?_
            refine l_val (v := .bool (((decide (meetA (⟨(pickI x) - (400 : Int), (pickI y) - (400 : Int), (pickI x) - (400 : Int), (pickI y) - (400 : Int)⟩ : KA) (comR a b))) == false))) rfl rfl rfl (e_eql_b (a := decide (meetA (⟨(pickI x) - (400 : Int), (pickI y) - (400 : Int), (pickI x) - (400 : Int), (pickI y) - (400 : Int)⟩ : KA) (comR a b))) (b := false) rfl rfl tf99) ?_
            refine l_val (v := .bool (((decide (meetA (⟨(pickI x) - (400 : Int), (pickI y) - (400 : Int), (pickI x) - (400 : Int), (pickI y) - (400 : Int)⟩ : KA) (comR a b))) == false))) rfl rfl rfl (e_move) ?_
            refine l_splitb (s := 174) (b := ((decide (meetA (⟨(pickI x) - (400 : Int), (pickI y) - (400 : Int), (pickI x) - (400 : Int), (pickI y) - (400 : Int)⟩ : KA) (comR a b))) == false)) rfl (fun h => ?_) (fun h => ?_)
            rotate_left; (rw [(show (((decide (meetA (⟨(pickI x) - (400 : Int), (pickI y) - (400 : Int), (pickI x) - (400 : Int), (pickI y) - (400 : Int)⟩ : KA) (comR a b))) == false)) = true from (by have h := pt_com (x := pickI x - 400) (y := pickI y - 400) (Decidable.not_not.1 hc45); unfold ptA at h; simp [h, hg29]))] at h; cases h)
            refine g_val (v := .bool false) rfl rfl rfl rfl rfl (e_move) ?_
            refine g_val (v := .bool true) rfl rfl rfl rfl rfl (e_not (a := false) rfl) ?_
            refine g_val (v := .bool true) rfl rfl rfl rfl rfl (e_move) ?_
            refine l_skip rfl rfl rfl rfl rfl rfl ?_
            refine l_skip rfl rfl rfl rfl rfl rfl ?_
            refine l_skip rfl rfl rfl rfl rfl rfl ?_
            refine g_val (v := .bool true) rfl rfl rfl rfl rfl (e_pick_t rfl) ?_
            refine l_val (v := .bool true) rfl rfl rfl (e_pick_t rfl) ?_
            refine l_val (v := .bool true) rfl rfl rfl (e_assign) ?_
            refine l_nil ?_
            refine f_then ?_
            refine c_ret ?_
            refine ret1 Try.results6 (v := .bool true) rfl ?_
            intro w hw
            exact ⟨congrArg (fun b : Bool => Ending.returned (.bool b)) rfl, st_mask [false, false, false, false, false, false, false, false, false, false, false, false, false, false] rfl hw⟩
        ·
          refine q_skip rfl rfl rfl rfl rfl rfl ?_
          refine q_skip rfl rfl rfl rfl rfl rfl ?_
          refine q_skip rfl rfl rfl rfl rfl rfl ?_
          refine qg_val (v := .bool false) rfl rfl rfl rfl rfl (e_pick_f rfl) ?_
          refine q_val (v := .bool false) rfl rfl rfl (e_pick_f rfl) ?_
          refine q_val (v := .bool false) rfl rfl rfl (e_move) ?_
          refine qg_val (v := .agg (aC a)) rfl rfl rfl rfl rfl (e_load tf10 (cs := (areaE a)) rfl (k_pt 11 (cs := (aC a)) (vs := (areaE a)) rfl rfl) rfl) ?_
          refine qg_val (v := .agg (aC (comR a b))) rfl rfl rfl rfl rfl (e_load tf10 (cs := (areaE (comR a b))) rfl (k_pt 7 (cs := (aC (comR a b))) (vs := (areaE (comR a b))) rfl rfl) rfl) ?_
          refine qg_call (v := .agg (aC (joinR a (comR a b)))) rfl rfl rfl rfl rfl (cl_value (fst := []) (cap := []) (vs := [.agg (aC a), .agg (aC (comR a b))]) (all := [.agg (aC a), .agg (aC (comR a b))]) tf82 rfl rfl rfl) (fun w hw => ?_) ?_
          · obtain ⟨β1, sb, kn, hw1, back⟩ := St.frame_all hw
            exact (join_ok β1 w hw1 a (comR a b)).mono (fun e w' ⟨he, hw'⟩ => ⟨he, st_mask [true, true, true, true, true, true, true, true, true, true, true, true, true, true] rfl (back _ _ hw')⟩)
          refine qg_val (v := .agg (aC a)) rfl rfl rfl rfl rfl (e_load tf10 (cs := (areaE a)) rfl (k_pt 11 (cs := (aC a)) (vs := (areaE a)) rfl rfl) rfl) ?_
          refine qg_val (v := .bool (decide (¬ ((joinR a (comR a b)) = a)))) rfl rfl rfl rfl rfl (e_neq_t (xs := areaE (joinR a (comR a b))) (ys := areaE a) tf79 tf80 tf81 rfl rfl rfl rfl (not_congr (area_eq (x := (joinR a (comR a b))) (y := a)))) ?_
          refine q_val (v := .bool (decide (¬ ((joinR a (comR a b)) = a)))) rfl rfl rfl (e_pick_f rfl) ?_
          refine q_nil ?_
          refine f_then ?_
          refine c_if (¬ ((joinR a (comR a b)) = a)) rfl (fun hc52 => ?_) (fun hc52 => ?_)
          ·
            exact absurd hc52 (fun q => q (join_com (Decidable.not_not.1 hc45)))
          ·
            refine c_skip ?_
            refine f_then ?_
            refine c_seq ?_
            refine c_region ?_
            refine l_val (v := .agg #[Ix ((pickI x) - (400 : Int)), Ix ((pickI y) - (400 : Int)), Ix ((pickI x) - (400 : Int)), Ix ((pickI y) - (400 : Int))]) rfl rfl rfl (e_load tf10 (cs := [Ix ((pickI x) - (400 : Int)), Ix ((pickI y) - (400 : Int)), Ix ((pickI x) - (400 : Int)), Ix ((pickI y) - (400 : Int))]) rfl (k_pt 3 (cs := #[Ix ((pickI x) - (400 : Int)), Ix ((pickI y) - (400 : Int)), Ix ((pickI x) - (400 : Int)), Ix ((pickI y) - (400 : Int))]) (vs := [Ix ((pickI x) - (400 : Int)), Ix ((pickI y) - (400 : Int)), Ix ((pickI x) - (400 : Int)), Ix ((pickI y) - (400 : Int))]) rfl rfl) rfl) ?_
            refine l_val (v := .agg (aC (comR a b))) rfl rfl rfl (e_load tf10 (cs := (areaE (comR a b))) rfl (k_pt 7 (cs := (aC (comR a b))) (vs := (areaE (comR a b))) rfl rfl) rfl) ?_
            refine l_call rfl rfl rfl (cl_value (fst := []) (cap := []) (vs := [.agg #[Ix ((pickI x) - (400 : Int)), Ix ((pickI y) - (400 : Int)), Ix ((pickI x) - (400 : Int)), Ix ((pickI y) - (400 : Int))], .agg (aC (comR a b))]) (all := [.agg #[Ix ((pickI x) - (400 : Int)), Ix ((pickI y) - (400 : Int)), Ix ((pickI x) - (400 : Int)), Ix ((pickI y) - (400 : Int))], .agg (aC (comR a b))]) tf13 rfl rfl rfl) ?_
            intro w hw
            obtain ⟨β1, sb, kn, hw1, back⟩ := St.frame_all hw
            refine (meet_ok β1 w hw1 (⟨(pickI x) - (400 : Int), (pickI y) - (400 : Int), (pickI x) - (400 : Int), (pickI y) - (400 : Int)⟩ : KA) (comR a b)).mono ?_
            rintro e w' ⟨rfl, hw'⟩
            refine ⟨_, rfl, _, back _ _ hw', ?_⟩
            clear hw hw1 hw' back kn sb
            refine l_val (v := .bool false) rfl rfl rfl (e_move) ?_
            refine l_val (v := .bool (((decide (meetA (⟨(pickI x) - (400 : Int), (pickI y) - (400 : Int), (pickI x) - (400 : Int), (pickI y) - (400 : Int)⟩ : KA) (comR a b))) == false))) rfl rfl rfl (e_eql_b (a := decide (meetA (⟨(pickI x) - (400 : Int), (pickI y) - (400 : Int), (pickI x) - (400 : Int), (pickI y) - (400 : Int)⟩ : KA) (comR a b))) (b := false) rfl rfl tf99) ?_
            refine l_val (v := .bool (((decide (meetA (⟨(pickI x) - (400 : Int), (pickI y) - (400 : Int), (pickI x) - (400 : Int), (pickI y) - (400 : Int)⟩ : KA) (comR a b))) == false))) rfl rfl rfl (e_move) ?_
            refine l_splitb (s := 174) (b := ((decide (meetA (⟨(pickI x) - (400 : Int), (pickI y) - (400 : Int), (pickI x) - (400 : Int), (pickI y) - (400 : Int)⟩ : KA) (comR a b))) == false)) rfl (fun h => ?_) (fun h => ?_)
            rotate_left; (rw [(show (((decide (meetA (⟨(pickI x) - (400 : Int), (pickI y) - (400 : Int), (pickI x) - (400 : Int), (pickI y) - (400 : Int)⟩ : KA) (comR a b))) == false)) = true from (by have h := pt_com (x := pickI x - 400) (y := pickI y - 400) (Decidable.not_not.1 hc45); unfold ptA at h; simp [h, hg29]))] at h; cases h)
            refine g_val (v := .bool false) rfl rfl rfl rfl rfl (e_move) ?_
            refine g_val (v := .bool true) rfl rfl rfl rfl rfl (e_not (a := false) rfl) ?_
            refine g_val (v := .bool true) rfl rfl rfl rfl rfl (e_move) ?_
            refine l_skip rfl rfl rfl rfl rfl rfl ?_
            refine l_skip rfl rfl rfl rfl rfl rfl ?_
            refine l_skip rfl rfl rfl rfl rfl rfl ?_
            refine g_val (v := .bool true) rfl rfl rfl rfl rfl (e_pick_t rfl) ?_
            refine l_val (v := .bool true) rfl rfl rfl (e_pick_t rfl) ?_
            refine l_val (v := .bool true) rfl rfl rfl (e_assign) ?_
            refine l_nil ?_
            refine f_then ?_
            refine c_ret ?_
            refine ret1 Try.results6 (v := .bool true) rfl ?_
            intro w hw
            exact ⟨congrArg (fun b : Bool => Ending.returned (.bool b)) rfl, st_mask [false, false, false, false, false, false, false, false, false, false, false, false, false, false] rfl hw⟩
      ·
        refine q_skip rfl rfl rfl rfl rfl rfl ?_
        refine q_val (v := .bool false) rfl rfl rfl (e_pick_f rfl) ?_
        refine q_val (v := .bool (!((decide (meetA (comR a b) c)) == false))) rfl rfl rfl (e_neq_b (a := decide (meetA (comR a b) c)) (b := false) rfl rfl tf99) ?_
        refine q_val (v := .bool (!((decide (meetA (comR a b) c)) == false))) rfl rfl rfl (e_move) ?_
        refine q_splitb (s := 154) (b := !((decide (meetA (comR a b) c)) == false)) rfl (fun h => ?_) (fun h => ?_)
        (rw [(show (!((decide (meetA (comR a b) c)) == false)) = false from (by simp [com_one (Decidable.not_not.1 hc45) okc, hg49]))] at h; cases h)
        refine qg_val (v := .bool (decide (meetA (comR a b) c))) rfl rfl rfl rfl rfl (e_move) ?_
        refine qg_val (v := .bool (decide (meetA (comR a b) c))) rfl rfl rfl rfl rfl (e_move) ?_
        refine q_split (s := 156) (p := meetA (comR a b) c) rfl (fun hg53 => ?_) (fun hg53 => ?_)
        ·
          refine qg_val (v := .agg (aC (comR (comR a b) c))) rfl rfl rfl rfl rfl (e_load tf10 (cs := (areaE (comR (comR a b) c))) rfl (k_pt 2 (cs := (aC (comR (comR a b) c))) (vs := (areaE (comR (comR a b) c))) rfl rfl) rfl) ?_
          refine qg_val (v := .agg (aC (comR a (comR b c)))) rfl rfl rfl rfl rfl (e_load tf10 (cs := (areaE (comR a (comR b c)))) rfl (k_pt 0 (cs := (aC (comR a (comR b c)))) (vs := (areaE (comR a (comR b c)))) rfl rfl) rfl) ?_
          refine qg_val (v := .bool (decide (¬ ((comR (comR a b) c) = (comR a (comR b c)))))) rfl rfl rfl rfl rfl (e_neq_t (xs := areaE (comR (comR a b) c)) (ys := areaE (comR a (comR b c))) tf79 tf80 tf81 rfl rfl rfl rfl (not_congr (area_eq (x := (comR (comR a b) c)) (y := (comR a (comR b c)))))) ?_
          refine qg_val (v := .bool (decide (¬ ((comR (comR a b) c) = (comR a (comR b c)))))) rfl rfl rfl rfl rfl (e_pick_t rfl) ?_
          refine q_val (v := .bool (decide (¬ ((comR (comR a b) c) = (comR a (comR b c)))))) rfl rfl rfl (e_pick_f rfl) ?_
          refine q_val (v := .bool (decide (¬ ((comR (comR a b) c) = (comR a (comR b c)))))) rfl rfl rfl (e_move) ?_
          refine q_split (s := 162) (p := ¬ ((comR (comR a b) c) = (comR a (comR b c)))) rfl (fun h => ?_) (fun h => ?_)
          exact absurd h (fun q => q (com_assoc (Decidable.not_not.1 hc45) okc hg53))
          refine qg_val (v := .agg (aC a)) rfl rfl rfl rfl rfl (e_load tf10 (cs := (areaE a)) rfl (k_pt 11 (cs := (aC a)) (vs := (areaE a)) rfl rfl) rfl) ?_
          refine qg_val (v := .agg (aC (comR a b))) rfl rfl rfl rfl rfl (e_load tf10 (cs := (areaE (comR a b))) rfl (k_pt 7 (cs := (aC (comR a b))) (vs := (areaE (comR a b))) rfl rfl) rfl) ?_
          refine qg_call (v := .agg (aC (joinR a (comR a b)))) rfl rfl rfl rfl rfl (cl_value (fst := []) (cap := []) (vs := [.agg (aC a), .agg (aC (comR a b))]) (all := [.agg (aC a), .agg (aC (comR a b))]) tf82 rfl rfl rfl) (fun w hw => ?_) ?_
          · obtain ⟨β1, sb, kn, hw1, back⟩ := St.frame_all hw
            exact (join_ok β1 w hw1 a (comR a b)).mono (fun e w' ⟨he, hw'⟩ => ⟨he, st_mask [true, true, true, true, true, true, true, true, true, true, true, true, true, true] rfl (back _ _ hw')⟩)
          refine qg_val (v := .agg (aC a)) rfl rfl rfl rfl rfl (e_load tf10 (cs := (areaE a)) rfl (k_pt 11 (cs := (aC a)) (vs := (areaE a)) rfl rfl) rfl) ?_
          refine qg_val (v := .bool (decide (¬ ((joinR a (comR a b)) = a)))) rfl rfl rfl rfl rfl (e_neq_t (xs := areaE (joinR a (comR a b))) (ys := areaE a) tf79 tf80 tf81 rfl rfl rfl rfl (not_congr (area_eq (x := (joinR a (comR a b))) (y := a)))) ?_
          refine q_val (v := .bool (decide (¬ ((joinR a (comR a b)) = a)))) rfl rfl rfl (e_pick_f rfl) ?_
          refine q_nil ?_
          refine f_then ?_
          refine c_if (¬ ((joinR a (comR a b)) = a)) rfl (fun hc54 => ?_) (fun hc54 => ?_)
          ·
            exact absurd hc54 (fun q => q (join_com (Decidable.not_not.1 hc45)))
          ·
            refine c_skip ?_
            refine f_then ?_
            refine c_seq ?_
            refine c_region ?_
            refine l_val (v := .agg #[Ix ((pickI x) - (400 : Int)), Ix ((pickI y) - (400 : Int)), Ix ((pickI x) - (400 : Int)), Ix ((pickI y) - (400 : Int))]) rfl rfl rfl (e_load tf10 (cs := [Ix ((pickI x) - (400 : Int)), Ix ((pickI y) - (400 : Int)), Ix ((pickI x) - (400 : Int)), Ix ((pickI y) - (400 : Int))]) rfl (k_pt 3 (cs := #[Ix ((pickI x) - (400 : Int)), Ix ((pickI y) - (400 : Int)), Ix ((pickI x) - (400 : Int)), Ix ((pickI y) - (400 : Int))]) (vs := [Ix ((pickI x) - (400 : Int)), Ix ((pickI y) - (400 : Int)), Ix ((pickI x) - (400 : Int)), Ix ((pickI y) - (400 : Int))]) rfl rfl) rfl) ?_
            refine l_val (v := .agg (aC (comR a b))) rfl rfl rfl (e_load tf10 (cs := (areaE (comR a b))) rfl (k_pt 7 (cs := (aC (comR a b))) (vs := (areaE (comR a b))) rfl rfl) rfl) ?_
            refine l_call rfl rfl rfl (cl_value (fst := []) (cap := []) (vs := [.agg #[Ix ((pickI x) - (400 : Int)), Ix ((pickI y) - (400 : Int)), Ix ((pickI x) - (400 : Int)), Ix ((pickI y) - (400 : Int))], .agg (aC (comR a b))]) (all := [.agg #[Ix ((pickI x) - (400 : Int)), Ix ((pickI y) - (400 : Int)), Ix ((pickI x) - (400 : Int)), Ix ((pickI y) - (400 : Int))], .agg (aC (comR a b))]) tf13 rfl rfl rfl) ?_
            intro w hw
            obtain ⟨β1, sb, kn, hw1, back⟩ := St.frame_all hw
            refine (meet_ok β1 w hw1 (⟨(pickI x) - (400 : Int), (pickI y) - (400 : Int), (pickI x) - (400 : Int), (pickI y) - (400 : Int)⟩ : KA) (comR a b)).mono ?_
            rintro e w' ⟨rfl, hw'⟩
            refine ⟨_, rfl, _, back _ _ hw', ?_⟩
            clear hw hw1 hw' back kn sb
            refine l_val (v := .bool false) rfl rfl rfl (e_move) ?_
            refine l_val (v := .bool (((decide (meetA (⟨(pickI x) - (400 : Int), (pickI y) - (400 : Int), (pickI x) - (400 : Int), (pickI y) - (400 : Int)⟩ : KA) (comR a b))) == false))) rfl rfl rfl (e_eql_b (a := decide (meetA (⟨(pickI x) - (400 : Int), (pickI y) - (400 : Int), (pickI x) - (400 : Int), (pickI y) - (400 : Int)⟩ : KA) (comR a b))) (b := false) rfl rfl tf99) ?_
            refine l_val (v := .bool (((decide (meetA (⟨(pickI x) - (400 : Int), (pickI y) - (400 : Int), (pickI x) - (400 : Int), (pickI y) - (400 : Int)⟩ : KA) (comR a b))) == false))) rfl rfl rfl (e_move) ?_
            refine l_splitb (s := 174) (b := ((decide (meetA (⟨(pickI x) - (400 : Int), (pickI y) - (400 : Int), (pickI x) - (400 : Int), (pickI y) - (400 : Int)⟩ : KA) (comR a b))) == false)) rfl (fun h => ?_) (fun h => ?_)
            rotate_left; (rw [(show (((decide (meetA (⟨(pickI x) - (400 : Int), (pickI y) - (400 : Int), (pickI x) - (400 : Int), (pickI y) - (400 : Int)⟩ : KA) (comR a b))) == false)) = true from (by have h := pt_com (x := pickI x - 400) (y := pickI y - 400) (Decidable.not_not.1 hc45); unfold ptA at h; simp [h, hg29]))] at h; cases h)
            refine g_val (v := .bool false) rfl rfl rfl rfl rfl (e_move) ?_
            refine g_val (v := .bool true) rfl rfl rfl rfl rfl (e_not (a := false) rfl) ?_
            refine g_val (v := .bool true) rfl rfl rfl rfl rfl (e_move) ?_
            refine l_skip rfl rfl rfl rfl rfl rfl ?_
            refine l_skip rfl rfl rfl rfl rfl rfl ?_
            refine l_skip rfl rfl rfl rfl rfl rfl ?_
            refine g_val (v := .bool true) rfl rfl rfl rfl rfl (e_pick_t rfl) ?_
            refine l_val (v := .bool true) rfl rfl rfl (e_pick_t rfl) ?_
            refine l_val (v := .bool true) rfl rfl rfl (e_assign) ?_
            refine l_nil ?_
            refine f_then ?_
            refine c_ret ?_
            refine ret1 Try.results6 (v := .bool true) rfl ?_
            intro w hw
            exact ⟨congrArg (fun b : Bool => Ending.returned (.bool b)) rfl, st_mask [false, false, false, false, false, false, false, false, false, false, false, false, false, false] rfl hw⟩
        ·
          refine q_skip rfl rfl rfl rfl rfl rfl ?_
          refine q_skip rfl rfl rfl rfl rfl rfl ?_
          refine q_skip rfl rfl rfl rfl rfl rfl ?_
          refine qg_val (v := .bool false) rfl rfl rfl rfl rfl (e_pick_f rfl) ?_
          refine q_val (v := .bool false) rfl rfl rfl (e_pick_f rfl) ?_
          refine q_val (v := .bool false) rfl rfl rfl (e_move) ?_
          refine qg_val (v := .agg (aC a)) rfl rfl rfl rfl rfl (e_load tf10 (cs := (areaE a)) rfl (k_pt 11 (cs := (aC a)) (vs := (areaE a)) rfl rfl) rfl) ?_
          refine qg_val (v := .agg (aC (comR a b))) rfl rfl rfl rfl rfl (e_load tf10 (cs := (areaE (comR a b))) rfl (k_pt 7 (cs := (aC (comR a b))) (vs := (areaE (comR a b))) rfl rfl) rfl) ?_
          refine qg_call (v := .agg (aC (joinR a (comR a b)))) rfl rfl rfl rfl rfl (cl_value (fst := []) (cap := []) (vs := [.agg (aC a), .agg (aC (comR a b))]) (all := [.agg (aC a), .agg (aC (comR a b))]) tf82 rfl rfl rfl) (fun w hw => ?_) ?_
          · obtain ⟨β1, sb, kn, hw1, back⟩ := St.frame_all hw
            exact (join_ok β1 w hw1 a (comR a b)).mono (fun e w' ⟨he, hw'⟩ => ⟨he, st_mask [true, true, true, true, true, true, true, true, true, true, true, true, true, true] rfl (back _ _ hw')⟩)
          refine qg_val (v := .agg (aC a)) rfl rfl rfl rfl rfl (e_load tf10 (cs := (areaE a)) rfl (k_pt 11 (cs := (aC a)) (vs := (areaE a)) rfl rfl) rfl) ?_
          refine qg_val (v := .bool (decide (¬ ((joinR a (comR a b)) = a)))) rfl rfl rfl rfl rfl (e_neq_t (xs := areaE (joinR a (comR a b))) (ys := areaE a) tf79 tf80 tf81 rfl rfl rfl rfl (not_congr (area_eq (x := (joinR a (comR a b))) (y := a)))) ?_
          refine q_val (v := .bool (decide (¬ ((joinR a (comR a b)) = a)))) rfl rfl rfl (e_pick_f rfl) ?_
          refine q_nil ?_
          refine f_then ?_
          refine c_if (¬ ((joinR a (comR a b)) = a)) rfl (fun hc55 => ?_) (fun hc55 => ?_)
          ·
            exact absurd hc55 (fun q => q (join_com (Decidable.not_not.1 hc45)))
          ·
            refine c_skip ?_
            refine f_then ?_
            refine c_seq ?_
            refine c_region ?_
            refine l_val (v := .agg #[Ix ((pickI x) - (400 : Int)), Ix ((pickI y) - (400 : Int)), Ix ((pickI x) - (400 : Int)), Ix ((pickI y) - (400 : Int))]) rfl rfl rfl (e_load tf10 (cs := [Ix ((pickI x) - (400 : Int)), Ix ((pickI y) - (400 : Int)), Ix ((pickI x) - (400 : Int)), Ix ((pickI y) - (400 : Int))]) rfl (k_pt 3 (cs := #[Ix ((pickI x) - (400 : Int)), Ix ((pickI y) - (400 : Int)), Ix ((pickI x) - (400 : Int)), Ix ((pickI y) - (400 : Int))]) (vs := [Ix ((pickI x) - (400 : Int)), Ix ((pickI y) - (400 : Int)), Ix ((pickI x) - (400 : Int)), Ix ((pickI y) - (400 : Int))]) rfl rfl) rfl) ?_
            refine l_val (v := .agg (aC (comR a b))) rfl rfl rfl (e_load tf10 (cs := (areaE (comR a b))) rfl (k_pt 7 (cs := (aC (comR a b))) (vs := (areaE (comR a b))) rfl rfl) rfl) ?_
            refine l_call rfl rfl rfl (cl_value (fst := []) (cap := []) (vs := [.agg #[Ix ((pickI x) - (400 : Int)), Ix ((pickI y) - (400 : Int)), Ix ((pickI x) - (400 : Int)), Ix ((pickI y) - (400 : Int))], .agg (aC (comR a b))]) (all := [.agg #[Ix ((pickI x) - (400 : Int)), Ix ((pickI y) - (400 : Int)), Ix ((pickI x) - (400 : Int)), Ix ((pickI y) - (400 : Int))], .agg (aC (comR a b))]) tf13 rfl rfl rfl) ?_
            intro w hw
            obtain ⟨β1, sb, kn, hw1, back⟩ := St.frame_all hw
            refine (meet_ok β1 w hw1 (⟨(pickI x) - (400 : Int), (pickI y) - (400 : Int), (pickI x) - (400 : Int), (pickI y) - (400 : Int)⟩ : KA) (comR a b)).mono ?_
            rintro e w' ⟨rfl, hw'⟩
            refine ⟨_, rfl, _, back _ _ hw', ?_⟩
            clear hw hw1 hw' back kn sb
            refine l_val (v := .bool false) rfl rfl rfl (e_move) ?_
            refine l_val (v := .bool (((decide (meetA (⟨(pickI x) - (400 : Int), (pickI y) - (400 : Int), (pickI x) - (400 : Int), (pickI y) - (400 : Int)⟩ : KA) (comR a b))) == false))) rfl rfl rfl (e_eql_b (a := decide (meetA (⟨(pickI x) - (400 : Int), (pickI y) - (400 : Int), (pickI x) - (400 : Int), (pickI y) - (400 : Int)⟩ : KA) (comR a b))) (b := false) rfl rfl tf99) ?_
            refine l_val (v := .bool (((decide (meetA (⟨(pickI x) - (400 : Int), (pickI y) - (400 : Int), (pickI x) - (400 : Int), (pickI y) - (400 : Int)⟩ : KA) (comR a b))) == false))) rfl rfl rfl (e_move) ?_
            refine l_splitb (s := 174) (b := ((decide (meetA (⟨(pickI x) - (400 : Int), (pickI y) - (400 : Int), (pickI x) - (400 : Int), (pickI y) - (400 : Int)⟩ : KA) (comR a b))) == false)) rfl (fun h => ?_) (fun h => ?_)
            rotate_left; (rw [(show (((decide (meetA (⟨(pickI x) - (400 : Int), (pickI y) - (400 : Int), (pickI x) - (400 : Int), (pickI y) - (400 : Int)⟩ : KA) (comR a b))) == false)) = true from (by have h := pt_com (x := pickI x - 400) (y := pickI y - 400) (Decidable.not_not.1 hc45); unfold ptA at h; simp [h, hg29]))] at h; cases h)
            refine g_val (v := .bool false) rfl rfl rfl rfl rfl (e_move) ?_
            refine g_val (v := .bool true) rfl rfl rfl rfl rfl (e_not (a := false) rfl) ?_
            refine g_val (v := .bool true) rfl rfl rfl rfl rfl (e_move) ?_
            refine l_skip rfl rfl rfl rfl rfl rfl ?_
            refine l_skip rfl rfl rfl rfl rfl rfl ?_
            refine l_skip rfl rfl rfl rfl rfl rfl ?_
            refine g_val (v := .bool true) rfl rfl rfl rfl rfl (e_pick_t rfl) ?_
            refine l_val (v := .bool true) rfl rfl rfl (e_pick_t rfl) ?_
            refine l_val (v := .bool true) rfl rfl rfl (e_assign) ?_
            refine l_nil ?_
            refine f_then ?_
            refine c_ret ?_
            refine ret1 Try.results6 (v := .bool true) rfl ?_
            intro w hw
            exact ⟨congrArg (fun b : Bool => Ending.returned (.bool b)) rfl, st_mask [false, false, false, false, false, false, false, false, false, false, false, false, false, false] rfl hw⟩
end Go.Proofs
