/-
  PathWrong: walked. Printed by a program of my own.
-/
import Derived.Test.YthncdmfogeemcaaGreatPtWr
namespace Go.Proofs
open Go Go.Sl Go.Brd Go.Pth
theorem roomsB_ok (β : Base) (w : World) (hw : St β [] w) (v : Value) (l : List KA) (hs : Sl AreaF.R β.heap v l) (h : ¬ okM l) (x y : Int) : Calls Tryz.prog 8 #[v, .agg #[Ix x, Ix y]] w fun r w' => ∃ p c, r = .returned (.tuple #[.slice p 0 c, .int .i64 (2)]) ∧ St β [rowF NatF 3 p c []] w' := by
  have h1 := rooms_ok β w hw v l hs x y
  rw [roomX_bad h, errM_bad h] at h1; exact h1
theorem portalsB_ok (β : Base) (w : World) (hw : St β [] w) (v : Value) (l : List KA) (hs : Sl AreaF.R β.heap v l) (h : ¬ okM l) : Calls Tryz.prog 7 #[v] w fun r w' => ∃ p c, r = .returned (.tuple #[.slice p 0 c, .int .i64 (2)]) ∧ St β [rowF PoF 50 p c []] w' := by
  have h1 := portals_ok β w hw v l hs
  rw [portX_bad h, errM_bad h] at h1; exact h1
theorem findB_ok (β : Base) (w : World) (hw : St β [] w) (v : Value) (l : List KA) (hs : Sl AreaF.R β.heap v l) (h : ¬ okM l) : Calls Tryz.prog 11 #[v, .agg #[.int .i64 (0), .int .i64 (0)], .agg #[.int .i64 (0), .int .i64 (0)]] w fun r w' => ∃ p c, r = .returned (.tuple #[.slice p 0 c, .int .i64 (0), .int .i64 (2)]) ∧ St β [rowF VecF 27 p c []] w' := by
  refine (find_ok β w hw v l hs ⟨0, 0⟩ ⟨0, 0⟩).mono ?_
  rintro r w' ⟨c, d, way, n, err, rfl, hF, -, hw'⟩
  obtain ⟨rfl, rfl, rfl⟩ := find_bad h hF
  exact ⟨c, d, rfl, hw'⟩
theorem findF_ok (β : Base) (w : World) (hw : St β [] w) (v : Value) (l : List KA) (hs : Sl AreaF.R β.heap v l) {bs : List UInt8} (hB : MeshB bs l) : Calls Tryz.prog 11 #[v, .agg #[.int .i64 (-1), .int .i64 (-1)], .agg #[.int .i64 (0), .int .i64 (0)]] w fun r w' => ∃ p c way, r = .returned (.tuple #[.slice p (way : List KV).length c, .int .i64 (0), .int .i64 (6)]) ∧ St β [rowF VecF 27 p c way] w' := by
  refine (find_ok β w hw v l hs ⟨-1, -1⟩ ⟨0, 0⟩).mono ?_
  rintro r w' ⟨c, d, way, n, err, rfl, hF, -, hw'⟩
  obtain ⟨rfl, rfl⟩ := find_far hB hF
  exact ⟨c, d, way, rfl, hw'⟩
theorem se121 : cfB Tryz.prog 5 = true := by kernel_rfl
theorem se122 : arB Tryz.prog 31 6 24 1 = true := by kernel_rfl
theorem se123 : (Tryz.prog.info? 31).bind (·.zero) = some (.agg #[.slice none 0 0, .slice none 0 0, .slice none 0 0, .slice none 0 0, .slice none 0 0, .slice none 0 0]) := by kernel_rfl
theorem se124 : cfB Tryz.prog 10 = true := by kernel_rfl
theorem reachB_ok (β : Base) (w : World) (hw : St β [] w) (v : Value) (l : List KA) (hs : Sl AreaF.R β.heap v l) (hB : ¬ okM l) (x y : Int) : Calls Tryz.prog 10 #[v, .agg #[Ix x, Ix y]] w fun r w' => r = .returned (.tuple #[.slice none 0 0, .int .i64 (2)]) ∧ St β [] w' := by
  obtain ⟨va, vc, rfl, vl, vm, ve⟩ := hs.get
  refine enter (n := 45) Tryz.func10 rfl Tryz.ntmps10 rfl ?_ hw
  refine c_seq ?_
  refine c_region ?_
  refine l_mv rfl rfl rfl (m_box (v := .agg #[Ix (x), Ix (y)]) rfl) ?_
  rintro _ _ ⟨b1, rfl, rfl⟩
  refine l_val (v := .slice none 0 0) rfl rfl rfl (e_assign) ?_
  refine l_val (v := .int .i64 (0)) rfl rfl rfl (e_assign) ?_
  refine l_nil ?_
  refine f_then ?_
  refine c_seq ?_
  refine c_seq ?_
  refine c_region ?_
  refine l_val (v := .slice va (l.length) (vc)) rfl rfl rfl (e_move) ?_
  refine l_call rfl rfl rfl (cl_value (fst := []) (cap := []) (vs := [.slice va (l.length) (vc)]) (all := [.slice va (l.length) (vc)]) tu27 rfl rfl rfl) ?_
  intro w hw
  obtain ⟨β1, sb, kn, hw1, back⟩ := St.frame_all hw
  refine (valid_ok β1 w hw1 _ l (Sl.mono _ _ _ _ _ sb (⟨⟨_, _, rfl, vl, vm, ve⟩⟩ : Sl AreaF.R _ _ l))).mono ?_
  rintro e w' ⟨rfl, hw'⟩
  refine ⟨_, rfl, _, back _ _ hw', ?_⟩
  clear hw hw1 hw' back kn sb
  refine l_val (v := .bool (decide (¬ (okM l)))) rfl rfl rfl (e_not_p (p := okM l) rfl) ?_
  refine l_nil ?_
  refine f_then ?_
  refine c_if (¬ (okM l)) rfl (fun hc2 => ?_) (fun hc2 => ?_)
  ·
    refine c_seq ?_
    refine c_region ?_
    refine l_val (v := .slice none 0 0) rfl rfl rfl (e_assign) ?_
    refine l_val (v := .int .i64 (2)) rfl rfl rfl (e_assign) ?_
    refine l_nil ?_
    refine f_then ?_
    refine c_ret ?_
    refine f_then_ret ?_
    refine ret2 (v := .slice none 0 0) (v' := .int .i64 (2)) Tryz.results10 rfl rfl ?_
    intro w hw
    exact ⟨rfl, st_mask [false] rfl hw⟩
  ·
    exact absurd hB hc2
set_option maxHeartbeats 4000000 in
theorem wrongL_ok (β : Base) (w : World) (hw : St β [] w) (v : Value) (bs : List UInt8) (hs : Sl U8R β.heap v bs) (y : UInt8) : Calls Tryz.prog 3 #[v, Bx y] w fun r w' => r = .returned (.bool true) ∧ St β [] w' := by
  obtain ⟨va, vc, rfl, vl, vm, ve⟩ := hs.get
  refine enter (n := 135) Tryz.func3 rfl Tryz.ntmps3 rfl ?_ hw
  refine c_seq ?_
  refine c_region ?_
  refine l_val (v := .bool false) rfl rfl rfl (e_assign) ?_
  refine l_nil ?_
  refine f_then ?_
  refine c_seq ?_
  refine c_seq ?_
  refine c_region ?_
  refine l_call rfl rfl rfl (cl_value (fst := []) (cap := []) (vs := []) (all := []) tz108 rfl rfl rfl) ?_
  intro w hw
  obtain ⟨β1, sb, kn, hw1, back⟩ := St.frame_all hw
  refine (awake_ok β1 w hw1).mono ?_
  rintro e w' ⟨rfl, hw'⟩
  refine ⟨_, rfl, _, back _ _ hw', ?_⟩
  clear hw hw1 hw' back kn sb
  refine l_val (v := .bool false) rfl rfl rfl (e_not (a := true) rfl) ?_
  refine l_nil ?_
  refine f_then ?_
  refine c_no rfl ?_
  refine c_skip ?_
  refine f_then ?_
  refine c_seq ?_
  refine c_region ?_
  refine l_val (v := .slice va (bs.length) (vc)) rfl rfl rfl (e_move) ?_
  refine l_call rfl rfl rfl (cl_value (fst := []) (cap := []) (vs := [.slice va (bs.length) (vc)]) (all := [.slice va (bs.length) (vc)]) se121 rfl rfl rfl) ?_
  intro w hw
  obtain ⟨β1, sb, kn, hw1, back⟩ := St.frame_all hw
  refine (madeB_ok β1 w hw1 _ bs (Sl.mono _ _ _ _ _ sb (⟨⟨_, _, rfl, vl, vm, ve⟩⟩ : Sl U8R _ _ bs))).mono ?_
  rintro e w' ⟨p1, c2, l, rfl, hB, hw'⟩
  refine ⟨_, rfl, _, back _ _ hw', ?_⟩
  clear hw hw1 hw' back kn sb
  refine l_val (v := .slice p1 (l.length) c2) rfl rfl rfl (e_assign) ?_
  refine l_nil ?_
  refine f_then ?_
  refine c_seq ?_
  refine c_region ?_
  refine l_call rfl rfl rfl (cl_value (fst := []) (cap := []) (vs := [.int .i64 (200), .int .i64 (200), .int .i64 (204), .int .i64 (204)]) (all := [.int .i64 (200), .int .i64 (200), .int .i64 (204), .int .i64 (204)]) ty100 rfl rfl rfl) ?_
  intro w hw
  obtain ⟨β1, sb, kn, hw1, back⟩ := St.frame_all hw
  refine (room_ok β1 w hw1 (200 : Int) (200 : Int) (204 : Int) (204 : Int)).mono ?_
  rintro e w' ⟨rfl, hw'⟩
  refine ⟨_, rfl, _, back _ _ hw', ?_⟩
  clear hw hw1 hw' back kn sb
  refine l_mv rfl rfl rfl (m_alloc tp8) ?_
  rintro _ _ ⟨b3, rfl, rfl⟩
  refine l_mu rfl rfl (m_store 0 tp10 (b := b3) (o := 0) (T := 29) (cs := #[.int .i64 (0), .int .i64 (0), .int .i64 (0), .int .i64 (0)]) (cs' := #[.int .i64 (200), .int .i64 (200), .int .i64 (204), .int .i64 (204)]) (v := .agg #[.int .i64 (200), .int .i64 (200), .int .i64 (204), .int .i64 (204)]) rfl rfl rfl rfl rfl rfl rfl) ?_
  refine l_nil ?_
  refine f_then ?_
  refine c_seq_cut (fun (f : Fm) (L : List Res) => ∃ (bp : Option Addr) (bc : Nat) (bad : List KA), (f 5 = .slice p1 (l.length) c2 ∧ f 6 = .pointer (some ⟨b3, 0, none⟩) ∧ f 7 = .slice bp (bad.length) bc) ∧ L = [rowF AreaF 29 p1 c2 l, pt b3 (.cells #[.int .i64 (200), .int .i64 (200), .int .i64 (204), .int .i64 (204)] 29), rowF AreaF 29 bp bc bad] ∧ (BadL bad ∧ bad.length ≤ 2)) ?_ ?_
  ·
    rcases bad_six y with hw6 | hw6 | hw6 | hw6 | hw6 | hw6
    ·
      refine c_any [⟨[], [], [0], [26], fun f => f 26 = .agg #[.int .i64 (200), .int .i64 (200), .int .i64 (204), .int .i64 (204)]⟩, ⟨[], [], [0], [27], fun f => f 27 = .agg #[.int .i64 (200), .int .i64 (200), .int .i64 (204), .int .i64 (204)]⟩, ⟨[0, 1], [0, 1], [], [28], fun f => f 28 = .slice (some ⟨(blk (f 28)), 0, none⟩) 2 2⟩, ⟨[], [], [0], [29], fun f => f 29 = .agg #[.int .i64 (200), .int .i64 (200), .int .i64 (204), .int .i64 (204)]⟩, ⟨[], [], [], [30], fun f => f 30 = .agg #[.int .i64 (203), .int .i64 (199), .int .i64 (209), .int .i64 (201)]⟩, ⟨[3, 4], [3, 4], [], [31], fun f => f 31 = .slice (some ⟨(blk (f 31)), 0, none⟩) 2 2⟩, ⟨[4], [], [], [32], fun f => f 32 = .agg #[.int .i64 (200), .int .i64 (200), .int .i64 (200), .int .i64 (204)]⟩, ⟨[4, 6], [6], [], [33], fun f => f 33 = .slice (some ⟨(blk (f 33)), 0, none⟩) 1 1⟩, ⟨[4, 6], [], [], [34], fun f => f 34 = .agg #[.int .i64 (200), .int .i64 (204), .int .i64 (204), .int .i64 (204)]⟩, ⟨[4, 6, 8], [8], [], [35], fun f => f 35 = .slice (some ⟨(blk (f 35)), 0, none⟩) 1 1⟩, ⟨[4, 6, 8], [], [], [36], fun f => f 36 = .agg #[.int .i64 (204), .int .i64 (200), .int .i64 (200), .int .i64 (204)]⟩, ⟨[4, 6, 8, 10], [10], [], [37], fun f => f 37 = .slice (some ⟨(blk (f 37)), 0, none⟩) 1 1⟩, ⟨[4, 6, 8, 10], [], [], [38], fun f => f 38 = .agg #[.int .i64 (0), .int .i64 (-5), .int .i64 (2097153), .int .i64 (-1)]⟩, ⟨[4, 6, 8, 10, 12], [12], [], [39], fun f => f 39 = .slice (some ⟨(blk (f 39)), 0, none⟩) 1 1⟩, ⟨[0, 1, 2, 3, 4, 5, 6, 7, 8, 9, 10, 11, 12, 13], [2, 5, 7, 9, 11, 13], [], [28, 31, 33, 35, 37, 39, 40], fun f => f 40 = .agg #[.slice (some ⟨(blk (f 28)), 0, none⟩) 2 2, .slice (some ⟨(blk (f 31)), 0, none⟩) 2 2, .slice (some ⟨(blk (f 33)), 0, none⟩) 1 1, .slice (some ⟨(blk (f 35)), 0, none⟩) 1 1, .slice (some ⟨(blk (f 37)), 0, none⟩) 1 1, .slice (some ⟨(blk (f 39)), 0, none⟩) 1 1]⟩, ⟨[], [], [1], [41], fun f => f 41 = Bx (y)⟩, ⟨[15], [15], [], [42], fun f => f 42 = .int .u8 (((y.toNat % 6 : Nat)) : Int)⟩, ⟨[0, 1, 2, 3, 4, 5, 6, 7, 8, 9, 10, 11, 12, 13, 14, 15, 16], [14, 16], [], [28, 43], fun f => f 43 = .slice (some ⟨(blk (f 28)), 0, none⟩) 2 2⟩, ⟨[0, 1, 2, 3, 4, 5, 6, 7, 8, 9, 10, 11, 12, 13, 14, 15, 16, 17], [17], [], [7, 28], fun f => f 7 = .slice (some ⟨(blk (f 28)), 0, none⟩) 2 2⟩] [⟨none, none, [0, 1, 3], [], fun _ => pt b3 (.cells #[.int .i64 (200), .int .i64 (200), .int .i64 (204), .int .i64 (204)] 29)⟩, ⟨none, none, [], [], fun _ => rowF AreaF 29 p1 c2 l⟩, ⟨(some 2), none, [], [28], fun f => pt (blk (f 28)) (.cells #[.int .i64 (200), .int .i64 (200), .int .i64 (204), .int .i64 (204), .int .i64 (200), .int .i64 (200), .int .i64 (204), .int .i64 (204)] 29)⟩, ⟨(some 5), none, [], [31], fun f => pt (blk (f 31)) (.cells #[.int .i64 (200), .int .i64 (200), .int .i64 (204), .int .i64 (204), .int .i64 (203), .int .i64 (199), .int .i64 (209), .int .i64 (201)] 29)⟩, ⟨(some 7), none, [], [33], fun f => pt (blk (f 33)) (.cells #[.int .i64 (200), .int .i64 (200), .int .i64 (200), .int .i64 (204)] 29)⟩, ⟨(some 9), none, [], [35], fun f => pt (blk (f 35)) (.cells #[.int .i64 (200), .int .i64 (204), .int .i64 (204), .int .i64 (204)] 29)⟩, ⟨(some 11), none, [], [37], fun f => pt (blk (f 37)) (.cells #[.int .i64 (204), .int .i64 (200), .int .i64 (200), .int .i64 (204)] 29)⟩, ⟨(some 13), none, [], [39], fun f => pt (blk (f 39)) (.cells #[.int .i64 (0), .int .i64 (-5), .int .i64 (2097153), .int .i64 (-1)] 29)⟩] [(6, .pointer (some ⟨b3, 0, none⟩)), (1, Bx (y)), (5, .slice p1 (l.length) c2)] [2, 0] [] (by kernel_rfl) (by kernel_rfl) (by kernel_rfl) (by kernel_rfl) rfl ⟨rfl, rfl, rfl, trivial⟩ ⟨?_, ?_, ?_, ?_, ?_, ?_, ?_, ?_, ?_, ?_, ?_, ?_, ?_, ?_, ?_, ?_, ?_, ?_, ?_, trivial⟩ ?_
      · rintro f M - ⟨i0, -⟩
        have hs6 : f 6 = .pointer (some ⟨b3, 0, none⟩) := i0
        refine ob_start (L' := pt b3 (.cells #[.int .i64 (200), .int .i64 (200), .int .i64 (204), .int .i64 (204)] 29) :: M) (by rfl) (up_cons rfl hs6) ?_
        refine l_val (v := .agg #[.int .i64 (200), .int .i64 (200), .int .i64 (204), .int .i64 (204)]) rfl rfl rfl (e_load tp10 (cs := [.int .i64 (200), .int .i64 (200), .int .i64 (204), .int .i64 (204)]) rfl (k_pt 0 (cs := #[.int .i64 (200), .int .i64 (200), .int .i64 (204), .int .i64 (204)]) (vs := [.int .i64 (200), .int .i64 (200), .int .i64 (204), .int .i64 (204)]) rfl rfl) rfl) ?_
        refine l_nil ?_
        exact f_owes_d (up_cons rfl hs6) rfl (perm_front 0 rfl)
      · rintro f M - ⟨i0, -⟩
        have hs6 : f 6 = .pointer (some ⟨b3, 0, none⟩) := i0
        refine ob_start (L' := pt b3 (.cells #[.int .i64 (200), .int .i64 (200), .int .i64 (204), .int .i64 (204)] 29) :: M) (by rfl) (up_cons rfl hs6) ?_
        refine l_val (v := .agg #[.int .i64 (200), .int .i64 (200), .int .i64 (204), .int .i64 (204)]) rfl rfl rfl (e_load tp10 (cs := [.int .i64 (200), .int .i64 (200), .int .i64 (204), .int .i64 (204)]) rfl (k_pt 0 (cs := #[.int .i64 (200), .int .i64 (200), .int .i64 (204), .int .i64 (204)]) (vs := [.int .i64 (200), .int .i64 (200), .int .i64 (204), .int .i64 (204)]) rfl rfl) rfl) ?_
        refine l_nil ?_
        exact f_owes_d (up_cons rfl hs6) rfl (perm_front 0 rfl)
      · rintro f M ⟨k0, k1, -⟩ -
        have hs26 : f 26 = .agg #[.int .i64 (200), .int .i64 (200), .int .i64 (204), .int .i64 (204)] := k0
        have hs27 : f 27 = .agg #[.int .i64 (200), .int .i64 (200), .int .i64 (204), .int .i64 (204)] := k1
        refine ob_start (L' := M) (by rfl) (up_cons (up_cons rfl hs26) hs27) ?_
        refine l_mv rfl rfl rfl (m_slices tp14 tp8 (vs := [(0, .agg #[.int .i64 (200), .int .i64 (200), .int .i64 (204), .int .i64 (204)]), (1, .agg #[.int .i64 (200), .int .i64 (200), .int .i64 (204), .int .i64 (204)])]) (cells := #[.int .i64 (200), .int .i64 (200), .int .i64 (204), .int .i64 (204), .int .i64 (200), .int .i64 (200), .int .i64 (204), .int .i64 (204)]) rfl rfl rfl rfl) ?_
        rintro _ _ ⟨b5, rfl, rfl⟩
        refine l_nil ?_
        exact f_owes_d (up_cons (up_cons rfl hs26) hs27) rfl (perm_front 0 rfl)
      · rintro f M - ⟨i0, -⟩
        have hs6 : f 6 = .pointer (some ⟨b3, 0, none⟩) := i0
        refine ob_start (L' := pt b3 (.cells #[.int .i64 (200), .int .i64 (200), .int .i64 (204), .int .i64 (204)] 29) :: M) (by rfl) (up_cons rfl hs6) ?_
        refine l_val (v := .agg #[.int .i64 (200), .int .i64 (200), .int .i64 (204), .int .i64 (204)]) rfl rfl rfl (e_load tp10 (cs := [.int .i64 (200), .int .i64 (200), .int .i64 (204), .int .i64 (204)]) rfl (k_pt 0 (cs := #[.int .i64 (200), .int .i64 (200), .int .i64 (204), .int .i64 (204)]) (vs := [.int .i64 (200), .int .i64 (200), .int .i64 (204), .int .i64 (204)]) rfl rfl) rfl) ?_
        refine l_nil ?_
        exact f_owes_d (up_cons rfl hs6) rfl (perm_front 0 rfl)
      · rintro f M - -
        refine ob_start (L' := M) (by rfl) rfl ?_
        refine l_call rfl rfl rfl (cl_value (fst := []) (cap := []) (vs := [.int .i64 (203), .int .i64 (199), .int .i64 (209), .int .i64 (201)]) (all := [.int .i64 (203), .int .i64 (199), .int .i64 (209), .int .i64 (201)]) ty100 rfl rfl rfl) ?_
        intro w hw
        obtain ⟨β1, sb, kn, hw1, back⟩ := St.frame_all hw
        refine (room_ok β1 w hw1 (203 : Int) (199 : Int) (209 : Int) (201 : Int)).mono ?_
        rintro e w' ⟨rfl, hw'⟩
        refine ⟨_, rfl, _, back _ _ hw', ?_⟩
        clear hw hw1 hw' back kn sb
        refine l_nil ?_
        exact f_owes_d rfl rfl (List.Perm.refl _)
      · rintro f M ⟨k0, k1, -⟩ -
        have hs29 : f 29 = .agg #[.int .i64 (200), .int .i64 (200), .int .i64 (204), .int .i64 (204)] := k0
        have hs30 : f 30 = .agg #[.int .i64 (203), .int .i64 (199), .int .i64 (209), .int .i64 (201)] := k1
        refine ob_start (L' := M) (by rfl) (up_cons (up_cons rfl hs29) hs30) ?_
        refine l_mv rfl rfl rfl (m_slices tp14 tp8 (vs := [(0, .agg #[.int .i64 (200), .int .i64 (200), .int .i64 (204), .int .i64 (204)]), (1, .agg #[.int .i64 (203), .int .i64 (199), .int .i64 (209), .int .i64 (201)])]) (cells := #[.int .i64 (200), .int .i64 (200), .int .i64 (204), .int .i64 (204), .int .i64 (203), .int .i64 (199), .int .i64 (209), .int .i64 (201)]) rfl rfl rfl rfl) ?_
        rintro _ _ ⟨b7, rfl, rfl⟩
        refine l_nil ?_
        exact f_owes_d (up_cons (up_cons rfl hs29) hs30) rfl (perm_front 0 rfl)
      · rintro f M - -
        refine ob_start (L' := M) (by rfl) rfl ?_
        refine l_call rfl rfl rfl (cl_value (fst := []) (cap := []) (vs := [.int .i64 (200), .int .i64 (200), .int .i64 (200), .int .i64 (204)]) (all := [.int .i64 (200), .int .i64 (200), .int .i64 (200), .int .i64 (204)]) ty100 rfl rfl rfl) ?_
        intro w hw
        obtain ⟨β1, sb, kn, hw1, back⟩ := St.frame_all hw
        refine (room_ok β1 w hw1 (200 : Int) (200 : Int) (200 : Int) (204 : Int)).mono ?_
        rintro e w' ⟨rfl, hw'⟩
        refine ⟨_, rfl, _, back _ _ hw', ?_⟩
        clear hw hw1 hw' back kn sb
        refine l_nil ?_
        exact f_owes_d rfl rfl (List.Perm.refl _)
      · rintro f M ⟨k0, -⟩ -
        have hs32 : f 32 = .agg #[.int .i64 (200), .int .i64 (200), .int .i64 (200), .int .i64 (204)] := k0
        refine ob_start (L' := M) (by rfl) (up_cons rfl hs32) ?_
        refine l_mv rfl rfl rfl (m_slices tp14 tp8 (vs := [(0, .agg #[.int .i64 (200), .int .i64 (200), .int .i64 (200), .int .i64 (204)])]) (cells := #[.int .i64 (200), .int .i64 (200), .int .i64 (200), .int .i64 (204)]) rfl rfl rfl rfl) ?_
        rintro _ _ ⟨b9, rfl, rfl⟩
        refine l_nil ?_
        exact f_owes_d (up_cons rfl hs32) rfl (perm_front 0 rfl)
      · rintro f M - -
        refine ob_start (L' := M) (by rfl) rfl ?_
        refine l_call rfl rfl rfl (cl_value (fst := []) (cap := []) (vs := [.int .i64 (200), .int .i64 (204), .int .i64 (204), .int .i64 (204)]) (all := [.int .i64 (200), .int .i64 (204), .int .i64 (204), .int .i64 (204)]) ty100 rfl rfl rfl) ?_
        intro w hw
        obtain ⟨β1, sb, kn, hw1, back⟩ := St.frame_all hw
        refine (room_ok β1 w hw1 (200 : Int) (204 : Int) (204 : Int) (204 : Int)).mono ?_
        rintro e w' ⟨rfl, hw'⟩
        refine ⟨_, rfl, _, back _ _ hw', ?_⟩
        clear hw hw1 hw' back kn sb
        refine l_nil ?_
        exact f_owes_d rfl rfl (List.Perm.refl _)
      · rintro f M ⟨k0, -⟩ -
        have hs34 : f 34 = .agg #[.int .i64 (200), .int .i64 (204), .int .i64 (204), .int .i64 (204)] := k0
        refine ob_start (L' := M) (by rfl) (up_cons rfl hs34) ?_
        refine l_mv rfl rfl rfl (m_slices tp14 tp8 (vs := [(0, .agg #[.int .i64 (200), .int .i64 (204), .int .i64 (204), .int .i64 (204)])]) (cells := #[.int .i64 (200), .int .i64 (204), .int .i64 (204), .int .i64 (204)]) rfl rfl rfl rfl) ?_
        rintro _ _ ⟨b11, rfl, rfl⟩
        refine l_nil ?_
        exact f_owes_d (up_cons rfl hs34) rfl (perm_front 0 rfl)
      · rintro f M - -
        refine ob_start (L' := M) (by rfl) rfl ?_
        refine l_call rfl rfl rfl (cl_value (fst := []) (cap := []) (vs := [.int .i64 (204), .int .i64 (200), .int .i64 (200), .int .i64 (204)]) (all := [.int .i64 (204), .int .i64 (200), .int .i64 (200), .int .i64 (204)]) ty100 rfl rfl rfl) ?_
        intro w hw
        obtain ⟨β1, sb, kn, hw1, back⟩ := St.frame_all hw
        refine (room_ok β1 w hw1 (204 : Int) (200 : Int) (200 : Int) (204 : Int)).mono ?_
        rintro e w' ⟨rfl, hw'⟩
        refine ⟨_, rfl, _, back _ _ hw', ?_⟩
        clear hw hw1 hw' back kn sb
        refine l_nil ?_
        exact f_owes_d rfl rfl (List.Perm.refl _)
      · rintro f M ⟨k0, -⟩ -
        have hs36 : f 36 = .agg #[.int .i64 (204), .int .i64 (200), .int .i64 (200), .int .i64 (204)] := k0
        refine ob_start (L' := M) (by rfl) (up_cons rfl hs36) ?_
        refine l_mv rfl rfl rfl (m_slices tp14 tp8 (vs := [(0, .agg #[.int .i64 (204), .int .i64 (200), .int .i64 (200), .int .i64 (204)])]) (cells := #[.int .i64 (204), .int .i64 (200), .int .i64 (200), .int .i64 (204)]) rfl rfl rfl rfl) ?_
        rintro _ _ ⟨b13, rfl, rfl⟩
        refine l_nil ?_
        exact f_owes_d (up_cons rfl hs36) rfl (perm_front 0 rfl)
      · rintro f M - -
        refine ob_start (L' := M) (by rfl) rfl ?_
        refine l_call rfl rfl rfl (cl_value (fst := []) (cap := []) (vs := [.int .i64 (0), .int .i64 (-5), .int .i64 (2097153), .int .i64 (-1)]) (all := [.int .i64 (0), .int .i64 (-5), .int .i64 (2097153), .int .i64 (-1)]) ty100 rfl rfl rfl) ?_
        intro w hw
        obtain ⟨β1, sb, kn, hw1, back⟩ := St.frame_all hw
        refine (room_ok β1 w hw1 (0 : Int) (-5 : Int) (2097153 : Int) (-1 : Int)).mono ?_
        rintro e w' ⟨rfl, hw'⟩
        refine ⟨_, rfl, _, back _ _ hw', ?_⟩
        clear hw hw1 hw' back kn sb
        refine l_nil ?_
        exact f_owes_d rfl rfl (List.Perm.refl _)
      · rintro f M ⟨k0, -⟩ -
        have hs38 : f 38 = .agg #[.int .i64 (0), .int .i64 (-5), .int .i64 (2097153), .int .i64 (-1)] := k0
        refine ob_start (L' := M) (by rfl) (up_cons rfl hs38) ?_
        refine l_mv rfl rfl rfl (m_slices tp14 tp8 (vs := [(0, .agg #[.int .i64 (0), .int .i64 (-5), .int .i64 (2097153), .int .i64 (-1)])]) (cells := #[.int .i64 (0), .int .i64 (-5), .int .i64 (2097153), .int .i64 (-1)]) rfl rfl rfl rfl) ?_
        rintro _ _ ⟨b15, rfl, rfl⟩
        refine l_nil ?_
        exact f_owes_d (up_cons rfl hs38) rfl (perm_front 0 rfl)
      · rintro f M ⟨k0, k1, k2, k3, k4, k5, -⟩ -
        have hs28 : f 28 = .slice (some ⟨(blk (f 28)), 0, none⟩) 2 2 := k0
        have hs31 : f 31 = .slice (some ⟨(blk (f 31)), 0, none⟩) 2 2 := k1
        have hs33 : f 33 = .slice (some ⟨(blk (f 33)), 0, none⟩) 1 1 := k2
        have hs35 : f 35 = .slice (some ⟨(blk (f 35)), 0, none⟩) 1 1 := k3
        have hs37 : f 37 = .slice (some ⟨(blk (f 37)), 0, none⟩) 1 1 := k4
        have hs39 : f 39 = .slice (some ⟨(blk (f 39)), 0, none⟩) 1 1 := k5
        refine ob_start (L' := M) (by rfl) (up_cons (up_cons (up_cons (up_cons (up_cons (up_cons rfl hs28) hs31) hs33) hs35) hs37) hs39) ?_
        refine l_val (v := .agg #[.slice (some ⟨(blk (f 28)), 0, none⟩) 2 2, .slice (some ⟨(blk (f 31)), 0, none⟩) 2 2, .slice (some ⟨(blk (f 33)), 0, none⟩) 1 1, .slice (some ⟨(blk (f 35)), 0, none⟩) 1 1, .slice (some ⟨(blk (f 37)), 0, none⟩) 1 1, .slice (some ⟨(blk (f 39)), 0, none⟩) 1 1]) rfl rfl rfl (e_build_a se123 se122 (vs := [(0, .slice (some ⟨(blk (f 28)), 0, none⟩) 2 2), (1, .slice (some ⟨(blk (f 31)), 0, none⟩) 2 2), (2, .slice (some ⟨(blk (f 33)), 0, none⟩) 1 1), (3, .slice (some ⟨(blk (f 35)), 0, none⟩) 1 1), (4, .slice (some ⟨(blk (f 37)), 0, none⟩) 1 1), (5, .slice (some ⟨(blk (f 39)), 0, none⟩) 1 1)]) (cells := #[.slice (some ⟨(blk (f 28)), 0, none⟩) 2 2, .slice (some ⟨(blk (f 31)), 0, none⟩) 2 2, .slice (some ⟨(blk (f 33)), 0, none⟩) 1 1, .slice (some ⟨(blk (f 35)), 0, none⟩) 1 1, .slice (some ⟨(blk (f 37)), 0, none⟩) 1 1, .slice (some ⟨(blk (f 39)), 0, none⟩) 1 1]) rfl rfl) ?_
        refine l_nil ?_
        exact f_owes_d (up_cons (up_cons (up_cons (up_cons (up_cons (up_cons rfl hs28) hs31) hs33) hs35) hs37) hs39) rfl (List.Perm.refl _)
      · rintro f M - ⟨i0, -⟩
        have hs1 : f 1 = Bx (y) := i0
        refine ob_start (L' := M) (by rfl) (up_cons rfl hs1) ?_
        refine l_val (v := Bx (y)) rfl rfl rfl (e_move) ?_
        refine l_nil ?_
        exact f_owes_d (up_cons rfl hs1) rfl (List.Perm.refl _)
      · rintro f M ⟨k0, -⟩ -
        have hs41 : f 41 = Bx (y) := k0
        refine ob_start (L' := M) (by rfl) (up_cons rfl hs41) ?_
        refine l_val (v := .int .u8 (((y.toNat % 6 : Nat)) : Int)) rfl rfl rfl (e_rem (a := ((y).toNat : Int)) (b := ((6 : Nat) : Int)) rfl rfl (by decide) (nat_tmod _ _)) ?_
        refine l_nil ?_
        exact f_owes_d (up_cons rfl hs41) rfl (List.Perm.refl _)
      · rintro f M ⟨k0, k1, -⟩ -
        have hs40 : f 40 = .agg #[.slice (some ⟨(blk (f 28)), 0, none⟩) 2 2, .slice (some ⟨(blk (f 31)), 0, none⟩) 2 2, .slice (some ⟨(blk (f 33)), 0, none⟩) 1 1, .slice (some ⟨(blk (f 35)), 0, none⟩) 1 1, .slice (some ⟨(blk (f 37)), 0, none⟩) 1 1, .slice (some ⟨(blk (f 39)), 0, none⟩) 1 1] := k0
        have hs42 : f 42 = .int .u8 (((y.toNat % 6 : Nat)) : Int) := k1
        refine ob_start (L' := M) (by rfl) (up_cons (up_cons rfl hs40) hs42) ?_
        refine l_val (v := .slice (some ⟨(blk (f 28)), 0, none⟩) 2 2) rfl rfl rfl (e_index_u (k := y.toNat % 6) rfl rfl se122 (by rw [hw6]; rfl) (by omega) tu20) ?_
        refine l_nil ?_
        exact f_owes_d (up_cons (up_cons rfl hs40) hs42) rfl (List.Perm.refl _)
      · rintro f M ⟨k0, -⟩ -
        have hs43 : f 43 = .slice (some ⟨(blk (f 28)), 0, none⟩) 2 2 := k0
        refine ob_start (L' := M) (by rfl) (up_cons rfl hs43) ?_
        refine l_val (v := .slice (some ⟨(blk (f 28)), 0, none⟩) 2 2) rfl rfl rfl (e_assign) ?_
        refine l_nil ?_
        exact f_owes_d (up_cons rfl hs43) rfl (List.Perm.refl _)
      rintro fa16 ⟨-, -, -, -, -, -, -, -, -, -, -, -, -, -, -, -, -, -, k18, -⟩ ⟨j0, j1, -⟩
      refine f_re (L' := [pt b3 (.cells #[.int .i64 (200), .int .i64 (200), .int .i64 (204), .int .i64 (204)] 29), rowF AreaF 29 p1 c2 l, pt (blk (fa16 28)) (.cells #[.int .i64 (200), .int .i64 (200), .int .i64 (204), .int .i64 (204), .int .i64 (200), .int .i64 (200), .int .i64 (204), .int .i64 (204)] 29), pt (blk (fa16 31)) (.cells #[.int .i64 (200), .int .i64 (200), .int .i64 (204), .int .i64 (204), .int .i64 (203), .int .i64 (199), .int .i64 (209), .int .i64 (201)] 29), pt (blk (fa16 33)) (.cells #[.int .i64 (200), .int .i64 (200), .int .i64 (200), .int .i64 (204)] 29), pt (blk (fa16 35)) (.cells #[.int .i64 (200), .int .i64 (204), .int .i64 (204), .int .i64 (204)] 29), pt (blk (fa16 37)) (.cells #[.int .i64 (204), .int .i64 (200), .int .i64 (200), .int .i64 (204)] 29), pt (blk (fa16 39)) (.cells #[.int .i64 (0), .int .i64 (-5), .int .i64 (2097153), .int .i64 (-1)] 29)]) (by rfl) ?_
      refine f_rebase (d := 5) (v := .slice p1 (l.length) c2) j0 ?_
      refine f_rebase (d := 6) (v := .pointer (some ⟨b3, 0, none⟩)) j1 ?_
      refine f_rebase (d := 7) (v := .slice (some ⟨(blk (fa16 28)), 0, none⟩) 2 2) k18 ?_
      refine f_conseqP 2 (r' := rowF AreaF 29 (some ⟨(blk (fa16 28)), 0, none⟩) 2 [(⟨200, 200, 204, 204⟩ : KA), (⟨200, 200, 204, 204⟩ : KA)]) rfl (pt_rowF (F := AreaF) (xs := [(⟨200, 200, 204, 204⟩ : KA), (⟨200, 200, 204, 204⟩ : KA)]) rfl (by simp)) ?_
      refine f_re (L' := [pt b3 (.cells #[.int .i64 (200), .int .i64 (200), .int .i64 (204), .int .i64 (204)] 29), rowF AreaF 29 p1 c2 l, rowF AreaF 29 (some ⟨(blk (fa16 28)), 0, none⟩) 2 [(⟨200, 200, 204, 204⟩ : KA), (⟨200, 200, 204, 204⟩ : KA)], pt (blk (fa16 31)) (.cells #[.int .i64 (200), .int .i64 (200), .int .i64 (204), .int .i64 (204), .int .i64 (203), .int .i64 (199), .int .i64 (209), .int .i64 (201)] 29), pt (blk (fa16 33)) (.cells #[.int .i64 (200), .int .i64 (200), .int .i64 (200), .int .i64 (204)] 29), pt (blk (fa16 35)) (.cells #[.int .i64 (200), .int .i64 (204), .int .i64 (204), .int .i64 (204)] 29), pt (blk (fa16 37)) (.cells #[.int .i64 (204), .int .i64 (200), .int .i64 (200), .int .i64 (204)] 29), pt (blk (fa16 39)) (.cells #[.int .i64 (0), .int .i64 (-5), .int .i64 (2097153), .int .i64 (-1)] 29)]) rfl ?_
      refine f_perm (L' := [rowF AreaF 29 p1 c2 l, pt b3 (.cells #[.int .i64 (200), .int .i64 (200), .int .i64 (204), .int .i64 (204)] 29), rowF AreaF 29 (some ⟨(blk (fa16 28)), 0, none⟩) 2 [(⟨200, 200, 204, 204⟩ : KA), (⟨200, 200, 204, 204⟩ : KA)], pt (blk (fa16 31)) (.cells #[.int .i64 (200), .int .i64 (200), .int .i64 (204), .int .i64 (204), .int .i64 (203), .int .i64 (199), .int .i64 (209), .int .i64 (201)] 29), pt (blk (fa16 33)) (.cells #[.int .i64 (200), .int .i64 (200), .int .i64 (200), .int .i64 (204)] 29), pt (blk (fa16 35)) (.cells #[.int .i64 (200), .int .i64 (204), .int .i64 (204), .int .i64 (204)] 29), pt (blk (fa16 37)) (.cells #[.int .i64 (204), .int .i64 (200), .int .i64 (200), .int .i64 (204)] 29), pt (blk (fa16 39)) (.cells #[.int .i64 (0), .int .i64 (-5), .int .i64 (2097153), .int .i64 (-1)] 29)]) (perm_ix [1, 0, 2, 3, 4, 5, 6, 7] 8 rfl (by kernel_rfl) (by kernel_rfl)) ?_
      refine f_mask (L' := [rowF AreaF 29 p1 c2 l, pt b3 (.cells #[.int .i64 (200), .int .i64 (200), .int .i64 (204), .int .i64 (204)] 29), rowF AreaF 29 (some ⟨(blk (fa16 28)), 0, none⟩) 2 [(⟨200, 200, 204, 204⟩ : KA), (⟨200, 200, 204, 204⟩ : KA)]]) [true, true, true, false, false, false, false, false] rfl ?_
      exact f_cut ⟨(some ⟨(blk (fa16 28)), 0, none⟩), 2, [(⟨200, 200, 204, 204⟩ : KA), (⟨200, 200, 204, 204⟩ : KA)], ⟨rfl, rfl, rfl⟩, rfl, ⟨bad0, by decide⟩⟩
    ·
      refine c_any [⟨[], [], [0], [26], fun f => f 26 = .agg #[.int .i64 (200), .int .i64 (200), .int .i64 (204), .int .i64 (204)]⟩, ⟨[], [], [0], [27], fun f => f 27 = .agg #[.int .i64 (200), .int .i64 (200), .int .i64 (204), .int .i64 (204)]⟩, ⟨[0, 1], [0, 1], [], [28], fun f => f 28 = .slice (some ⟨(blk (f 28)), 0, none⟩) 2 2⟩, ⟨[], [], [0], [29], fun f => f 29 = .agg #[.int .i64 (200), .int .i64 (200), .int .i64 (204), .int .i64 (204)]⟩, ⟨[], [], [], [30], fun f => f 30 = .agg #[.int .i64 (203), .int .i64 (199), .int .i64 (209), .int .i64 (201)]⟩, ⟨[3, 4], [3, 4], [], [31], fun f => f 31 = .slice (some ⟨(blk (f 31)), 0, none⟩) 2 2⟩, ⟨[4], [], [], [32], fun f => f 32 = .agg #[.int .i64 (200), .int .i64 (200), .int .i64 (200), .int .i64 (204)]⟩, ⟨[4, 6], [6], [], [33], fun f => f 33 = .slice (some ⟨(blk (f 33)), 0, none⟩) 1 1⟩, ⟨[4, 6], [], [], [34], fun f => f 34 = .agg #[.int .i64 (200), .int .i64 (204), .int .i64 (204), .int .i64 (204)]⟩, ⟨[4, 6, 8], [8], [], [35], fun f => f 35 = .slice (some ⟨(blk (f 35)), 0, none⟩) 1 1⟩, ⟨[4, 6, 8], [], [], [36], fun f => f 36 = .agg #[.int .i64 (204), .int .i64 (200), .int .i64 (200), .int .i64 (204)]⟩, ⟨[4, 6, 8, 10], [10], [], [37], fun f => f 37 = .slice (some ⟨(blk (f 37)), 0, none⟩) 1 1⟩, ⟨[4, 6, 8, 10], [], [], [38], fun f => f 38 = .agg #[.int .i64 (0), .int .i64 (-5), .int .i64 (2097153), .int .i64 (-1)]⟩, ⟨[4, 6, 8, 10, 12], [12], [], [39], fun f => f 39 = .slice (some ⟨(blk (f 39)), 0, none⟩) 1 1⟩, ⟨[0, 1, 2, 3, 4, 5, 6, 7, 8, 9, 10, 11, 12, 13], [2, 5, 7, 9, 11, 13], [], [28, 31, 33, 35, 37, 39, 40], fun f => f 40 = .agg #[.slice (some ⟨(blk (f 28)), 0, none⟩) 2 2, .slice (some ⟨(blk (f 31)), 0, none⟩) 2 2, .slice (some ⟨(blk (f 33)), 0, none⟩) 1 1, .slice (some ⟨(blk (f 35)), 0, none⟩) 1 1, .slice (some ⟨(blk (f 37)), 0, none⟩) 1 1, .slice (some ⟨(blk (f 39)), 0, none⟩) 1 1]⟩, ⟨[], [], [1], [41], fun f => f 41 = Bx (y)⟩, ⟨[15], [15], [], [42], fun f => f 42 = .int .u8 (((y.toNat % 6 : Nat)) : Int)⟩, ⟨[0, 1, 2, 3, 4, 5, 6, 7, 8, 9, 10, 11, 12, 13, 14, 15, 16], [14, 16], [], [31, 43], fun f => f 43 = .slice (some ⟨(blk (f 31)), 0, none⟩) 2 2⟩, ⟨[0, 1, 2, 3, 4, 5, 6, 7, 8, 9, 10, 11, 12, 13, 14, 15, 16, 17], [17], [], [7, 31], fun f => f 7 = .slice (some ⟨(blk (f 31)), 0, none⟩) 2 2⟩] [⟨none, none, [0, 1, 3], [], fun _ => pt b3 (.cells #[.int .i64 (200), .int .i64 (200), .int .i64 (204), .int .i64 (204)] 29)⟩, ⟨none, none, [], [], fun _ => rowF AreaF 29 p1 c2 l⟩, ⟨(some 2), none, [], [28], fun f => pt (blk (f 28)) (.cells #[.int .i64 (200), .int .i64 (200), .int .i64 (204), .int .i64 (204), .int .i64 (200), .int .i64 (200), .int .i64 (204), .int .i64 (204)] 29)⟩, ⟨(some 5), none, [], [31], fun f => pt (blk (f 31)) (.cells #[.int .i64 (200), .int .i64 (200), .int .i64 (204), .int .i64 (204), .int .i64 (203), .int .i64 (199), .int .i64 (209), .int .i64 (201)] 29)⟩, ⟨(some 7), none, [], [33], fun f => pt (blk (f 33)) (.cells #[.int .i64 (200), .int .i64 (200), .int .i64 (200), .int .i64 (204)] 29)⟩, ⟨(some 9), none, [], [35], fun f => pt (blk (f 35)) (.cells #[.int .i64 (200), .int .i64 (204), .int .i64 (204), .int .i64 (204)] 29)⟩, ⟨(some 11), none, [], [37], fun f => pt (blk (f 37)) (.cells #[.int .i64 (204), .int .i64 (200), .int .i64 (200), .int .i64 (204)] 29)⟩, ⟨(some 13), none, [], [39], fun f => pt (blk (f 39)) (.cells #[.int .i64 (0), .int .i64 (-5), .int .i64 (2097153), .int .i64 (-1)] 29)⟩] [(6, .pointer (some ⟨b3, 0, none⟩)), (1, Bx (y)), (5, .slice p1 (l.length) c2)] [2, 0] [] (by kernel_rfl) (by kernel_rfl) (by kernel_rfl) (by kernel_rfl) rfl ⟨rfl, rfl, rfl, trivial⟩ ⟨?_, ?_, ?_, ?_, ?_, ?_, ?_, ?_, ?_, ?_, ?_, ?_, ?_, ?_, ?_, ?_, ?_, ?_, ?_, trivial⟩ ?_
      · rintro f M - ⟨i0, -⟩
        have hs6 : f 6 = .pointer (some ⟨b3, 0, none⟩) := i0
        refine ob_start (L' := pt b3 (.cells #[.int .i64 (200), .int .i64 (200), .int .i64 (204), .int .i64 (204)] 29) :: M) (by rfl) (up_cons rfl hs6) ?_
        refine l_val (v := .agg #[.int .i64 (200), .int .i64 (200), .int .i64 (204), .int .i64 (204)]) rfl rfl rfl (e_load tp10 (cs := [.int .i64 (200), .int .i64 (200), .int .i64 (204), .int .i64 (204)]) rfl (k_pt 0 (cs := #[.int .i64 (200), .int .i64 (200), .int .i64 (204), .int .i64 (204)]) (vs := [.int .i64 (200), .int .i64 (200), .int .i64 (204), .int .i64 (204)]) rfl rfl) rfl) ?_
        refine l_nil ?_
        exact f_owes_d (up_cons rfl hs6) rfl (perm_front 0 rfl)
      · rintro f M - ⟨i0, -⟩
        have hs6 : f 6 = .pointer (some ⟨b3, 0, none⟩) := i0
        refine ob_start (L' := pt b3 (.cells #[.int .i64 (200), .int .i64 (200), .int .i64 (204), .int .i64 (204)] 29) :: M) (by rfl) (up_cons rfl hs6) ?_
        refine l_val (v := .agg #[.int .i64 (200), .int .i64 (200), .int .i64 (204), .int .i64 (204)]) rfl rfl rfl (e_load tp10 (cs := [.int .i64 (200), .int .i64 (200), .int .i64 (204), .int .i64 (204)]) rfl (k_pt 0 (cs := #[.int .i64 (200), .int .i64 (200), .int .i64 (204), .int .i64 (204)]) (vs := [.int .i64 (200), .int .i64 (200), .int .i64 (204), .int .i64 (204)]) rfl rfl) rfl) ?_
        refine l_nil ?_
        exact f_owes_d (up_cons rfl hs6) rfl (perm_front 0 rfl)
      · rintro f M ⟨k0, k1, -⟩ -
        have hs26 : f 26 = .agg #[.int .i64 (200), .int .i64 (200), .int .i64 (204), .int .i64 (204)] := k0
        have hs27 : f 27 = .agg #[.int .i64 (200), .int .i64 (200), .int .i64 (204), .int .i64 (204)] := k1
        refine ob_start (L' := M) (by rfl) (up_cons (up_cons rfl hs26) hs27) ?_
        refine l_mv rfl rfl rfl (m_slices tp14 tp8 (vs := [(0, .agg #[.int .i64 (200), .int .i64 (200), .int .i64 (204), .int .i64 (204)]), (1, .agg #[.int .i64 (200), .int .i64 (200), .int .i64 (204), .int .i64 (204)])]) (cells := #[.int .i64 (200), .int .i64 (200), .int .i64 (204), .int .i64 (204), .int .i64 (200), .int .i64 (200), .int .i64 (204), .int .i64 (204)]) rfl rfl rfl rfl) ?_
        rintro _ _ ⟨b18, rfl, rfl⟩
        refine l_nil ?_
        exact f_owes_d (up_cons (up_cons rfl hs26) hs27) rfl (perm_front 0 rfl)
      · rintro f M - ⟨i0, -⟩
        have hs6 : f 6 = .pointer (some ⟨b3, 0, none⟩) := i0
        refine ob_start (L' := pt b3 (.cells #[.int .i64 (200), .int .i64 (200), .int .i64 (204), .int .i64 (204)] 29) :: M) (by rfl) (up_cons rfl hs6) ?_
        refine l_val (v := .agg #[.int .i64 (200), .int .i64 (200), .int .i64 (204), .int .i64 (204)]) rfl rfl rfl (e_load tp10 (cs := [.int .i64 (200), .int .i64 (200), .int .i64 (204), .int .i64 (204)]) rfl (k_pt 0 (cs := #[.int .i64 (200), .int .i64 (200), .int .i64 (204), .int .i64 (204)]) (vs := [.int .i64 (200), .int .i64 (200), .int .i64 (204), .int .i64 (204)]) rfl rfl) rfl) ?_
        refine l_nil ?_
        exact f_owes_d (up_cons rfl hs6) rfl (perm_front 0 rfl)
      · rintro f M - -
        refine ob_start (L' := M) (by rfl) rfl ?_
        refine l_call rfl rfl rfl (cl_value (fst := []) (cap := []) (vs := [.int .i64 (203), .int .i64 (199), .int .i64 (209), .int .i64 (201)]) (all := [.int .i64 (203), .int .i64 (199), .int .i64 (209), .int .i64 (201)]) ty100 rfl rfl rfl) ?_
        intro w hw
        obtain ⟨β1, sb, kn, hw1, back⟩ := St.frame_all hw
        refine (room_ok β1 w hw1 (203 : Int) (199 : Int) (209 : Int) (201 : Int)).mono ?_
        rintro e w' ⟨rfl, hw'⟩
        refine ⟨_, rfl, _, back _ _ hw', ?_⟩
        clear hw hw1 hw' back kn sb
        refine l_nil ?_
        exact f_owes_d rfl rfl (List.Perm.refl _)
      · rintro f M ⟨k0, k1, -⟩ -
        have hs29 : f 29 = .agg #[.int .i64 (200), .int .i64 (200), .int .i64 (204), .int .i64 (204)] := k0
        have hs30 : f 30 = .agg #[.int .i64 (203), .int .i64 (199), .int .i64 (209), .int .i64 (201)] := k1
        refine ob_start (L' := M) (by rfl) (up_cons (up_cons rfl hs29) hs30) ?_
        refine l_mv rfl rfl rfl (m_slices tp14 tp8 (vs := [(0, .agg #[.int .i64 (200), .int .i64 (200), .int .i64 (204), .int .i64 (204)]), (1, .agg #[.int .i64 (203), .int .i64 (199), .int .i64 (209), .int .i64 (201)])]) (cells := #[.int .i64 (200), .int .i64 (200), .int .i64 (204), .int .i64 (204), .int .i64 (203), .int .i64 (199), .int .i64 (209), .int .i64 (201)]) rfl rfl rfl rfl) ?_
        rintro _ _ ⟨b20, rfl, rfl⟩
        refine l_nil ?_
        exact f_owes_d (up_cons (up_cons rfl hs29) hs30) rfl (perm_front 0 rfl)
      · rintro f M - -
        refine ob_start (L' := M) (by rfl) rfl ?_
        refine l_call rfl rfl rfl (cl_value (fst := []) (cap := []) (vs := [.int .i64 (200), .int .i64 (200), .int .i64 (200), .int .i64 (204)]) (all := [.int .i64 (200), .int .i64 (200), .int .i64 (200), .int .i64 (204)]) ty100 rfl rfl rfl) ?_
        intro w hw
        obtain ⟨β1, sb, kn, hw1, back⟩ := St.frame_all hw
        refine (room_ok β1 w hw1 (200 : Int) (200 : Int) (200 : Int) (204 : Int)).mono ?_
        rintro e w' ⟨rfl, hw'⟩
        refine ⟨_, rfl, _, back _ _ hw', ?_⟩
        clear hw hw1 hw' back kn sb
        refine l_nil ?_
        exact f_owes_d rfl rfl (List.Perm.refl _)
      · rintro f M ⟨k0, -⟩ -
        have hs32 : f 32 = .agg #[.int .i64 (200), .int .i64 (200), .int .i64 (200), .int .i64 (204)] := k0
        refine ob_start (L' := M) (by rfl) (up_cons rfl hs32) ?_
        refine l_mv rfl rfl rfl (m_slices tp14 tp8 (vs := [(0, .agg #[.int .i64 (200), .int .i64 (200), .int .i64 (200), .int .i64 (204)])]) (cells := #[.int .i64 (200), .int .i64 (200), .int .i64 (200), .int .i64 (204)]) rfl rfl rfl rfl) ?_
        rintro _ _ ⟨b22, rfl, rfl⟩
        refine l_nil ?_
        exact f_owes_d (up_cons rfl hs32) rfl (perm_front 0 rfl)
      · rintro f M - -
        refine ob_start (L' := M) (by rfl) rfl ?_
        refine l_call rfl rfl rfl (cl_value (fst := []) (cap := []) (vs := [.int .i64 (200), .int .i64 (204), .int .i64 (204), .int .i64 (204)]) (all := [.int .i64 (200), .int .i64 (204), .int .i64 (204), .int .i64 (204)]) ty100 rfl rfl rfl) ?_
        intro w hw
        obtain ⟨β1, sb, kn, hw1, back⟩ := St.frame_all hw
        refine (room_ok β1 w hw1 (200 : Int) (204 : Int) (204 : Int) (204 : Int)).mono ?_
        rintro e w' ⟨rfl, hw'⟩
        refine ⟨_, rfl, _, back _ _ hw', ?_⟩
        clear hw hw1 hw' back kn sb
        refine l_nil ?_
        exact f_owes_d rfl rfl (List.Perm.refl _)
      · rintro f M ⟨k0, -⟩ -
        have hs34 : f 34 = .agg #[.int .i64 (200), .int .i64 (204), .int .i64 (204), .int .i64 (204)] := k0
        refine ob_start (L' := M) (by rfl) (up_cons rfl hs34) ?_
        refine l_mv rfl rfl rfl (m_slices tp14 tp8 (vs := [(0, .agg #[.int .i64 (200), .int .i64 (204), .int .i64 (204), .int .i64 (204)])]) (cells := #[.int .i64 (200), .int .i64 (204), .int .i64 (204), .int .i64 (204)]) rfl rfl rfl rfl) ?_
        rintro _ _ ⟨b24, rfl, rfl⟩
        refine l_nil ?_
        exact f_owes_d (up_cons rfl hs34) rfl (perm_front 0 rfl)
      · rintro f M - -
        refine ob_start (L' := M) (by rfl) rfl ?_
        refine l_call rfl rfl rfl (cl_value (fst := []) (cap := []) (vs := [.int .i64 (204), .int .i64 (200), .int .i64 (200), .int .i64 (204)]) (all := [.int .i64 (204), .int .i64 (200), .int .i64 (200), .int .i64 (204)]) ty100 rfl rfl rfl) ?_
        intro w hw
        obtain ⟨β1, sb, kn, hw1, back⟩ := St.frame_all hw
        refine (room_ok β1 w hw1 (204 : Int) (200 : Int) (200 : Int) (204 : Int)).mono ?_
        rintro e w' ⟨rfl, hw'⟩
        refine ⟨_, rfl, _, back _ _ hw', ?_⟩
        clear hw hw1 hw' back kn sb
        refine l_nil ?_
        exact f_owes_d rfl rfl (List.Perm.refl _)
      · rintro f M ⟨k0, -⟩ -
        have hs36 : f 36 = .agg #[.int .i64 (204), .int .i64 (200), .int .i64 (200), .int .i64 (204)] := k0
        refine ob_start (L' := M) (by rfl) (up_cons rfl hs36) ?_
        refine l_mv rfl rfl rfl (m_slices tp14 tp8 (vs := [(0, .agg #[.int .i64 (204), .int .i64 (200), .int .i64 (200), .int .i64 (204)])]) (cells := #[.int .i64 (204), .int .i64 (200), .int .i64 (200), .int .i64 (204)]) rfl rfl rfl rfl) ?_
        rintro _ _ ⟨b26, rfl, rfl⟩
        refine l_nil ?_
        exact f_owes_d (up_cons rfl hs36) rfl (perm_front 0 rfl)
      · rintro f M - -
        refine ob_start (L' := M) (by rfl) rfl ?_
        refine l_call rfl rfl rfl (cl_value (fst := []) (cap := []) (vs := [.int .i64 (0), .int .i64 (-5), .int .i64 (2097153), .int .i64 (-1)]) (all := [.int .i64 (0), .int .i64 (-5), .int .i64 (2097153), .int .i64 (-1)]) ty100 rfl rfl rfl) ?_
        intro w hw
        obtain ⟨β1, sb, kn, hw1, back⟩ := St.frame_all hw
        refine (room_ok β1 w hw1 (0 : Int) (-5 : Int) (2097153 : Int) (-1 : Int)).mono ?_
        rintro e w' ⟨rfl, hw'⟩
        refine ⟨_, rfl, _, back _ _ hw', ?_⟩
        clear hw hw1 hw' back kn sb
        refine l_nil ?_
        exact f_owes_d rfl rfl (List.Perm.refl _)
      · rintro f M ⟨k0, -⟩ -
        have hs38 : f 38 = .agg #[.int .i64 (0), .int .i64 (-5), .int .i64 (2097153), .int .i64 (-1)] := k0
        refine ob_start (L' := M) (by rfl) (up_cons rfl hs38) ?_
        refine l_mv rfl rfl rfl (m_slices tp14 tp8 (vs := [(0, .agg #[.int .i64 (0), .int .i64 (-5), .int .i64 (2097153), .int .i64 (-1)])]) (cells := #[.int .i64 (0), .int .i64 (-5), .int .i64 (2097153), .int .i64 (-1)]) rfl rfl rfl rfl) ?_
        rintro _ _ ⟨b28, rfl, rfl⟩
        refine l_nil ?_
        exact f_owes_d (up_cons rfl hs38) rfl (perm_front 0 rfl)
      · rintro f M ⟨k0, k1, k2, k3, k4, k5, -⟩ -
        have hs28 : f 28 = .slice (some ⟨(blk (f 28)), 0, none⟩) 2 2 := k0
        have hs31 : f 31 = .slice (some ⟨(blk (f 31)), 0, none⟩) 2 2 := k1
        have hs33 : f 33 = .slice (some ⟨(blk (f 33)), 0, none⟩) 1 1 := k2
        have hs35 : f 35 = .slice (some ⟨(blk (f 35)), 0, none⟩) 1 1 := k3
        have hs37 : f 37 = .slice (some ⟨(blk (f 37)), 0, none⟩) 1 1 := k4
        have hs39 : f 39 = .slice (some ⟨(blk (f 39)), 0, none⟩) 1 1 := k5
        refine ob_start (L' := M) (by rfl) (up_cons (up_cons (up_cons (up_cons (up_cons (up_cons rfl hs28) hs31) hs33) hs35) hs37) hs39) ?_
        refine l_val (v := .agg #[.slice (some ⟨(blk (f 28)), 0, none⟩) 2 2, .slice (some ⟨(blk (f 31)), 0, none⟩) 2 2, .slice (some ⟨(blk (f 33)), 0, none⟩) 1 1, .slice (some ⟨(blk (f 35)), 0, none⟩) 1 1, .slice (some ⟨(blk (f 37)), 0, none⟩) 1 1, .slice (some ⟨(blk (f 39)), 0, none⟩) 1 1]) rfl rfl rfl (e_build_a se123 se122 (vs := [(0, .slice (some ⟨(blk (f 28)), 0, none⟩) 2 2), (1, .slice (some ⟨(blk (f 31)), 0, none⟩) 2 2), (2, .slice (some ⟨(blk (f 33)), 0, none⟩) 1 1), (3, .slice (some ⟨(blk (f 35)), 0, none⟩) 1 1), (4, .slice (some ⟨(blk (f 37)), 0, none⟩) 1 1), (5, .slice (some ⟨(blk (f 39)), 0, none⟩) 1 1)]) (cells := #[.slice (some ⟨(blk (f 28)), 0, none⟩) 2 2, .slice (some ⟨(blk (f 31)), 0, none⟩) 2 2, .slice (some ⟨(blk (f 33)), 0, none⟩) 1 1, .slice (some ⟨(blk (f 35)), 0, none⟩) 1 1, .slice (some ⟨(blk (f 37)), 0, none⟩) 1 1, .slice (some ⟨(blk (f 39)), 0, none⟩) 1 1]) rfl rfl) ?_
        refine l_nil ?_
        exact f_owes_d (up_cons (up_cons (up_cons (up_cons (up_cons (up_cons rfl hs28) hs31) hs33) hs35) hs37) hs39) rfl (List.Perm.refl _)
      · rintro f M - ⟨i0, -⟩
        have hs1 : f 1 = Bx (y) := i0
        refine ob_start (L' := M) (by rfl) (up_cons rfl hs1) ?_
        refine l_val (v := Bx (y)) rfl rfl rfl (e_move) ?_
        refine l_nil ?_
        exact f_owes_d (up_cons rfl hs1) rfl (List.Perm.refl _)
      · rintro f M ⟨k0, -⟩ -
        have hs41 : f 41 = Bx (y) := k0
        refine ob_start (L' := M) (by rfl) (up_cons rfl hs41) ?_
        refine l_val (v := .int .u8 (((y.toNat % 6 : Nat)) : Int)) rfl rfl rfl (e_rem (a := ((y).toNat : Int)) (b := ((6 : Nat) : Int)) rfl rfl (by decide) (nat_tmod _ _)) ?_
        refine l_nil ?_
        exact f_owes_d (up_cons rfl hs41) rfl (List.Perm.refl _)
      · rintro f M ⟨k0, k1, -⟩ -
        have hs40 : f 40 = .agg #[.slice (some ⟨(blk (f 28)), 0, none⟩) 2 2, .slice (some ⟨(blk (f 31)), 0, none⟩) 2 2, .slice (some ⟨(blk (f 33)), 0, none⟩) 1 1, .slice (some ⟨(blk (f 35)), 0, none⟩) 1 1, .slice (some ⟨(blk (f 37)), 0, none⟩) 1 1, .slice (some ⟨(blk (f 39)), 0, none⟩) 1 1] := k0
        have hs42 : f 42 = .int .u8 (((y.toNat % 6 : Nat)) : Int) := k1
        refine ob_start (L' := M) (by rfl) (up_cons (up_cons rfl hs40) hs42) ?_
        refine l_val (v := .slice (some ⟨(blk (f 31)), 0, none⟩) 2 2) rfl rfl rfl (e_index_u (k := y.toNat % 6) rfl rfl se122 (by rw [hw6]; rfl) (by omega) tu20) ?_
        refine l_nil ?_
        exact f_owes_d (up_cons (up_cons rfl hs40) hs42) rfl (List.Perm.refl _)
      · rintro f M ⟨k0, -⟩ -
        have hs43 : f 43 = .slice (some ⟨(blk (f 31)), 0, none⟩) 2 2 := k0
        refine ob_start (L' := M) (by rfl) (up_cons rfl hs43) ?_
        refine l_val (v := .slice (some ⟨(blk (f 31)), 0, none⟩) 2 2) rfl rfl rfl (e_assign) ?_
        refine l_nil ?_
        exact f_owes_d (up_cons rfl hs43) rfl (List.Perm.refl _)
      rintro fa29 ⟨-, -, -, -, -, -, -, -, -, -, -, -, -, -, -, -, -, -, k18, -⟩ ⟨j0, j1, -⟩
      refine f_re (L' := [pt b3 (.cells #[.int .i64 (200), .int .i64 (200), .int .i64 (204), .int .i64 (204)] 29), rowF AreaF 29 p1 c2 l, pt (blk (fa29 28)) (.cells #[.int .i64 (200), .int .i64 (200), .int .i64 (204), .int .i64 (204), .int .i64 (200), .int .i64 (200), .int .i64 (204), .int .i64 (204)] 29), pt (blk (fa29 31)) (.cells #[.int .i64 (200), .int .i64 (200), .int .i64 (204), .int .i64 (204), .int .i64 (203), .int .i64 (199), .int .i64 (209), .int .i64 (201)] 29), pt (blk (fa29 33)) (.cells #[.int .i64 (200), .int .i64 (200), .int .i64 (200), .int .i64 (204)] 29), pt (blk (fa29 35)) (.cells #[.int .i64 (200), .int .i64 (204), .int .i64 (204), .int .i64 (204)] 29), pt (blk (fa29 37)) (.cells #[.int .i64 (204), .int .i64 (200), .int .i64 (200), .int .i64 (204)] 29), pt (blk (fa29 39)) (.cells #[.int .i64 (0), .int .i64 (-5), .int .i64 (2097153), .int .i64 (-1)] 29)]) (by rfl) ?_
      refine f_rebase (d := 5) (v := .slice p1 (l.length) c2) j0 ?_
      refine f_rebase (d := 6) (v := .pointer (some ⟨b3, 0, none⟩)) j1 ?_
      refine f_rebase (d := 7) (v := .slice (some ⟨(blk (fa29 31)), 0, none⟩) 2 2) k18 ?_
      refine f_conseqP 3 (r' := rowF AreaF 29 (some ⟨(blk (fa29 31)), 0, none⟩) 2 [(⟨200, 200, 204, 204⟩ : KA), (⟨203, 199, 209, 201⟩ : KA)]) rfl (pt_rowF (F := AreaF) (xs := [(⟨200, 200, 204, 204⟩ : KA), (⟨203, 199, 209, 201⟩ : KA)]) rfl (by simp)) ?_
      refine f_re (L' := [pt b3 (.cells #[.int .i64 (200), .int .i64 (200), .int .i64 (204), .int .i64 (204)] 29), rowF AreaF 29 p1 c2 l, pt (blk (fa29 28)) (.cells #[.int .i64 (200), .int .i64 (200), .int .i64 (204), .int .i64 (204), .int .i64 (200), .int .i64 (200), .int .i64 (204), .int .i64 (204)] 29), rowF AreaF 29 (some ⟨(blk (fa29 31)), 0, none⟩) 2 [(⟨200, 200, 204, 204⟩ : KA), (⟨203, 199, 209, 201⟩ : KA)], pt (blk (fa29 33)) (.cells #[.int .i64 (200), .int .i64 (200), .int .i64 (200), .int .i64 (204)] 29), pt (blk (fa29 35)) (.cells #[.int .i64 (200), .int .i64 (204), .int .i64 (204), .int .i64 (204)] 29), pt (blk (fa29 37)) (.cells #[.int .i64 (204), .int .i64 (200), .int .i64 (200), .int .i64 (204)] 29), pt (blk (fa29 39)) (.cells #[.int .i64 (0), .int .i64 (-5), .int .i64 (2097153), .int .i64 (-1)] 29)]) rfl ?_
      refine f_perm (L' := [rowF AreaF 29 p1 c2 l, pt b3 (.cells #[.int .i64 (200), .int .i64 (200), .int .i64 (204), .int .i64 (204)] 29), rowF AreaF 29 (some ⟨(blk (fa29 31)), 0, none⟩) 2 [(⟨200, 200, 204, 204⟩ : KA), (⟨203, 199, 209, 201⟩ : KA)], pt (blk (fa29 28)) (.cells #[.int .i64 (200), .int .i64 (200), .int .i64 (204), .int .i64 (204), .int .i64 (200), .int .i64 (200), .int .i64 (204), .int .i64 (204)] 29), pt (blk (fa29 33)) (.cells #[.int .i64 (200), .int .i64 (200), .int .i64 (200), .int .i64 (204)] 29), pt (blk (fa29 35)) (.cells #[.int .i64 (200), .int .i64 (204), .int .i64 (204), .int .i64 (204)] 29), pt (blk (fa29 37)) (.cells #[.int .i64 (204), .int .i64 (200), .int .i64 (200), .int .i64 (204)] 29), pt (blk (fa29 39)) (.cells #[.int .i64 (0), .int .i64 (-5), .int .i64 (2097153), .int .i64 (-1)] 29)]) (perm_ix [1, 0, 3, 2, 4, 5, 6, 7] 8 rfl (by kernel_rfl) (by kernel_rfl)) ?_
      refine f_mask (L' := [rowF AreaF 29 p1 c2 l, pt b3 (.cells #[.int .i64 (200), .int .i64 (200), .int .i64 (204), .int .i64 (204)] 29), rowF AreaF 29 (some ⟨(blk (fa29 31)), 0, none⟩) 2 [(⟨200, 200, 204, 204⟩ : KA), (⟨203, 199, 209, 201⟩ : KA)]]) [true, true, true, false, false, false, false, false] rfl ?_
      exact f_cut ⟨(some ⟨(blk (fa29 31)), 0, none⟩), 2, [(⟨200, 200, 204, 204⟩ : KA), (⟨203, 199, 209, 201⟩ : KA)], ⟨rfl, rfl, rfl⟩, rfl, ⟨bad1, by decide⟩⟩
    ·
      refine c_any [⟨[], [], [0], [26], fun f => f 26 = .agg #[.int .i64 (200), .int .i64 (200), .int .i64 (204), .int .i64 (204)]⟩, ⟨[], [], [0], [27], fun f => f 27 = .agg #[.int .i64 (200), .int .i64 (200), .int .i64 (204), .int .i64 (204)]⟩, ⟨[0, 1], [0, 1], [], [28], fun f => f 28 = .slice (some ⟨(blk (f 28)), 0, none⟩) 2 2⟩, ⟨[], [], [0], [29], fun f => f 29 = .agg #[.int .i64 (200), .int .i64 (200), .int .i64 (204), .int .i64 (204)]⟩, ⟨[], [], [], [30], fun f => f 30 = .agg #[.int .i64 (203), .int .i64 (199), .int .i64 (209), .int .i64 (201)]⟩, ⟨[3, 4], [3, 4], [], [31], fun f => f 31 = .slice (some ⟨(blk (f 31)), 0, none⟩) 2 2⟩, ⟨[4], [], [], [32], fun f => f 32 = .agg #[.int .i64 (200), .int .i64 (200), .int .i64 (200), .int .i64 (204)]⟩, ⟨[4, 6], [6], [], [33], fun f => f 33 = .slice (some ⟨(blk (f 33)), 0, none⟩) 1 1⟩, ⟨[4, 6], [], [], [34], fun f => f 34 = .agg #[.int .i64 (200), .int .i64 (204), .int .i64 (204), .int .i64 (204)]⟩, ⟨[4, 6, 8], [8], [], [35], fun f => f 35 = .slice (some ⟨(blk (f 35)), 0, none⟩) 1 1⟩, ⟨[4, 6, 8], [], [], [36], fun f => f 36 = .agg #[.int .i64 (204), .int .i64 (200), .int .i64 (200), .int .i64 (204)]⟩, ⟨[4, 6, 8, 10], [10], [], [37], fun f => f 37 = .slice (some ⟨(blk (f 37)), 0, none⟩) 1 1⟩, ⟨[4, 6, 8, 10], [], [], [38], fun f => f 38 = .agg #[.int .i64 (0), .int .i64 (-5), .int .i64 (2097153), .int .i64 (-1)]⟩, ⟨[4, 6, 8, 10, 12], [12], [], [39], fun f => f 39 = .slice (some ⟨(blk (f 39)), 0, none⟩) 1 1⟩, ⟨[0, 1, 2, 3, 4, 5, 6, 7, 8, 9, 10, 11, 12, 13], [2, 5, 7, 9, 11, 13], [], [28, 31, 33, 35, 37, 39, 40], fun f => f 40 = .agg #[.slice (some ⟨(blk (f 28)), 0, none⟩) 2 2, .slice (some ⟨(blk (f 31)), 0, none⟩) 2 2, .slice (some ⟨(blk (f 33)), 0, none⟩) 1 1, .slice (some ⟨(blk (f 35)), 0, none⟩) 1 1, .slice (some ⟨(blk (f 37)), 0, none⟩) 1 1, .slice (some ⟨(blk (f 39)), 0, none⟩) 1 1]⟩, ⟨[], [], [1], [41], fun f => f 41 = Bx (y)⟩, ⟨[15], [15], [], [42], fun f => f 42 = .int .u8 (((y.toNat % 6 : Nat)) : Int)⟩, ⟨[0, 1, 2, 3, 4, 5, 6, 7, 8, 9, 10, 11, 12, 13, 14, 15, 16], [14, 16], [], [33, 43], fun f => f 43 = .slice (some ⟨(blk (f 33)), 0, none⟩) 1 1⟩, ⟨[0, 1, 2, 3, 4, 5, 6, 7, 8, 9, 10, 11, 12, 13, 14, 15, 16, 17], [17], [], [7, 33], fun f => f 7 = .slice (some ⟨(blk (f 33)), 0, none⟩) 1 1⟩] [⟨none, none, [0, 1, 3], [], fun _ => pt b3 (.cells #[.int .i64 (200), .int .i64 (200), .int .i64 (204), .int .i64 (204)] 29)⟩, ⟨none, none, [], [], fun _ => rowF AreaF 29 p1 c2 l⟩, ⟨(some 2), none, [], [28], fun f => pt (blk (f 28)) (.cells #[.int .i64 (200), .int .i64 (200), .int .i64 (204), .int .i64 (204), .int .i64 (200), .int .i64 (200), .int .i64 (204), .int .i64 (204)] 29)⟩, ⟨(some 5), none, [], [31], fun f => pt (blk (f 31)) (.cells #[.int .i64 (200), .int .i64 (200), .int .i64 (204), .int .i64 (204), .int .i64 (203), .int .i64 (199), .int .i64 (209), .int .i64 (201)] 29)⟩, ⟨(some 7), none, [], [33], fun f => pt (blk (f 33)) (.cells #[.int .i64 (200), .int .i64 (200), .int .i64 (200), .int .i64 (204)] 29)⟩, ⟨(some 9), none, [], [35], fun f => pt (blk (f 35)) (.cells #[.int .i64 (200), .int .i64 (204), .int .i64 (204), .int .i64 (204)] 29)⟩, ⟨(some 11), none, [], [37], fun f => pt (blk (f 37)) (.cells #[.int .i64 (204), .int .i64 (200), .int .i64 (200), .int .i64 (204)] 29)⟩, ⟨(some 13), none, [], [39], fun f => pt (blk (f 39)) (.cells #[.int .i64 (0), .int .i64 (-5), .int .i64 (2097153), .int .i64 (-1)] 29)⟩] [(6, .pointer (some ⟨b3, 0, none⟩)), (1, Bx (y)), (5, .slice p1 (l.length) c2)] [2, 0] [] (by kernel_rfl) (by kernel_rfl) (by kernel_rfl) (by kernel_rfl) rfl ⟨rfl, rfl, rfl, trivial⟩ ⟨?_, ?_, ?_, ?_, ?_, ?_, ?_, ?_, ?_, ?_, ?_, ?_, ?_, ?_, ?_, ?_, ?_, ?_, ?_, trivial⟩ ?_
      · rintro f M - ⟨i0, -⟩
        have hs6 : f 6 = .pointer (some ⟨b3, 0, none⟩) := i0
        refine ob_start (L' := pt b3 (.cells #[.int .i64 (200), .int .i64 (200), .int .i64 (204), .int .i64 (204)] 29) :: M) (by rfl) (up_cons rfl hs6) ?_
        refine l_val (v := .agg #[.int .i64 (200), .int .i64 (200), .int .i64 (204), .int .i64 (204)]) rfl rfl rfl (e_load tp10 (cs := [.int .i64 (200), .int .i64 (200), .int .i64 (204), .int .i64 (204)]) rfl (k_pt 0 (cs := #[.int .i64 (200), .int .i64 (200), .int .i64 (204), .int .i64 (204)]) (vs := [.int .i64 (200), .int .i64 (200), .int .i64 (204), .int .i64 (204)]) rfl rfl) rfl) ?_
        refine l_nil ?_
        exact f_owes_d (up_cons rfl hs6) rfl (perm_front 0 rfl)
      · rintro f M - ⟨i0, -⟩
        have hs6 : f 6 = .pointer (some ⟨b3, 0, none⟩) := i0
        refine ob_start (L' := pt b3 (.cells #[.int .i64 (200), .int .i64 (200), .int .i64 (204), .int .i64 (204)] 29) :: M) (by rfl) (up_cons rfl hs6) ?_
        refine l_val (v := .agg #[.int .i64 (200), .int .i64 (200), .int .i64 (204), .int .i64 (204)]) rfl rfl rfl (e_load tp10 (cs := [.int .i64 (200), .int .i64 (200), .int .i64 (204), .int .i64 (204)]) rfl (k_pt 0 (cs := #[.int .i64 (200), .int .i64 (200), .int .i64 (204), .int .i64 (204)]) (vs := [.int .i64 (200), .int .i64 (200), .int .i64 (204), .int .i64 (204)]) rfl rfl) rfl) ?_
        refine l_nil ?_
        exact f_owes_d (up_cons rfl hs6) rfl (perm_front 0 rfl)
      · rintro f M ⟨k0, k1, -⟩ -
        have hs26 : f 26 = .agg #[.int .i64 (200), .int .i64 (200), .int .i64 (204), .int .i64 (204)] := k0
        have hs27 : f 27 = .agg #[.int .i64 (200), .int .i64 (200), .int .i64 (204), .int .i64 (204)] := k1
        refine ob_start (L' := M) (by rfl) (up_cons (up_cons rfl hs26) hs27) ?_
        refine l_mv rfl rfl rfl (m_slices tp14 tp8 (vs := [(0, .agg #[.int .i64 (200), .int .i64 (200), .int .i64 (204), .int .i64 (204)]), (1, .agg #[.int .i64 (200), .int .i64 (200), .int .i64 (204), .int .i64 (204)])]) (cells := #[.int .i64 (200), .int .i64 (200), .int .i64 (204), .int .i64 (204), .int .i64 (200), .int .i64 (200), .int .i64 (204), .int .i64 (204)]) rfl rfl rfl rfl) ?_
        rintro _ _ ⟨b31, rfl, rfl⟩
        refine l_nil ?_
        exact f_owes_d (up_cons (up_cons rfl hs26) hs27) rfl (perm_front 0 rfl)
      · rintro f M - ⟨i0, -⟩
        have hs6 : f 6 = .pointer (some ⟨b3, 0, none⟩) := i0
        refine ob_start (L' := pt b3 (.cells #[.int .i64 (200), .int .i64 (200), .int .i64 (204), .int .i64 (204)] 29) :: M) (by rfl) (up_cons rfl hs6) ?_
        refine l_val (v := .agg #[.int .i64 (200), .int .i64 (200), .int .i64 (204), .int .i64 (204)]) rfl rfl rfl (e_load tp10 (cs := [.int .i64 (200), .int .i64 (200), .int .i64 (204), .int .i64 (204)]) rfl (k_pt 0 (cs := #[.int .i64 (200), .int .i64 (200), .int .i64 (204), .int .i64 (204)]) (vs := [.int .i64 (200), .int .i64 (200), .int .i64 (204), .int .i64 (204)]) rfl rfl) rfl) ?_
        refine l_nil ?_
        exact f_owes_d (up_cons rfl hs6) rfl (perm_front 0 rfl)
      · rintro f M - -
        refine ob_start (L' := M) (by rfl) rfl ?_
        refine l_call rfl rfl rfl (cl_value (fst := []) (cap := []) (vs := [.int .i64 (203), .int .i64 (199), .int .i64 (209), .int .i64 (201)]) (all := [.int .i64 (203), .int .i64 (199), .int .i64 (209), .int .i64 (201)]) ty100 rfl rfl rfl) ?_
        intro w hw
        obtain ⟨β1, sb, kn, hw1, back⟩ := St.frame_all hw
        refine (room_ok β1 w hw1 (203 : Int) (199 : Int) (209 : Int) (201 : Int)).mono ?_
        rintro e w' ⟨rfl, hw'⟩
        refine ⟨_, rfl, _, back _ _ hw', ?_⟩
        clear hw hw1 hw' back kn sb
        refine l_nil ?_
        exact f_owes_d rfl rfl (List.Perm.refl _)
      · rintro f M ⟨k0, k1, -⟩ -
        have hs29 : f 29 = .agg #[.int .i64 (200), .int .i64 (200), .int .i64 (204), .int .i64 (204)] := k0
        have hs30 : f 30 = .agg #[.int .i64 (203), .int .i64 (199), .int .i64 (209), .int .i64 (201)] := k1
        refine ob_start (L' := M) (by rfl) (up_cons (up_cons rfl hs29) hs30) ?_
        refine l_mv rfl rfl rfl (m_slices tp14 tp8 (vs := [(0, .agg #[.int .i64 (200), .int .i64 (200), .int .i64 (204), .int .i64 (204)]), (1, .agg #[.int .i64 (203), .int .i64 (199), .int .i64 (209), .int .i64 (201)])]) (cells := #[.int .i64 (200), .int .i64 (200), .int .i64 (204), .int .i64 (204), .int .i64 (203), .int .i64 (199), .int .i64 (209), .int .i64 (201)]) rfl rfl rfl rfl) ?_
        rintro _ _ ⟨b33, rfl, rfl⟩
        refine l_nil ?_
        exact f_owes_d (up_cons (up_cons rfl hs29) hs30) rfl (perm_front 0 rfl)
      · rintro f M - -
        refine ob_start (L' := M) (by rfl) rfl ?_
        refine l_call rfl rfl rfl (cl_value (fst := []) (cap := []) (vs := [.int .i64 (200), .int .i64 (200), .int .i64 (200), .int .i64 (204)]) (all := [.int .i64 (200), .int .i64 (200), .int .i64 (200), .int .i64 (204)]) ty100 rfl rfl rfl) ?_
        intro w hw
        obtain ⟨β1, sb, kn, hw1, back⟩ := St.frame_all hw
        refine (room_ok β1 w hw1 (200 : Int) (200 : Int) (200 : Int) (204 : Int)).mono ?_
        rintro e w' ⟨rfl, hw'⟩
        refine ⟨_, rfl, _, back _ _ hw', ?_⟩
        clear hw hw1 hw' back kn sb
        refine l_nil ?_
        exact f_owes_d rfl rfl (List.Perm.refl _)
      · rintro f M ⟨k0, -⟩ -
        have hs32 : f 32 = .agg #[.int .i64 (200), .int .i64 (200), .int .i64 (200), .int .i64 (204)] := k0
        refine ob_start (L' := M) (by rfl) (up_cons rfl hs32) ?_
        refine l_mv rfl rfl rfl (m_slices tp14 tp8 (vs := [(0, .agg #[.int .i64 (200), .int .i64 (200), .int .i64 (200), .int .i64 (204)])]) (cells := #[.int .i64 (200), .int .i64 (200), .int .i64 (200), .int .i64 (204)]) rfl rfl rfl rfl) ?_
        rintro _ _ ⟨b35, rfl, rfl⟩
        refine l_nil ?_
        exact f_owes_d (up_cons rfl hs32) rfl (perm_front 0 rfl)
      · rintro f M - -
        refine ob_start (L' := M) (by rfl) rfl ?_
        refine l_call rfl rfl rfl (cl_value (fst := []) (cap := []) (vs := [.int .i64 (200), .int .i64 (204), .int .i64 (204), .int .i64 (204)]) (all := [.int .i64 (200), .int .i64 (204), .int .i64 (204), .int .i64 (204)]) ty100 rfl rfl rfl) ?_
        intro w hw
        obtain ⟨β1, sb, kn, hw1, back⟩ := St.frame_all hw
        refine (room_ok β1 w hw1 (200 : Int) (204 : Int) (204 : Int) (204 : Int)).mono ?_
        rintro e w' ⟨rfl, hw'⟩
        refine ⟨_, rfl, _, back _ _ hw', ?_⟩
        clear hw hw1 hw' back kn sb
        refine l_nil ?_
        exact f_owes_d rfl rfl (List.Perm.refl _)
      · rintro f M ⟨k0, -⟩ -
        have hs34 : f 34 = .agg #[.int .i64 (200), .int .i64 (204), .int .i64 (204), .int .i64 (204)] := k0
        refine ob_start (L' := M) (by rfl) (up_cons rfl hs34) ?_
        refine l_mv rfl rfl rfl (m_slices tp14 tp8 (vs := [(0, .agg #[.int .i64 (200), .int .i64 (204), .int .i64 (204), .int .i64 (204)])]) (cells := #[.int .i64 (200), .int .i64 (204), .int .i64 (204), .int .i64 (204)]) rfl rfl rfl rfl) ?_
        rintro _ _ ⟨b37, rfl, rfl⟩
        refine l_nil ?_
        exact f_owes_d (up_cons rfl hs34) rfl (perm_front 0 rfl)
      · rintro f M - -
        refine ob_start (L' := M) (by rfl) rfl ?_
        refine l_call rfl rfl rfl (cl_value (fst := []) (cap := []) (vs := [.int .i64 (204), .int .i64 (200), .int .i64 (200), .int .i64 (204)]) (all := [.int .i64 (204), .int .i64 (200), .int .i64 (200), .int .i64 (204)]) ty100 rfl rfl rfl) ?_
        intro w hw
        obtain ⟨β1, sb, kn, hw1, back⟩ := St.frame_all hw
        refine (room_ok β1 w hw1 (204 : Int) (200 : Int) (200 : Int) (204 : Int)).mono ?_
        rintro e w' ⟨rfl, hw'⟩
        refine ⟨_, rfl, _, back _ _ hw', ?_⟩
        clear hw hw1 hw' back kn sb
        refine l_nil ?_
        exact f_owes_d rfl rfl (List.Perm.refl _)
      · rintro f M ⟨k0, -⟩ -
        have hs36 : f 36 = .agg #[.int .i64 (204), .int .i64 (200), .int .i64 (200), .int .i64 (204)] := k0
        refine ob_start (L' := M) (by rfl) (up_cons rfl hs36) ?_
        refine l_mv rfl rfl rfl (m_slices tp14 tp8 (vs := [(0, .agg #[.int .i64 (204), .int .i64 (200), .int .i64 (200), .int .i64 (204)])]) (cells := #[.int .i64 (204), .int .i64 (200), .int .i64 (200), .int .i64 (204)]) rfl rfl rfl rfl) ?_
        rintro _ _ ⟨b39, rfl, rfl⟩
        refine l_nil ?_
        exact f_owes_d (up_cons rfl hs36) rfl (perm_front 0 rfl)
      · rintro f M - -
        refine ob_start (L' := M) (by rfl) rfl ?_
        refine l_call rfl rfl rfl (cl_value (fst := []) (cap := []) (vs := [.int .i64 (0), .int .i64 (-5), .int .i64 (2097153), .int .i64 (-1)]) (all := [.int .i64 (0), .int .i64 (-5), .int .i64 (2097153), .int .i64 (-1)]) ty100 rfl rfl rfl) ?_
        intro w hw
        obtain ⟨β1, sb, kn, hw1, back⟩ := St.frame_all hw
        refine (room_ok β1 w hw1 (0 : Int) (-5 : Int) (2097153 : Int) (-1 : Int)).mono ?_
        rintro e w' ⟨rfl, hw'⟩
        refine ⟨_, rfl, _, back _ _ hw', ?_⟩
        clear hw hw1 hw' back kn sb
        refine l_nil ?_
        exact f_owes_d rfl rfl (List.Perm.refl _)
      · rintro f M ⟨k0, -⟩ -
        have hs38 : f 38 = .agg #[.int .i64 (0), .int .i64 (-5), .int .i64 (2097153), .int .i64 (-1)] := k0
        refine ob_start (L' := M) (by rfl) (up_cons rfl hs38) ?_
        refine l_mv rfl rfl rfl (m_slices tp14 tp8 (vs := [(0, .agg #[.int .i64 (0), .int .i64 (-5), .int .i64 (2097153), .int .i64 (-1)])]) (cells := #[.int .i64 (0), .int .i64 (-5), .int .i64 (2097153), .int .i64 (-1)]) rfl rfl rfl rfl) ?_
        rintro _ _ ⟨b41, rfl, rfl⟩
        refine l_nil ?_
        exact f_owes_d (up_cons rfl hs38) rfl (perm_front 0 rfl)
      · rintro f M ⟨k0, k1, k2, k3, k4, k5, -⟩ -
        have hs28 : f 28 = .slice (some ⟨(blk (f 28)), 0, none⟩) 2 2 := k0
        have hs31 : f 31 = .slice (some ⟨(blk (f 31)), 0, none⟩) 2 2 := k1
        have hs33 : f 33 = .slice (some ⟨(blk (f 33)), 0, none⟩) 1 1 := k2
        have hs35 : f 35 = .slice (some ⟨(blk (f 35)), 0, none⟩) 1 1 := k3
        have hs37 : f 37 = .slice (some ⟨(blk (f 37)), 0, none⟩) 1 1 := k4
        have hs39 : f 39 = .slice (some ⟨(blk (f 39)), 0, none⟩) 1 1 := k5
        refine ob_start (L' := M) (by rfl) (up_cons (up_cons (up_cons (up_cons (up_cons (up_cons rfl hs28) hs31) hs33) hs35) hs37) hs39) ?_
        refine l_val (v := .agg #[.slice (some ⟨(blk (f 28)), 0, none⟩) 2 2, .slice (some ⟨(blk (f 31)), 0, none⟩) 2 2, .slice (some ⟨(blk (f 33)), 0, none⟩) 1 1, .slice (some ⟨(blk (f 35)), 0, none⟩) 1 1, .slice (some ⟨(blk (f 37)), 0, none⟩) 1 1, .slice (some ⟨(blk (f 39)), 0, none⟩) 1 1]) rfl rfl rfl (e_build_a se123 se122 (vs := [(0, .slice (some ⟨(blk (f 28)), 0, none⟩) 2 2), (1, .slice (some ⟨(blk (f 31)), 0, none⟩) 2 2), (2, .slice (some ⟨(blk (f 33)), 0, none⟩) 1 1), (3, .slice (some ⟨(blk (f 35)), 0, none⟩) 1 1), (4, .slice (some ⟨(blk (f 37)), 0, none⟩) 1 1), (5, .slice (some ⟨(blk (f 39)), 0, none⟩) 1 1)]) (cells := #[.slice (some ⟨(blk (f 28)), 0, none⟩) 2 2, .slice (some ⟨(blk (f 31)), 0, none⟩) 2 2, .slice (some ⟨(blk (f 33)), 0, none⟩) 1 1, .slice (some ⟨(blk (f 35)), 0, none⟩) 1 1, .slice (some ⟨(blk (f 37)), 0, none⟩) 1 1, .slice (some ⟨(blk (f 39)), 0, none⟩) 1 1]) rfl rfl) ?_
        refine l_nil ?_
        exact f_owes_d (up_cons (up_cons (up_cons (up_cons (up_cons (up_cons rfl hs28) hs31) hs33) hs35) hs37) hs39) rfl (List.Perm.refl _)
      · rintro f M - ⟨i0, -⟩
        have hs1 : f 1 = Bx (y) := i0
        refine ob_start (L' := M) (by rfl) (up_cons rfl hs1) ?_
        refine l_val (v := Bx (y)) rfl rfl rfl (e_move) ?_
        refine l_nil ?_
        exact f_owes_d (up_cons rfl hs1) rfl (List.Perm.refl _)
      · rintro f M ⟨k0, -⟩ -
        have hs41 : f 41 = Bx (y) := k0
        refine ob_start (L' := M) (by rfl) (up_cons rfl hs41) ?_
        refine l_val (v := .int .u8 (((y.toNat % 6 : Nat)) : Int)) rfl rfl rfl (e_rem (a := ((y).toNat : Int)) (b := ((6 : Nat) : Int)) rfl rfl (by decide) (nat_tmod _ _)) ?_
        refine l_nil ?_
        exact f_owes_d (up_cons rfl hs41) rfl (List.Perm.refl _)
      · rintro f M ⟨k0, k1, -⟩ -
        have hs40 : f 40 = .agg #[.slice (some ⟨(blk (f 28)), 0, none⟩) 2 2, .slice (some ⟨(blk (f 31)), 0, none⟩) 2 2, .slice (some ⟨(blk (f 33)), 0, none⟩) 1 1, .slice (some ⟨(blk (f 35)), 0, none⟩) 1 1, .slice (some ⟨(blk (f 37)), 0, none⟩) 1 1, .slice (some ⟨(blk (f 39)), 0, none⟩) 1 1] := k0
        have hs42 : f 42 = .int .u8 (((y.toNat % 6 : Nat)) : Int) := k1
        refine ob_start (L' := M) (by rfl) (up_cons (up_cons rfl hs40) hs42) ?_
        refine l_val (v := .slice (some ⟨(blk (f 33)), 0, none⟩) 1 1) rfl rfl rfl (e_index_u (k := y.toNat % 6) rfl rfl se122 (by rw [hw6]; rfl) (by omega) tu20) ?_
        refine l_nil ?_
        exact f_owes_d (up_cons (up_cons rfl hs40) hs42) rfl (List.Perm.refl _)
      · rintro f M ⟨k0, -⟩ -
        have hs43 : f 43 = .slice (some ⟨(blk (f 33)), 0, none⟩) 1 1 := k0
        refine ob_start (L' := M) (by rfl) (up_cons rfl hs43) ?_
        refine l_val (v := .slice (some ⟨(blk (f 33)), 0, none⟩) 1 1) rfl rfl rfl (e_assign) ?_
        refine l_nil ?_
        exact f_owes_d (up_cons rfl hs43) rfl (List.Perm.refl _)
      rintro fa42 ⟨-, -, -, -, -, -, -, -, -, -, -, -, -, -, -, -, -, -, k18, -⟩ ⟨j0, j1, -⟩
      refine f_re (L' := [pt b3 (.cells #[.int .i64 (200), .int .i64 (200), .int .i64 (204), .int .i64 (204)] 29), rowF AreaF 29 p1 c2 l, pt (blk (fa42 28)) (.cells #[.int .i64 (200), .int .i64 (200), .int .i64 (204), .int .i64 (204), .int .i64 (200), .int .i64 (200), .int .i64 (204), .int .i64 (204)] 29), pt (blk (fa42 31)) (.cells #[.int .i64 (200), .int .i64 (200), .int .i64 (204), .int .i64 (204), .int .i64 (203), .int .i64 (199), .int .i64 (209), .int .i64 (201)] 29), pt (blk (fa42 33)) (.cells #[.int .i64 (200), .int .i64 (200), .int .i64 (200), .int .i64 (204)] 29), pt (blk (fa42 35)) (.cells #[.int .i64 (200), .int .i64 (204), .int .i64 (204), .int .i64 (204)] 29), pt (blk (fa42 37)) (.cells #[.int .i64 (204), .int .i64 (200), .int .i64 (200), .int .i64 (204)] 29), pt (blk (fa42 39)) (.cells #[.int .i64 (0), .int .i64 (-5), .int .i64 (2097153), .int .i64 (-1)] 29)]) (by rfl) ?_
      refine f_rebase (d := 5) (v := .slice p1 (l.length) c2) j0 ?_
      refine f_rebase (d := 6) (v := .pointer (some ⟨b3, 0, none⟩)) j1 ?_
      refine f_rebase (d := 7) (v := .slice (some ⟨(blk (fa42 33)), 0, none⟩) 1 1) k18 ?_
      refine f_conseqP 4 (r' := rowF AreaF 29 (some ⟨(blk (fa42 33)), 0, none⟩) 1 [(⟨200, 200, 200, 204⟩ : KA)]) rfl (pt_rowF (F := AreaF) (xs := [(⟨200, 200, 200, 204⟩ : KA)]) rfl (by simp)) ?_
      refine f_re (L' := [pt b3 (.cells #[.int .i64 (200), .int .i64 (200), .int .i64 (204), .int .i64 (204)] 29), rowF AreaF 29 p1 c2 l, pt (blk (fa42 28)) (.cells #[.int .i64 (200), .int .i64 (200), .int .i64 (204), .int .i64 (204), .int .i64 (200), .int .i64 (200), .int .i64 (204), .int .i64 (204)] 29), pt (blk (fa42 31)) (.cells #[.int .i64 (200), .int .i64 (200), .int .i64 (204), .int .i64 (204), .int .i64 (203), .int .i64 (199), .int .i64 (209), .int .i64 (201)] 29), rowF AreaF 29 (some ⟨(blk (fa42 33)), 0, none⟩) 1 [(⟨200, 200, 200, 204⟩ : KA)], pt (blk (fa42 35)) (.cells #[.int .i64 (200), .int .i64 (204), .int .i64 (204), .int .i64 (204)] 29), pt (blk (fa42 37)) (.cells #[.int .i64 (204), .int .i64 (200), .int .i64 (200), .int .i64 (204)] 29), pt (blk (fa42 39)) (.cells #[.int .i64 (0), .int .i64 (-5), .int .i64 (2097153), .int .i64 (-1)] 29)]) rfl ?_
      refine f_perm (L' := [rowF AreaF 29 p1 c2 l, pt b3 (.cells #[.int .i64 (200), .int .i64 (200), .int .i64 (204), .int .i64 (204)] 29), rowF AreaF 29 (some ⟨(blk (fa42 33)), 0, none⟩) 1 [(⟨200, 200, 200, 204⟩ : KA)], pt (blk (fa42 28)) (.cells #[.int .i64 (200), .int .i64 (200), .int .i64 (204), .int .i64 (204), .int .i64 (200), .int .i64 (200), .int .i64 (204), .int .i64 (204)] 29), pt (blk (fa42 31)) (.cells #[.int .i64 (200), .int .i64 (200), .int .i64 (204), .int .i64 (204), .int .i64 (203), .int .i64 (199), .int .i64 (209), .int .i64 (201)] 29), pt (blk (fa42 35)) (.cells #[.int .i64 (200), .int .i64 (204), .int .i64 (204), .int .i64 (204)] 29), pt (blk (fa42 37)) (.cells #[.int .i64 (204), .int .i64 (200), .int .i64 (200), .int .i64 (204)] 29), pt (blk (fa42 39)) (.cells #[.int .i64 (0), .int .i64 (-5), .int .i64 (2097153), .int .i64 (-1)] 29)]) (perm_ix [1, 0, 4, 2, 3, 5, 6, 7] 8 rfl (by kernel_rfl) (by kernel_rfl)) ?_
      refine f_mask (L' := [rowF AreaF 29 p1 c2 l, pt b3 (.cells #[.int .i64 (200), .int .i64 (200), .int .i64 (204), .int .i64 (204)] 29), rowF AreaF 29 (some ⟨(blk (fa42 33)), 0, none⟩) 1 [(⟨200, 200, 200, 204⟩ : KA)]]) [true, true, true, false, false, false, false, false] rfl ?_
      exact f_cut ⟨(some ⟨(blk (fa42 33)), 0, none⟩), 1, [(⟨200, 200, 200, 204⟩ : KA)], ⟨rfl, rfl, rfl⟩, rfl, ⟨bad2, by decide⟩⟩
    ·
      refine c_any [⟨[], [], [0], [26], fun f => f 26 = .agg #[.int .i64 (200), .int .i64 (200), .int .i64 (204), .int .i64 (204)]⟩, ⟨[], [], [0], [27], fun f => f 27 = .agg #[.int .i64 (200), .int .i64 (200), .int .i64 (204), .int .i64 (204)]⟩, ⟨[0, 1], [0, 1], [], [28], fun f => f 28 = .slice (some ⟨(blk (f 28)), 0, none⟩) 2 2⟩, ⟨[], [], [0], [29], fun f => f 29 = .agg #[.int .i64 (200), .int .i64 (200), .int .i64 (204), .int .i64 (204)]⟩, ⟨[], [], [], [30], fun f => f 30 = .agg #[.int .i64 (203), .int .i64 (199), .int .i64 (209), .int .i64 (201)]⟩, ⟨[3, 4], [3, 4], [], [31], fun f => f 31 = .slice (some ⟨(blk (f 31)), 0, none⟩) 2 2⟩, ⟨[4], [], [], [32], fun f => f 32 = .agg #[.int .i64 (200), .int .i64 (200), .int .i64 (200), .int .i64 (204)]⟩, ⟨[4, 6], [6], [], [33], fun f => f 33 = .slice (some ⟨(blk (f 33)), 0, none⟩) 1 1⟩, ⟨[4, 6], [], [], [34], fun f => f 34 = .agg #[.int .i64 (200), .int .i64 (204), .int .i64 (204), .int .i64 (204)]⟩, ⟨[4, 6, 8], [8], [], [35], fun f => f 35 = .slice (some ⟨(blk (f 35)), 0, none⟩) 1 1⟩, ⟨[4, 6, 8], [], [], [36], fun f => f 36 = .agg #[.int .i64 (204), .int .i64 (200), .int .i64 (200), .int .i64 (204)]⟩, ⟨[4, 6, 8, 10], [10], [], [37], fun f => f 37 = .slice (some ⟨(blk (f 37)), 0, none⟩) 1 1⟩, ⟨[4, 6, 8, 10], [], [], [38], fun f => f 38 = .agg #[.int .i64 (0), .int .i64 (-5), .int .i64 (2097153), .int .i64 (-1)]⟩, ⟨[4, 6, 8, 10, 12], [12], [], [39], fun f => f 39 = .slice (some ⟨(blk (f 39)), 0, none⟩) 1 1⟩, ⟨[0, 1, 2, 3, 4, 5, 6, 7, 8, 9, 10, 11, 12, 13], [2, 5, 7, 9, 11, 13], [], [28, 31, 33, 35, 37, 39, 40], fun f => f 40 = .agg #[.slice (some ⟨(blk (f 28)), 0, none⟩) 2 2, .slice (some ⟨(blk (f 31)), 0, none⟩) 2 2, .slice (some ⟨(blk (f 33)), 0, none⟩) 1 1, .slice (some ⟨(blk (f 35)), 0, none⟩) 1 1, .slice (some ⟨(blk (f 37)), 0, none⟩) 1 1, .slice (some ⟨(blk (f 39)), 0, none⟩) 1 1]⟩, ⟨[], [], [1], [41], fun f => f 41 = Bx (y)⟩, ⟨[15], [15], [], [42], fun f => f 42 = .int .u8 (((y.toNat % 6 : Nat)) : Int)⟩, ⟨[0, 1, 2, 3, 4, 5, 6, 7, 8, 9, 10, 11, 12, 13, 14, 15, 16], [14, 16], [], [35, 43], fun f => f 43 = .slice (some ⟨(blk (f 35)), 0, none⟩) 1 1⟩, ⟨[0, 1, 2, 3, 4, 5, 6, 7, 8, 9, 10, 11, 12, 13, 14, 15, 16, 17], [17], [], [7, 35], fun f => f 7 = .slice (some ⟨(blk (f 35)), 0, none⟩) 1 1⟩] [⟨none, none, [0, 1, 3], [], fun _ => pt b3 (.cells #[.int .i64 (200), .int .i64 (200), .int .i64 (204), .int .i64 (204)] 29)⟩, ⟨none, none, [], [], fun _ => rowF AreaF 29 p1 c2 l⟩, ⟨(some 2), none, [], [28], fun f => pt (blk (f 28)) (.cells #[.int .i64 (200), .int .i64 (200), .int .i64 (204), .int .i64 (204), .int .i64 (200), .int .i64 (200), .int .i64 (204), .int .i64 (204)] 29)⟩, ⟨(some 5), none, [], [31], fun f => pt (blk (f 31)) (.cells #[.int .i64 (200), .int .i64 (200), .int .i64 (204), .int .i64 (204), .int .i64 (203), .int .i64 (199), .int .i64 (209), .int .i64 (201)] 29)⟩, ⟨(some 7), none, [], [33], fun f => pt (blk (f 33)) (.cells #[.int .i64 (200), .int .i64 (200), .int .i64 (200), .int .i64 (204)] 29)⟩, ⟨(some 9), none, [], [35], fun f => pt (blk (f 35)) (.cells #[.int .i64 (200), .int .i64 (204), .int .i64 (204), .int .i64 (204)] 29)⟩, ⟨(some 11), none, [], [37], fun f => pt (blk (f 37)) (.cells #[.int .i64 (204), .int .i64 (200), .int .i64 (200), .int .i64 (204)] 29)⟩, ⟨(some 13), none, [], [39], fun f => pt (blk (f 39)) (.cells #[.int .i64 (0), .int .i64 (-5), .int .i64 (2097153), .int .i64 (-1)] 29)⟩] [(6, .pointer (some ⟨b3, 0, none⟩)), (1, Bx (y)), (5, .slice p1 (l.length) c2)] [2, 0] [] (by kernel_rfl) (by kernel_rfl) (by kernel_rfl) (by kernel_rfl) rfl ⟨rfl, rfl, rfl, trivial⟩ ⟨?_, ?_, ?_, ?_, ?_, ?_, ?_, ?_, ?_, ?_, ?_, ?_, ?_, ?_, ?_, ?_, ?_, ?_, ?_, trivial⟩ ?_
      · rintro f M - ⟨i0, -⟩
        have hs6 : f 6 = .pointer (some ⟨b3, 0, none⟩) := i0
        refine ob_start (L' := pt b3 (.cells #[.int .i64 (200), .int .i64 (200), .int .i64 (204), .int .i64 (204)] 29) :: M) (by rfl) (up_cons rfl hs6) ?_
        refine l_val (v := .agg #[.int .i64 (200), .int .i64 (200), .int .i64 (204), .int .i64 (204)]) rfl rfl rfl (e_load tp10 (cs := [.int .i64 (200), .int .i64 (200), .int .i64 (204), .int .i64 (204)]) rfl (k_pt 0 (cs := #[.int .i64 (200), .int .i64 (200), .int .i64 (204), .int .i64 (204)]) (vs := [.int .i64 (200), .int .i64 (200), .int .i64 (204), .int .i64 (204)]) rfl rfl) rfl) ?_
        refine l_nil ?_
        exact f_owes_d (up_cons rfl hs6) rfl (perm_front 0 rfl)
      · rintro f M - ⟨i0, -⟩
        have hs6 : f 6 = .pointer (some ⟨b3, 0, none⟩) := i0
        refine ob_start (L' := pt b3 (.cells #[.int .i64 (200), .int .i64 (200), .int .i64 (204), .int .i64 (204)] 29) :: M) (by rfl) (up_cons rfl hs6) ?_
        refine l_val (v := .agg #[.int .i64 (200), .int .i64 (200), .int .i64 (204), .int .i64 (204)]) rfl rfl rfl (e_load tp10 (cs := [.int .i64 (200), .int .i64 (200), .int .i64 (204), .int .i64 (204)]) rfl (k_pt 0 (cs := #[.int .i64 (200), .int .i64 (200), .int .i64 (204), .int .i64 (204)]) (vs := [.int .i64 (200), .int .i64 (200), .int .i64 (204), .int .i64 (204)]) rfl rfl) rfl) ?_
        refine l_nil ?_
        exact f_owes_d (up_cons rfl hs6) rfl (perm_front 0 rfl)
      · rintro f M ⟨k0, k1, -⟩ -
        have hs26 : f 26 = .agg #[.int .i64 (200), .int .i64 (200), .int .i64 (204), .int .i64 (204)] := k0
        have hs27 : f 27 = .agg #[.int .i64 (200), .int .i64 (200), .int .i64 (204), .int .i64 (204)] := k1
        refine ob_start (L' := M) (by rfl) (up_cons (up_cons rfl hs26) hs27) ?_
        refine l_mv rfl rfl rfl (m_slices tp14 tp8 (vs := [(0, .agg #[.int .i64 (200), .int .i64 (200), .int .i64 (204), .int .i64 (204)]), (1, .agg #[.int .i64 (200), .int .i64 (200), .int .i64 (204), .int .i64 (204)])]) (cells := #[.int .i64 (200), .int .i64 (200), .int .i64 (204), .int .i64 (204), .int .i64 (200), .int .i64 (200), .int .i64 (204), .int .i64 (204)]) rfl rfl rfl rfl) ?_
        rintro _ _ ⟨b44, rfl, rfl⟩
        refine l_nil ?_
        exact f_owes_d (up_cons (up_cons rfl hs26) hs27) rfl (perm_front 0 rfl)
      · rintro f M - ⟨i0, -⟩
        have hs6 : f 6 = .pointer (some ⟨b3, 0, none⟩) := i0
        refine ob_start (L' := pt b3 (.cells #[.int .i64 (200), .int .i64 (200), .int .i64 (204), .int .i64 (204)] 29) :: M) (by rfl) (up_cons rfl hs6) ?_
        refine l_val (v := .agg #[.int .i64 (200), .int .i64 (200), .int .i64 (204), .int .i64 (204)]) rfl rfl rfl (e_load tp10 (cs := [.int .i64 (200), .int .i64 (200), .int .i64 (204), .int .i64 (204)]) rfl (k_pt 0 (cs := #[.int .i64 (200), .int .i64 (200), .int .i64 (204), .int .i64 (204)]) (vs := [.int .i64 (200), .int .i64 (200), .int .i64 (204), .int .i64 (204)]) rfl rfl) rfl) ?_
        refine l_nil ?_
        exact f_owes_d (up_cons rfl hs6) rfl (perm_front 0 rfl)
      · rintro f M - -
        refine ob_start (L' := M) (by rfl) rfl ?_
        refine l_call rfl rfl rfl (cl_value (fst := []) (cap := []) (vs := [.int .i64 (203), .int .i64 (199), .int .i64 (209), .int .i64 (201)]) (all := [.int .i64 (203), .int .i64 (199), .int .i64 (209), .int .i64 (201)]) ty100 rfl rfl rfl) ?_
        intro w hw
        obtain ⟨β1, sb, kn, hw1, back⟩ := St.frame_all hw
        refine (room_ok β1 w hw1 (203 : Int) (199 : Int) (209 : Int) (201 : Int)).mono ?_
        rintro e w' ⟨rfl, hw'⟩
        refine ⟨_, rfl, _, back _ _ hw', ?_⟩
        clear hw hw1 hw' back kn sb
        refine l_nil ?_
        exact f_owes_d rfl rfl (List.Perm.refl _)
      · rintro f M ⟨k0, k1, -⟩ -
        have hs29 : f 29 = .agg #[.int .i64 (200), .int .i64 (200), .int .i64 (204), .int .i64 (204)] := k0
        have hs30 : f 30 = .agg #[.int .i64 (203), .int .i64 (199), .int .i64 (209), .int .i64 (201)] := k1
        refine ob_start (L' := M) (by rfl) (up_cons (up_cons rfl hs29) hs30) ?_
        refine l_mv rfl rfl rfl (m_slices tp14 tp8 (vs := [(0, .agg #[.int .i64 (200), .int .i64 (200), .int .i64 (204), .int .i64 (204)]), (1, .agg #[.int .i64 (203), .int .i64 (199), .int .i64 (209), .int .i64 (201)])]) (cells := #[.int .i64 (200), .int .i64 (200), .int .i64 (204), .int .i64 (204), .int .i64 (203), .int .i64 (199), .int .i64 (209), .int .i64 (201)]) rfl rfl rfl rfl) ?_
        rintro _ _ ⟨b46, rfl, rfl⟩
        refine l_nil ?_
        exact f_owes_d (up_cons (up_cons rfl hs29) hs30) rfl (perm_front 0 rfl)
      · rintro f M - -
        refine ob_start (L' := M) (by rfl) rfl ?_
        refine l_call rfl rfl rfl (cl_value (fst := []) (cap := []) (vs := [.int .i64 (200), .int .i64 (200), .int .i64 (200), .int .i64 (204)]) (all := [.int .i64 (200), .int .i64 (200), .int .i64 (200), .int .i64 (204)]) ty100 rfl rfl rfl) ?_
        intro w hw
        obtain ⟨β1, sb, kn, hw1, back⟩ := St.frame_all hw
        refine (room_ok β1 w hw1 (200 : Int) (200 : Int) (200 : Int) (204 : Int)).mono ?_
        rintro e w' ⟨rfl, hw'⟩
        refine ⟨_, rfl, _, back _ _ hw', ?_⟩
        clear hw hw1 hw' back kn sb
        refine l_nil ?_
        exact f_owes_d rfl rfl (List.Perm.refl _)
      · rintro f M ⟨k0, -⟩ -
        have hs32 : f 32 = .agg #[.int .i64 (200), .int .i64 (200), .int .i64 (200), .int .i64 (204)] := k0
        refine ob_start (L' := M) (by rfl) (up_cons rfl hs32) ?_
        refine l_mv rfl rfl rfl (m_slices tp14 tp8 (vs := [(0, .agg #[.int .i64 (200), .int .i64 (200), .int .i64 (200), .int .i64 (204)])]) (cells := #[.int .i64 (200), .int .i64 (200), .int .i64 (200), .int .i64 (204)]) rfl rfl rfl rfl) ?_
        rintro _ _ ⟨b48, rfl, rfl⟩
        refine l_nil ?_
        exact f_owes_d (up_cons rfl hs32) rfl (perm_front 0 rfl)
      · rintro f M - -
        refine ob_start (L' := M) (by rfl) rfl ?_
        refine l_call rfl rfl rfl (cl_value (fst := []) (cap := []) (vs := [.int .i64 (200), .int .i64 (204), .int .i64 (204), .int .i64 (204)]) (all := [.int .i64 (200), .int .i64 (204), .int .i64 (204), .int .i64 (204)]) ty100 rfl rfl rfl) ?_
        intro w hw
        obtain ⟨β1, sb, kn, hw1, back⟩ := St.frame_all hw
        refine (room_ok β1 w hw1 (200 : Int) (204 : Int) (204 : Int) (204 : Int)).mono ?_
        rintro e w' ⟨rfl, hw'⟩
        refine ⟨_, rfl, _, back _ _ hw', ?_⟩
        clear hw hw1 hw' back kn sb
        refine l_nil ?_
        exact f_owes_d rfl rfl (List.Perm.refl _)
      · rintro f M ⟨k0, -⟩ -
        have hs34 : f 34 = .agg #[.int .i64 (200), .int .i64 (204), .int .i64 (204), .int .i64 (204)] := k0
        refine ob_start (L' := M) (by rfl) (up_cons rfl hs34) ?_
        refine l_mv rfl rfl rfl (m_slices tp14 tp8 (vs := [(0, .agg #[.int .i64 (200), .int .i64 (204), .int .i64 (204), .int .i64 (204)])]) (cells := #[.int .i64 (200), .int .i64 (204), .int .i64 (204), .int .i64 (204)]) rfl rfl rfl rfl) ?_
        rintro _ _ ⟨b50, rfl, rfl⟩
        refine l_nil ?_
        exact f_owes_d (up_cons rfl hs34) rfl (perm_front 0 rfl)
      · rintro f M - -
        refine ob_start (L' := M) (by rfl) rfl ?_
        refine l_call rfl rfl rfl (cl_value (fst := []) (cap := []) (vs := [.int .i64 (204), .int .i64 (200), .int .i64 (200), .int .i64 (204)]) (all := [.int .i64 (204), .int .i64 (200), .int .i64 (200), .int .i64 (204)]) ty100 rfl rfl rfl) ?_
        intro w hw
        obtain ⟨β1, sb, kn, hw1, back⟩ := St.frame_all hw
        refine (room_ok β1 w hw1 (204 : Int) (200 : Int) (200 : Int) (204 : Int)).mono ?_
        rintro e w' ⟨rfl, hw'⟩
        refine ⟨_, rfl, _, back _ _ hw', ?_⟩
        clear hw hw1 hw' back kn sb
        refine l_nil ?_
        exact f_owes_d rfl rfl (List.Perm.refl _)
      · rintro f M ⟨k0, -⟩ -
        have hs36 : f 36 = .agg #[.int .i64 (204), .int .i64 (200), .int .i64 (200), .int .i64 (204)] := k0
        refine ob_start (L' := M) (by rfl) (up_cons rfl hs36) ?_
        refine l_mv rfl rfl rfl (m_slices tp14 tp8 (vs := [(0, .agg #[.int .i64 (204), .int .i64 (200), .int .i64 (200), .int .i64 (204)])]) (cells := #[.int .i64 (204), .int .i64 (200), .int .i64 (200), .int .i64 (204)]) rfl rfl rfl rfl) ?_
        rintro _ _ ⟨b52, rfl, rfl⟩
        refine l_nil ?_
        exact f_owes_d (up_cons rfl hs36) rfl (perm_front 0 rfl)
      · rintro f M - -
        refine ob_start (L' := M) (by rfl) rfl ?_
        refine l_call rfl rfl rfl (cl_value (fst := []) (cap := []) (vs := [.int .i64 (0), .int .i64 (-5), .int .i64 (2097153), .int .i64 (-1)]) (all := [.int .i64 (0), .int .i64 (-5), .int .i64 (2097153), .int .i64 (-1)]) ty100 rfl rfl rfl) ?_
        intro w hw
        obtain ⟨β1, sb, kn, hw1, back⟩ := St.frame_all hw
        refine (room_ok β1 w hw1 (0 : Int) (-5 : Int) (2097153 : Int) (-1 : Int)).mono ?_
        rintro e w' ⟨rfl, hw'⟩
        refine ⟨_, rfl, _, back _ _ hw', ?_⟩
        clear hw hw1 hw' back kn sb
        refine l_nil ?_
        exact f_owes_d rfl rfl (List.Perm.refl _)
      · rintro f M ⟨k0, -⟩ -
        have hs38 : f 38 = .agg #[.int .i64 (0), .int .i64 (-5), .int .i64 (2097153), .int .i64 (-1)] := k0
        refine ob_start (L' := M) (by rfl) (up_cons rfl hs38) ?_
        refine l_mv rfl rfl rfl (m_slices tp14 tp8 (vs := [(0, .agg #[.int .i64 (0), .int .i64 (-5), .int .i64 (2097153), .int .i64 (-1)])]) (cells := #[.int .i64 (0), .int .i64 (-5), .int .i64 (2097153), .int .i64 (-1)]) rfl rfl rfl rfl) ?_
        rintro _ _ ⟨b54, rfl, rfl⟩
        refine l_nil ?_
        exact f_owes_d (up_cons rfl hs38) rfl (perm_front 0 rfl)
      · rintro f M ⟨k0, k1, k2, k3, k4, k5, -⟩ -
        have hs28 : f 28 = .slice (some ⟨(blk (f 28)), 0, none⟩) 2 2 := k0
        have hs31 : f 31 = .slice (some ⟨(blk (f 31)), 0, none⟩) 2 2 := k1
        have hs33 : f 33 = .slice (some ⟨(blk (f 33)), 0, none⟩) 1 1 := k2
        have hs35 : f 35 = .slice (some ⟨(blk (f 35)), 0, none⟩) 1 1 := k3
        have hs37 : f 37 = .slice (some ⟨(blk (f 37)), 0, none⟩) 1 1 := k4
        have hs39 : f 39 = .slice (some ⟨(blk (f 39)), 0, none⟩) 1 1 := k5
        refine ob_start (L' := M) (by rfl) (up_cons (up_cons (up_cons (up_cons (up_cons (up_cons rfl hs28) hs31) hs33) hs35) hs37) hs39) ?_
        refine l_val (v := .agg #[.slice (some ⟨(blk (f 28)), 0, none⟩) 2 2, .slice (some ⟨(blk (f 31)), 0, none⟩) 2 2, .slice (some ⟨(blk (f 33)), 0, none⟩) 1 1, .slice (some ⟨(blk (f 35)), 0, none⟩) 1 1, .slice (some ⟨(blk (f 37)), 0, none⟩) 1 1, .slice (some ⟨(blk (f 39)), 0, none⟩) 1 1]) rfl rfl rfl (e_build_a se123 se122 (vs := [(0, .slice (some ⟨(blk (f 28)), 0, none⟩) 2 2), (1, .slice (some ⟨(blk (f 31)), 0, none⟩) 2 2), (2, .slice (some ⟨(blk (f 33)), 0, none⟩) 1 1), (3, .slice (some ⟨(blk (f 35)), 0, none⟩) 1 1), (4, .slice (some ⟨(blk (f 37)), 0, none⟩) 1 1), (5, .slice (some ⟨(blk (f 39)), 0, none⟩) 1 1)]) (cells := #[.slice (some ⟨(blk (f 28)), 0, none⟩) 2 2, .slice (some ⟨(blk (f 31)), 0, none⟩) 2 2, .slice (some ⟨(blk (f 33)), 0, none⟩) 1 1, .slice (some ⟨(blk (f 35)), 0, none⟩) 1 1, .slice (some ⟨(blk (f 37)), 0, none⟩) 1 1, .slice (some ⟨(blk (f 39)), 0, none⟩) 1 1]) rfl rfl) ?_
        refine l_nil ?_
        exact f_owes_d (up_cons (up_cons (up_cons (up_cons (up_cons (up_cons rfl hs28) hs31) hs33) hs35) hs37) hs39) rfl (List.Perm.refl _)
      · rintro f M - ⟨i0, -⟩
        have hs1 : f 1 = Bx (y) := i0
        refine ob_start (L' := M) (by rfl) (up_cons rfl hs1) ?_
        refine l_val (v := Bx (y)) rfl rfl rfl (e_move) ?_
        refine l_nil ?_
        exact f_owes_d (up_cons rfl hs1) rfl (List.Perm.refl _)
      · rintro f M ⟨k0, -⟩ -
        have hs41 : f 41 = Bx (y) := k0
        refine ob_start (L' := M) (by rfl) (up_cons rfl hs41) ?_
        refine l_val (v := .int .u8 (((y.toNat % 6 : Nat)) : Int)) rfl rfl rfl (e_rem (a := ((y).toNat : Int)) (b := ((6 : Nat) : Int)) rfl rfl (by decide) (nat_tmod _ _)) ?_
        refine l_nil ?_
        exact f_owes_d (up_cons rfl hs41) rfl (List.Perm.refl _)
      · rintro f M ⟨k0, k1, -⟩ -
        have hs40 : f 40 = .agg #[.slice (some ⟨(blk (f 28)), 0, none⟩) 2 2, .slice (some ⟨(blk (f 31)), 0, none⟩) 2 2, .slice (some ⟨(blk (f 33)), 0, none⟩) 1 1, .slice (some ⟨(blk (f 35)), 0, none⟩) 1 1, .slice (some ⟨(blk (f 37)), 0, none⟩) 1 1, .slice (some ⟨(blk (f 39)), 0, none⟩) 1 1] := k0
        have hs42 : f 42 = .int .u8 (((y.toNat % 6 : Nat)) : Int) := k1
        refine ob_start (L' := M) (by rfl) (up_cons (up_cons rfl hs40) hs42) ?_
        refine l_val (v := .slice (some ⟨(blk (f 35)), 0, none⟩) 1 1) rfl rfl rfl (e_index_u (k := y.toNat % 6) rfl rfl se122 (by rw [hw6]; rfl) (by omega) tu20) ?_
        refine l_nil ?_
        exact f_owes_d (up_cons (up_cons rfl hs40) hs42) rfl (List.Perm.refl _)
      · rintro f M ⟨k0, -⟩ -
        have hs43 : f 43 = .slice (some ⟨(blk (f 35)), 0, none⟩) 1 1 := k0
        refine ob_start (L' := M) (by rfl) (up_cons rfl hs43) ?_
        refine l_val (v := .slice (some ⟨(blk (f 35)), 0, none⟩) 1 1) rfl rfl rfl (e_assign) ?_
        refine l_nil ?_
        exact f_owes_d (up_cons rfl hs43) rfl (List.Perm.refl _)
      rintro fa55 ⟨-, -, -, -, -, -, -, -, -, -, -, -, -, -, -, -, -, -, k18, -⟩ ⟨j0, j1, -⟩
      refine f_re (L' := [pt b3 (.cells #[.int .i64 (200), .int .i64 (200), .int .i64 (204), .int .i64 (204)] 29), rowF AreaF 29 p1 c2 l, pt (blk (fa55 28)) (.cells #[.int .i64 (200), .int .i64 (200), .int .i64 (204), .int .i64 (204), .int .i64 (200), .int .i64 (200), .int .i64 (204), .int .i64 (204)] 29), pt (blk (fa55 31)) (.cells #[.int .i64 (200), .int .i64 (200), .int .i64 (204), .int .i64 (204), .int .i64 (203), .int .i64 (199), .int .i64 (209), .int .i64 (201)] 29), pt (blk (fa55 33)) (.cells #[.int .i64 (200), .int .i64 (200), .int .i64 (200), .int .i64 (204)] 29), pt (blk (fa55 35)) (.cells #[.int .i64 (200), .int .i64 (204), .int .i64 (204), .int .i64 (204)] 29), pt (blk (fa55 37)) (.cells #[.int .i64 (204), .int .i64 (200), .int .i64 (200), .int .i64 (204)] 29), pt (blk (fa55 39)) (.cells #[.int .i64 (0), .int .i64 (-5), .int .i64 (2097153), .int .i64 (-1)] 29)]) (by rfl) ?_
      refine f_rebase (d := 5) (v := .slice p1 (l.length) c2) j0 ?_
      refine f_rebase (d := 6) (v := .pointer (some ⟨b3, 0, none⟩)) j1 ?_
      refine f_rebase (d := 7) (v := .slice (some ⟨(blk (fa55 35)), 0, none⟩) 1 1) k18 ?_
      refine f_conseqP 5 (r' := rowF AreaF 29 (some ⟨(blk (fa55 35)), 0, none⟩) 1 [(⟨200, 204, 204, 204⟩ : KA)]) rfl (pt_rowF (F := AreaF) (xs := [(⟨200, 204, 204, 204⟩ : KA)]) rfl (by simp)) ?_
      refine f_re (L' := [pt b3 (.cells #[.int .i64 (200), .int .i64 (200), .int .i64 (204), .int .i64 (204)] 29), rowF AreaF 29 p1 c2 l, pt (blk (fa55 28)) (.cells #[.int .i64 (200), .int .i64 (200), .int .i64 (204), .int .i64 (204), .int .i64 (200), .int .i64 (200), .int .i64 (204), .int .i64 (204)] 29), pt (blk (fa55 31)) (.cells #[.int .i64 (200), .int .i64 (200), .int .i64 (204), .int .i64 (204), .int .i64 (203), .int .i64 (199), .int .i64 (209), .int .i64 (201)] 29), pt (blk (fa55 33)) (.cells #[.int .i64 (200), .int .i64 (200), .int .i64 (200), .int .i64 (204)] 29), rowF AreaF 29 (some ⟨(blk (fa55 35)), 0, none⟩) 1 [(⟨200, 204, 204, 204⟩ : KA)], pt (blk (fa55 37)) (.cells #[.int .i64 (204), .int .i64 (200), .int .i64 (200), .int .i64 (204)] 29), pt (blk (fa55 39)) (.cells #[.int .i64 (0), .int .i64 (-5), .int .i64 (2097153), .int .i64 (-1)] 29)]) rfl ?_
      refine f_perm (L' := [rowF AreaF 29 p1 c2 l, pt b3 (.cells #[.int .i64 (200), .int .i64 (200), .int .i64 (204), .int .i64 (204)] 29), rowF AreaF 29 (some ⟨(blk (fa55 35)), 0, none⟩) 1 [(⟨200, 204, 204, 204⟩ : KA)], pt (blk (fa55 28)) (.cells #[.int .i64 (200), .int .i64 (200), .int .i64 (204), .int .i64 (204), .int .i64 (200), .int .i64 (200), .int .i64 (204), .int .i64 (204)] 29), pt (blk (fa55 31)) (.cells #[.int .i64 (200), .int .i64 (200), .int .i64 (204), .int .i64 (204), .int .i64 (203), .int .i64 (199), .int .i64 (209), .int .i64 (201)] 29), pt (blk (fa55 33)) (.cells #[.int .i64 (200), .int .i64 (200), .int .i64 (200), .int .i64 (204)] 29), pt (blk (fa55 37)) (.cells #[.int .i64 (204), .int .i64 (200), .int .i64 (200), .int .i64 (204)] 29), pt (blk (fa55 39)) (.cells #[.int .i64 (0), .int .i64 (-5), .int .i64 (2097153), .int .i64 (-1)] 29)]) (perm_ix [1, 0, 5, 2, 3, 4, 6, 7] 8 rfl (by kernel_rfl) (by kernel_rfl)) ?_
      refine f_mask (L' := [rowF AreaF 29 p1 c2 l, pt b3 (.cells #[.int .i64 (200), .int .i64 (200), .int .i64 (204), .int .i64 (204)] 29), rowF AreaF 29 (some ⟨(blk (fa55 35)), 0, none⟩) 1 [(⟨200, 204, 204, 204⟩ : KA)]]) [true, true, true, false, false, false, false, false] rfl ?_
      exact f_cut ⟨(some ⟨(blk (fa55 35)), 0, none⟩), 1, [(⟨200, 204, 204, 204⟩ : KA)], ⟨rfl, rfl, rfl⟩, rfl, ⟨bad3, by decide⟩⟩
    ·
      refine c_any [⟨[], [], [0], [26], fun f => f 26 = .agg #[.int .i64 (200), .int .i64 (200), .int .i64 (204), .int .i64 (204)]⟩, ⟨[], [], [0], [27], fun f => f 27 = .agg #[.int .i64 (200), .int .i64 (200), .int .i64 (204), .int .i64 (204)]⟩, ⟨[0, 1], [0, 1], [], [28], fun f => f 28 = .slice (some ⟨(blk (f 28)), 0, none⟩) 2 2⟩, ⟨[], [], [0], [29], fun f => f 29 = .agg #[.int .i64 (200), .int .i64 (200), .int .i64 (204), .int .i64 (204)]⟩, ⟨[], [], [], [30], fun f => f 30 = .agg #[.int .i64 (203), .int .i64 (199), .int .i64 (209), .int .i64 (201)]⟩, ⟨[3, 4], [3, 4], [], [31], fun f => f 31 = .slice (some ⟨(blk (f 31)), 0, none⟩) 2 2⟩, ⟨[4], [], [], [32], fun f => f 32 = .agg #[.int .i64 (200), .int .i64 (200), .int .i64 (200), .int .i64 (204)]⟩, ⟨[4, 6], [6], [], [33], fun f => f 33 = .slice (some ⟨(blk (f 33)), 0, none⟩) 1 1⟩, ⟨[4, 6], [], [], [34], fun f => f 34 = .agg #[.int .i64 (200), .int .i64 (204), .int .i64 (204), .int .i64 (204)]⟩, ⟨[4, 6, 8], [8], [], [35], fun f => f 35 = .slice (some ⟨(blk (f 35)), 0, none⟩) 1 1⟩, ⟨[4, 6, 8], [], [], [36], fun f => f 36 = .agg #[.int .i64 (204), .int .i64 (200), .int .i64 (200), .int .i64 (204)]⟩, ⟨[4, 6, 8, 10], [10], [], [37], fun f => f 37 = .slice (some ⟨(blk (f 37)), 0, none⟩) 1 1⟩, ⟨[4, 6, 8, 10], [], [], [38], fun f => f 38 = .agg #[.int .i64 (0), .int .i64 (-5), .int .i64 (2097153), .int .i64 (-1)]⟩, ⟨[4, 6, 8, 10, 12], [12], [], [39], fun f => f 39 = .slice (some ⟨(blk (f 39)), 0, none⟩) 1 1⟩, ⟨[0, 1, 2, 3, 4, 5, 6, 7, 8, 9, 10, 11, 12, 13], [2, 5, 7, 9, 11, 13], [], [28, 31, 33, 35, 37, 39, 40], fun f => f 40 = .agg #[.slice (some ⟨(blk (f 28)), 0, none⟩) 2 2, .slice (some ⟨(blk (f 31)), 0, none⟩) 2 2, .slice (some ⟨(blk (f 33)), 0, none⟩) 1 1, .slice (some ⟨(blk (f 35)), 0, none⟩) 1 1, .slice (some ⟨(blk (f 37)), 0, none⟩) 1 1, .slice (some ⟨(blk (f 39)), 0, none⟩) 1 1]⟩, ⟨[], [], [1], [41], fun f => f 41 = Bx (y)⟩, ⟨[15], [15], [], [42], fun f => f 42 = .int .u8 (((y.toNat % 6 : Nat)) : Int)⟩, ⟨[0, 1, 2, 3, 4, 5, 6, 7, 8, 9, 10, 11, 12, 13, 14, 15, 16], [14, 16], [], [37, 43], fun f => f 43 = .slice (some ⟨(blk (f 37)), 0, none⟩) 1 1⟩, ⟨[0, 1, 2, 3, 4, 5, 6, 7, 8, 9, 10, 11, 12, 13, 14, 15, 16, 17], [17], [], [7, 37], fun f => f 7 = .slice (some ⟨(blk (f 37)), 0, none⟩) 1 1⟩] [⟨none, none, [0, 1, 3], [], fun _ => pt b3 (.cells #[.int .i64 (200), .int .i64 (200), .int .i64 (204), .int .i64 (204)] 29)⟩, ⟨none, none, [], [], fun _ => rowF AreaF 29 p1 c2 l⟩, ⟨(some 2), none, [], [28], fun f => pt (blk (f 28)) (.cells #[.int .i64 (200), .int .i64 (200), .int .i64 (204), .int .i64 (204), .int .i64 (200), .int .i64 (200), .int .i64 (204), .int .i64 (204)] 29)⟩, ⟨(some 5), none, [], [31], fun f => pt (blk (f 31)) (.cells #[.int .i64 (200), .int .i64 (200), .int .i64 (204), .int .i64 (204), .int .i64 (203), .int .i64 (199), .int .i64 (209), .int .i64 (201)] 29)⟩, ⟨(some 7), none, [], [33], fun f => pt (blk (f 33)) (.cells #[.int .i64 (200), .int .i64 (200), .int .i64 (200), .int .i64 (204)] 29)⟩, ⟨(some 9), none, [], [35], fun f => pt (blk (f 35)) (.cells #[.int .i64 (200), .int .i64 (204), .int .i64 (204), .int .i64 (204)] 29)⟩, ⟨(some 11), none, [], [37], fun f => pt (blk (f 37)) (.cells #[.int .i64 (204), .int .i64 (200), .int .i64 (200), .int .i64 (204)] 29)⟩, ⟨(some 13), none, [], [39], fun f => pt (blk (f 39)) (.cells #[.int .i64 (0), .int .i64 (-5), .int .i64 (2097153), .int .i64 (-1)] 29)⟩] [(6, .pointer (some ⟨b3, 0, none⟩)), (1, Bx (y)), (5, .slice p1 (l.length) c2)] [2, 0] [] (by kernel_rfl) (by kernel_rfl) (by kernel_rfl) (by kernel_rfl) rfl ⟨rfl, rfl, rfl, trivial⟩ ⟨?_, ?_, ?_, ?_, ?_, ?_, ?_, ?_, ?_, ?_, ?_, ?_, ?_, ?_, ?_, ?_, ?_, ?_, ?_, trivial⟩ ?_
      · rintro f M - ⟨i0, -⟩
        have hs6 : f 6 = .pointer (some ⟨b3, 0, none⟩) := i0
        refine ob_start (L' := pt b3 (.cells #[.int .i64 (200), .int .i64 (200), .int .i64 (204), .int .i64 (204)] 29) :: M) (by rfl) (up_cons rfl hs6) ?_
        refine l_val (v := .agg #[.int .i64 (200), .int .i64 (200), .int .i64 (204), .int .i64 (204)]) rfl rfl rfl (e_load tp10 (cs := [.int .i64 (200), .int .i64 (200), .int .i64 (204), .int .i64 (204)]) rfl (k_pt 0 (cs := #[.int .i64 (200), .int .i64 (200), .int .i64 (204), .int .i64 (204)]) (vs := [.int .i64 (200), .int .i64 (200), .int .i64 (204), .int .i64 (204)]) rfl rfl) rfl) ?_
        refine l_nil ?_
        exact f_owes_d (up_cons rfl hs6) rfl (perm_front 0 rfl)
      · rintro f M - ⟨i0, -⟩
        have hs6 : f 6 = .pointer (some ⟨b3, 0, none⟩) := i0
        refine ob_start (L' := pt b3 (.cells #[.int .i64 (200), .int .i64 (200), .int .i64 (204), .int .i64 (204)] 29) :: M) (by rfl) (up_cons rfl hs6) ?_
        refine l_val (v := .agg #[.int .i64 (200), .int .i64 (200), .int .i64 (204), .int .i64 (204)]) rfl rfl rfl (e_load tp10 (cs := [.int .i64 (200), .int .i64 (200), .int .i64 (204), .int .i64 (204)]) rfl (k_pt 0 (cs := #[.int .i64 (200), .int .i64 (200), .int .i64 (204), .int .i64 (204)]) (vs := [.int .i64 (200), .int .i64 (200), .int .i64 (204), .int .i64 (204)]) rfl rfl) rfl) ?_
        refine l_nil ?_
        exact f_owes_d (up_cons rfl hs6) rfl (perm_front 0 rfl)
      · rintro f M ⟨k0, k1, -⟩ -
        have hs26 : f 26 = .agg #[.int .i64 (200), .int .i64 (200), .int .i64 (204), .int .i64 (204)] := k0
        have hs27 : f 27 = .agg #[.int .i64 (200), .int .i64 (200), .int .i64 (204), .int .i64 (204)] := k1
        refine ob_start (L' := M) (by rfl) (up_cons (up_cons rfl hs26) hs27) ?_
        refine l_mv rfl rfl rfl (m_slices tp14 tp8 (vs := [(0, .agg #[.int .i64 (200), .int .i64 (200), .int .i64 (204), .int .i64 (204)]), (1, .agg #[.int .i64 (200), .int .i64 (200), .int .i64 (204), .int .i64 (204)])]) (cells := #[.int .i64 (200), .int .i64 (200), .int .i64 (204), .int .i64 (204), .int .i64 (200), .int .i64 (200), .int .i64 (204), .int .i64 (204)]) rfl rfl rfl rfl) ?_
        rintro _ _ ⟨b57, rfl, rfl⟩
        refine l_nil ?_
        exact f_owes_d (up_cons (up_cons rfl hs26) hs27) rfl (perm_front 0 rfl)
      · rintro f M - ⟨i0, -⟩
        have hs6 : f 6 = .pointer (some ⟨b3, 0, none⟩) := i0
        refine ob_start (L' := pt b3 (.cells #[.int .i64 (200), .int .i64 (200), .int .i64 (204), .int .i64 (204)] 29) :: M) (by rfl) (up_cons rfl hs6) ?_
        refine l_val (v := .agg #[.int .i64 (200), .int .i64 (200), .int .i64 (204), .int .i64 (204)]) rfl rfl rfl (e_load tp10 (cs := [.int .i64 (200), .int .i64 (200), .int .i64 (204), .int .i64 (204)]) rfl (k_pt 0 (cs := #[.int .i64 (200), .int .i64 (200), .int .i64 (204), .int .i64 (204)]) (vs := [.int .i64 (200), .int .i64 (200), .int .i64 (204), .int .i64 (204)]) rfl rfl) rfl) ?_
        refine l_nil ?_
        exact f_owes_d (up_cons rfl hs6) rfl (perm_front 0 rfl)
      · rintro f M - -
        refine ob_start (L' := M) (by rfl) rfl ?_
        refine l_call rfl rfl rfl (cl_value (fst := []) (cap := []) (vs := [.int .i64 (203), .int .i64 (199), .int .i64 (209), .int .i64 (201)]) (all := [.int .i64 (203), .int .i64 (199), .int .i64 (209), .int .i64 (201)]) ty100 rfl rfl rfl) ?_
        intro w hw
        obtain ⟨β1, sb, kn, hw1, back⟩ := St.frame_all hw
        refine (room_ok β1 w hw1 (203 : Int) (199 : Int) (209 : Int) (201 : Int)).mono ?_
        rintro e w' ⟨rfl, hw'⟩
        refine ⟨_, rfl, _, back _ _ hw', ?_⟩
        clear hw hw1 hw' back kn sb
        refine l_nil ?_
        exact f_owes_d rfl rfl (List.Perm.refl _)
      · rintro f M ⟨k0, k1, -⟩ -
        have hs29 : f 29 = .agg #[.int .i64 (200), .int .i64 (200), .int .i64 (204), .int .i64 (204)] := k0
        have hs30 : f 30 = .agg #[.int .i64 (203), .int .i64 (199), .int .i64 (209), .int .i64 (201)] := k1
        refine ob_start (L' := M) (by rfl) (up_cons (up_cons rfl hs29) hs30) ?_
        refine l_mv rfl rfl rfl (m_slices tp14 tp8 (vs := [(0, .agg #[.int .i64 (200), .int .i64 (200), .int .i64 (204), .int .i64 (204)]), (1, .agg #[.int .i64 (203), .int .i64 (199), .int .i64 (209), .int .i64 (201)])]) (cells := #[.int .i64 (200), .int .i64 (200), .int .i64 (204), .int .i64 (204), .int .i64 (203), .int .i64 (199), .int .i64 (209), .int .i64 (201)]) rfl rfl rfl rfl) ?_
        rintro _ _ ⟨b59, rfl, rfl⟩
        refine l_nil ?_
        exact f_owes_d (up_cons (up_cons rfl hs29) hs30) rfl (perm_front 0 rfl)
      · rintro f M - -
        refine ob_start (L' := M) (by rfl) rfl ?_
        refine l_call rfl rfl rfl (cl_value (fst := []) (cap := []) (vs := [.int .i64 (200), .int .i64 (200), .int .i64 (200), .int .i64 (204)]) (all := [.int .i64 (200), .int .i64 (200), .int .i64 (200), .int .i64 (204)]) ty100 rfl rfl rfl) ?_
        intro w hw
        obtain ⟨β1, sb, kn, hw1, back⟩ := St.frame_all hw
        refine (room_ok β1 w hw1 (200 : Int) (200 : Int) (200 : Int) (204 : Int)).mono ?_
        rintro e w' ⟨rfl, hw'⟩
        refine ⟨_, rfl, _, back _ _ hw', ?_⟩
        clear hw hw1 hw' back kn sb
        refine l_nil ?_
        exact f_owes_d rfl rfl (List.Perm.refl _)
      · rintro f M ⟨k0, -⟩ -
        have hs32 : f 32 = .agg #[.int .i64 (200), .int .i64 (200), .int .i64 (200), .int .i64 (204)] := k0
        refine ob_start (L' := M) (by rfl) (up_cons rfl hs32) ?_
        refine l_mv rfl rfl rfl (m_slices tp14 tp8 (vs := [(0, .agg #[.int .i64 (200), .int .i64 (200), .int .i64 (200), .int .i64 (204)])]) (cells := #[.int .i64 (200), .int .i64 (200), .int .i64 (200), .int .i64 (204)]) rfl rfl rfl rfl) ?_
        rintro _ _ ⟨b61, rfl, rfl⟩
        refine l_nil ?_
        exact f_owes_d (up_cons rfl hs32) rfl (perm_front 0 rfl)
      · rintro f M - -
        refine ob_start (L' := M) (by rfl) rfl ?_
        refine l_call rfl rfl rfl (cl_value (fst := []) (cap := []) (vs := [.int .i64 (200), .int .i64 (204), .int .i64 (204), .int .i64 (204)]) (all := [.int .i64 (200), .int .i64 (204), .int .i64 (204), .int .i64 (204)]) ty100 rfl rfl rfl) ?_
        intro w hw
        obtain ⟨β1, sb, kn, hw1, back⟩ := St.frame_all hw
        refine (room_ok β1 w hw1 (200 : Int) (204 : Int) (204 : Int) (204 : Int)).mono ?_
        rintro e w' ⟨rfl, hw'⟩
        refine ⟨_, rfl, _, back _ _ hw', ?_⟩
        clear hw hw1 hw' back kn sb
        refine l_nil ?_
        exact f_owes_d rfl rfl (List.Perm.refl _)
      · rintro f M ⟨k0, -⟩ -
        have hs34 : f 34 = .agg #[.int .i64 (200), .int .i64 (204), .int .i64 (204), .int .i64 (204)] := k0
        refine ob_start (L' := M) (by rfl) (up_cons rfl hs34) ?_
        refine l_mv rfl rfl rfl (m_slices tp14 tp8 (vs := [(0, .agg #[.int .i64 (200), .int .i64 (204), .int .i64 (204), .int .i64 (204)])]) (cells := #[.int .i64 (200), .int .i64 (204), .int .i64 (204), .int .i64 (204)]) rfl rfl rfl rfl) ?_
        rintro _ _ ⟨b63, rfl, rfl⟩
        refine l_nil ?_
        exact f_owes_d (up_cons rfl hs34) rfl (perm_front 0 rfl)
      · rintro f M - -
        refine ob_start (L' := M) (by rfl) rfl ?_
        refine l_call rfl rfl rfl (cl_value (fst := []) (cap := []) (vs := [.int .i64 (204), .int .i64 (200), .int .i64 (200), .int .i64 (204)]) (all := [.int .i64 (204), .int .i64 (200), .int .i64 (200), .int .i64 (204)]) ty100 rfl rfl rfl) ?_
        intro w hw
        obtain ⟨β1, sb, kn, hw1, back⟩ := St.frame_all hw
        refine (room_ok β1 w hw1 (204 : Int) (200 : Int) (200 : Int) (204 : Int)).mono ?_
        rintro e w' ⟨rfl, hw'⟩
        refine ⟨_, rfl, _, back _ _ hw', ?_⟩
        clear hw hw1 hw' back kn sb
        refine l_nil ?_
        exact f_owes_d rfl rfl (List.Perm.refl _)
      · rintro f M ⟨k0, -⟩ -
        have hs36 : f 36 = .agg #[.int .i64 (204), .int .i64 (200), .int .i64 (200), .int .i64 (204)] := k0
        refine ob_start (L' := M) (by rfl) (up_cons rfl hs36) ?_
        refine l_mv rfl rfl rfl (m_slices tp14 tp8 (vs := [(0, .agg #[.int .i64 (204), .int .i64 (200), .int .i64 (200), .int .i64 (204)])]) (cells := #[.int .i64 (204), .int .i64 (200), .int .i64 (200), .int .i64 (204)]) rfl rfl rfl rfl) ?_
        rintro _ _ ⟨b65, rfl, rfl⟩
        refine l_nil ?_
        exact f_owes_d (up_cons rfl hs36) rfl (perm_front 0 rfl)
      · rintro f M - -
        refine ob_start (L' := M) (by rfl) rfl ?_
        refine l_call rfl rfl rfl (cl_value (fst := []) (cap := []) (vs := [.int .i64 (0), .int .i64 (-5), .int .i64 (2097153), .int .i64 (-1)]) (all := [.int .i64 (0), .int .i64 (-5), .int .i64 (2097153), .int .i64 (-1)]) ty100 rfl rfl rfl) ?_
        intro w hw
        obtain ⟨β1, sb, kn, hw1, back⟩ := St.frame_all hw
        refine (room_ok β1 w hw1 (0 : Int) (-5 : Int) (2097153 : Int) (-1 : Int)).mono ?_
        rintro e w' ⟨rfl, hw'⟩
        refine ⟨_, rfl, _, back _ _ hw', ?_⟩
        clear hw hw1 hw' back kn sb
        refine l_nil ?_
        exact f_owes_d rfl rfl (List.Perm.refl _)
      · rintro f M ⟨k0, -⟩ -
        have hs38 : f 38 = .agg #[.int .i64 (0), .int .i64 (-5), .int .i64 (2097153), .int .i64 (-1)] := k0
        refine ob_start (L' := M) (by rfl) (up_cons rfl hs38) ?_
        refine l_mv rfl rfl rfl (m_slices tp14 tp8 (vs := [(0, .agg #[.int .i64 (0), .int .i64 (-5), .int .i64 (2097153), .int .i64 (-1)])]) (cells := #[.int .i64 (0), .int .i64 (-5), .int .i64 (2097153), .int .i64 (-1)]) rfl rfl rfl rfl) ?_
        rintro _ _ ⟨b67, rfl, rfl⟩
        refine l_nil ?_
        exact f_owes_d (up_cons rfl hs38) rfl (perm_front 0 rfl)
      · rintro f M ⟨k0, k1, k2, k3, k4, k5, -⟩ -
        have hs28 : f 28 = .slice (some ⟨(blk (f 28)), 0, none⟩) 2 2 := k0
        have hs31 : f 31 = .slice (some ⟨(blk (f 31)), 0, none⟩) 2 2 := k1
        have hs33 : f 33 = .slice (some ⟨(blk (f 33)), 0, none⟩) 1 1 := k2
        have hs35 : f 35 = .slice (some ⟨(blk (f 35)), 0, none⟩) 1 1 := k3
        have hs37 : f 37 = .slice (some ⟨(blk (f 37)), 0, none⟩) 1 1 := k4
        have hs39 : f 39 = .slice (some ⟨(blk (f 39)), 0, none⟩) 1 1 := k5
        refine ob_start (L' := M) (by rfl) (up_cons (up_cons (up_cons (up_cons (up_cons (up_cons rfl hs28) hs31) hs33) hs35) hs37) hs39) ?_
        refine l_val (v := .agg #[.slice (some ⟨(blk (f 28)), 0, none⟩) 2 2, .slice (some ⟨(blk (f 31)), 0, none⟩) 2 2, .slice (some ⟨(blk (f 33)), 0, none⟩) 1 1, .slice (some ⟨(blk (f 35)), 0, none⟩) 1 1, .slice (some ⟨(blk (f 37)), 0, none⟩) 1 1, .slice (some ⟨(blk (f 39)), 0, none⟩) 1 1]) rfl rfl rfl (e_build_a se123 se122 (vs := [(0, .slice (some ⟨(blk (f 28)), 0, none⟩) 2 2), (1, .slice (some ⟨(blk (f 31)), 0, none⟩) 2 2), (2, .slice (some ⟨(blk (f 33)), 0, none⟩) 1 1), (3, .slice (some ⟨(blk (f 35)), 0, none⟩) 1 1), (4, .slice (some ⟨(blk (f 37)), 0, none⟩) 1 1), (5, .slice (some ⟨(blk (f 39)), 0, none⟩) 1 1)]) (cells := #[.slice (some ⟨(blk (f 28)), 0, none⟩) 2 2, .slice (some ⟨(blk (f 31)), 0, none⟩) 2 2, .slice (some ⟨(blk (f 33)), 0, none⟩) 1 1, .slice (some ⟨(blk (f 35)), 0, none⟩) 1 1, .slice (some ⟨(blk (f 37)), 0, none⟩) 1 1, .slice (some ⟨(blk (f 39)), 0, none⟩) 1 1]) rfl rfl) ?_
        refine l_nil ?_
        exact f_owes_d (up_cons (up_cons (up_cons (up_cons (up_cons (up_cons rfl hs28) hs31) hs33) hs35) hs37) hs39) rfl (List.Perm.refl _)
      · rintro f M - ⟨i0, -⟩
        have hs1 : f 1 = Bx (y) := i0
        refine ob_start (L' := M) (by rfl) (up_cons rfl hs1) ?_
        refine l_val (v := Bx (y)) rfl rfl rfl (e_move) ?_
        refine l_nil ?_
        exact f_owes_d (up_cons rfl hs1) rfl (List.Perm.refl _)
      · rintro f M ⟨k0, -⟩ -
        have hs41 : f 41 = Bx (y) := k0
        refine ob_start (L' := M) (by rfl) (up_cons rfl hs41) ?_
        refine l_val (v := .int .u8 (((y.toNat % 6 : Nat)) : Int)) rfl rfl rfl (e_rem (a := ((y).toNat : Int)) (b := ((6 : Nat) : Int)) rfl rfl (by decide) (nat_tmod _ _)) ?_
        refine l_nil ?_
        exact f_owes_d (up_cons rfl hs41) rfl (List.Perm.refl _)
      · rintro f M ⟨k0, k1, -⟩ -
        have hs40 : f 40 = .agg #[.slice (some ⟨(blk (f 28)), 0, none⟩) 2 2, .slice (some ⟨(blk (f 31)), 0, none⟩) 2 2, .slice (some ⟨(blk (f 33)), 0, none⟩) 1 1, .slice (some ⟨(blk (f 35)), 0, none⟩) 1 1, .slice (some ⟨(blk (f 37)), 0, none⟩) 1 1, .slice (some ⟨(blk (f 39)), 0, none⟩) 1 1] := k0
        have hs42 : f 42 = .int .u8 (((y.toNat % 6 : Nat)) : Int) := k1
        refine ob_start (L' := M) (by rfl) (up_cons (up_cons rfl hs40) hs42) ?_
        refine l_val (v := .slice (some ⟨(blk (f 37)), 0, none⟩) 1 1) rfl rfl rfl (e_index_u (k := y.toNat % 6) rfl rfl se122 (by rw [hw6]; rfl) (by omega) tu20) ?_
        refine l_nil ?_
        exact f_owes_d (up_cons (up_cons rfl hs40) hs42) rfl (List.Perm.refl _)
      · rintro f M ⟨k0, -⟩ -
        have hs43 : f 43 = .slice (some ⟨(blk (f 37)), 0, none⟩) 1 1 := k0
        refine ob_start (L' := M) (by rfl) (up_cons rfl hs43) ?_
        refine l_val (v := .slice (some ⟨(blk (f 37)), 0, none⟩) 1 1) rfl rfl rfl (e_assign) ?_
        refine l_nil ?_
        exact f_owes_d (up_cons rfl hs43) rfl (List.Perm.refl _)
      rintro fa68 ⟨-, -, -, -, -, -, -, -, -, -, -, -, -, -, -, -, -, -, k18, -⟩ ⟨j0, j1, -⟩
      refine f_re (L' := [pt b3 (.cells #[.int .i64 (200), .int .i64 (200), .int .i64 (204), .int .i64 (204)] 29), rowF AreaF 29 p1 c2 l, pt (blk (fa68 28)) (.cells #[.int .i64 (200), .int .i64 (200), .int .i64 (204), .int .i64 (204), .int .i64 (200), .int .i64 (200), .int .i64 (204), .int .i64 (204)] 29), pt (blk (fa68 31)) (.cells #[.int .i64 (200), .int .i64 (200), .int .i64 (204), .int .i64 (204), .int .i64 (203), .int .i64 (199), .int .i64 (209), .int .i64 (201)] 29), pt (blk (fa68 33)) (.cells #[.int .i64 (200), .int .i64 (200), .int .i64 (200), .int .i64 (204)] 29), pt (blk (fa68 35)) (.cells #[.int .i64 (200), .int .i64 (204), .int .i64 (204), .int .i64 (204)] 29), pt (blk (fa68 37)) (.cells #[.int .i64 (204), .int .i64 (200), .int .i64 (200), .int .i64 (204)] 29), pt (blk (fa68 39)) (.cells #[.int .i64 (0), .int .i64 (-5), .int .i64 (2097153), .int .i64 (-1)] 29)]) (by rfl) ?_
      refine f_rebase (d := 5) (v := .slice p1 (l.length) c2) j0 ?_
      refine f_rebase (d := 6) (v := .pointer (some ⟨b3, 0, none⟩)) j1 ?_
      refine f_rebase (d := 7) (v := .slice (some ⟨(blk (fa68 37)), 0, none⟩) 1 1) k18 ?_
      refine f_conseqP 6 (r' := rowF AreaF 29 (some ⟨(blk (fa68 37)), 0, none⟩) 1 [(⟨204, 200, 200, 204⟩ : KA)]) rfl (pt_rowF (F := AreaF) (xs := [(⟨204, 200, 200, 204⟩ : KA)]) rfl (by simp)) ?_
      refine f_re (L' := [pt b3 (.cells #[.int .i64 (200), .int .i64 (200), .int .i64 (204), .int .i64 (204)] 29), rowF AreaF 29 p1 c2 l, pt (blk (fa68 28)) (.cells #[.int .i64 (200), .int .i64 (200), .int .i64 (204), .int .i64 (204), .int .i64 (200), .int .i64 (200), .int .i64 (204), .int .i64 (204)] 29), pt (blk (fa68 31)) (.cells #[.int .i64 (200), .int .i64 (200), .int .i64 (204), .int .i64 (204), .int .i64 (203), .int .i64 (199), .int .i64 (209), .int .i64 (201)] 29), pt (blk (fa68 33)) (.cells #[.int .i64 (200), .int .i64 (200), .int .i64 (200), .int .i64 (204)] 29), pt (blk (fa68 35)) (.cells #[.int .i64 (200), .int .i64 (204), .int .i64 (204), .int .i64 (204)] 29), rowF AreaF 29 (some ⟨(blk (fa68 37)), 0, none⟩) 1 [(⟨204, 200, 200, 204⟩ : KA)], pt (blk (fa68 39)) (.cells #[.int .i64 (0), .int .i64 (-5), .int .i64 (2097153), .int .i64 (-1)] 29)]) rfl ?_
      refine f_perm (L' := [rowF AreaF 29 p1 c2 l, pt b3 (.cells #[.int .i64 (200), .int .i64 (200), .int .i64 (204), .int .i64 (204)] 29), rowF AreaF 29 (some ⟨(blk (fa68 37)), 0, none⟩) 1 [(⟨204, 200, 200, 204⟩ : KA)], pt (blk (fa68 28)) (.cells #[.int .i64 (200), .int .i64 (200), .int .i64 (204), .int .i64 (204), .int .i64 (200), .int .i64 (200), .int .i64 (204), .int .i64 (204)] 29), pt (blk (fa68 31)) (.cells #[.int .i64 (200), .int .i64 (200), .int .i64 (204), .int .i64 (204), .int .i64 (203), .int .i64 (199), .int .i64 (209), .int .i64 (201)] 29), pt (blk (fa68 33)) (.cells #[.int .i64 (200), .int .i64 (200), .int .i64 (200), .int .i64 (204)] 29), pt (blk (fa68 35)) (.cells #[.int .i64 (200), .int .i64 (204), .int .i64 (204), .int .i64 (204)] 29), pt (blk (fa68 39)) (.cells #[.int .i64 (0), .int .i64 (-5), .int .i64 (2097153), .int .i64 (-1)] 29)]) (perm_ix [1, 0, 6, 2, 3, 4, 5, 7] 8 rfl (by kernel_rfl) (by kernel_rfl)) ?_
      refine f_mask (L' := [rowF AreaF 29 p1 c2 l, pt b3 (.cells #[.int .i64 (200), .int .i64 (200), .int .i64 (204), .int .i64 (204)] 29), rowF AreaF 29 (some ⟨(blk (fa68 37)), 0, none⟩) 1 [(⟨204, 200, 200, 204⟩ : KA)]]) [true, true, true, false, false, false, false, false] rfl ?_
      exact f_cut ⟨(some ⟨(blk (fa68 37)), 0, none⟩), 1, [(⟨204, 200, 200, 204⟩ : KA)], ⟨rfl, rfl, rfl⟩, rfl, ⟨bad4, by decide⟩⟩
    ·
      refine c_any [⟨[], [], [0], [26], fun f => f 26 = .agg #[.int .i64 (200), .int .i64 (200), .int .i64 (204), .int .i64 (204)]⟩, ⟨[], [], [0], [27], fun f => f 27 = .agg #[.int .i64 (200), .int .i64 (200), .int .i64 (204), .int .i64 (204)]⟩, ⟨[0, 1], [0, 1], [], [28], fun f => f 28 = .slice (some ⟨(blk (f 28)), 0, none⟩) 2 2⟩, ⟨[], [], [0], [29], fun f => f 29 = .agg #[.int .i64 (200), .int .i64 (200), .int .i64 (204), .int .i64 (204)]⟩, ⟨[], [], [], [30], fun f => f 30 = .agg #[.int .i64 (203), .int .i64 (199), .int .i64 (209), .int .i64 (201)]⟩, ⟨[3, 4], [3, 4], [], [31], fun f => f 31 = .slice (some ⟨(blk (f 31)), 0, none⟩) 2 2⟩, ⟨[4], [], [], [32], fun f => f 32 = .agg #[.int .i64 (200), .int .i64 (200), .int .i64 (200), .int .i64 (204)]⟩, ⟨[4, 6], [6], [], [33], fun f => f 33 = .slice (some ⟨(blk (f 33)), 0, none⟩) 1 1⟩, ⟨[4, 6], [], [], [34], fun f => f 34 = .agg #[.int .i64 (200), .int .i64 (204), .int .i64 (204), .int .i64 (204)]⟩, ⟨[4, 6, 8], [8], [], [35], fun f => f 35 = .slice (some ⟨(blk (f 35)), 0, none⟩) 1 1⟩, ⟨[4, 6, 8], [], [], [36], fun f => f 36 = .agg #[.int .i64 (204), .int .i64 (200), .int .i64 (200), .int .i64 (204)]⟩, ⟨[4, 6, 8, 10], [10], [], [37], fun f => f 37 = .slice (some ⟨(blk (f 37)), 0, none⟩) 1 1⟩, ⟨[4, 6, 8, 10], [], [], [38], fun f => f 38 = .agg #[.int .i64 (0), .int .i64 (-5), .int .i64 (2097153), .int .i64 (-1)]⟩, ⟨[4, 6, 8, 10, 12], [12], [], [39], fun f => f 39 = .slice (some ⟨(blk (f 39)), 0, none⟩) 1 1⟩, ⟨[0, 1, 2, 3, 4, 5, 6, 7, 8, 9, 10, 11, 12, 13], [2, 5, 7, 9, 11, 13], [], [28, 31, 33, 35, 37, 39, 40], fun f => f 40 = .agg #[.slice (some ⟨(blk (f 28)), 0, none⟩) 2 2, .slice (some ⟨(blk (f 31)), 0, none⟩) 2 2, .slice (some ⟨(blk (f 33)), 0, none⟩) 1 1, .slice (some ⟨(blk (f 35)), 0, none⟩) 1 1, .slice (some ⟨(blk (f 37)), 0, none⟩) 1 1, .slice (some ⟨(blk (f 39)), 0, none⟩) 1 1]⟩, ⟨[], [], [1], [41], fun f => f 41 = Bx (y)⟩, ⟨[15], [15], [], [42], fun f => f 42 = .int .u8 (((y.toNat % 6 : Nat)) : Int)⟩, ⟨[0, 1, 2, 3, 4, 5, 6, 7, 8, 9, 10, 11, 12, 13, 14, 15, 16], [14, 16], [], [39, 43], fun f => f 43 = .slice (some ⟨(blk (f 39)), 0, none⟩) 1 1⟩, ⟨[0, 1, 2, 3, 4, 5, 6, 7, 8, 9, 10, 11, 12, 13, 14, 15, 16, 17], [17], [], [7, 39], fun f => f 7 = .slice (some ⟨(blk (f 39)), 0, none⟩) 1 1⟩] [⟨none, none, [0, 1, 3], [], fun _ => pt b3 (.cells #[.int .i64 (200), .int .i64 (200), .int .i64 (204), .int .i64 (204)] 29)⟩, ⟨none, none, [], [], fun _ => rowF AreaF 29 p1 c2 l⟩, ⟨(some 2), none, [], [28], fun f => pt (blk (f 28)) (.cells #[.int .i64 (200), .int .i64 (200), .int .i64 (204), .int .i64 (204), .int .i64 (200), .int .i64 (200), .int .i64 (204), .int .i64 (204)] 29)⟩, ⟨(some 5), none, [], [31], fun f => pt (blk (f 31)) (.cells #[.int .i64 (200), .int .i64 (200), .int .i64 (204), .int .i64 (204), .int .i64 (203), .int .i64 (199), .int .i64 (209), .int .i64 (201)] 29)⟩, ⟨(some 7), none, [], [33], fun f => pt (blk (f 33)) (.cells #[.int .i64 (200), .int .i64 (200), .int .i64 (200), .int .i64 (204)] 29)⟩, ⟨(some 9), none, [], [35], fun f => pt (blk (f 35)) (.cells #[.int .i64 (200), .int .i64 (204), .int .i64 (204), .int .i64 (204)] 29)⟩, ⟨(some 11), none, [], [37], fun f => pt (blk (f 37)) (.cells #[.int .i64 (204), .int .i64 (200), .int .i64 (200), .int .i64 (204)] 29)⟩, ⟨(some 13), none, [], [39], fun f => pt (blk (f 39)) (.cells #[.int .i64 (0), .int .i64 (-5), .int .i64 (2097153), .int .i64 (-1)] 29)⟩] [(6, .pointer (some ⟨b3, 0, none⟩)), (1, Bx (y)), (5, .slice p1 (l.length) c2)] [2, 0] [] (by kernel_rfl) (by kernel_rfl) (by kernel_rfl) (by kernel_rfl) rfl ⟨rfl, rfl, rfl, trivial⟩ ⟨?_, ?_, ?_, ?_, ?_, ?_, ?_, ?_, ?_, ?_, ?_, ?_, ?_, ?_, ?_, ?_, ?_, ?_, ?_, trivial⟩ ?_
      · rintro f M - ⟨i0, -⟩
        have hs6 : f 6 = .pointer (some ⟨b3, 0, none⟩) := i0
        refine ob_start (L' := pt b3 (.cells #[.int .i64 (200), .int .i64 (200), .int .i64 (204), .int .i64 (204)] 29) :: M) (by rfl) (up_cons rfl hs6) ?_
        refine l_val (v := .agg #[.int .i64 (200), .int .i64 (200), .int .i64 (204), .int .i64 (204)]) rfl rfl rfl (e_load tp10 (cs := [.int .i64 (200), .int .i64 (200), .int .i64 (204), .int .i64 (204)]) rfl (k_pt 0 (cs := #[.int .i64 (200), .int .i64 (200), .int .i64 (204), .int .i64 (204)]) (vs := [.int .i64 (200), .int .i64 (200), .int .i64 (204), .int .i64 (204)]) rfl rfl) rfl) ?_
        refine l_nil ?_
        exact f_owes_d (up_cons rfl hs6) rfl (perm_front 0 rfl)
      · rintro f M - ⟨i0, -⟩
        have hs6 : f 6 = .pointer (some ⟨b3, 0, none⟩) := i0
        refine ob_start (L' := pt b3 (.cells #[.int .i64 (200), .int .i64 (200), .int .i64 (204), .int .i64 (204)] 29) :: M) (by rfl) (up_cons rfl hs6) ?_
        refine l_val (v := .agg #[.int .i64 (200), .int .i64 (200), .int .i64 (204), .int .i64 (204)]) rfl rfl rfl (e_load tp10 (cs := [.int .i64 (200), .int .i64 (200), .int .i64 (204), .int .i64 (204)]) rfl (k_pt 0 (cs := #[.int .i64 (200), .int .i64 (200), .int .i64 (204), .int .i64 (204)]) (vs := [.int .i64 (200), .int .i64 (200), .int .i64 (204), .int .i64 (204)]) rfl rfl) rfl) ?_
        refine l_nil ?_
        exact f_owes_d (up_cons rfl hs6) rfl (perm_front 0 rfl)
      · rintro f M ⟨k0, k1, -⟩ -
        have hs26 : f 26 = .agg #[.int .i64 (200), .int .i64 (200), .int .i64 (204), .int .i64 (204)] := k0
        have hs27 : f 27 = .agg #[.int .i64 (200), .int .i64 (200), .int .i64 (204), .int .i64 (204)] := k1
        refine ob_start (L' := M) (by rfl) (up_cons (up_cons rfl hs26) hs27) ?_
        refine l_mv rfl rfl rfl (m_slices tp14 tp8 (vs := [(0, .agg #[.int .i64 (200), .int .i64 (200), .int .i64 (204), .int .i64 (204)]), (1, .agg #[.int .i64 (200), .int .i64 (200), .int .i64 (204), .int .i64 (204)])]) (cells := #[.int .i64 (200), .int .i64 (200), .int .i64 (204), .int .i64 (204), .int .i64 (200), .int .i64 (200), .int .i64 (204), .int .i64 (204)]) rfl rfl rfl rfl) ?_
        rintro _ _ ⟨b70, rfl, rfl⟩
        refine l_nil ?_
        exact f_owes_d (up_cons (up_cons rfl hs26) hs27) rfl (perm_front 0 rfl)
      · rintro f M - ⟨i0, -⟩
        have hs6 : f 6 = .pointer (some ⟨b3, 0, none⟩) := i0
        refine ob_start (L' := pt b3 (.cells #[.int .i64 (200), .int .i64 (200), .int .i64 (204), .int .i64 (204)] 29) :: M) (by rfl) (up_cons rfl hs6) ?_
        refine l_val (v := .agg #[.int .i64 (200), .int .i64 (200), .int .i64 (204), .int .i64 (204)]) rfl rfl rfl (e_load tp10 (cs := [.int .i64 (200), .int .i64 (200), .int .i64 (204), .int .i64 (204)]) rfl (k_pt 0 (cs := #[.int .i64 (200), .int .i64 (200), .int .i64 (204), .int .i64 (204)]) (vs := [.int .i64 (200), .int .i64 (200), .int .i64 (204), .int .i64 (204)]) rfl rfl) rfl) ?_
        refine l_nil ?_
        exact f_owes_d (up_cons rfl hs6) rfl (perm_front 0 rfl)
      · rintro f M - -
        refine ob_start (L' := M) (by rfl) rfl ?_
        refine l_call rfl rfl rfl (cl_value (fst := []) (cap := []) (vs := [.int .i64 (203), .int .i64 (199), .int .i64 (209), .int .i64 (201)]) (all := [.int .i64 (203), .int .i64 (199), .int .i64 (209), .int .i64 (201)]) ty100 rfl rfl rfl) ?_
        intro w hw
        obtain ⟨β1, sb, kn, hw1, back⟩ := St.frame_all hw
        refine (room_ok β1 w hw1 (203 : Int) (199 : Int) (209 : Int) (201 : Int)).mono ?_
        rintro e w' ⟨rfl, hw'⟩
        refine ⟨_, rfl, _, back _ _ hw', ?_⟩
        clear hw hw1 hw' back kn sb
        refine l_nil ?_
        exact f_owes_d rfl rfl (List.Perm.refl _)
      · rintro f M ⟨k0, k1, -⟩ -
        have hs29 : f 29 = .agg #[.int .i64 (200), .int .i64 (200), .int .i64 (204), .int .i64 (204)] := k0
        have hs30 : f 30 = .agg #[.int .i64 (203), .int .i64 (199), .int .i64 (209), .int .i64 (201)] := k1
        refine ob_start (L' := M) (by rfl) (up_cons (up_cons rfl hs29) hs30) ?_
        refine l_mv rfl rfl rfl (m_slices tp14 tp8 (vs := [(0, .agg #[.int .i64 (200), .int .i64 (200), .int .i64 (204), .int .i64 (204)]), (1, .agg #[.int .i64 (203), .int .i64 (199), .int .i64 (209), .int .i64 (201)])]) (cells := #[.int .i64 (200), .int .i64 (200), .int .i64 (204), .int .i64 (204), .int .i64 (203), .int .i64 (199), .int .i64 (209), .int .i64 (201)]) rfl rfl rfl rfl) ?_
        rintro _ _ ⟨b72, rfl, rfl⟩
        refine l_nil ?_
        exact f_owes_d (up_cons (up_cons rfl hs29) hs30) rfl (perm_front 0 rfl)
      · rintro f M - -
        refine ob_start (L' := M) (by rfl) rfl ?_
        refine l_call rfl rfl rfl (cl_value (fst := []) (cap := []) (vs := [.int .i64 (200), .int .i64 (200), .int .i64 (200), .int .i64 (204)]) (all := [.int .i64 (200), .int .i64 (200), .int .i64 (200), .int .i64 (204)]) ty100 rfl rfl rfl) ?_
        intro w hw
        obtain ⟨β1, sb, kn, hw1, back⟩ := St.frame_all hw
        refine (room_ok β1 w hw1 (200 : Int) (200 : Int) (200 : Int) (204 : Int)).mono ?_
        rintro e w' ⟨rfl, hw'⟩
        refine ⟨_, rfl, _, back _ _ hw', ?_⟩
        clear hw hw1 hw' back kn sb
        refine l_nil ?_
        exact f_owes_d rfl rfl (List.Perm.refl _)
      · rintro f M ⟨k0, -⟩ -
        have hs32 : f 32 = .agg #[.int .i64 (200), .int .i64 (200), .int .i64 (200), .int .i64 (204)] := k0
        refine ob_start (L' := M) (by rfl) (up_cons rfl hs32) ?_
        refine l_mv rfl rfl rfl (m_slices tp14 tp8 (vs := [(0, .agg #[.int .i64 (200), .int .i64 (200), .int .i64 (200), .int .i64 (204)])]) (cells := #[.int .i64 (200), .int .i64 (200), .int .i64 (200), .int .i64 (204)]) rfl rfl rfl rfl) ?_
        rintro _ _ ⟨b74, rfl, rfl⟩
        refine l_nil ?_
        exact f_owes_d (up_cons rfl hs32) rfl (perm_front 0 rfl)
      · rintro f M - -
        refine ob_start (L' := M) (by rfl) rfl ?_
        refine l_call rfl rfl rfl (cl_value (fst := []) (cap := []) (vs := [.int .i64 (200), .int .i64 (204), .int .i64 (204), .int .i64 (204)]) (all := [.int .i64 (200), .int .i64 (204), .int .i64 (204), .int .i64 (204)]) ty100 rfl rfl rfl) ?_
        intro w hw
        obtain ⟨β1, sb, kn, hw1, back⟩ := St.frame_all hw
        refine (room_ok β1 w hw1 (200 : Int) (204 : Int) (204 : Int) (204 : Int)).mono ?_
        rintro e w' ⟨rfl, hw'⟩
        refine ⟨_, rfl, _, back _ _ hw', ?_⟩
        clear hw hw1 hw' back kn sb
        refine l_nil ?_
        exact f_owes_d rfl rfl (List.Perm.refl _)
      · rintro f M ⟨k0, -⟩ -
        have hs34 : f 34 = .agg #[.int .i64 (200), .int .i64 (204), .int .i64 (204), .int .i64 (204)] := k0
        refine ob_start (L' := M) (by rfl) (up_cons rfl hs34) ?_
        refine l_mv rfl rfl rfl (m_slices tp14 tp8 (vs := [(0, .agg #[.int .i64 (200), .int .i64 (204), .int .i64 (204), .int .i64 (204)])]) (cells := #[.int .i64 (200), .int .i64 (204), .int .i64 (204), .int .i64 (204)]) rfl rfl rfl rfl) ?_
        rintro _ _ ⟨b76, rfl, rfl⟩
        refine l_nil ?_
        exact f_owes_d (up_cons rfl hs34) rfl (perm_front 0 rfl)
      · rintro f M - -
        refine ob_start (L' := M) (by rfl) rfl ?_
        refine l_call rfl rfl rfl (cl_value (fst := []) (cap := []) (vs := [.int .i64 (204), .int .i64 (200), .int .i64 (200), .int .i64 (204)]) (all := [.int .i64 (204), .int .i64 (200), .int .i64 (200), .int .i64 (204)]) ty100 rfl rfl rfl) ?_
        intro w hw
        obtain ⟨β1, sb, kn, hw1, back⟩ := St.frame_all hw
        refine (room_ok β1 w hw1 (204 : Int) (200 : Int) (200 : Int) (204 : Int)).mono ?_
        rintro e w' ⟨rfl, hw'⟩
        refine ⟨_, rfl, _, back _ _ hw', ?_⟩
        clear hw hw1 hw' back kn sb
        refine l_nil ?_
        exact f_owes_d rfl rfl (List.Perm.refl _)
      · rintro f M ⟨k0, -⟩ -
        have hs36 : f 36 = .agg #[.int .i64 (204), .int .i64 (200), .int .i64 (200), .int .i64 (204)] := k0
        refine ob_start (L' := M) (by rfl) (up_cons rfl hs36) ?_
        refine l_mv rfl rfl rfl (m_slices tp14 tp8 (vs := [(0, .agg #[.int .i64 (204), .int .i64 (200), .int .i64 (200), .int .i64 (204)])]) (cells := #[.int .i64 (204), .int .i64 (200), .int .i64 (200), .int .i64 (204)]) rfl rfl rfl rfl) ?_
        rintro _ _ ⟨b78, rfl, rfl⟩
        refine l_nil ?_
        exact f_owes_d (up_cons rfl hs36) rfl (perm_front 0 rfl)
      · rintro f M - -
        refine ob_start (L' := M) (by rfl) rfl ?_
        refine l_call rfl rfl rfl (cl_value (fst := []) (cap := []) (vs := [.int .i64 (0), .int .i64 (-5), .int .i64 (2097153), .int .i64 (-1)]) (all := [.int .i64 (0), .int .i64 (-5), .int .i64 (2097153), .int .i64 (-1)]) ty100 rfl rfl rfl) ?_
        intro w hw
        obtain ⟨β1, sb, kn, hw1, back⟩ := St.frame_all hw
        refine (room_ok β1 w hw1 (0 : Int) (-5 : Int) (2097153 : Int) (-1 : Int)).mono ?_
        rintro e w' ⟨rfl, hw'⟩
        refine ⟨_, rfl, _, back _ _ hw', ?_⟩
        clear hw hw1 hw' back kn sb
        refine l_nil ?_
        exact f_owes_d rfl rfl (List.Perm.refl _)
      · rintro f M ⟨k0, -⟩ -
        have hs38 : f 38 = .agg #[.int .i64 (0), .int .i64 (-5), .int .i64 (2097153), .int .i64 (-1)] := k0
        refine ob_start (L' := M) (by rfl) (up_cons rfl hs38) ?_
        refine l_mv rfl rfl rfl (m_slices tp14 tp8 (vs := [(0, .agg #[.int .i64 (0), .int .i64 (-5), .int .i64 (2097153), .int .i64 (-1)])]) (cells := #[.int .i64 (0), .int .i64 (-5), .int .i64 (2097153), .int .i64 (-1)]) rfl rfl rfl rfl) ?_
        rintro _ _ ⟨b80, rfl, rfl⟩
        refine l_nil ?_
        exact f_owes_d (up_cons rfl hs38) rfl (perm_front 0 rfl)
      · rintro f M ⟨k0, k1, k2, k3, k4, k5, -⟩ -
        have hs28 : f 28 = .slice (some ⟨(blk (f 28)), 0, none⟩) 2 2 := k0
        have hs31 : f 31 = .slice (some ⟨(blk (f 31)), 0, none⟩) 2 2 := k1
        have hs33 : f 33 = .slice (some ⟨(blk (f 33)), 0, none⟩) 1 1 := k2
        have hs35 : f 35 = .slice (some ⟨(blk (f 35)), 0, none⟩) 1 1 := k3
        have hs37 : f 37 = .slice (some ⟨(blk (f 37)), 0, none⟩) 1 1 := k4
        have hs39 : f 39 = .slice (some ⟨(blk (f 39)), 0, none⟩) 1 1 := k5
        refine ob_start (L' := M) (by rfl) (up_cons (up_cons (up_cons (up_cons (up_cons (up_cons rfl hs28) hs31) hs33) hs35) hs37) hs39) ?_
        refine l_val (v := .agg #[.slice (some ⟨(blk (f 28)), 0, none⟩) 2 2, .slice (some ⟨(blk (f 31)), 0, none⟩) 2 2, .slice (some ⟨(blk (f 33)), 0, none⟩) 1 1, .slice (some ⟨(blk (f 35)), 0, none⟩) 1 1, .slice (some ⟨(blk (f 37)), 0, none⟩) 1 1, .slice (some ⟨(blk (f 39)), 0, none⟩) 1 1]) rfl rfl rfl (e_build_a se123 se122 (vs := [(0, .slice (some ⟨(blk (f 28)), 0, none⟩) 2 2), (1, .slice (some ⟨(blk (f 31)), 0, none⟩) 2 2), (2, .slice (some ⟨(blk (f 33)), 0, none⟩) 1 1), (3, .slice (some ⟨(blk (f 35)), 0, none⟩) 1 1), (4, .slice (some ⟨(blk (f 37)), 0, none⟩) 1 1), (5, .slice (some ⟨(blk (f 39)), 0, none⟩) 1 1)]) (cells := #[.slice (some ⟨(blk (f 28)), 0, none⟩) 2 2, .slice (some ⟨(blk (f 31)), 0, none⟩) 2 2, .slice (some ⟨(blk (f 33)), 0, none⟩) 1 1, .slice (some ⟨(blk (f 35)), 0, none⟩) 1 1, .slice (some ⟨(blk (f 37)), 0, none⟩) 1 1, .slice (some ⟨(blk (f 39)), 0, none⟩) 1 1]) rfl rfl) ?_
        refine l_nil ?_
        exact f_owes_d (up_cons (up_cons (up_cons (up_cons (up_cons (up_cons rfl hs28) hs31) hs33) hs35) hs37) hs39) rfl (List.Perm.refl _)
      · rintro f M - ⟨i0, -⟩
        have hs1 : f 1 = Bx (y) := i0
        refine ob_start (L' := M) (by rfl) (up_cons rfl hs1) ?_
        refine l_val (v := Bx (y)) rfl rfl rfl (e_move) ?_
        refine l_nil ?_
        exact f_owes_d (up_cons rfl hs1) rfl (List.Perm.refl _)
      · rintro f M ⟨k0, -⟩ -
        have hs41 : f 41 = Bx (y) := k0
        refine ob_start (L' := M) (by rfl) (up_cons rfl hs41) ?_
        refine l_val (v := .int .u8 (((y.toNat % 6 : Nat)) : Int)) rfl rfl rfl (e_rem (a := ((y).toNat : Int)) (b := ((6 : Nat) : Int)) rfl rfl (by decide) (nat_tmod _ _)) ?_
        refine l_nil ?_
        exact f_owes_d (up_cons rfl hs41) rfl (List.Perm.refl _)
      · rintro f M ⟨k0, k1, -⟩ -
        have hs40 : f 40 = .agg #[.slice (some ⟨(blk (f 28)), 0, none⟩) 2 2, .slice (some ⟨(blk (f 31)), 0, none⟩) 2 2, .slice (some ⟨(blk (f 33)), 0, none⟩) 1 1, .slice (some ⟨(blk (f 35)), 0, none⟩) 1 1, .slice (some ⟨(blk (f 37)), 0, none⟩) 1 1, .slice (some ⟨(blk (f 39)), 0, none⟩) 1 1] := k0
        have hs42 : f 42 = .int .u8 (((y.toNat % 6 : Nat)) : Int) := k1
        refine ob_start (L' := M) (by rfl) (up_cons (up_cons rfl hs40) hs42) ?_
        refine l_val (v := .slice (some ⟨(blk (f 39)), 0, none⟩) 1 1) rfl rfl rfl (e_index_u (k := y.toNat % 6) rfl rfl se122 (by rw [hw6]; rfl) (by omega) tu20) ?_
        refine l_nil ?_
        exact f_owes_d (up_cons (up_cons rfl hs40) hs42) rfl (List.Perm.refl _)
      · rintro f M ⟨k0, -⟩ -
        have hs43 : f 43 = .slice (some ⟨(blk (f 39)), 0, none⟩) 1 1 := k0
        refine ob_start (L' := M) (by rfl) (up_cons rfl hs43) ?_
        refine l_val (v := .slice (some ⟨(blk (f 39)), 0, none⟩) 1 1) rfl rfl rfl (e_assign) ?_
        refine l_nil ?_
        exact f_owes_d (up_cons rfl hs43) rfl (List.Perm.refl _)
      rintro fa81 ⟨-, -, -, -, -, -, -, -, -, -, -, -, -, -, -, -, -, -, k18, -⟩ ⟨j0, j1, -⟩
      refine f_re (L' := [pt b3 (.cells #[.int .i64 (200), .int .i64 (200), .int .i64 (204), .int .i64 (204)] 29), rowF AreaF 29 p1 c2 l, pt (blk (fa81 28)) (.cells #[.int .i64 (200), .int .i64 (200), .int .i64 (204), .int .i64 (204), .int .i64 (200), .int .i64 (200), .int .i64 (204), .int .i64 (204)] 29), pt (blk (fa81 31)) (.cells #[.int .i64 (200), .int .i64 (200), .int .i64 (204), .int .i64 (204), .int .i64 (203), .int .i64 (199), .int .i64 (209), .int .i64 (201)] 29), pt (blk (fa81 33)) (.cells #[.int .i64 (200), .int .i64 (200), .int .i64 (200), .int .i64 (204)] 29), pt (blk (fa81 35)) (.cells #[.int .i64 (200), .int .i64 (204), .int .i64 (204), .int .i64 (204)] 29), pt (blk (fa81 37)) (.cells #[.int .i64 (204), .int .i64 (200), .int .i64 (200), .int .i64 (204)] 29), pt (blk (fa81 39)) (.cells #[.int .i64 (0), .int .i64 (-5), .int .i64 (2097153), .int .i64 (-1)] 29)]) (by rfl) ?_
      refine f_rebase (d := 5) (v := .slice p1 (l.length) c2) j0 ?_
      refine f_rebase (d := 6) (v := .pointer (some ⟨b3, 0, none⟩)) j1 ?_
      refine f_rebase (d := 7) (v := .slice (some ⟨(blk (fa81 39)), 0, none⟩) 1 1) k18 ?_
      refine f_conseqP 7 (r' := rowF AreaF 29 (some ⟨(blk (fa81 39)), 0, none⟩) 1 [(⟨0, -5, 2097153, -1⟩ : KA)]) rfl (pt_rowF (F := AreaF) (xs := [(⟨0, -5, 2097153, -1⟩ : KA)]) rfl (by simp)) ?_
      refine f_re (L' := [pt b3 (.cells #[.int .i64 (200), .int .i64 (200), .int .i64 (204), .int .i64 (204)] 29), rowF AreaF 29 p1 c2 l, pt (blk (fa81 28)) (.cells #[.int .i64 (200), .int .i64 (200), .int .i64 (204), .int .i64 (204), .int .i64 (200), .int .i64 (200), .int .i64 (204), .int .i64 (204)] 29), pt (blk (fa81 31)) (.cells #[.int .i64 (200), .int .i64 (200), .int .i64 (204), .int .i64 (204), .int .i64 (203), .int .i64 (199), .int .i64 (209), .int .i64 (201)] 29), pt (blk (fa81 33)) (.cells #[.int .i64 (200), .int .i64 (200), .int .i64 (200), .int .i64 (204)] 29), pt (blk (fa81 35)) (.cells #[.int .i64 (200), .int .i64 (204), .int .i64 (204), .int .i64 (204)] 29), pt (blk (fa81 37)) (.cells #[.int .i64 (204), .int .i64 (200), .int .i64 (200), .int .i64 (204)] 29), rowF AreaF 29 (some ⟨(blk (fa81 39)), 0, none⟩) 1 [(⟨0, -5, 2097153, -1⟩ : KA)]]) rfl ?_
      refine f_perm (L' := [rowF AreaF 29 p1 c2 l, pt b3 (.cells #[.int .i64 (200), .int .i64 (200), .int .i64 (204), .int .i64 (204)] 29), rowF AreaF 29 (some ⟨(blk (fa81 39)), 0, none⟩) 1 [(⟨0, -5, 2097153, -1⟩ : KA)], pt (blk (fa81 28)) (.cells #[.int .i64 (200), .int .i64 (200), .int .i64 (204), .int .i64 (204), .int .i64 (200), .int .i64 (200), .int .i64 (204), .int .i64 (204)] 29), pt (blk (fa81 31)) (.cells #[.int .i64 (200), .int .i64 (200), .int .i64 (204), .int .i64 (204), .int .i64 (203), .int .i64 (199), .int .i64 (209), .int .i64 (201)] 29), pt (blk (fa81 33)) (.cells #[.int .i64 (200), .int .i64 (200), .int .i64 (200), .int .i64 (204)] 29), pt (blk (fa81 35)) (.cells #[.int .i64 (200), .int .i64 (204), .int .i64 (204), .int .i64 (204)] 29), pt (blk (fa81 37)) (.cells #[.int .i64 (204), .int .i64 (200), .int .i64 (200), .int .i64 (204)] 29)]) (perm_ix [1, 0, 7, 2, 3, 4, 5, 6] 8 rfl (by kernel_rfl) (by kernel_rfl)) ?_
      refine f_mask (L' := [rowF AreaF 29 p1 c2 l, pt b3 (.cells #[.int .i64 (200), .int .i64 (200), .int .i64 (204), .int .i64 (204)] 29), rowF AreaF 29 (some ⟨(blk (fa81 39)), 0, none⟩) 1 [(⟨0, -5, 2097153, -1⟩ : KA)]]) [true, true, true, false, false, false, false, false] rfl ?_
      exact f_cut ⟨(some ⟨(blk (fa81 39)), 0, none⟩), 1, [(⟨0, -5, 2097153, -1⟩ : KA)], ⟨rfl, rfl, rfl⟩, rfl, ⟨bad5, by decide⟩⟩
  rintro f0 L0 ⟨bp, bc, bad, ⟨hs5, hs6, hs7⟩, hL, ⟨hBad, hbl⟩⟩
  subst L0
  refine rebase (d := 5) hs5 ?_
  refine rebase (d := 6) hs6 ?_
  refine rebase (d := 7) hs7 ?_
  clear hs5 hs6 hs7
  have hbad := hBad l
  refine c_seq ?_
  have hl24 := hB.len
  refine c_region ?_
  refine l_mv rfl rfl rfl (m_slice0 tp14) ?_
  rintro _ _ ⟨b82, rfl, rfl⟩
  refine l_val (v := .slice p1 (l.length) c2) rfl rfl rfl (e_move) ?_
  refine l_conseq 0 (r' := rowF AreaF 29 (some ⟨b82, 0, none⟩) 0 []) rfl (fun a h => pt_row (m := 0) (by decide) rfl a h) ?_
  refine l_mv rfl rfl rfl (m_appendFlN (F := AreaF) 0 tp14 sa119 (p := (some ⟨b82, 0, none⟩)) (m := 0) (xs := []) (ys := l) (ao := p1) (k := l.length) (c := c2) rfl rfl rfl rfl rfl (Knows.imp (k_flN 1 (F := AreaF) (m := l.length) rfl rfl) fun _ h => (Sl.parts h).2.2.2) (by first | omega | simp only [List.length_nil, List.length_cons, List.length_append, List.length_set]; omega) (by first | omega | simp only [List.length_nil, List.length_cons, List.length_append, List.length_set]; omega)) ?_
  rintro _ _ ⟨rp83, rc84, rfl, rfl⟩
  refine l_val (v := .slice bp (bad.length) bc) rfl rfl rfl (e_move) ?_
  refine l_mv rfl rfl rfl (m_appendFlN (F := AreaF) 0 tp14 sa119 (p := rp83) (m := l.length) (xs := l) (ys := bad) (ao := bp) (k := bad.length) (c := bc) rfl rfl rfl rfl rfl (Knows.imp (k_flN 3 (F := AreaF) (m := bad.length) rfl rfl) fun _ h => (Sl.parts h).2.2.2) (by first | omega | simp only [List.length_nil, List.length_cons, List.length_append, List.length_set]; omega) (by first | omega | simp only [List.length_nil, List.length_cons, List.length_append, List.length_set]; omega)) ?_
  rintro _ _ ⟨rp85, rc86, rfl, rfl⟩
  refine l_val (v := .slice rp85 ((l ++ bad).length) rc86) rfl rfl rfl (e_assign) ?_
  refine l_nil ?_
  refine f_then ?_
  refine c_seq ?_
  refine c_region ?_
  refine l_val (v := .slice rp85 ((l ++ bad).length) rc86) rfl rfl rfl (e_move) ?_
  refine l_call rfl rfl rfl (cl_value (fst := []) (cap := []) (vs := [.slice rp85 ((l ++ bad).length) rc86]) (all := [.slice rp85 ((l ++ bad).length) rc86]) tv60 rfl rfl rfl) ?_
  intro w hw
  obtain ⟨β1, sb, kn, hw1, back⟩ := St.frame_all hw
  refine (portalsB_ok β1 w hw1 _ (l ++ bad) (kn _ (k_flN 0 (F := AreaF) (m := (l ++ bad).length) rfl rfl)) hbad).mono ?_
  rintro e w' ⟨p87, c88, rfl, hw'⟩
  refine ⟨_, rfl, _, back _ _ hw', ?_⟩
  clear hw hw1 hw' back kn sb
  refine l_val (v := .tuple #[.slice p87 (0) c88, .int .i64 (2)]) rfl rfl rfl (e_move) ?_
  refine l_val (v := .slice p87 (0) c88) rfl rfl rfl (e_extract (vs := #[.slice p87 (0) c88, .int .i64 (2)]) rfl rfl) ?_
  refine l_val (v := .int .i64 (2)) rfl rfl rfl (e_extract (vs := #[.slice p87 (0) c88, .int .i64 (2)]) rfl rfl) ?_
  refine l_val (v := .slice p87 (0) c88) rfl rfl rfl (e_assign) ?_
  refine l_val (v := .int .i64 (2)) rfl rfl rfl (e_assign) ?_
  refine l_nil ?_
  refine f_then ?_
  refine c_seq ?_
  refine c_region ?_
  refine l_val (v := .slice rp85 ((l ++ bad).length) rc86) rfl rfl rfl (e_move) ?_
  refine l_call rfl rfl rfl (cl_value (fst := []) (cap := []) (vs := [.int .i64 (0), .int .i64 (0)]) (all := [.int .i64 (0), .int .i64 (0)]) ty102 rfl rfl rfl) ?_
  intro w hw
  obtain ⟨β1, sb, kn, hw1, back⟩ := St.frame_all hw
  refine (point_ok β1 w hw1 (0 : Int) (0 : Int)).mono ?_
  rintro e w' ⟨rfl, hw'⟩
  refine ⟨_, rfl, _, back _ _ hw', ?_⟩
  clear hw hw1 hw' back kn sb
  refine l_call rfl rfl rfl (cl_value (fst := []) (cap := []) (vs := [.slice rp85 ((l ++ bad).length) rc86, .agg #[.int .i64 (0), .int .i64 (0)]]) (all := [.slice rp85 ((l ++ bad).length) rc86, .agg #[.int .i64 (0), .int .i64 (0)]]) tv69 rfl rfl rfl) ?_
  intro w hw
  obtain ⟨β1, sb, kn, hw1, back⟩ := St.frame_all hw
  refine (roomsB_ok β1 w hw1 _ (l ++ bad) (kn _ (k_flN 1 (F := AreaF) (m := (l ++ bad).length) rfl rfl)) hbad 0 0).mono ?_
  rintro e w' ⟨p89, c90, rfl, hw'⟩
  refine ⟨_, rfl, _, back _ _ hw', ?_⟩
  clear hw hw1 hw' back kn sb
  refine l_val (v := .tuple #[.slice p89 (0) c90, .int .i64 (2)]) rfl rfl rfl (e_move) ?_
  refine l_val (v := .slice p89 (0) c90) rfl rfl rfl (e_extract (vs := #[.slice p89 (0) c90, .int .i64 (2)]) rfl rfl) ?_
  refine l_val (v := .int .i64 (2)) rfl rfl rfl (e_extract (vs := #[.slice p89 (0) c90, .int .i64 (2)]) rfl rfl) ?_
  refine l_val (v := .slice p89 (0) c90) rfl rfl rfl (e_assign) ?_
  refine l_val (v := .int .i64 (2)) rfl rfl rfl (e_assign) ?_
  refine l_nil ?_
  refine f_then ?_
  refine c_seq ?_
  refine c_region ?_
  refine l_val (v := .slice rp85 ((l ++ bad).length) rc86) rfl rfl rfl (e_move) ?_
  refine l_call rfl rfl rfl (cl_value (fst := []) (cap := []) (vs := [.int .i64 (0), .int .i64 (0)]) (all := [.int .i64 (0), .int .i64 (0)]) ty102 rfl rfl rfl) ?_
  intro w hw
  obtain ⟨β1, sb, kn, hw1, back⟩ := St.frame_all hw
  refine (point_ok β1 w hw1 (0 : Int) (0 : Int)).mono ?_
  rintro e w' ⟨rfl, hw'⟩
  refine ⟨_, rfl, _, back _ _ hw', ?_⟩
  clear hw hw1 hw' back kn sb
  refine l_call rfl rfl rfl (cl_value (fst := []) (cap := []) (vs := [.slice rp85 ((l ++ bad).length) rc86, .agg #[.int .i64 (0), .int .i64 (0)]]) (all := [.slice rp85 ((l ++ bad).length) rc86, .agg #[.int .i64 (0), .int .i64 (0)]]) se124 rfl rfl rfl) ?_
  intro w hw
  obtain ⟨β1, sb, kn, hw1, back⟩ := St.frame_all hw
  refine (reachB_ok β1 w hw1 _ (l ++ bad) (kn _ (k_flN 2 (F := AreaF) (m := (l ++ bad).length) rfl rfl)) hbad 0 0).mono ?_
  rintro e w' ⟨rfl, hw'⟩
  refine ⟨_, rfl, _, back _ _ hw', ?_⟩
  clear hw hw1 hw' back kn sb
  refine l_val (v := .tuple #[.slice none (0) 0, .int .i64 (2)]) rfl rfl rfl (e_move) ?_
  refine l_val (v := .slice none (0) 0) rfl rfl rfl (e_extract (vs := #[.slice none (0) 0, .int .i64 (2)]) rfl rfl) ?_
  refine l_val (v := .int .i64 (2)) rfl rfl rfl (e_extract (vs := #[.slice none (0) 0, .int .i64 (2)]) rfl rfl) ?_
  refine l_val (v := .slice none (0) 0) rfl rfl rfl (e_assign) ?_
  refine l_val (v := .int .i64 (2)) rfl rfl rfl (e_assign) ?_
  refine l_nil ?_
  refine f_then ?_
  refine c_seq ?_
  refine c_region ?_
  refine l_val (v := .slice rp85 ((l ++ bad).length) rc86) rfl rfl rfl (e_move) ?_
  refine l_call rfl rfl rfl (cl_value (fst := []) (cap := []) (vs := [.int .i64 (0), .int .i64 (0)]) (all := [.int .i64 (0), .int .i64 (0)]) ty102 rfl rfl rfl) ?_
  intro w hw
  obtain ⟨β1, sb, kn, hw1, back⟩ := St.frame_all hw
  refine (point_ok β1 w hw1 (0 : Int) (0 : Int)).mono ?_
  rintro e w' ⟨rfl, hw'⟩
  refine ⟨_, rfl, _, back _ _ hw', ?_⟩
  clear hw hw1 hw' back kn sb
  refine l_call rfl rfl rfl (cl_value (fst := []) (cap := []) (vs := [.int .i64 (0), .int .i64 (0)]) (all := [.int .i64 (0), .int .i64 (0)]) ty102 rfl rfl rfl) ?_
  intro w hw
  obtain ⟨β1, sb, kn, hw1, back⟩ := St.frame_all hw
  refine (point_ok β1 w hw1 (0 : Int) (0 : Int)).mono ?_
  rintro e w' ⟨rfl, hw'⟩
  refine ⟨_, rfl, _, back _ _ hw', ?_⟩
  clear hw hw1 hw' back kn sb
  refine l_call rfl rfl rfl (cl_value (fst := []) (cap := []) (vs := [.slice rp85 ((l ++ bad).length) rc86, .agg #[.int .i64 (0), .int .i64 (0)], .agg #[.int .i64 (0), .int .i64 (0)]]) (all := [.slice rp85 ((l ++ bad).length) rc86, .agg #[.int .i64 (0), .int .i64 (0)], .agg #[.int .i64 (0), .int .i64 (0)]]) ty103 rfl rfl rfl) ?_
  intro w hw
  obtain ⟨β1, sb, kn, hw1, back⟩ := St.frame_all hw
  refine (findB_ok β1 w hw1 _ (l ++ bad) (kn _ (k_flN 2 (F := AreaF) (m := (l ++ bad).length) rfl rfl)) hbad).mono ?_
  rintro e w' ⟨p91, c92, rfl, hw'⟩
  refine ⟨_, rfl, _, back _ _ hw', ?_⟩
  clear hw hw1 hw' back kn sb
  refine l_val (v := .tuple #[.slice p91 (0) c92, .int .i64 (0), .int .i64 (2)]) rfl rfl rfl (e_move) ?_
  refine l_val (v := .slice p91 (0) c92) rfl rfl rfl (e_extract (vs := #[.slice p91 (0) c92, .int .i64 (0), .int .i64 (2)]) rfl rfl) ?_
  refine l_val (v := .int .i64 (0)) rfl rfl rfl (e_extract (vs := #[.slice p91 (0) c92, .int .i64 (0), .int .i64 (2)]) rfl rfl) ?_
  refine l_val (v := .int .i64 (2)) rfl rfl rfl (e_extract (vs := #[.slice p91 (0) c92, .int .i64 (0), .int .i64 (2)]) rfl rfl) ?_
  refine l_val (v := .slice p91 (0) c92) rfl rfl rfl (e_assign) ?_
  refine l_val (v := .int .i64 (0)) rfl rfl rfl (e_assign) ?_
  refine l_val (v := .int .i64 (2)) rfl rfl rfl (e_assign) ?_
  refine l_nil ?_
  refine f_then ?_
  refine c_seq ?_
  refine c_region ?_
  refine l_val (v := .slice p1 (l.length) c2) rfl rfl rfl (e_move) ?_
  refine l_call rfl rfl rfl (cl_value (fst := []) (cap := []) (vs := [.int .i64 (-1), .int .i64 (-1)]) (all := [.int .i64 (-1), .int .i64 (-1)]) ty102 rfl rfl rfl) ?_
  intro w hw
  obtain ⟨β1, sb, kn, hw1, back⟩ := St.frame_all hw
  refine (point_ok β1 w hw1 (-1 : Int) (-1 : Int)).mono ?_
  rintro e w' ⟨rfl, hw'⟩
  refine ⟨_, rfl, _, back _ _ hw', ?_⟩
  clear hw hw1 hw' back kn sb
  refine l_call rfl rfl rfl (cl_value (fst := []) (cap := []) (vs := [.int .i64 (0), .int .i64 (0)]) (all := [.int .i64 (0), .int .i64 (0)]) ty102 rfl rfl rfl) ?_
  intro w hw
  obtain ⟨β1, sb, kn, hw1, back⟩ := St.frame_all hw
  refine (point_ok β1 w hw1 (0 : Int) (0 : Int)).mono ?_
  rintro e w' ⟨rfl, hw'⟩
  refine ⟨_, rfl, _, back _ _ hw', ?_⟩
  clear hw hw1 hw' back kn sb
  refine l_call rfl rfl rfl (cl_value (fst := []) (cap := []) (vs := [.slice p1 (l.length) c2, .agg #[.int .i64 (-1), .int .i64 (-1)], .agg #[.int .i64 (0), .int .i64 (0)]]) (all := [.slice p1 (l.length) c2, .agg #[.int .i64 (-1), .int .i64 (-1)], .agg #[.int .i64 (0), .int .i64 (0)]]) ty103 rfl rfl rfl) ?_
  intro w hw
  obtain ⟨β1, sb, kn, hw1, back⟩ := St.frame_all hw
  refine (findF_ok β1 w hw1 _ l (kn _ (k_flN 4 (F := AreaF) (m := l.length) rfl rfl)) hB).mono ?_
  rintro e w' ⟨p94, c95, way96, rfl, hw'⟩
  refine ⟨_, rfl, _, back _ _ hw', ?_⟩
  clear hw hw1 hw' back kn sb
  refine l_val (v := .tuple #[.slice p94 (way96.length) c95, .int .i64 (0), .int .i64 (6)]) rfl rfl rfl (e_move) ?_
  refine l_val (v := .slice p94 (way96.length) c95) rfl rfl rfl (e_extract (vs := #[.slice p94 (way96.length) c95, .int .i64 (0), .int .i64 (6)]) rfl rfl) ?_
  refine l_val (v := .int .i64 (0)) rfl rfl rfl (e_extract (vs := #[.slice p94 (way96.length) c95, .int .i64 (0), .int .i64 (6)]) rfl rfl) ?_
  refine l_val (v := .int .i64 (6)) rfl rfl rfl (e_extract (vs := #[.slice p94 (way96.length) c95, .int .i64 (0), .int .i64 (6)]) rfl rfl) ?_
  refine l_val (v := .slice p94 (way96.length) c95) rfl rfl rfl (e_assign) ?_
  refine l_val (v := .int .i64 (0)) rfl rfl rfl (e_assign) ?_
  refine l_val (v := .int .i64 (6)) rfl rfl rfl (e_assign) ?_
  refine l_nil ?_
  refine f_then ?_
  refine c_seq ?_
  refine c_any [⟨[], [], [0], [82], fun f => f 82 = .int .i64 (2)⟩, ⟨[0], [0], [], [83], fun f => f 83 = .bool true⟩, ⟨[0, 1], [1], [], [84], fun f => f 84 = .bool true⟩, ⟨[0, 1, 2], [2], [1], [85], fun f => f 85 = .int .i64 (2)⟩, ⟨[0, 1, 2], [2], [0], [86], fun f => f 86 = .int .i64 (2)⟩, ⟨[0, 1, 2, 3, 4], [3, 4, 2], [], [87], fun f => f 87 = .bool true⟩, ⟨[0, 1, 2, 3, 4, 5], [2, 5], [], [88], fun f => f 88 = .bool true⟩, ⟨[0, 1, 2, 3, 4, 5, 6], [6], [], [89], fun f => f 89 = .bool true⟩, ⟨[0, 1, 2, 3, 4, 5, 6, 7], [7], [2], [90], fun f => f 90 = .int .i64 (2)⟩, ⟨[0, 1, 2, 3, 4, 5, 6, 7], [7], [0], [91], fun f => f 91 = .int .i64 (2)⟩, ⟨[0, 1, 2, 3, 4, 5, 6, 7, 8, 9], [8, 9, 7], [], [92], fun f => f 92 = .bool true⟩, ⟨[0, 1, 2, 3, 4, 5, 6, 7, 8, 9, 10], [7, 10], [], [93], fun f => f 93 = .bool true⟩, ⟨[0, 1, 2, 3, 4, 5, 6, 7, 8, 9, 10, 11], [11], [], [94], fun f => f 94 = .bool true⟩, ⟨[0, 1, 2, 3, 4, 5, 6, 7, 8, 9, 10, 11, 12], [12], [3], [95], fun f => f 95 = .int .i64 (2)⟩, ⟨[0, 1, 2, 3, 4, 5, 6, 7, 8, 9, 10, 11, 12], [12], [0], [96], fun f => f 96 = .int .i64 (2)⟩, ⟨[0, 1, 2, 3, 4, 5, 6, 7, 8, 9, 10, 11, 12, 13, 14], [13, 14, 12], [], [97], fun f => f 97 = .bool true⟩, ⟨[0, 1, 2, 3, 4, 5, 6, 7, 8, 9, 10, 11, 12, 13, 14, 15], [12, 15], [], [98], fun f => f 98 = .bool true⟩, ⟨[0, 1, 2, 3, 4, 5, 6, 7, 8, 9, 10, 11, 12, 13, 14, 15, 16], [16], [], [99], fun f => f 99 = .bool true⟩, ⟨[0, 1, 2, 3, 4, 5, 6, 7, 8, 9, 10, 11, 12, 13, 14, 15, 16, 17], [17], [4], [100], fun f => f 100 = .int .i64 (6)⟩, ⟨[0, 1, 2, 3, 4, 5, 6, 7, 8, 9, 10, 11, 12, 13, 14, 15, 16, 17, 18], [18, 17], [], [101], fun f => f 101 = .bool true⟩, ⟨[0, 1, 2, 3, 4, 5, 6, 7, 8, 9, 10, 11, 12, 13, 14, 15, 16, 17, 18, 19], [17, 19], [], [102], fun f => f 102 = .bool true⟩, ⟨[0, 1, 2, 3, 4, 5, 6, 7, 8, 9, 10, 11, 12, 13, 14, 15, 16, 17, 18, 19, 20], [20], [], [103], fun f => f 103 = .bool true⟩, ⟨[0, 1, 2, 3, 4, 5, 6, 7, 8, 9, 10, 11, 12, 13, 14, 15, 16, 17, 18, 19, 20, 21], [21], [5], [104], fun f => f 104 = .slice p87 (0) c88⟩, ⟨[0, 1, 2, 3, 4, 5, 6, 7, 8, 9, 10, 11, 12, 13, 14, 15, 16, 17, 18, 19, 20, 21, 22], [22, 21], [], [105], fun f => f 105 = Nx (0)⟩, ⟨[0, 1, 2, 3, 4, 5, 6, 7, 8, 9, 10, 11, 12, 13, 14, 15, 16, 17, 18, 19, 20, 21], [21], [6], [106], fun f => f 106 = .slice p89 (0) c90⟩, ⟨[0, 1, 2, 3, 4, 5, 6, 7, 8, 9, 10, 11, 12, 13, 14, 15, 16, 17, 18, 19, 20, 21, 24], [24, 21], [], [107], fun f => f 107 = Nx (0)⟩, ⟨[0, 1, 2, 3, 4, 5, 6, 7, 8, 9, 10, 11, 12, 13, 14, 15, 16, 17, 18, 19, 20, 21, 22, 23, 24, 25], [23, 25, 21], [], [108], fun f => f 108 = Nx (0 + 0)⟩, ⟨[0, 1, 2, 3, 4, 5, 6, 7, 8, 9, 10, 11, 12, 13, 14, 15, 16, 17, 18, 19, 20, 21], [21], [7], [109], fun f => f 109 = .slice none (0) 0⟩, ⟨[0, 1, 2, 3, 4, 5, 6, 7, 8, 9, 10, 11, 12, 13, 14, 15, 16, 17, 18, 19, 20, 21, 27], [27, 21], [], [110], fun f => f 110 = Nx (0)⟩, ⟨[0, 1, 2, 3, 4, 5, 6, 7, 8, 9, 10, 11, 12, 13, 14, 15, 16, 17, 18, 19, 20, 21, 22, 23, 24, 25, 26, 27, 28], [26, 28, 21], [], [111], fun f => f 111 = Nx ((0 + 0) + 0)⟩, ⟨[0, 1, 2, 3, 4, 5, 6, 7, 8, 9, 10, 11, 12, 13, 14, 15, 16, 17, 18, 19, 20, 21], [21], [8], [112], fun f => f 112 = .slice p91 (0) c92⟩, ⟨[0, 1, 2, 3, 4, 5, 6, 7, 8, 9, 10, 11, 12, 13, 14, 15, 16, 17, 18, 19, 20, 21, 30], [30, 21], [], [113], fun f => f 113 = Nx (0)⟩, ⟨[0, 1, 2, 3, 4, 5, 6, 7, 8, 9, 10, 11, 12, 13, 14, 15, 16, 17, 18, 19, 20, 21, 22, 23, 24, 25, 26, 27, 28, 29, 30, 31], [29, 31, 21], [], [114], fun f => f 114 = Nx (((0 + 0) + 0) + 0)⟩, ⟨[0, 1, 2, 3, 4, 5, 6, 7, 8, 9, 10, 11, 12, 13, 14, 15, 16, 17, 18, 19, 20, 21], [21], [9], [115], fun f => f 115 = .int .i64 (0)⟩, ⟨[0, 1, 2, 3, 4, 5, 6, 7, 8, 9, 10, 11, 12, 13, 14, 15, 16, 17, 18, 19, 20, 21, 22, 23, 24, 25, 26, 27, 28, 29, 30, 31, 32, 33], [32, 33, 21], [], [116], fun f => f 116 = Nx ((((0 + 0) + 0) + 0) + 0)⟩, ⟨[0, 1, 2, 3, 4, 5, 6, 7, 8, 9, 10, 11, 12, 13, 14, 15, 16, 17, 18, 19, 20, 21], [21], [10], [117], fun f => f 117 = .int .i64 (0)⟩, ⟨[0, 1, 2, 3, 4, 5, 6, 7, 8, 9, 10, 11, 12, 13, 14, 15, 16, 17, 18, 19, 20, 21, 22, 23, 24, 25, 26, 27, 28, 29, 30, 31, 32, 33, 34, 35], [34, 35, 21], [], [118], fun f => f 118 = Nx (((((0 + 0) + 0) + 0) + 0) + 0)⟩, ⟨[0, 1, 2, 3, 4, 5, 6, 7, 8, 9, 10, 11, 12, 13, 14, 15, 16, 17, 18, 19, 20, 21, 22, 23, 24, 25, 26, 27, 28, 29, 30, 31, 32, 33, 34, 35, 36], [36, 21], [], [119], fun f => f 119 = .bool true⟩, ⟨[0, 1, 2, 3, 4, 5, 6, 7, 8, 9, 10, 11, 12, 13, 14, 15, 16, 17, 18, 19, 20, 21, 22, 23, 24, 25, 26, 27, 28, 29, 30, 31, 32, 33, 34, 35, 36, 37], [21, 37], [], [120], fun f => f 120 = .bool true⟩, ⟨[0, 1, 2, 3, 4, 5, 6, 7, 8, 9, 10, 11, 12, 13, 14, 15, 16, 17, 18, 19, 20, 21, 22, 23, 24, 25, 26, 27, 28, 29, 30, 31, 32, 33, 34, 35, 36, 37, 38], [38], [], [121], fun f => f 121 = .bool true⟩, ⟨[0, 1, 2, 3, 4, 5, 6, 7, 8, 9, 10, 11, 12, 13, 14, 15, 16, 17, 18, 19, 20, 21, 22, 23, 24, 25, 26, 27, 28, 29, 30, 31, 32, 33, 34, 35, 36, 37, 38, 39], [39], [11], [122], fun f => f 122 = .slice rp85 ((l ++ bad).length) rc86⟩, ⟨[0, 1, 2, 3, 4, 5, 6, 7, 8, 9, 10, 11, 12, 13, 14, 15, 16, 17, 18, 19, 20, 21, 22, 23, 24, 25, 26, 27, 28, 29, 30, 31, 32, 33, 34, 35, 36, 37, 38, 39, 40], [40, 39], [], [123], fun f => f 123 = .bool false⟩, ⟨[0, 1, 2, 3, 4, 5, 6, 7, 8, 9, 10, 11, 12, 13, 14, 15, 16, 17, 18, 19, 20, 21, 22, 23, 24, 25, 26, 27, 28, 29, 30, 31, 32, 33, 34, 35, 36, 37, 38, 39, 40, 41], [41, 39], [], [124], fun f => f 124 = .bool true⟩, ⟨[0, 1, 2, 3, 4, 5, 6, 7, 8, 9, 10, 11, 12, 13, 14, 15, 16, 17, 18, 19, 20, 21, 22, 23, 24, 25, 26, 27, 28, 29, 30, 31, 32, 33, 34, 35, 36, 37, 38, 39, 40, 41, 42], [39, 42], [], [125], fun f => f 125 = .bool true⟩, ⟨[0, 1, 2, 3, 4, 5, 6, 7, 8, 9, 10, 11, 12, 13, 14, 15, 16, 17, 18, 19, 20, 21, 22, 23, 24, 25, 26, 27, 28, 29, 30, 31, 32, 33, 34, 35, 36, 37, 38, 39, 40, 41, 42, 43], [43], [], [126], fun f => f 126 = .bool true⟩, ⟨[0, 1, 2, 3, 4, 5, 6, 7, 8, 9, 10, 11, 12, 13, 14, 15, 16, 17, 18, 19, 20, 21, 22, 23, 24, 25, 26, 27, 28, 29, 30, 31, 32, 33, 34, 35, 36, 37, 38, 39, 40, 41, 42, 43, 44], [44], [], [127], fun f => f 127 = .slice (some ⟨(blk (f 127)), 0, none⟩) 0 0⟩, ⟨[0, 1, 2, 3, 4, 5, 6, 7, 8, 9, 10, 11, 12, 13, 14, 15, 16, 17, 18, 19, 20, 21, 22, 23, 24, 25, 26, 27, 28, 29, 30, 31, 32, 33, 34, 35, 36, 37, 38, 39, 40, 41, 42, 43, 44], [44], [12], [128], fun f => f 128 = .slice p1 (l.length) c2⟩, ⟨[0, 1, 2, 3, 4, 5, 6, 7, 8, 9, 10, 11, 12, 13, 14, 15, 16, 17, 18, 19, 20, 21, 22, 23, 24, 25, 26, 27, 28, 29, 30, 31, 32, 33, 34, 35, 36, 37, 38, 39, 40, 41, 42, 43, 44, 45, 46], [45, 46, 44], [], [129], fun f => f 129 = .slice (sla (f 129)) (l.length) (slc (f 129))⟩, ⟨[0, 1, 2, 3, 4, 5, 6, 7, 8, 9, 10, 11, 12, 13, 14, 15, 16, 17, 18, 19, 20, 21, 22, 23, 24, 25, 26, 27, 28, 29, 30, 31, 32, 33, 34, 35, 36, 37, 38, 39, 40, 41, 42, 43, 44], [44], [13], [130], fun f => f 130 = .agg #[.int .i64 (200), .int .i64 (200), .int .i64 (204), .int .i64 (204)]⟩, ⟨[0, 1, 2, 3, 4, 5, 6, 7, 8, 9, 10, 11, 12, 13, 14, 15, 16, 17, 18, 19, 20, 21, 22, 23, 24, 25, 26, 27, 28, 29, 30, 31, 32, 33, 34, 35, 36, 37, 38, 39, 40, 41, 42, 43, 44, 48], [48, 44], [], [131], fun f => f 131 = .slice (some ⟨(blk (f 131)), 0, none⟩) 1 1⟩, ⟨[0, 1, 2, 3, 4, 5, 6, 7, 8, 9, 10, 11, 12, 13, 14, 15, 16, 17, 18, 19, 20, 21, 22, 23, 24, 25, 26, 27, 28, 29, 30, 31, 32, 33, 34, 35, 36, 37, 38, 39, 40, 41, 42, 43, 44, 45, 46, 47, 48, 49], [47, 49, 44], [], [132], fun f => f 132 = .slice (sla (f 132)) ((l ++ [(⟨200, 200, 204, 204⟩ : KA)]).length) (slc (f 132))⟩, ⟨[0, 1, 2, 3, 4, 5, 6, 7, 8, 9, 10, 11, 12, 13, 14, 15, 16, 17, 18, 19, 20, 21, 22, 23, 24, 25, 26, 27, 28, 29, 30, 31, 32, 33, 34, 35, 36, 37, 38, 39, 40, 41, 42, 43, 44, 45, 46, 47, 48, 49, 50], [50, 44], [], [133], fun f => f 133 = .bool true⟩, ⟨[0, 1, 2, 3, 4, 5, 6, 7, 8, 9, 10, 11, 12, 13, 14, 15, 16, 17, 18, 19, 20, 21, 22, 23, 24, 25, 26, 27, 28, 29, 30, 31, 32, 33, 34, 35, 36, 37, 38, 39, 40, 41, 42, 43, 44, 45, 46, 47, 48, 49, 50, 51], [44, 51], [], [134], fun f => f 134 = .bool true⟩, ⟨[0, 1, 2, 3, 4, 5, 6, 7, 8, 9, 10, 11, 12, 13, 14, 15, 16, 17, 18, 19, 20, 21, 22, 23, 24, 25, 26, 27, 28, 29, 30, 31, 32, 33, 34, 35, 36, 37, 38, 39, 40, 41, 42, 43, 44, 45, 46, 47, 48, 49, 50, 51, 52], [52], [], [4], fun f => f 4 = .bool true⟩] [⟨none, none, [], [], fun _ => rowF VecF 27 p94 c95 way96⟩, ⟨none, none, [], [], fun _ => rowF VecF 27 p91 c92 []⟩, ⟨none, none, [], [], fun _ => rowF NatF 3 p89 c90 []⟩, ⟨none, none, [], [], fun _ => rowF PoF 50 p87 c88 []⟩, ⟨none, none, [41], [], fun _ => rowF AreaF 29 rp85 rc86 (l ++ bad)⟩, ⟨none, none, [47], [], fun _ => rowF AreaF 29 p1 c2 l⟩, ⟨none, none, [48], [], fun _ => pt b3 (.cells #[.int .i64 (200), .int .i64 (200), .int .i64 (204), .int .i64 (204)] 29)⟩, ⟨none, none, [], [], fun _ => rowF AreaF 29 bp bc bad⟩, ⟨(some 45), (some 47), [47], [127], fun f => pt (blk (f 127)) (.cells #[] 29)⟩, ⟨(some 47), (some 50), [50], [129], fun f => rowF AreaF 29 (sla (f 129)) (slc (f 129)) l⟩, ⟨(some 49), none, [50], [131], fun f => pt (blk (f 131)) (.cells #[.int .i64 (200), .int .i64 (200), .int .i64 (204), .int .i64 (204)] 29)⟩, ⟨(some 50), none, [51], [132], fun f => rowF AreaF 29 (sla (f 132)) (slc (f 132)) (l ++ [(⟨200, 200, 204, 204⟩ : KA)])⟩] [(10, .int .i64 (2)), (12, .int .i64 (2)), (14, .int .i64 (2)), (17, .int .i64 (2)), (20, .int .i64 (6)), (9, .slice p87 (0) c88), (11, .slice p89 (0) c90), (13, .slice none (0) 0), (15, .slice p91 (0) c92), (16, .int .i64 (0)), (19, .int .i64 (0)), (8, .slice rp85 ((l ++ bad).length) rc86), (5, .slice p1 (l.length) c2), (6, .pointer (some ⟨b3, 0, none⟩))] [] [] (by kernel_rfl) (by kernel_rfl) (by kernel_rfl) (by kernel_rfl) rfl ⟨rfl, rfl, rfl, rfl, rfl, rfl, rfl, rfl, rfl, rfl, rfl, rfl, rfl, rfl, trivial⟩ ⟨?_, ?_, ?_, ?_, ?_, ?_, ?_, ?_, ?_, ?_, ?_, ?_, ?_, ?_, ?_, ?_, ?_, ?_, ?_, ?_, ?_, ?_, ?_, ?_, ?_, ?_, ?_, ?_, ?_, ?_, ?_, ?_, ?_, ?_, ?_, ?_, ?_, ?_, ?_, ?_, ?_, ?_, ?_, ?_, ?_, ?_, ?_, ?_, ?_, ?_, ?_, ?_, ?_, ?_, trivial⟩ ?_
  · rintro f M - ⟨i0, -⟩
    have hs10 : f 10 = .int .i64 (2) := i0
    refine ob_start (L' := M) (by rfl) (up_cons rfl hs10) ?_
    refine l_val (v := .int .i64 (2)) rfl rfl rfl (e_move) ?_
    refine l_nil ?_
    exact f_owes_d (up_cons rfl hs10) rfl (List.Perm.refl _)
  · rintro f M ⟨k0, -⟩ -
    have hs82 : f 82 = .int .i64 (2) := k0
    refine ob_start (L' := M) (by rfl) (up_cons rfl hs82) ?_
    refine l_val (v := .bool true) rfl rfl rfl (e_eql (a := (2 : Int)) (b := (2 : Int)) rfl rfl) ?_
    refine l_nil ?_
    exact f_owes_d (up_cons rfl hs82) rfl (List.Perm.refl _)
  · rintro f M ⟨k0, -⟩ -
    have hs83 : f 83 = .bool true := k0
    refine ob_start (L' := M) (by rfl) (up_cons rfl hs83) ?_
    refine l_val (v := .bool true) rfl rfl rfl (e_move) ?_
    refine l_nil ?_
    exact f_owes_d (up_cons rfl hs83) rfl (List.Perm.refl _)
  · rintro f M ⟨k0, -⟩ ⟨i0, -⟩
    have hs12 : f 12 = .int .i64 (2) := i0
    have hs84 : f 84 = .bool true := k0
    refine ob_start (L' := M) (by rfl) (up_cons (up_cons rfl hs12) hs84) ?_
    refine g_val (v := .int .i64 (2)) rfl rfl rfl rfl rfl (e_move) ?_
    refine l_nil ?_
    exact f_owes_d (up_cons (up_cons rfl hs12) hs84) rfl (List.Perm.refl _)
  · rintro f M ⟨k0, -⟩ ⟨i0, -⟩
    have hs10 : f 10 = .int .i64 (2) := i0
    have hs84 : f 84 = .bool true := k0
    refine ob_start (L' := M) (by rfl) (up_cons (up_cons rfl hs10) hs84) ?_
    refine g_val (v := .int .i64 (2)) rfl rfl rfl rfl rfl (e_move) ?_
    refine l_nil ?_
    exact f_owes_d (up_cons (up_cons rfl hs10) hs84) rfl (List.Perm.refl _)
  · rintro f M ⟨k0, k1, k2, -⟩ -
    have hs85 : f 85 = .int .i64 (2) := k0
    have hs86 : f 86 = .int .i64 (2) := k1
    have hs84 : f 84 = .bool true := k2
    refine ob_start (L' := M) (by rfl) (up_cons (up_cons (up_cons rfl hs85) hs86) hs84) ?_
    refine g_val (v := .bool true) rfl rfl rfl rfl rfl (e_eql (a := (2 : Int)) (b := (2 : Int)) rfl rfl) ?_
    refine l_nil ?_
    exact f_owes_d (up_cons (up_cons (up_cons rfl hs85) hs86) hs84) rfl (List.Perm.refl _)
  · rintro f M ⟨k0, k1, -⟩ -
    have hs84 : f 84 = .bool true := k0
    have hs87 : f 87 = .bool true := k1
    refine ob_start (L' := M) (by rfl) (up_cons (up_cons rfl hs84) hs87) ?_
    refine l_val (v := .bool true) rfl rfl rfl (e_pick_t rfl) ?_
    refine l_nil ?_
    exact f_owes_d (up_cons (up_cons rfl hs84) hs87) rfl (List.Perm.refl _)
  · rintro f M ⟨k0, -⟩ -
    have hs88 : f 88 = .bool true := k0
    refine ob_start (L' := M) (by rfl) (up_cons rfl hs88) ?_
    refine l_val (v := .bool true) rfl rfl rfl (e_move) ?_
    refine l_nil ?_
    exact f_owes_d (up_cons rfl hs88) rfl (List.Perm.refl _)
  · rintro f M ⟨k0, -⟩ ⟨i0, -⟩
    have hs14 : f 14 = .int .i64 (2) := i0
    have hs89 : f 89 = .bool true := k0
    refine ob_start (L' := M) (by rfl) (up_cons (up_cons rfl hs14) hs89) ?_
    refine g_val (v := .int .i64 (2)) rfl rfl rfl rfl rfl (e_move) ?_
    refine l_nil ?_
    exact f_owes_d (up_cons (up_cons rfl hs14) hs89) rfl (List.Perm.refl _)
  · rintro f M ⟨k0, -⟩ ⟨i0, -⟩
    have hs10 : f 10 = .int .i64 (2) := i0
    have hs89 : f 89 = .bool true := k0
    refine ob_start (L' := M) (by rfl) (up_cons (up_cons rfl hs10) hs89) ?_
    refine g_val (v := .int .i64 (2)) rfl rfl rfl rfl rfl (e_move) ?_
    refine l_nil ?_
    exact f_owes_d (up_cons (up_cons rfl hs10) hs89) rfl (List.Perm.refl _)
  · rintro f M ⟨k0, k1, k2, -⟩ -
    have hs90 : f 90 = .int .i64 (2) := k0
    have hs91 : f 91 = .int .i64 (2) := k1
    have hs89 : f 89 = .bool true := k2
    refine ob_start (L' := M) (by rfl) (up_cons (up_cons (up_cons rfl hs90) hs91) hs89) ?_
    refine g_val (v := .bool true) rfl rfl rfl rfl rfl (e_eql (a := (2 : Int)) (b := (2 : Int)) rfl rfl) ?_
    refine l_nil ?_
    exact f_owes_d (up_cons (up_cons (up_cons rfl hs90) hs91) hs89) rfl (List.Perm.refl _)
  · rintro f M ⟨k0, k1, -⟩ -
    have hs89 : f 89 = .bool true := k0
    have hs92 : f 92 = .bool true := k1
    refine ob_start (L' := M) (by rfl) (up_cons (up_cons rfl hs89) hs92) ?_
    refine l_val (v := .bool true) rfl rfl rfl (e_pick_t rfl) ?_
    refine l_nil ?_
    exact f_owes_d (up_cons (up_cons rfl hs89) hs92) rfl (List.Perm.refl _)
  · rintro f M ⟨k0, -⟩ -
    have hs93 : f 93 = .bool true := k0
    refine ob_start (L' := M) (by rfl) (up_cons rfl hs93) ?_
    refine l_val (v := .bool true) rfl rfl rfl (e_move) ?_
    refine l_nil ?_
    exact f_owes_d (up_cons rfl hs93) rfl (List.Perm.refl _)
  · rintro f M ⟨k0, -⟩ ⟨i0, -⟩
    have hs17 : f 17 = .int .i64 (2) := i0
    have hs94 : f 94 = .bool true := k0
    refine ob_start (L' := M) (by rfl) (up_cons (up_cons rfl hs17) hs94) ?_
    refine g_val (v := .int .i64 (2)) rfl rfl rfl rfl rfl (e_move) ?_
    refine l_nil ?_
    exact f_owes_d (up_cons (up_cons rfl hs17) hs94) rfl (List.Perm.refl _)
  · rintro f M ⟨k0, -⟩ ⟨i0, -⟩
    have hs10 : f 10 = .int .i64 (2) := i0
    have hs94 : f 94 = .bool true := k0
    refine ob_start (L' := M) (by rfl) (up_cons (up_cons rfl hs10) hs94) ?_
    refine g_val (v := .int .i64 (2)) rfl rfl rfl rfl rfl (e_move) ?_
    refine l_nil ?_
    exact f_owes_d (up_cons (up_cons rfl hs10) hs94) rfl (List.Perm.refl _)
  · rintro f M ⟨k0, k1, k2, -⟩ -
    have hs95 : f 95 = .int .i64 (2) := k0
    have hs96 : f 96 = .int .i64 (2) := k1
    have hs94 : f 94 = .bool true := k2
    refine ob_start (L' := M) (by rfl) (up_cons (up_cons (up_cons rfl hs95) hs96) hs94) ?_
    refine g_val (v := .bool true) rfl rfl rfl rfl rfl (e_eql (a := (2 : Int)) (b := (2 : Int)) rfl rfl) ?_
    refine l_nil ?_
    exact f_owes_d (up_cons (up_cons (up_cons rfl hs95) hs96) hs94) rfl (List.Perm.refl _)
  · rintro f M ⟨k0, k1, -⟩ -
    have hs94 : f 94 = .bool true := k0
    have hs97 : f 97 = .bool true := k1
    refine ob_start (L' := M) (by rfl) (up_cons (up_cons rfl hs94) hs97) ?_
    refine l_val (v := .bool true) rfl rfl rfl (e_pick_t rfl) ?_
    refine l_nil ?_
    exact f_owes_d (up_cons (up_cons rfl hs94) hs97) rfl (List.Perm.refl _)
  · rintro f M ⟨k0, -⟩ -
    have hs98 : f 98 = .bool true := k0
    refine ob_start (L' := M) (by rfl) (up_cons rfl hs98) ?_
    refine l_val (v := .bool true) rfl rfl rfl (e_move) ?_
    refine l_nil ?_
    exact f_owes_d (up_cons rfl hs98) rfl (List.Perm.refl _)
  · rintro f M ⟨k0, -⟩ ⟨i0, -⟩
    have hs20 : f 20 = .int .i64 (6) := i0
    have hs99 : f 99 = .bool true := k0
    refine ob_start (L' := M) (by rfl) (up_cons (up_cons rfl hs20) hs99) ?_
    refine g_val (v := .int .i64 (6)) rfl rfl rfl rfl rfl (e_move) ?_
    refine l_nil ?_
    exact f_owes_d (up_cons (up_cons rfl hs20) hs99) rfl (List.Perm.refl _)
  · rintro f M ⟨k0, k1, -⟩ -
    have hs100 : f 100 = .int .i64 (6) := k0
    have hs99 : f 99 = .bool true := k1
    refine ob_start (L' := M) (by rfl) (up_cons (up_cons rfl hs100) hs99) ?_
    refine g_val (v := .bool true) rfl rfl rfl rfl rfl (e_eql (a := (6 : Int)) (b := (6 : Int)) rfl rfl) ?_
    refine l_nil ?_
    exact f_owes_d (up_cons (up_cons rfl hs100) hs99) rfl (List.Perm.refl _)
  · rintro f M ⟨k0, k1, -⟩ -
    have hs99 : f 99 = .bool true := k0
    have hs101 : f 101 = .bool true := k1
    refine ob_start (L' := M) (by rfl) (up_cons (up_cons rfl hs99) hs101) ?_
    refine l_val (v := .bool true) rfl rfl rfl (e_pick_t rfl) ?_
    refine l_nil ?_
    exact f_owes_d (up_cons (up_cons rfl hs99) hs101) rfl (List.Perm.refl _)
  · rintro f M ⟨k0, -⟩ -
    have hs102 : f 102 = .bool true := k0
    refine ob_start (L' := M) (by rfl) (up_cons rfl hs102) ?_
    refine l_val (v := .bool true) rfl rfl rfl (e_move) ?_
    refine l_nil ?_
    exact f_owes_d (up_cons rfl hs102) rfl (List.Perm.refl _)
  · rintro f M ⟨k0, -⟩ ⟨i0, -⟩
    have hs9 : f 9 = .slice p87 (0) c88 := i0
    have hs103 : f 103 = .bool true := k0
    refine ob_start (L' := M) (by rfl) (up_cons (up_cons rfl hs9) hs103) ?_
    refine g_val (v := .slice p87 (0) c88) rfl rfl rfl rfl rfl (e_move) ?_
    refine l_nil ?_
    exact f_owes_d (up_cons (up_cons rfl hs9) hs103) rfl (List.Perm.refl _)
  · rintro f M ⟨k0, k1, -⟩ -
    have hs104 : f 104 = .slice p87 (0) c88 := k0
    have hs103 : f 103 = .bool true := k1
    refine ob_start (L' := M) (by rfl) (up_cons (up_cons rfl hs104) hs103) ?_
    refine g_val (v := Nx (0)) rfl rfl rfl rfl rfl (e_len (a := p87) (n := 0) (c := c88) rfl tv61) ?_
    refine l_nil ?_
    exact f_owes_d (up_cons (up_cons rfl hs104) hs103) rfl (List.Perm.refl _)
  · rintro f M ⟨k0, -⟩ ⟨i0, -⟩
    have hs11 : f 11 = .slice p89 (0) c90 := i0
    have hs103 : f 103 = .bool true := k0
    refine ob_start (L' := M) (by rfl) (up_cons (up_cons rfl hs11) hs103) ?_
    refine g_val (v := .slice p89 (0) c90) rfl rfl rfl rfl rfl (e_move) ?_
    refine l_nil ?_
    exact f_owes_d (up_cons (up_cons rfl hs11) hs103) rfl (List.Perm.refl _)
  · rintro f M ⟨k0, k1, -⟩ -
    have hs106 : f 106 = .slice p89 (0) c90 := k0
    have hs103 : f 103 = .bool true := k1
    refine ob_start (L' := M) (by rfl) (up_cons (up_cons rfl hs106) hs103) ?_
    refine g_val (v := Nx (0)) rfl rfl rfl rfl rfl (e_len (a := p89) (n := 0) (c := c90) rfl tv43) ?_
    refine l_nil ?_
    exact f_owes_d (up_cons (up_cons rfl hs106) hs103) rfl (List.Perm.refl _)
  · rintro f M ⟨k0, k1, k2, -⟩ -
    have hs105 : f 105 = Nx (0) := k0
    have hs107 : f 107 = Nx (0) := k1
    have hs103 : f 103 = .bool true := k2
    refine ob_start (L' := M) (by rfl) (up_cons (up_cons (up_cons rfl hs105) hs107) hs103) ?_
    refine g_val (v := Nx (0 + 0)) rfl rfl rfl rfl rfl (e_add (a := ((0 : Nat) : Int)) (b := ((0 : Nat) : Int)) rfl rfl (i64n (by omega) (by omega))) ?_
    refine l_nil ?_
    exact f_owes_d (up_cons (up_cons (up_cons rfl hs105) hs107) hs103) rfl (List.Perm.refl _)
  · rintro f M ⟨k0, -⟩ ⟨i0, -⟩
    have hs13 : f 13 = .slice none (0) 0 := i0
    have hs103 : f 103 = .bool true := k0
    refine ob_start (L' := M) (by rfl) (up_cons (up_cons rfl hs13) hs103) ?_
    refine g_val (v := .slice none (0) 0) rfl rfl rfl rfl rfl (e_move) ?_
    refine l_nil ?_
    exact f_owes_d (up_cons (up_cons rfl hs13) hs103) rfl (List.Perm.refl _)
  · rintro f M ⟨k0, k1, -⟩ -
    have hs109 : f 109 = .slice none (0) 0 := k0
    have hs103 : f 103 = .bool true := k1
    refine ob_start (L' := M) (by rfl) (up_cons (up_cons rfl hs109) hs103) ?_
    refine g_val (v := Nx (0)) rfl rfl rfl rfl rfl (e_len (a := none) (n := 0) (c := 0) rfl tv43) ?_
    refine l_nil ?_
    exact f_owes_d (up_cons (up_cons rfl hs109) hs103) rfl (List.Perm.refl _)
  · rintro f M ⟨k0, k1, k2, -⟩ -
    have hs108 : f 108 = Nx (0 + 0) := k0
    have hs110 : f 110 = Nx (0) := k1
    have hs103 : f 103 = .bool true := k2
    refine ob_start (L' := M) (by rfl) (up_cons (up_cons (up_cons rfl hs108) hs110) hs103) ?_
    refine g_val (v := Nx ((0 + 0) + 0)) rfl rfl rfl rfl rfl (e_add (a := ((0 + 0 : Nat) : Int)) (b := ((0 : Nat) : Int)) rfl rfl (i64n (by omega) (by omega))) ?_
    refine l_nil ?_
    exact f_owes_d (up_cons (up_cons (up_cons rfl hs108) hs110) hs103) rfl (List.Perm.refl _)
  · rintro f M ⟨k0, -⟩ ⟨i0, -⟩
    have hs15 : f 15 = .slice p91 (0) c92 := i0
    have hs103 : f 103 = .bool true := k0
    refine ob_start (L' := M) (by rfl) (up_cons (up_cons rfl hs15) hs103) ?_
    refine g_val (v := .slice p91 (0) c92) rfl rfl rfl rfl rfl (e_move) ?_
    refine l_nil ?_
    exact f_owes_d (up_cons (up_cons rfl hs15) hs103) rfl (List.Perm.refl _)
  · rintro f M ⟨k0, k1, -⟩ -
    have hs112 : f 112 = .slice p91 (0) c92 := k0
    have hs103 : f 103 = .bool true := k1
    refine ob_start (L' := M) (by rfl) (up_cons (up_cons rfl hs112) hs103) ?_
    refine g_val (v := Nx (0)) rfl rfl rfl rfl rfl (e_len (a := p91) (n := 0) (c := c92) rfl tv68) ?_
    refine l_nil ?_
    exact f_owes_d (up_cons (up_cons rfl hs112) hs103) rfl (List.Perm.refl _)
  · rintro f M ⟨k0, k1, k2, -⟩ -
    have hs111 : f 111 = Nx ((0 + 0) + 0) := k0
    have hs113 : f 113 = Nx (0) := k1
    have hs103 : f 103 = .bool true := k2
    refine ob_start (L' := M) (by rfl) (up_cons (up_cons (up_cons rfl hs111) hs113) hs103) ?_
    refine g_val (v := Nx (((0 + 0) + 0) + 0)) rfl rfl rfl rfl rfl (e_add (a := (((0 + 0) + 0 : Nat) : Int)) (b := ((0 : Nat) : Int)) rfl rfl (i64n (by omega) (by omega))) ?_
    refine l_nil ?_
    exact f_owes_d (up_cons (up_cons (up_cons rfl hs111) hs113) hs103) rfl (List.Perm.refl _)
  · rintro f M ⟨k0, -⟩ ⟨i0, -⟩
    have hs16 : f 16 = .int .i64 (0) := i0
    have hs103 : f 103 = .bool true := k0
    refine ob_start (L' := M) (by rfl) (up_cons (up_cons rfl hs16) hs103) ?_
    refine g_val (v := .int .i64 (0)) rfl rfl rfl rfl rfl (e_move) ?_
    refine l_nil ?_
    exact f_owes_d (up_cons (up_cons rfl hs16) hs103) rfl (List.Perm.refl _)
  · rintro f M ⟨k0, k1, k2, -⟩ -
    have hs114 : f 114 = Nx (((0 + 0) + 0) + 0) := k0
    have hs115 : f 115 = .int .i64 (0) := k1
    have hs103 : f 103 = .bool true := k2
    refine ob_start (L' := M) (by rfl) (up_cons (up_cons (up_cons rfl hs114) hs115) hs103) ?_
    refine g_val (v := Nx ((((0 + 0) + 0) + 0) + 0)) rfl rfl rfl rfl rfl (e_add (a := ((((0 + 0) + 0) + 0 : Nat) : Int)) (b := (0 : Int)) rfl rfl (i64n (by omega) (by omega))) ?_
    refine l_nil ?_
    exact f_owes_d (up_cons (up_cons (up_cons rfl hs114) hs115) hs103) rfl (List.Perm.refl _)
  · rintro f M ⟨k0, -⟩ ⟨i0, -⟩
    have hs19 : f 19 = .int .i64 (0) := i0
    have hs103 : f 103 = .bool true := k0
    refine ob_start (L' := M) (by rfl) (up_cons (up_cons rfl hs19) hs103) ?_
    refine g_val (v := .int .i64 (0)) rfl rfl rfl rfl rfl (e_move) ?_
    refine l_nil ?_
    exact f_owes_d (up_cons (up_cons rfl hs19) hs103) rfl (List.Perm.refl _)
  · rintro f M ⟨k0, k1, k2, -⟩ -
    have hs116 : f 116 = Nx ((((0 + 0) + 0) + 0) + 0) := k0
    have hs117 : f 117 = .int .i64 (0) := k1
    have hs103 : f 103 = .bool true := k2
    refine ob_start (L' := M) (by rfl) (up_cons (up_cons (up_cons rfl hs116) hs117) hs103) ?_
    refine g_val (v := Nx (((((0 + 0) + 0) + 0) + 0) + 0)) rfl rfl rfl rfl rfl (e_add (a := (((((0 + 0) + 0) + 0) + 0 : Nat) : Int)) (b := (0 : Int)) rfl rfl (i64n (by omega) (by omega))) ?_
    refine l_nil ?_
    exact f_owes_d (up_cons (up_cons (up_cons rfl hs116) hs117) hs103) rfl (List.Perm.refl _)
  · rintro f M ⟨k0, k1, -⟩ -
    have hs118 : f 118 = Nx (((((0 + 0) + 0) + 0) + 0) + 0) := k0
    have hs103 : f 103 = .bool true := k1
    refine ob_start (L' := M) (by rfl) (up_cons (up_cons rfl hs118) hs103) ?_
    refine g_val (v := .bool true) rfl rfl rfl rfl rfl ((ev_t (by decide) (e_eql (a := ((((((0 + 0) + 0) + 0) + 0) + 0 : Nat) : Int)) (b := (0 : Int)) rfl rfl))) ?_
    refine l_nil ?_
    exact f_owes_d (up_cons (up_cons rfl hs118) hs103) rfl (List.Perm.refl _)
  · rintro f M ⟨k0, k1, -⟩ -
    have hs103 : f 103 = .bool true := k0
    have hs119 : f 119 = .bool true := k1
    refine ob_start (L' := M) (by rfl) (up_cons (up_cons rfl hs103) hs119) ?_
    refine l_val (v := .bool true) rfl rfl rfl (e_pick_t rfl) ?_
    refine l_nil ?_
    exact f_owes_d (up_cons (up_cons rfl hs103) hs119) rfl (List.Perm.refl _)
  · rintro f M ⟨k0, -⟩ -
    have hs120 : f 120 = .bool true := k0
    refine ob_start (L' := M) (by rfl) (up_cons rfl hs120) ?_
    refine l_val (v := .bool true) rfl rfl rfl (e_move) ?_
    refine l_nil ?_
    exact f_owes_d (up_cons rfl hs120) rfl (List.Perm.refl _)
  · rintro f M ⟨k0, -⟩ ⟨i0, -⟩
    have hs8 : f 8 = .slice rp85 ((l ++ bad).length) rc86 := i0
    have hs121 : f 121 = .bool true := k0
    refine ob_start (L' := M) (by rfl) (up_cons (up_cons rfl hs8) hs121) ?_
    refine g_val (v := .slice rp85 ((l ++ bad).length) rc86) rfl rfl rfl rfl rfl (e_move) ?_
    refine l_nil ?_
    exact f_owes_d (up_cons (up_cons rfl hs8) hs121) rfl (List.Perm.refl _)
  · rintro f M ⟨k0, k1, -⟩ -
    have hs122 : f 122 = .slice rp85 ((l ++ bad).length) rc86 := k0
    have hs121 : f 121 = .bool true := k1
    refine ob_start (L' := rowF AreaF 29 rp85 rc86 (l ++ bad) :: M) (by rfl) (up_cons (up_cons rfl hs122) hs121) ?_
    refine g_call rfl rfl rfl rfl rfl (cl_value (fst := []) (cap := []) (vs := [.slice rp85 ((l ++ bad).length) rc86]) (all := [.slice rp85 ((l ++ bad).length) rc86]) tu27 rfl rfl rfl) ?_
    intro w hw
    obtain ⟨β1, sb, kn, hw1, back⟩ := St.frame_all hw
    refine (valid_ok β1 w hw1 _ (l ++ bad) (kn _ (k_flN 0 (F := AreaF) (m := (l ++ bad).length) rfl rfl))).mono ?_
    rintro e w' ⟨rfl, hw'⟩
    refine ⟨_, rfl, _, back _ _ hw', ?_⟩
    clear hw hw1 hw' back kn sb
    refine l_nil ?_
    exact f_owes_d (up_cons (up_cons rfl hs122) hs121) (congrArg Value.bool (decide_eq_false hbad)) (perm_front 0 rfl)
  · rintro f M ⟨k0, k1, -⟩ -
    have hs123 : f 123 = .bool false := k0
    have hs121 : f 121 = .bool true := k1
    refine ob_start (L' := M) (by rfl) (up_cons (up_cons rfl hs123) hs121) ?_
    refine g_val (v := .bool true) rfl rfl rfl rfl rfl (e_not (a := false) rfl) ?_
    refine l_nil ?_
    exact f_owes_d (up_cons (up_cons rfl hs123) hs121) rfl (List.Perm.refl _)
  · rintro f M ⟨k0, k1, -⟩ -
    have hs121 : f 121 = .bool true := k0
    have hs124 : f 124 = .bool true := k1
    refine ob_start (L' := M) (by rfl) (up_cons (up_cons rfl hs121) hs124) ?_
    refine l_val (v := .bool true) rfl rfl rfl (e_pick_t rfl) ?_
    refine l_nil ?_
    exact f_owes_d (up_cons (up_cons rfl hs121) hs124) rfl (List.Perm.refl _)
  · rintro f M ⟨k0, -⟩ -
    have hs125 : f 125 = .bool true := k0
    refine ob_start (L' := M) (by rfl) (up_cons rfl hs125) ?_
    refine l_val (v := .bool true) rfl rfl rfl (e_move) ?_
    refine l_nil ?_
    exact f_owes_d (up_cons rfl hs125) rfl (List.Perm.refl _)
  · rintro f M ⟨k0, -⟩ -
    have hs126 : f 126 = .bool true := k0
    refine ob_start (L' := M) (by rfl) (up_cons rfl hs126) ?_
    refine g_mv rfl rfl rfl rfl rfl (m_slice0 tp14) ?_
    rintro _ _ ⟨b98, rfl, rfl⟩
    refine l_nil ?_
    exact f_owes_d (up_cons rfl hs126) rfl (perm_front 0 rfl)
  · rintro f M ⟨k0, -⟩ ⟨i0, -⟩
    have hs5 : f 5 = .slice p1 (l.length) c2 := i0
    have hs126 : f 126 = .bool true := k0
    refine ob_start (L' := M) (by rfl) (up_cons (up_cons rfl hs5) hs126) ?_
    refine g_val (v := .slice p1 (l.length) c2) rfl rfl rfl rfl rfl (e_move) ?_
    refine l_nil ?_
    exact f_owes_d (up_cons (up_cons rfl hs5) hs126) rfl (List.Perm.refl _)
  · rintro f M ⟨k0, k1, k2, -⟩ -
    have hs127 : f 127 = .slice (some ⟨(blk (f 127)), 0, none⟩) 0 0 := k0
    have hs128 : f 128 = .slice p1 (l.length) c2 := k1
    have hs126 : f 126 = .bool true := k2
    refine ob_start (L' := rowF AreaF 29 p1 c2 l :: pt (blk (f 127)) (.cells #[] 29) :: M) (by rfl) (up_cons (up_cons (up_cons rfl hs127) hs128) hs126) ?_
    refine l_conseq 1 (r' := rowF AreaF 29 (some ⟨(blk (f 127)), 0, none⟩) 0 []) rfl (fun a h => pt_row (m := 0) (by decide) rfl a h) ?_
    refine g_mv rfl rfl rfl rfl rfl (m_appendFlN (F := AreaF) 1 tp14 sa119 (p := (some ⟨(blk (f 127)), 0, none⟩)) (m := 0) (xs := []) (ys := l) (ao := p1) (k := l.length) (c := c2) rfl rfl rfl rfl rfl (Knows.imp (k_flN 0 (F := AreaF) (m := l.length) rfl rfl) fun _ h => (Sl.parts h).2.2.2) (by first | omega | simp only [List.length_nil, List.length_cons, List.length_append, List.length_set]; omega) (by first | omega | simp only [List.length_nil, List.length_cons, List.length_append, List.length_set]; omega)) ?_
    rintro _ _ ⟨rp101, rc102, rfl, rfl⟩
    refine l_nil ?_
    exact f_owes_d (up_cons (up_cons (up_cons rfl hs127) hs128) hs126) rfl ((perm_front 1 rfl).trans (perm_front 1 rfl))
  · rintro f M ⟨k0, -⟩ ⟨i0, -⟩
    have hs6 : f 6 = .pointer (some ⟨b3, 0, none⟩) := i0
    have hs126 : f 126 = .bool true := k0
    refine ob_start (L' := pt b3 (.cells #[.int .i64 (200), .int .i64 (200), .int .i64 (204), .int .i64 (204)] 29) :: M) (by rfl) (up_cons (up_cons rfl hs6) hs126) ?_
    refine g_val (v := .agg #[.int .i64 (200), .int .i64 (200), .int .i64 (204), .int .i64 (204)]) rfl rfl rfl rfl rfl (e_load tp10 (cs := [.int .i64 (200), .int .i64 (200), .int .i64 (204), .int .i64 (204)]) rfl (k_pt 0 (cs := #[.int .i64 (200), .int .i64 (200), .int .i64 (204), .int .i64 (204)]) (vs := [.int .i64 (200), .int .i64 (200), .int .i64 (204), .int .i64 (204)]) rfl rfl) rfl) ?_
    refine l_nil ?_
    exact f_owes_d (up_cons (up_cons rfl hs6) hs126) rfl (perm_front 0 rfl)
  · rintro f M ⟨k0, k1, -⟩ -
    have hs130 : f 130 = .agg #[.int .i64 (200), .int .i64 (200), .int .i64 (204), .int .i64 (204)] := k0
    have hs126 : f 126 = .bool true := k1
    refine ob_start (L' := M) (by rfl) (up_cons (up_cons rfl hs130) hs126) ?_
    refine g_mv rfl rfl rfl rfl rfl (m_slices tp14 tp8 (vs := [(0, .agg #[.int .i64 (200), .int .i64 (200), .int .i64 (204), .int .i64 (204)])]) (cells := #[.int .i64 (200), .int .i64 (200), .int .i64 (204), .int .i64 (204)]) rfl rfl rfl rfl) ?_
    rintro _ _ ⟨b104, rfl, rfl⟩
    refine l_nil ?_
    exact f_owes_d (up_cons (up_cons rfl hs130) hs126) rfl (perm_front 0 rfl)
  · rintro f M ⟨k0, k1, k2, -⟩ -
    have hs129 : f 129 = .slice (sla (f 129)) (l.length) (slc (f 129)) := k0
    have hs131 : f 131 = .slice (some ⟨(blk (f 131)), 0, none⟩) 1 1 := k1
    have hs126 : f 126 = .bool true := k2
    refine ob_start (L' := rowF AreaF 29 (sla (f 129)) (slc (f 129)) l :: pt (blk (f 131)) (.cells #[.int .i64 (200), .int .i64 (200), .int .i64 (204), .int .i64 (204)] 29) :: M) (by rfl) (up_cons (up_cons (up_cons rfl hs129) hs131) hs126) ?_
    refine g_mv rfl rfl rfl rfl rfl (m_appendFlN (F := AreaF) 0 tp14 sa119 (p := (sla (f 129))) (m := l.length) (xs := l) (ys := [(⟨200, 200, 204, 204⟩ : KA)]) (ao := (some ⟨(blk (f 131)), 0, none⟩)) (k := 1) (c := 1) rfl rfl rfl rfl rfl (k_ptFl (z := (⟨200, 200, 204, 204⟩ : KA)) 1 rfl rfl) (by first | omega | simp only [List.length_nil, List.length_cons, List.length_append, List.length_set]; omega) (by first | omega | simp only [List.length_nil, List.length_cons, List.length_append, List.length_set]; omega)) ?_
    rintro _ _ ⟨rp107, rc108, rfl, rfl⟩
    refine l_nil ?_
    exact f_owes_d (up_cons (up_cons (up_cons rfl hs129) hs131) hs126) rfl ((perm_front 0 rfl).trans (perm_front 1 rfl))
  · rintro f M ⟨k0, k1, -⟩ -
    have hs132 : f 132 = .slice (sla (f 132)) ((l ++ [(⟨200, 200, 204, 204⟩ : KA)]).length) (slc (f 132)) := k0
    have hs126 : f 126 = .bool true := k1
    refine ob_start (L' := rowF AreaF 29 (sla (f 132)) (slc (f 132)) (l ++ [(⟨200, 200, 204, 204⟩ : KA)]) :: M) (by rfl) (up_cons (up_cons rfl hs132) hs126) ?_
    refine g_call rfl rfl rfl rfl rfl (cl_value (fst := []) (cap := []) (vs := [.slice (sla (f 132)) ((l ++ [(⟨200, 200, 204, 204⟩ : KA)]).length) (slc (f 132))]) (all := [.slice (sla (f 132)) ((l ++ [(⟨200, 200, 204, 204⟩ : KA)]).length) (slc (f 132))]) tu27 rfl rfl rfl) ?_
    intro w hw
    obtain ⟨β1, sb, kn, hw1, back⟩ := St.frame_all hw
    refine (valid_ok β1 w hw1 _ (l ++ [(⟨200, 200, 204, 204⟩ : KA)]) (kn _ (k_flN 0 (F := AreaF) (m := (l ++ [(⟨200, 200, 204, 204⟩ : KA)]).length) rfl rfl))).mono ?_
    rintro e w' ⟨rfl, hw'⟩
    refine ⟨_, rfl, _, back _ _ hw', ?_⟩
    clear hw hw1 hw' back kn sb
    refine l_nil ?_
    exact f_owes_d (up_cons (up_cons rfl hs132) hs126) (congrArg Value.bool (decide_eq_true (okM_add hB))) (perm_front 0 rfl)
  · rintro f M ⟨k0, k1, -⟩ -
    have hs126 : f 126 = .bool true := k0
    have hs133 : f 133 = .bool true := k1
    refine ob_start (L' := M) (by rfl) (up_cons (up_cons rfl hs126) hs133) ?_
    refine l_val (v := .bool true) rfl rfl rfl (e_pick_t rfl) ?_
    refine l_nil ?_
    exact f_owes_d (up_cons (up_cons rfl hs126) hs133) rfl (List.Perm.refl _)
  · rintro f M ⟨k0, -⟩ -
    have hs134 : f 134 = .bool true := k0
    refine ob_start (L' := M) (by rfl) (up_cons rfl hs134) ?_
    refine l_val (v := .bool true) rfl rfl rfl (e_assign) ?_
    refine l_nil ?_
    exact f_owes_d (up_cons rfl hs134) rfl (List.Perm.refl _)
  rintro fa109 ⟨-, -, -, -, -, -, -, -, -, -, -, -, -, -, -, -, -, -, -, -, -, -, -, -, -, -, -, -, -, -, -, -, -, -, -, -, -, -, -, -, -, -, -, -, -, -, -, -, -, -, -, -, -, k53, -⟩ -
  refine f_re (L' := [rowF VecF 27 p94 c95 way96, rowF VecF 27 p91 c92 [], rowF NatF 3 p89 c90 [], rowF PoF 50 p87 c88 [], rowF AreaF 29 rp85 rc86 (l ++ bad), rowF AreaF 29 p1 c2 l, pt b3 (.cells #[.int .i64 (200), .int .i64 (200), .int .i64 (204), .int .i64 (204)] 29), rowF AreaF 29 bp bc bad, pt (blk (fa109 131)) (.cells #[.int .i64 (200), .int .i64 (200), .int .i64 (204), .int .i64 (204)] 29), rowF AreaF 29 (sla (fa109 132)) (slc (fa109 132)) (l ++ [(⟨200, 200, 204, 204⟩ : KA)])]) (by rfl) ?_
  refine f_rebase (d := 4) (v := .bool true) k53 ?_
  refine f_then ?_
  refine c_ret ?_
  refine ret1 Tryz.results3 (v := .bool true) rfl ?_
  intro w hw
  exact ⟨congrArg (fun b : Bool => Ending.returned (.bool b)) (rfl), st_mask [false, false, false, false, false, false, false, false, false, false] rfl hw⟩
end Go.Proofs
