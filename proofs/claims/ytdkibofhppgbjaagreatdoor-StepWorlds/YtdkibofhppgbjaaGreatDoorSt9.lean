/-
 The examples of the chapter stand. Printed by a program of my own.
-/
import Derived.Test.YtdkibofhppgbjaaGreatDoorSt8
import Derived.Test.YtdkibofhppgbjaaGreatDoorStAwk
namespace Go.Proofs
open Go Go.Sl Go.Stp
theorem tf107 : cfB Tryz.prog 33 = true := by kernel_rfl
theorem tf108 : cfB Tryz.prog 32 = true := by kernel_rfl
theorem tf109 : cfB Tryz.prog 34 = true := by kernel_rfl
theorem tf110 : stB Tryz.prog 78 [(0, 1), (1, 1), (2, 1)] = true := by kernel_rfl
theorem tf111 : lay Tryz.prog 10000 55 = some [.int .i64, .int .u8, .int .i64] := by kernel_rfl
theorem tf112 : isAggT Tryz.prog 55 = true := by kernel_rfl
theorem tf113 : Tryz.prog.eqGuardType Tryz.prog.depth 55 = false := by kernel_rfl
set_option maxHeartbeats 4000000 in
theorem awake_ok (β : Base) (w : World) (hw : St β [] w) (hG : GR β) : Calls Tryz.prog 7 #[] w fun r w' => r = .returned (.bool true) ∧ St β [] w' := by
 refine enter (n := 120) Tryz.func7 rfl Tryz.ntmps7 rfl ?_ hw
 refine c_seq ?_
 refine c_region ?_
 refine l_val (v := .bool false) rfl rfl rfl (e_assign) ?_
 refine l_nil ?_
 refine f_then ?_
 refine c_seq ?_
 refine c_region ?_
 refine l_call rfl rfl rfl (cl_value (fst := []) (cap := []) (vs := [.int .i64 (1), .int .i64 (0), .int .i64 (0), .int .i64 (10), .int .i64 (10), .int .i64 (50), .int .i64 (0)]) (all := [.int .i64 (1), .int .i64 (0), .int .i64 (0), .int .i64 (10), .int .i64 (10), .int .i64 (50), .int .i64 (0)]) tf103 rfl rfl rfl) ?_
 intro w hw
 obtain ⟨β1, sb, kn, hw1, back⟩ := St.frame_all hw
 refine (box_ok β1 w hw1 (1 : Int) (0 : Int) (0 : Int) (10 : Int) (10 : Int) (50 : Int) (0 : Int)).mono ?_
 rintro e w' ⟨rfl, hw'⟩
 refine ⟨_, rfl, _, back _ _ hw', ?_⟩
 clear hw hw1 hw' back kn sb
 refine l_mv rfl rfl rfl (m_alloc tf58) ?_
 rintro _ _ ⟨b1, rfl, rfl⟩
 refine l_mu rfl rfl (m_store 0 tf22 (b := b1) (o := 0) (T := 52) (cs := #[.int .i64 (0), .int .i64 (0), .int .i64 (0), .int .i64 (0), .int .i64 (0), .int .i64 (0), .int .i64 (0), .bool false, .bool false]) (cs' := #[.int .i64 (1), .int .i64 (0), .int .i64 (0), .int .i64 (50), .int .i64 (0), .int .i64 (10), .int .i64 (10), .bool false, .bool false]) (v := .agg #[.int .i64 (1), .int .i64 (0), .int .i64 (0), .int .i64 (50), .int .i64 (0), .int .i64 (10), .int .i64 (10), .bool false, .bool false]) rfl rfl rfl rfl rfl rfl rfl) ?_
 refine l_nil ?_
 refine f_then ?_
 refine c_seq ?_
 refine c_any [⟨[], [], [0], [19], fun f => f 19 = .agg #[.int .i64 (1), .int .i64 (0), .int .i64 (0), .int .i64 (50), .int .i64 (0), .int .i64 (10), .int .i64 (10), .bool false, .bool false]⟩, ⟨[], [], [], [20], fun f => f 20 = .agg #[.int .i64 (2), .int .i64 (60), .int .i64 (0), .int .i64 (0), .int .i64 (0), .int .i64 (10), .int .i64 (10), .bool false, .bool false]⟩, ⟨[1], [1], [], [21], fun f => f 21 = .agg #[.int .i64 (2), .int .i64 (60), .int .i64 (0), .int .i64 (0), .int .i64 (0), .int .i64 (10), .int .i64 (10), .bool false, .bool true]⟩, ⟨[0, 1, 2], [0, 2], [], [22], fun f => f 22 = .slice (some ⟨(blk (f 22)), 0, none⟩) 2 2⟩, ⟨[0, 1, 2, 3], [3], [], [22, 23], fun f => f 23 = .agg #[.slice (some ⟨(blk (f 22)), 0, none⟩) 2 2, .slice none 0 0, .int .i64 (0), .int .i64 (0)]⟩, ⟨[0, 1, 2, 3, 4], [4], [], [24], fun f => f 24 = .tuple #[.agg #[.int .i64 (40), .int .i64 (0)], .agg #[.int .i64 (0), .int .i64 (0)], .agg #[.int .i64 (1), .int .u8 (1), .int .i64 (2)]]⟩, ⟨[0, 1, 2, 3, 4, 5], [5], [], [18], fun f => f 18 = .tuple #[.agg #[.int .i64 (40), .int .i64 (0)], .agg #[.int .i64 (0), .int .i64 (0)], .agg #[.int .i64 (1), .int .u8 (1), .int .i64 (2)]]⟩, ⟨[0, 1, 2, 3, 4, 5, 6], [6], [], [25], fun f => f 25 = .agg #[.int .i64 (40), .int .i64 (0)]⟩, ⟨[0, 1, 2, 3, 4, 5, 6], [6], [], [26], fun f => f 26 = .agg #[.int .i64 (0), .int .i64 (0)]⟩, ⟨[0, 1, 2, 3, 4, 5, 6], [6], [], [27], fun f => f 27 = .agg #[.int .i64 (1), .int .u8 (1), .int .i64 (2)]⟩, ⟨[], [], [], [2], fun f => f 2 = .pointer (some ⟨(blk (f 2)), 0, none⟩)⟩, ⟨[], [], [], [3], fun f => f 3 = .pointer (some ⟨(blk (f 3)), 0, none⟩)⟩, ⟨[], [], [], [4], fun f => f 4 = .pointer (some ⟨(blk (f 4)), 0, none⟩)⟩, ⟨[0, 1, 2, 3, 4, 5, 6, 7, 10, 11, 12], [10, 7], [], [], fun _ => True⟩, ⟨[0, 1, 2, 3, 4, 5, 6, 7, 8, 10, 11, 12, 13], [11, 8], [], [], fun _ => True⟩, ⟨[0, 1, 2, 3, 4, 5, 6, 7, 8, 9, 10, 11, 12, 13, 14], [12, 9], [], [], fun _ => True⟩] [⟨none, none, [0], [], fun _ => pt b1 (.cells #[.int .i64 (1), .int .i64 (0), .int .i64 (0), .int .i64 (50), .int .i64 (0), .int .i64 (10), .int .i64 (10), .bool false, .bool false] 52)⟩, ⟨(some 3), none, [5], [22], fun f => pt (blk (f 22)) (.cells #[.int .i64 (1), .int .i64 (0), .int .i64 (0), .int .i64 (50), .int .i64 (0), .int .i64 (10), .int .i64 (10), .bool false, .bool false, .int .i64 (2), .int .i64 (60), .int .i64 (0), .int .i64 (0), .int .i64 (0), .int .i64 (10), .int .i64 (10), .bool false, .bool true] 52)⟩, ⟨(some 10), (some 13), [13], [2], fun f => pt (blk (f 2)) (.cells #[.int .i64 (0), .int .i64 (0)] 28)⟩, ⟨(some 11), (some 14), [14], [3], fun f => pt (blk (f 3)) (.cells #[.int .i64 (0), .int .i64 (0)] 28)⟩, ⟨(some 12), (some 15), [15], [4], fun f => pt (blk (f 4)) (.cells #[.int .i64 (0), .int .u8 (0), .int .i64 (0)] 55)⟩, ⟨(some 13), none, [], [2], fun f => pt (blk (f 2)) (.cells #[.int .i64 (40), .int .i64 (0)] 28)⟩, ⟨(some 14), none, [], [3], fun f => pt (blk (f 3)) (.cells #[.int .i64 (0), .int .i64 (0)] 28)⟩, ⟨(some 15), none, [], [4], fun f => pt (blk (f 4)) (.cells #[.int .i64 (1), .int .u8 (1), .int .i64 (2)] 55)⟩] [(1, .pointer (some ⟨b1, 0, none⟩))] [0] [] (by kernel_rfl) (by kernel_rfl) (by kernel_rfl) (by kernel_rfl) rfl ⟨rfl, trivial⟩ ⟨?_, ?_, ?_, ?_, ?_, ?_, ?_, ?_, ?_, ?_, ?_, ?_, ?_, ?_, ?_, ?_, trivial⟩ ?_
 ·rintro f M - ⟨i0, -⟩
  have hs1 : f 1 = .pointer (some ⟨b1, 0, none⟩) := i0
  refine ob_start (L' := pt b1 (.cells #[.int .i64 (1), .int .i64 (0), .int .i64 (0), .int .i64 (50), .int .i64 (0), .int .i64 (10), .int .i64 (10), .bool false, .bool false] 52) :: M) (by rfl) (up_cons rfl hs1) ?_
  refine l_val (v := .agg #[.int .i64 (1), .int .i64 (0), .int .i64 (0), .int .i64 (50), .int .i64 (0), .int .i64 (10), .int .i64 (10), .bool false, .bool false]) rfl rfl rfl (e_load tf22 (cs := [.int .i64 (1), .int .i64 (0), .int .i64 (0), .int .i64 (50), .int .i64 (0), .int .i64 (10), .int .i64 (10), .bool false, .bool false]) rfl (k_pt 0 (cs := #[.int .i64 (1), .int .i64 (0), .int .i64 (0), .int .i64 (50), .int .i64 (0), .int .i64 (10), .int .i64 (10), .bool false, .bool false]) (vs := [.int .i64 (1), .int .i64 (0), .int .i64 (0), .int .i64 (50), .int .i64 (0), .int .i64 (10), .int .i64 (10), .bool false, .bool false]) rfl rfl) rfl) ?_
  refine l_nil ?_
  exact f_owes_d (up_cons rfl hs1) rfl (perm_front 0 rfl)
 ·rintro f M - -
  refine ob_start (L' := M) (by rfl) rfl ?_
  refine l_call rfl rfl rfl (cl_value (fst := []) (cap := []) (vs := [.int .i64 (2), .int .i64 (60), .int .i64 (0), .int .i64 (10), .int .i64 (10), .int .i64 (0), .int .i64 (0)]) (all := [.int .i64 (2), .int .i64 (60), .int .i64 (0), .int .i64 (10), .int .i64 (10), .int .i64 (0), .int .i64 (0)]) tf103 rfl rfl rfl) ?_
  intro w hw
  obtain ⟨β1, sb, kn, hw1, back⟩ := St.frame_all hw
  refine (box_ok β1 w hw1 (2 : Int) (60 : Int) (0 : Int) (10 : Int) (10 : Int) (0 : Int) (0 : Int)).mono ?_
  rintro e w' ⟨rfl, hw'⟩
  refine ⟨_, rfl, _, back _ _ hw', ?_⟩
  clear hw hw1 hw' back kn sb
  refine l_nil ?_
  exact f_owes_d rfl rfl (List.Perm.refl _)
 ·rintro f M ⟨k0, -⟩ -
  have hs20 : f 20 = .agg #[.int .i64 (2), .int .i64 (60), .int .i64 (0), .int .i64 (0), .int .i64 (0), .int .i64 (10), .int .i64 (10), .bool false, .bool false] := k0
  refine ob_start (L' := M) (by rfl) (up_cons rfl hs20) ?_
  refine l_call rfl rfl rfl (cl_value (fst := []) (cap := []) (vs := [.agg #[.int .i64 (2), .int .i64 (60), .int .i64 (0), .int .i64 (0), .int .i64 (0), .int .i64 (10), .int .i64 (10), .bool false, .bool false]]) (all := [.agg #[.int .i64 (2), .int .i64 (60), .int .i64 (0), .int .i64 (0), .int .i64 (0), .int .i64 (10), .int .i64 (10), .bool false, .bool false]]) tf107 rfl rfl rfl) ?_
  intro w hw
  obtain ⟨β1, sb, kn, hw1, back⟩ := St.frame_all hw
  refine (fixed_ok β1 w hw1 (⟨2, 60, 0, 0, 0, 10, 10, false, false⟩ : KB)).mono ?_
  rintro e w' ⟨rfl, hw'⟩
  refine ⟨_, rfl, _, back _ _ hw', ?_⟩
  clear hw hw1 hw' back kn sb
  refine l_nil ?_
  exact f_owes_d (up_cons rfl hs20) rfl (List.Perm.refl _)
 ·rintro f M ⟨k0, k1, -⟩ -
  have hs19 : f 19 = .agg #[.int .i64 (1), .int .i64 (0), .int .i64 (0), .int .i64 (50), .int .i64 (0), .int .i64 (10), .int .i64 (10), .bool false, .bool false] := k0
  have hs21 : f 21 = .agg #[.int .i64 (2), .int .i64 (60), .int .i64 (0), .int .i64 (0), .int .i64 (0), .int .i64 (10), .int .i64 (10), .bool false, .bool true] := k1
  refine ob_start (L' := M) (by rfl) (up_cons (up_cons rfl hs19) hs21) ?_
  refine l_mv rfl rfl rfl (m_slices tf43 tf58 (vs := [(0, .agg #[.int .i64 (1), .int .i64 (0), .int .i64 (0), .int .i64 (50), .int .i64 (0), .int .i64 (10), .int .i64 (10), .bool false, .bool false]), (1, .agg #[.int .i64 (2), .int .i64 (60), .int .i64 (0), .int .i64 (0), .int .i64 (0), .int .i64 (10), .int .i64 (10), .bool false, .bool true])]) (cells := #[.int .i64 (1), .int .i64 (0), .int .i64 (0), .int .i64 (50), .int .i64 (0), .int .i64 (10), .int .i64 (10), .bool false, .bool false, .int .i64 (2), .int .i64 (60), .int .i64 (0), .int .i64 (0), .int .i64 (0), .int .i64 (10), .int .i64 (10), .bool false, .bool true]) rfl rfl rfl (by kernel_rfl)) ?_
  rintro _ _ ⟨b3, rfl, rfl⟩
  refine l_nil ?_
  exact f_owes_d (up_cons (up_cons rfl hs19) hs21) rfl (perm_front 0 rfl)
 ·rintro f M ⟨k0, -⟩ -
  have hs22 : f 22 = .slice (some ⟨(blk (f 22)), 0, none⟩) 2 2 := k0
  refine ob_start (L' := M) (by rfl) (up_cons rfl hs22) ?_
  refine l_val (v := .agg #[.slice (some ⟨(blk (f 22)), 0, none⟩) 2 2, .slice none 0 0, .int .i64 (0), .int .i64 (0)]) rfl rfl rfl (e_build tf85 tf88 (vs := [(0, .slice (some ⟨(blk (f 22)), 0, none⟩) 2 2)]) (cells := #[.slice (some ⟨(blk (f 22)), 0, none⟩) 2 2, .slice none 0 0, .int .i64 (0), .int .i64 (0)]) rfl rfl) ?_
  refine l_nil ?_
  exact f_owes_d (up_cons rfl hs22) rfl (List.Perm.refl _)
 ·rintro f M ⟨k0, -⟩ -
  have hs23 : f 23 = .agg #[.slice (some ⟨(blk (f 22)), 0, none⟩) 2 2, .slice none 0 0, .int .i64 (0), .int .i64 (0)] := k0
  refine ob_start (L' := pt (blk (f 22)) (.cells #[.int .i64 (1), .int .i64 (0), .int .i64 (0), .int .i64 (50), .int .i64 (0), .int .i64 (10), .int .i64 (10), .bool false, .bool false, .int .i64 (2), .int .i64 (60), .int .i64 (0), .int .i64 (0), .int .i64 (0), .int .i64 (10), .int .i64 (10), .bool false, .bool true] 52) :: M) (by rfl) (up_cons rfl hs23) ?_
  refine l_call rfl rfl rfl (cl_value (fst := []) (cap := []) (vs := [.agg #[.slice (some ⟨(blk (f 22)), 0, none⟩) 2 2, .slice none 0 0, .int .i64 (0), .int .i64 (0)]]) (all := [.agg #[.slice (some ⟨(blk (f 22)), 0, none⟩) 2 2, .slice none 0 0, .int .i64 (0), .int .i64 (0)]]) tf108 rfl rfl rfl) ?_
  intro w hw
  obtain ⟨β1, sb, kn, hw1, back⟩ := St.frame_all hw
  have hG1 := GR.mono sb hG
  refine (ends1_ok β1 w hw1 _ _ (0) (0) e0 [] (kn _ (k_ptFls (F := BodyF) 0 (m := 2) (xs := e0) rfl rfl rfl (by decide))) (Sl.nil KRR _) (by decide) (by decide) hG1 e0_ok f0 [(⟨1, 1, 2⟩ : KS)] e0_step rfl _ rfl _ rfl rfl).mono ?_
  rintro e w' ⟨rfl, hw'⟩
  refine ⟨_, rfl, _, back _ _ hw', ?_⟩
  clear hw hw1 hw' back kn sb
  refine l_nil ?_
  exact f_owes_d (up_cons rfl hs23) rfl (perm_front 0 rfl)
 ·rintro f M ⟨k0, -⟩ -
  have hs24 : f 24 = .tuple #[.agg #[.int .i64 (40), .int .i64 (0)], .agg #[.int .i64 (0), .int .i64 (0)], .agg #[.int .i64 (1), .int .u8 (1), .int .i64 (2)]] := k0
  refine ob_start (L' := M) (by rfl) (up_cons rfl hs24) ?_
  refine l_val (v := .tuple #[.agg #[.int .i64 (40), .int .i64 (0)], .agg #[.int .i64 (0), .int .i64 (0)], .agg #[.int .i64 (1), .int .u8 (1), .int .i64 (2)]]) rfl rfl rfl (e_move) ?_
  refine l_nil ?_
  exact f_owes_d (up_cons rfl hs24) rfl (List.Perm.refl _)
 ·rintro f M ⟨k0, -⟩ -
  have hs18 : f 18 = .tuple #[.agg #[.int .i64 (40), .int .i64 (0)], .agg #[.int .i64 (0), .int .i64 (0)], .agg #[.int .i64 (1), .int .u8 (1), .int .i64 (2)]] := k0
  refine ob_start (L' := M) (by rfl) (up_cons rfl hs18) ?_
  refine l_val (v := .agg #[.int .i64 (40), .int .i64 (0)]) rfl rfl rfl (e_extract (vs := #[.agg #[.int .i64 (40), .int .i64 (0)], .agg #[.int .i64 (0), .int .i64 (0)], .agg #[.int .i64 (1), .int .u8 (1), .int .i64 (2)]]) rfl rfl) ?_
  refine l_nil ?_
  exact f_owes_d (up_cons rfl hs18) rfl (List.Perm.refl _)
 ·rintro f M ⟨k0, -⟩ -
  have hs18 : f 18 = .tuple #[.agg #[.int .i64 (40), .int .i64 (0)], .agg #[.int .i64 (0), .int .i64 (0)], .agg #[.int .i64 (1), .int .u8 (1), .int .i64 (2)]] := k0
  refine ob_start (L' := M) (by rfl) (up_cons rfl hs18) ?_
  refine l_val (v := .agg #[.int .i64 (0), .int .i64 (0)]) rfl rfl rfl (e_extract (vs := #[.agg #[.int .i64 (40), .int .i64 (0)], .agg #[.int .i64 (0), .int .i64 (0)], .agg #[.int .i64 (1), .int .u8 (1), .int .i64 (2)]]) rfl rfl) ?_
  refine l_nil ?_
  exact f_owes_d (up_cons rfl hs18) rfl (List.Perm.refl _)
 ·rintro f M ⟨k0, -⟩ -
  have hs18 : f 18 = .tuple #[.agg #[.int .i64 (40), .int .i64 (0)], .agg #[.int .i64 (0), .int .i64 (0)], .agg #[.int .i64 (1), .int .u8 (1), .int .i64 (2)]] := k0
  refine ob_start (L' := M) (by rfl) (up_cons rfl hs18) ?_
  refine l_val (v := .agg #[.int .i64 (1), .int .u8 (1), .int .i64 (2)]) rfl rfl rfl (e_extract (vs := #[.agg #[.int .i64 (40), .int .i64 (0)], .agg #[.int .i64 (0), .int .i64 (0)], .agg #[.int .i64 (1), .int .u8 (1), .int .i64 (2)]]) rfl rfl) ?_
  refine l_nil ?_
  exact f_owes_d (up_cons rfl hs18) rfl (List.Perm.refl _)
 ·rintro f M - -
  refine ob_start (L' := M) (by rfl) rfl ?_
  refine l_mv rfl rfl rfl (m_alloc tf17) ?_
  rintro _ _ ⟨b5, rfl, rfl⟩
  refine l_nil ?_
  exact f_owes_d rfl rfl (perm_front 0 rfl)
 ·rintro f M - -
  refine ob_start (L' := M) (by rfl) rfl ?_
  refine l_mv rfl rfl rfl (m_alloc tf17) ?_
  rintro _ _ ⟨b7, rfl, rfl⟩
  refine l_nil ?_
  exact f_owes_d rfl rfl (perm_front 0 rfl)
 ·rintro f M - -
  refine ob_start (L' := M) (by rfl) rfl ?_
  refine l_mv rfl rfl rfl (m_alloc tf99) ?_
  rintro _ _ ⟨b9, rfl, rfl⟩
  refine l_nil ?_
  exact f_owes_d rfl rfl (perm_front 0 rfl)
 ·rintro f M ⟨k0, k1, -⟩ -
  have hs2 : f 2 = .pointer (some ⟨(blk (f 2)), 0, none⟩) := k0
  have hs25 : f 25 = .agg #[.int .i64 (40), .int .i64 (0)] := k1
  refine ob_start (L' := pt (blk (f 2)) (.cells #[.int .i64 (0), .int .i64 (0)] 28) :: M) (by rfl) (up_cons (up_cons rfl hs2) hs25) ?_
  refine l_mu rfl rfl (m_store 0 tf15 (b := (blk (f 2))) (o := 0) (T := 28) (cs := #[.int .i64 (0), .int .i64 (0)]) (cs' := #[.int .i64 (40), .int .i64 (0)]) (v := .agg #[.int .i64 (40), .int .i64 (0)]) rfl rfl rfl rfl rfl rfl rfl) ?_
  refine l_nil ?_
  exact f_owes_n (up_cons (up_cons rfl hs2) hs25) trivial (perm_front 0 rfl)
 ·rintro f M ⟨k0, k1, -⟩ -
  have hs3 : f 3 = .pointer (some ⟨(blk (f 3)), 0, none⟩) := k0
  have hs26 : f 26 = .agg #[.int .i64 (0), .int .i64 (0)] := k1
  refine ob_start (L' := pt (blk (f 3)) (.cells #[.int .i64 (0), .int .i64 (0)] 28) :: M) (by rfl) (up_cons (up_cons rfl hs3) hs26) ?_
  refine l_mu rfl rfl (m_store 0 tf15 (b := (blk (f 3))) (o := 0) (T := 28) (cs := #[.int .i64 (0), .int .i64 (0)]) (cs' := #[.int .i64 (0), .int .i64 (0)]) (v := .agg #[.int .i64 (0), .int .i64 (0)]) rfl rfl rfl rfl rfl rfl rfl) ?_
  refine l_nil ?_
  exact f_owes_n (up_cons (up_cons rfl hs3) hs26) trivial (perm_front 0 rfl)
 ·rintro f M ⟨k0, k1, -⟩ -
  have hs4 : f 4 = .pointer (some ⟨(blk (f 4)), 0, none⟩) := k0
  have hs27 : f 27 = .agg #[.int .i64 (1), .int .u8 (1), .int .i64 (2)] := k1
  refine ob_start (L' := pt (blk (f 4)) (.cells #[.int .i64 (0), .int .u8 (0), .int .i64 (0)] 55) :: M) (by rfl) (up_cons (up_cons rfl hs4) hs27) ?_
  refine l_mu rfl rfl (m_store 0 tf106 (b := (blk (f 4))) (o := 0) (T := 55) (cs := #[.int .i64 (0), .int .u8 (0), .int .i64 (0)]) (cs' := #[.int .i64 (1), .int .u8 (1), .int .i64 (2)]) (v := .agg #[.int .i64 (1), .int .u8 (1), .int .i64 (2)]) rfl rfl rfl rfl rfl rfl rfl) ?_
  refine l_nil ?_
  exact f_owes_n (up_cons (up_cons rfl hs4) hs27) trivial (perm_front 0 rfl)
 rintro fa10 ⟨-, -, -, -, -, -, -, -, -, -, k10, k11, k12, -, -, -, -⟩ ⟨j0, -⟩
 refine f_re (L' := [pt b1 (.cells #[.int .i64 (1), .int .i64 (0), .int .i64 (0), .int .i64 (50), .int .i64 (0), .int .i64 (10), .int .i64 (10), .bool false, .bool false] 52), pt (blk (fa10 22)) (.cells #[.int .i64 (1), .int .i64 (0), .int .i64 (0), .int .i64 (50), .int .i64 (0), .int .i64 (10), .int .i64 (10), .bool false, .bool false, .int .i64 (2), .int .i64 (60), .int .i64 (0), .int .i64 (0), .int .i64 (0), .int .i64 (10), .int .i64 (10), .bool false, .bool true] 52), pt (blk (fa10 2)) (.cells #[.int .i64 (40), .int .i64 (0)] 28), pt (blk (fa10 3)) (.cells #[.int .i64 (0), .int .i64 (0)] 28), pt (blk (fa10 4)) (.cells #[.int .i64 (1), .int .u8 (1), .int .i64 (2)] 55)]) (by rfl) ?_
 refine f_rebase (d := 1) (v := .pointer (some ⟨b1, 0, none⟩)) j0 ?_
 refine f_rebase (d := 2) (v := .pointer (some ⟨(blk (fa10 2)), 0, none⟩)) k10 ?_
 refine f_rebase (d := 3) (v := .pointer (some ⟨(blk (fa10 3)), 0, none⟩)) k11 ?_
 refine f_rebase (d := 4) (v := .pointer (some ⟨(blk (fa10 4)), 0, none⟩)) k12 ?_
 refine f_then ?_
 refine c_seq ?_
 refine c_region ?_
 refine l_val (v := .agg #[.int .i64 (1), .int .i64 (0), .int .i64 (0), .int .i64 (50), .int .i64 (0), .int .i64 (10), .int .i64 (10), .bool false, .bool false]) rfl rfl rfl (e_load tf22 (cs := [.int .i64 (1), .int .i64 (0), .int .i64 (0), .int .i64 (50), .int .i64 (0), .int .i64 (10), .int .i64 (10), .bool false, .bool false]) rfl (k_pt 0 (cs := #[.int .i64 (1), .int .i64 (0), .int .i64 (0), .int .i64 (50), .int .i64 (0), .int .i64 (10), .int .i64 (10), .bool false, .bool false]) (vs := [.int .i64 (1), .int .i64 (0), .int .i64 (0), .int .i64 (50), .int .i64 (0), .int .i64 (10), .int .i64 (10), .bool false, .bool false]) rfl rfl) rfl) ?_
 refine l_mv rfl rfl rfl (m_slices tf43 tf58 (vs := [(0, .agg #[.int .i64 (1), .int .i64 (0), .int .i64 (0), .int .i64 (50), .int .i64 (0), .int .i64 (10), .int .i64 (10), .bool false, .bool false])]) (cells := #[.int .i64 (1), .int .i64 (0), .int .i64 (0), .int .i64 (50), .int .i64 (0), .int .i64 (10), .int .i64 (10), .bool false, .bool false]) rfl rfl rfl (by kernel_rfl)) ?_
 rintro _ _ ⟨b11, rfl, rfl⟩
 refine l_val (v := .agg #[.slice (some ⟨b11, 0, none⟩) 1 1, .slice none 0 0, .int .i64 (0), .int .i64 (0)]) rfl rfl rfl (e_build tf85 tf88 (vs := [(0, .slice (some ⟨b11, 0, none⟩) 1 1)]) (cells := #[.slice (some ⟨b11, 0, none⟩) 1 1, .slice none 0 0, .int .i64 (0), .int .i64 (0)]) rfl rfl) ?_
 refine l_call rfl rfl rfl (cl_value (fst := []) (cap := []) (vs := [.agg #[.slice (some ⟨b11, 0, none⟩) 1 1, .slice none 0 0, .int .i64 (0), .int .i64 (0)]]) (all := [.agg #[.slice (some ⟨b11, 0, none⟩) 1 1, .slice none 0 0, .int .i64 (0), .int .i64 (0)]]) tf108 rfl rfl rfl) ?_
 intro w hw
 obtain ⟨β1, sb, kn, hw1, back⟩ := St.frame_all hw
 have hG1 := GR.mono sb hG
 refine (ends0_ok β1 w hw1 _ _ (0) (0) e1 [] (kn _ (k_ptFls (F := BodyF) 0 (m := 1) (xs := e1) rfl rfl rfl (by decide))) (Sl.nil KRR _) (by decide) (by decide) hG1 e1_ok f1 [] e1_step rfl _ rfl rfl).mono ?_
 rintro e w' ⟨rfl, hw'⟩
 refine ⟨_, rfl, _, back _ _ hw', ?_⟩
 clear hw hw1 hw' back kn sb
 refine l_val (v := .tuple #[.agg #[.int .i64 (50), .int .i64 (0)], .agg #[.int .i64 (50), .int .i64 (0)], .agg #[.int .i64 (0), .int .u8 (0), .int .i64 (0)]]) rfl rfl rfl (e_move) ?_
 refine l_val (v := .agg #[.int .i64 (50), .int .i64 (0)]) rfl rfl rfl (e_extract (vs := #[.agg #[.int .i64 (50), .int .i64 (0)], .agg #[.int .i64 (50), .int .i64 (0)], .agg #[.int .i64 (0), .int .u8 (0), .int .i64 (0)]]) rfl rfl) ?_
 refine l_val (v := .agg #[.int .i64 (50), .int .i64 (0)]) rfl rfl rfl (e_extract (vs := #[.agg #[.int .i64 (50), .int .i64 (0)], .agg #[.int .i64 (50), .int .i64 (0)], .agg #[.int .i64 (0), .int .u8 (0), .int .i64 (0)]]) rfl rfl) ?_
 refine l_val (v := .agg #[.int .i64 (0), .int .u8 (0), .int .i64 (0)]) rfl rfl rfl (e_extract (vs := #[.agg #[.int .i64 (50), .int .i64 (0)], .agg #[.int .i64 (50), .int .i64 (0)], .agg #[.int .i64 (0), .int .u8 (0), .int .i64 (0)]]) rfl rfl) ?_
 refine l_mv rfl rfl rfl (m_alloc tf17) ?_
 rintro _ _ ⟨b12, rfl, rfl⟩
 refine l_mv rfl rfl rfl (m_alloc tf17) ?_
 rintro _ _ ⟨b13, rfl, rfl⟩
 refine l_mv rfl rfl rfl (m_alloc tf99) ?_
 rintro _ _ ⟨b14, rfl, rfl⟩
 refine l_mu rfl rfl (m_store 2 tf15 (b := b12) (o := 0) (T := 28) (cs := #[.int .i64 (0), .int .i64 (0)]) (cs' := #[.int .i64 (50), .int .i64 (0)]) (v := .agg #[.int .i64 (50), .int .i64 (0)]) rfl rfl rfl rfl rfl rfl rfl) ?_
 refine l_mu rfl rfl (m_store 1 tf15 (b := b13) (o := 0) (T := 28) (cs := #[.int .i64 (0), .int .i64 (0)]) (cs' := #[.int .i64 (50), .int .i64 (0)]) (v := .agg #[.int .i64 (50), .int .i64 (0)]) rfl rfl rfl rfl rfl rfl rfl) ?_
 refine l_mu rfl rfl (m_store 0 tf106 (b := b14) (o := 0) (T := 55) (cs := #[.int .i64 (0), .int .u8 (0), .int .i64 (0)]) (cs' := #[.int .i64 (0), .int .u8 (0), .int .i64 (0)]) (v := .agg #[.int .i64 (0), .int .u8 (0), .int .i64 (0)]) rfl rfl rfl rfl rfl rfl rfl) ?_
 refine l_nil ?_
 refine f_then ?_
 refine c_seq ?_
 refine c_any [⟨[], [], [0], [37], fun f => f 37 = .agg #[.int .i64 (1), .int .i64 (0), .int .i64 (0), .int .i64 (50), .int .i64 (0), .int .i64 (10), .int .i64 (10), .bool false, .bool false]⟩, ⟨[], [], [], [38], fun f => f 38 = .agg #[.int .i64 (3), .int .i64 (0), .int .i64 (-15), .int .i64 (0), .int .i64 (0), .int .i64 (500), .int .i64 (5), .bool false, .bool false]⟩, ⟨[1], [1], [], [39], fun f => f 39 = .agg #[.int .i64 (3), .int .i64 (0), .int .i64 (-15), .int .i64 (0), .int .i64 (0), .int .i64 (500), .int .i64 (5), .bool false, .bool true]⟩, ⟨[0, 1, 2], [0, 2], [], [40], fun f => f 40 = .slice (some ⟨(blk (f 40)), 0, none⟩) 2 2⟩, ⟨[], [], [], [41], fun f => f 41 = .agg #[.int .i64 (0), .int .i64 (-8)]⟩, ⟨[0, 1, 2, 3, 4], [3, 4], [], [40, 42], fun f => f 42 = .agg #[.slice (some ⟨(blk (f 40)), 0, none⟩) 2 2, .slice none 0 0, .int .i64 (0), .int .i64 (-8)]⟩, ⟨[0, 1, 2, 3, 4, 5], [5], [], [43], fun f => f 43 = .tuple #[.agg #[.int .i64 (50), .int .i64 (0)], .agg #[.int .i64 (50), .int .i64 (0)], .agg #[.int .i64 (1), .int .u8 (2), .int .i64 (3)]]⟩, ⟨[0, 1, 2, 3, 4, 5, 6], [6], [], [36], fun f => f 36 = .tuple #[.agg #[.int .i64 (50), .int .i64 (0)], .agg #[.int .i64 (50), .int .i64 (0)], .agg #[.int .i64 (1), .int .u8 (2), .int .i64 (3)]]⟩, ⟨[0, 1, 2, 3, 4, 5, 6, 7], [7], [], [44], fun f => f 44 = .agg #[.int .i64 (50), .int .i64 (0)]⟩, ⟨[0, 1, 2, 3, 4, 5, 6, 7], [7], [], [45], fun f => f 45 = .agg #[.int .i64 (50), .int .i64 (0)]⟩, ⟨[0, 1, 2, 3, 4, 5, 6, 7], [7], [], [46], fun f => f 46 = .agg #[.int .i64 (1), .int .u8 (2), .int .i64 (3)]⟩, ⟨[], [], [], [8], fun f => f 8 = .pointer (some ⟨(blk (f 8)), 0, none⟩)⟩, ⟨[], [], [], [9], fun f => f 9 = .pointer (some ⟨(blk (f 9)), 0, none⟩)⟩, ⟨[], [], [], [10], fun f => f 10 = .pointer (some ⟨(blk (f 10)), 0, none⟩)⟩, ⟨[0, 1, 2, 3, 4, 5, 6, 7, 8, 11, 12, 13], [11, 8], [], [], fun _ => True⟩, ⟨[0, 1, 2, 3, 4, 5, 6, 7, 8, 9, 11, 12, 13, 14], [12, 9], [], [], fun _ => True⟩, ⟨[0, 1, 2, 3, 4, 5, 6, 7, 8, 9, 10, 11, 12, 13, 14, 15], [13, 10], [], [], fun _ => True⟩] [⟨none, none, [], [], fun _ => pt b14 (.cells #[.int .i64 (0), .int .u8 (0), .int .i64 (0)] 55)⟩, ⟨none, none, [], [], fun _ => pt b13 (.cells #[.int .i64 (50), .int .i64 (0)] 28)⟩, ⟨none, none, [], [], fun _ => pt b12 (.cells #[.int .i64 (50), .int .i64 (0)] 28)⟩, ⟨none, none, [], [], fun _ => pt b11 (.cells #[.int .i64 (1), .int .i64 (0), .int .i64 (0), .int .i64 (50), .int .i64 (0), .int .i64 (10), .int .i64 (10), .bool false, .bool false] 52)⟩, ⟨none, none, [0], [], fun _ => pt b1 (.cells #[.int .i64 (1), .int .i64 (0), .int .i64 (0), .int .i64 (50), .int .i64 (0), .int .i64 (10), .int .i64 (10), .bool false, .bool false] 52)⟩, ⟨none, none, [], [], fun _ => pt (blk (fa10 22)) (.cells #[.int .i64 (1), .int .i64 (0), .int .i64 (0), .int .i64 (50), .int .i64 (0), .int .i64 (10), .int .i64 (10), .bool false, .bool false, .int .i64 (2), .int .i64 (60), .int .i64 (0), .int .i64 (0), .int .i64 (0), .int .i64 (10), .int .i64 (10), .bool false, .bool true] 52)⟩, ⟨none, none, [], [], fun _ => pt (blk (fa10 2)) (.cells #[.int .i64 (40), .int .i64 (0)] 28)⟩, ⟨none, none, [], [], fun _ => pt (blk (fa10 3)) (.cells #[.int .i64 (0), .int .i64 (0)] 28)⟩, ⟨none, none, [], [], fun _ => pt (blk (fa10 4)) (.cells #[.int .i64 (1), .int .u8 (1), .int .i64 (2)] 55)⟩, ⟨(some 3), none, [6], [40], fun f => pt (blk (f 40)) (.cells #[.int .i64 (1), .int .i64 (0), .int .i64 (0), .int .i64 (50), .int .i64 (0), .int .i64 (10), .int .i64 (10), .bool false, .bool false, .int .i64 (3), .int .i64 (0), .int .i64 (-15), .int .i64 (0), .int .i64 (0), .int .i64 (500), .int .i64 (5), .bool false, .bool true] 52)⟩, ⟨(some 11), (some 14), [14], [8], fun f => pt (blk (f 8)) (.cells #[.int .i64 (0), .int .i64 (0)] 28)⟩, ⟨(some 12), (some 15), [15], [9], fun f => pt (blk (f 9)) (.cells #[.int .i64 (0), .int .i64 (0)] 28)⟩, ⟨(some 13), (some 16), [16], [10], fun f => pt (blk (f 10)) (.cells #[.int .i64 (0), .int .u8 (0), .int .i64 (0)] 55)⟩, ⟨(some 14), none, [], [8], fun f => pt (blk (f 8)) (.cells #[.int .i64 (50), .int .i64 (0)] 28)⟩, ⟨(some 15), none, [], [9], fun f => pt (blk (f 9)) (.cells #[.int .i64 (50), .int .i64 (0)] 28)⟩, ⟨(some 16), none, [], [10], fun f => pt (blk (f 10)) (.cells #[.int .i64 (1), .int .u8 (2), .int .i64 (3)] 55)⟩] [(1, .pointer (some ⟨b1, 0, none⟩)), (2, .pointer (some ⟨(blk (fa10 2)), 0, none⟩)), (3, .pointer (some ⟨(blk (fa10 3)), 0, none⟩)), (4, .pointer (some ⟨(blk (fa10 4)), 0, none⟩)), (5, .pointer (some ⟨b12, 0, none⟩)), (7, .pointer (some ⟨b14, 0, none⟩))] [0, 1, 2, 3, 4, 5] [] (by kernel_rfl) (by kernel_rfl) (by kernel_rfl) (by kernel_rfl) rfl ⟨rfl, rfl, rfl, rfl, rfl, rfl, trivial⟩ ⟨?_, ?_, ?_, ?_, ?_, ?_, ?_, ?_, ?_, ?_, ?_, ?_, ?_, ?_, ?_, ?_, ?_, trivial⟩ ?_
 ·rintro f M - ⟨i0, -⟩
  have hs1 : f 1 = .pointer (some ⟨b1, 0, none⟩) := i0
  refine ob_start (L' := pt b1 (.cells #[.int .i64 (1), .int .i64 (0), .int .i64 (0), .int .i64 (50), .int .i64 (0), .int .i64 (10), .int .i64 (10), .bool false, .bool false] 52) :: M) (by rfl) (up_cons rfl hs1) ?_
  refine l_val (v := .agg #[.int .i64 (1), .int .i64 (0), .int .i64 (0), .int .i64 (50), .int .i64 (0), .int .i64 (10), .int .i64 (10), .bool false, .bool false]) rfl rfl rfl (e_load tf22 (cs := [.int .i64 (1), .int .i64 (0), .int .i64 (0), .int .i64 (50), .int .i64 (0), .int .i64 (10), .int .i64 (10), .bool false, .bool false]) rfl (k_pt 0 (cs := #[.int .i64 (1), .int .i64 (0), .int .i64 (0), .int .i64 (50), .int .i64 (0), .int .i64 (10), .int .i64 (10), .bool false, .bool false]) (vs := [.int .i64 (1), .int .i64 (0), .int .i64 (0), .int .i64 (50), .int .i64 (0), .int .i64 (10), .int .i64 (10), .bool false, .bool false]) rfl rfl) rfl) ?_
  refine l_nil ?_
  exact f_owes_d (up_cons rfl hs1) rfl (perm_front 0 rfl)
 ·rintro f M - -
  refine ob_start (L' := M) (by rfl) rfl ?_
  refine l_call rfl rfl rfl (cl_value (fst := []) (cap := []) (vs := [.int .i64 (3), .int .i64 (0), .int .i64 (-15), .int .i64 (500), .int .i64 (5), .int .i64 (0), .int .i64 (0)]) (all := [.int .i64 (3), .int .i64 (0), .int .i64 (-15), .int .i64 (500), .int .i64 (5), .int .i64 (0), .int .i64 (0)]) tf103 rfl rfl rfl) ?_
  intro w hw
  obtain ⟨β1, sb, kn, hw1, back⟩ := St.frame_all hw
  refine (box_ok β1 w hw1 (3 : Int) (0 : Int) (-15 : Int) (500 : Int) (5 : Int) (0 : Int) (0 : Int)).mono ?_
  rintro e w' ⟨rfl, hw'⟩
  refine ⟨_, rfl, _, back _ _ hw', ?_⟩
  clear hw hw1 hw' back kn sb
  refine l_nil ?_
  exact f_owes_d rfl rfl (List.Perm.refl _)
 ·rintro f M ⟨k0, -⟩ -
  have hs38 : f 38 = .agg #[.int .i64 (3), .int .i64 (0), .int .i64 (-15), .int .i64 (0), .int .i64 (0), .int .i64 (500), .int .i64 (5), .bool false, .bool false] := k0
  refine ob_start (L' := M) (by rfl) (up_cons rfl hs38) ?_
  refine l_call rfl rfl rfl (cl_value (fst := []) (cap := []) (vs := [.agg #[.int .i64 (3), .int .i64 (0), .int .i64 (-15), .int .i64 (0), .int .i64 (0), .int .i64 (500), .int .i64 (5), .bool false, .bool false]]) (all := [.agg #[.int .i64 (3), .int .i64 (0), .int .i64 (-15), .int .i64 (0), .int .i64 (0), .int .i64 (500), .int .i64 (5), .bool false, .bool false]]) tf107 rfl rfl rfl) ?_
  intro w hw
  obtain ⟨β1, sb, kn, hw1, back⟩ := St.frame_all hw
  refine (fixed_ok β1 w hw1 (⟨3, 0, -15, 0, 0, 500, 5, false, false⟩ : KB)).mono ?_
  rintro e w' ⟨rfl, hw'⟩
  refine ⟨_, rfl, _, back _ _ hw', ?_⟩
  clear hw hw1 hw' back kn sb
  refine l_nil ?_
  exact f_owes_d (up_cons rfl hs38) rfl (List.Perm.refl _)
 ·rintro f M ⟨k0, k1, -⟩ -
  have hs37 : f 37 = .agg #[.int .i64 (1), .int .i64 (0), .int .i64 (0), .int .i64 (50), .int .i64 (0), .int .i64 (10), .int .i64 (10), .bool false, .bool false] := k0
  have hs39 : f 39 = .agg #[.int .i64 (3), .int .i64 (0), .int .i64 (-15), .int .i64 (0), .int .i64 (0), .int .i64 (500), .int .i64 (5), .bool false, .bool true] := k1
  refine ob_start (L' := M) (by rfl) (up_cons (up_cons rfl hs37) hs39) ?_
  refine l_mv rfl rfl rfl (m_slices tf43 tf58 (vs := [(0, .agg #[.int .i64 (1), .int .i64 (0), .int .i64 (0), .int .i64 (50), .int .i64 (0), .int .i64 (10), .int .i64 (10), .bool false, .bool false]), (1, .agg #[.int .i64 (3), .int .i64 (0), .int .i64 (-15), .int .i64 (0), .int .i64 (0), .int .i64 (500), .int .i64 (5), .bool false, .bool true])]) (cells := #[.int .i64 (1), .int .i64 (0), .int .i64 (0), .int .i64 (50), .int .i64 (0), .int .i64 (10), .int .i64 (10), .bool false, .bool false, .int .i64 (3), .int .i64 (0), .int .i64 (-15), .int .i64 (0), .int .i64 (0), .int .i64 (500), .int .i64 (5), .bool false, .bool true]) rfl rfl rfl (by kernel_rfl)) ?_
  rintro _ _ ⟨b16, rfl, rfl⟩
  refine l_nil ?_
  exact f_owes_d (up_cons (up_cons rfl hs37) hs39) rfl (perm_front 0 rfl)
 ·rintro f M - -
  refine ob_start (L' := M) (by rfl) rfl ?_
  refine l_val (v := .agg #[.int .i64 (0), .int .i64 (-8)]) rfl rfl rfl (e_build tf17 tf16 (vs := [(1, .int .i64 (-8))]) (cells := #[.int .i64 (0), .int .i64 (-8)]) rfl rfl) ?_
  refine l_nil ?_
  exact f_owes_d rfl rfl (List.Perm.refl _)
 ·rintro f M ⟨k0, k1, -⟩ -
  have hs40 : f 40 = .slice (some ⟨(blk (f 40)), 0, none⟩) 2 2 := k0
  have hs41 : f 41 = .agg #[.int .i64 (0), .int .i64 (-8)] := k1
  refine ob_start (L' := M) (by rfl) (up_cons (up_cons rfl hs40) hs41) ?_
  refine l_val (v := .agg #[.slice (some ⟨(blk (f 40)), 0, none⟩) 2 2, .slice none 0 0, .int .i64 (0), .int .i64 (-8)]) rfl rfl rfl (e_build tf85 tf88 (vs := [(0, .slice (some ⟨(blk (f 40)), 0, none⟩) 2 2), (2, .agg #[.int .i64 (0), .int .i64 (-8)])]) (cells := #[.slice (some ⟨(blk (f 40)), 0, none⟩) 2 2, .slice none 0 0, .int .i64 (0), .int .i64 (-8)]) rfl rfl) ?_
  refine l_nil ?_
  exact f_owes_d (up_cons (up_cons rfl hs40) hs41) rfl (List.Perm.refl _)
 ·rintro f M ⟨k0, -⟩ -
  have hs42 : f 42 = .agg #[.slice (some ⟨(blk (f 40)), 0, none⟩) 2 2, .slice none 0 0, .int .i64 (0), .int .i64 (-8)] := k0
  refine ob_start (L' := pt (blk (f 40)) (.cells #[.int .i64 (1), .int .i64 (0), .int .i64 (0), .int .i64 (50), .int .i64 (0), .int .i64 (10), .int .i64 (10), .bool false, .bool false, .int .i64 (3), .int .i64 (0), .int .i64 (-15), .int .i64 (0), .int .i64 (0), .int .i64 (500), .int .i64 (5), .bool false, .bool true] 52) :: M) (by rfl) (up_cons rfl hs42) ?_
  refine l_call rfl rfl rfl (cl_value (fst := []) (cap := []) (vs := [.agg #[.slice (some ⟨(blk (f 40)), 0, none⟩) 2 2, .slice none 0 0, .int .i64 (0), .int .i64 (-8)]]) (all := [.agg #[.slice (some ⟨(blk (f 40)), 0, none⟩) 2 2, .slice none 0 0, .int .i64 (0), .int .i64 (-8)]]) tf108 rfl rfl rfl) ?_
  intro w hw
  obtain ⟨β1, sb, kn, hw1, back⟩ := St.frame_all hw
  have hG1 := GR.mono sb hG
  refine (ends1_ok β1 w hw1 _ _ (0) (-8) e2 [] (kn _ (k_ptFls (F := BodyF) 0 (m := 2) (xs := e2) rfl rfl rfl (by decide))) (Sl.nil KRR _) (by decide) (by decide) hG1 e2_ok f2 [(⟨1, 2, 3⟩ : KS)] e2_step rfl _ rfl _ rfl rfl).mono ?_
  rintro e w' ⟨rfl, hw'⟩
  refine ⟨_, rfl, _, back _ _ hw', ?_⟩
  clear hw hw1 hw' back kn sb
  refine l_nil ?_
  exact f_owes_d (up_cons rfl hs42) rfl (perm_front 0 rfl)
 ·rintro f M ⟨k0, -⟩ -
  have hs43 : f 43 = .tuple #[.agg #[.int .i64 (50), .int .i64 (0)], .agg #[.int .i64 (50), .int .i64 (0)], .agg #[.int .i64 (1), .int .u8 (2), .int .i64 (3)]] := k0
  refine ob_start (L' := M) (by rfl) (up_cons rfl hs43) ?_
  refine l_val (v := .tuple #[.agg #[.int .i64 (50), .int .i64 (0)], .agg #[.int .i64 (50), .int .i64 (0)], .agg #[.int .i64 (1), .int .u8 (2), .int .i64 (3)]]) rfl rfl rfl (e_move) ?_
  refine l_nil ?_
  exact f_owes_d (up_cons rfl hs43) rfl (List.Perm.refl _)
 ·rintro f M ⟨k0, -⟩ -
  have hs36 : f 36 = .tuple #[.agg #[.int .i64 (50), .int .i64 (0)], .agg #[.int .i64 (50), .int .i64 (0)], .agg #[.int .i64 (1), .int .u8 (2), .int .i64 (3)]] := k0
  refine ob_start (L' := M) (by rfl) (up_cons rfl hs36) ?_
  refine l_val (v := .agg #[.int .i64 (50), .int .i64 (0)]) rfl rfl rfl (e_extract (vs := #[.agg #[.int .i64 (50), .int .i64 (0)], .agg #[.int .i64 (50), .int .i64 (0)], .agg #[.int .i64 (1), .int .u8 (2), .int .i64 (3)]]) rfl rfl) ?_
  refine l_nil ?_
  exact f_owes_d (up_cons rfl hs36) rfl (List.Perm.refl _)
 ·rintro f M ⟨k0, -⟩ -
  have hs36 : f 36 = .tuple #[.agg #[.int .i64 (50), .int .i64 (0)], .agg #[.int .i64 (50), .int .i64 (0)], .agg #[.int .i64 (1), .int .u8 (2), .int .i64 (3)]] := k0
  refine ob_start (L' := M) (by rfl) (up_cons rfl hs36) ?_
  refine l_val (v := .agg #[.int .i64 (50), .int .i64 (0)]) rfl rfl rfl (e_extract (vs := #[.agg #[.int .i64 (50), .int .i64 (0)], .agg #[.int .i64 (50), .int .i64 (0)], .agg #[.int .i64 (1), .int .u8 (2), .int .i64 (3)]]) rfl rfl) ?_
  refine l_nil ?_
  exact f_owes_d (up_cons rfl hs36) rfl (List.Perm.refl _)
 ·rintro f M ⟨k0, -⟩ -
  have hs36 : f 36 = .tuple #[.agg #[.int .i64 (50), .int .i64 (0)], .agg #[.int .i64 (50), .int .i64 (0)], .agg #[.int .i64 (1), .int .u8 (2), .int .i64 (3)]] := k0
  refine ob_start (L' := M) (by rfl) (up_cons rfl hs36) ?_
  refine l_val (v := .agg #[.int .i64 (1), .int .u8 (2), .int .i64 (3)]) rfl rfl rfl (e_extract (vs := #[.agg #[.int .i64 (50), .int .i64 (0)], .agg #[.int .i64 (50), .int .i64 (0)], .agg #[.int .i64 (1), .int .u8 (2), .int .i64 (3)]]) rfl rfl) ?_
  refine l_nil ?_
  exact f_owes_d (up_cons rfl hs36) rfl (List.Perm.refl _)
 ·rintro f M - -
  refine ob_start (L' := M) (by rfl) rfl ?_
  refine l_mv rfl rfl rfl (m_alloc tf17) ?_
  rintro _ _ ⟨b18, rfl, rfl⟩
  refine l_nil ?_
  exact f_owes_d rfl rfl (perm_front 0 rfl)
 ·rintro f M - -
  refine ob_start (L' := M) (by rfl) rfl ?_
  refine l_mv rfl rfl rfl (m_alloc tf17) ?_
  rintro _ _ ⟨b20, rfl, rfl⟩
  refine l_nil ?_
  exact f_owes_d rfl rfl (perm_front 0 rfl)
 ·rintro f M - -
  refine ob_start (L' := M) (by rfl) rfl ?_
  refine l_mv rfl rfl rfl (m_alloc tf99) ?_
  rintro _ _ ⟨b22, rfl, rfl⟩
  refine l_nil ?_
  exact f_owes_d rfl rfl (perm_front 0 rfl)
 ·rintro f M ⟨k0, k1, -⟩ -
  have hs8 : f 8 = .pointer (some ⟨(blk (f 8)), 0, none⟩) := k0
  have hs44 : f 44 = .agg #[.int .i64 (50), .int .i64 (0)] := k1
  refine ob_start (L' := pt (blk (f 8)) (.cells #[.int .i64 (0), .int .i64 (0)] 28) :: M) (by rfl) (up_cons (up_cons rfl hs8) hs44) ?_
  refine l_mu rfl rfl (m_store 0 tf15 (b := (blk (f 8))) (o := 0) (T := 28) (cs := #[.int .i64 (0), .int .i64 (0)]) (cs' := #[.int .i64 (50), .int .i64 (0)]) (v := .agg #[.int .i64 (50), .int .i64 (0)]) rfl rfl rfl rfl rfl rfl rfl) ?_
  refine l_nil ?_
  exact f_owes_n (up_cons (up_cons rfl hs8) hs44) trivial (perm_front 0 rfl)
 ·rintro f M ⟨k0, k1, -⟩ -
  have hs9 : f 9 = .pointer (some ⟨(blk (f 9)), 0, none⟩) := k0
  have hs45 : f 45 = .agg #[.int .i64 (50), .int .i64 (0)] := k1
  refine ob_start (L' := pt (blk (f 9)) (.cells #[.int .i64 (0), .int .i64 (0)] 28) :: M) (by rfl) (up_cons (up_cons rfl hs9) hs45) ?_
  refine l_mu rfl rfl (m_store 0 tf15 (b := (blk (f 9))) (o := 0) (T := 28) (cs := #[.int .i64 (0), .int .i64 (0)]) (cs' := #[.int .i64 (50), .int .i64 (0)]) (v := .agg #[.int .i64 (50), .int .i64 (0)]) rfl rfl rfl rfl rfl rfl rfl) ?_
  refine l_nil ?_
  exact f_owes_n (up_cons (up_cons rfl hs9) hs45) trivial (perm_front 0 rfl)
 ·rintro f M ⟨k0, k1, -⟩ -
  have hs10 : f 10 = .pointer (some ⟨(blk (f 10)), 0, none⟩) := k0
  have hs46 : f 46 = .agg #[.int .i64 (1), .int .u8 (2), .int .i64 (3)] := k1
  refine ob_start (L' := pt (blk (f 10)) (.cells #[.int .i64 (0), .int .u8 (0), .int .i64 (0)] 55) :: M) (by rfl) (up_cons (up_cons rfl hs10) hs46) ?_
  refine l_mu rfl rfl (m_store 0 tf106 (b := (blk (f 10))) (o := 0) (T := 55) (cs := #[.int .i64 (0), .int .u8 (0), .int .i64 (0)]) (cs' := #[.int .i64 (1), .int .u8 (2), .int .i64 (3)]) (v := .agg #[.int .i64 (1), .int .u8 (2), .int .i64 (3)]) rfl rfl rfl rfl rfl rfl rfl) ?_
  refine l_nil ?_
  exact f_owes_n (up_cons (up_cons rfl hs10) hs46) trivial (perm_front 0 rfl)
 rintro fa23 ⟨-, -, -, -, -, -, -, -, -, -, -, -, k12, k13, -, -, -, -⟩ ⟨j0, j1, j2, j3, j4, j5, -⟩
 refine f_re (L' := [pt b14 (.cells #[.int .i64 (0), .int .u8 (0), .int .i64 (0)] 55), pt b13 (.cells #[.int .i64 (50), .int .i64 (0)] 28), pt b12 (.cells #[.int .i64 (50), .int .i64 (0)] 28), pt b11 (.cells #[.int .i64 (1), .int .i64 (0), .int .i64 (0), .int .i64 (50), .int .i64 (0), .int .i64 (10), .int .i64 (10), .bool false, .bool false] 52), pt b1 (.cells #[.int .i64 (1), .int .i64 (0), .int .i64 (0), .int .i64 (50), .int .i64 (0), .int .i64 (10), .int .i64 (10), .bool false, .bool false] 52), pt (blk (fa10 22)) (.cells #[.int .i64 (1), .int .i64 (0), .int .i64 (0), .int .i64 (50), .int .i64 (0), .int .i64 (10), .int .i64 (10), .bool false, .bool false, .int .i64 (2), .int .i64 (60), .int .i64 (0), .int .i64 (0), .int .i64 (0), .int .i64 (10), .int .i64 (10), .bool false, .bool true] 52), pt (blk (fa10 2)) (.cells #[.int .i64 (40), .int .i64 (0)] 28), pt (blk (fa10 3)) (.cells #[.int .i64 (0), .int .i64 (0)] 28), pt (blk (fa10 4)) (.cells #[.int .i64 (1), .int .u8 (1), .int .i64 (2)] 55), pt (blk (fa23 40)) (.cells #[.int .i64 (1), .int .i64 (0), .int .i64 (0), .int .i64 (50), .int .i64 (0), .int .i64 (10), .int .i64 (10), .bool false, .bool false, .int .i64 (3), .int .i64 (0), .int .i64 (-15), .int .i64 (0), .int .i64 (0), .int .i64 (500), .int .i64 (5), .bool false, .bool true] 52), pt (blk (fa23 8)) (.cells #[.int .i64 (50), .int .i64 (0)] 28), pt (blk (fa23 9)) (.cells #[.int .i64 (50), .int .i64 (0)] 28), pt (blk (fa23 10)) (.cells #[.int .i64 (1), .int .u8 (2), .int .i64 (3)] 55)]) (by rfl) ?_
 refine f_rebase (d := 1) (v := .pointer (some ⟨b1, 0, none⟩)) j0 ?_
 refine f_rebase (d := 2) (v := .pointer (some ⟨(blk (fa10 2)), 0, none⟩)) j1 ?_
 refine f_rebase (d := 3) (v := .pointer (some ⟨(blk (fa10 3)), 0, none⟩)) j2 ?_
 refine f_rebase (d := 4) (v := .pointer (some ⟨(blk (fa10 4)), 0, none⟩)) j3 ?_
 refine f_rebase (d := 5) (v := .pointer (some ⟨b12, 0, none⟩)) j4 ?_
 refine f_rebase (d := 7) (v := .pointer (some ⟨b14, 0, none⟩)) j5 ?_
 refine f_rebase (d := 9) (v := .pointer (some ⟨(blk (fa23 9)), 0, none⟩)) k12 ?_
 refine f_rebase (d := 10) (v := .pointer (some ⟨(blk (fa23 10)), 0, none⟩)) k13 ?_
 refine f_then ?_
 refine c_seq ?_
 refine c_region ?_
 refine l_call rfl rfl rfl (cl_value (fst := []) (cap := []) (vs := [.int .i64 (1), .int .i64 (0), .int .i64 (0), .int .i64 (10), .int .i64 (50), .int .i64 (0)]) (all := [.int .i64 (1), .int .i64 (0), .int .i64 (0), .int .i64 (10), .int .i64 (50), .int .i64 (0)]) tf109 rfl rfl rfl) ?_
 intro w hw
 obtain ⟨β1, sb, kn, hw1, back⟩ := St.frame_all hw
 refine (ball_ok β1 w hw1 (1 : Int) (0 : Int) (0 : Int) (10 : Int) (50 : Int) (0 : Int)).mono ?_
 rintro e w' ⟨rfl, hw'⟩
 refine ⟨_, rfl, _, back _ _ hw', ?_⟩
 clear hw hw1 hw' back kn sb
 refine l_call rfl rfl rfl (cl_value (fst := []) (cap := []) (vs := [.int .i64 (2), .int .i64 (40), .int .i64 (16), .int .i64 (10), .int .i64 (0), .int .i64 (0)]) (all := [.int .i64 (2), .int .i64 (40), .int .i64 (16), .int .i64 (10), .int .i64 (0), .int .i64 (0)]) tf109 rfl rfl rfl) ?_
 intro w hw
 obtain ⟨β1, sb, kn, hw1, back⟩ := St.frame_all hw
 refine (ball_ok β1 w hw1 (2 : Int) (40 : Int) (16 : Int) (10 : Int) (0 : Int) (0 : Int)).mono ?_
 rintro e w' ⟨rfl, hw'⟩
 refine ⟨_, rfl, _, back _ _ hw', ?_⟩
 clear hw hw1 hw' back kn sb
 refine l_call rfl rfl rfl (cl_value (fst := []) (cap := []) (vs := [.agg #[.int .i64 (2), .int .i64 (40), .int .i64 (16), .int .i64 (0), .int .i64 (0), .int .i64 (10), .int .i64 (10), .bool true, .bool false]]) (all := [.agg #[.int .i64 (2), .int .i64 (40), .int .i64 (16), .int .i64 (0), .int .i64 (0), .int .i64 (10), .int .i64 (10), .bool true, .bool false]]) tf107 rfl rfl rfl) ?_
 intro w hw
 obtain ⟨β1, sb, kn, hw1, back⟩ := St.frame_all hw
 refine (fixed_ok β1 w hw1 (⟨2, 40, 16, 0, 0, 10, 10, true, false⟩ : KB)).mono ?_
 rintro e w' ⟨rfl, hw'⟩
 refine ⟨_, rfl, _, back _ _ hw', ?_⟩
 clear hw hw1 hw' back kn sb
 refine l_mv rfl rfl rfl (m_slices tf43 tf58 (vs := [(0, .agg #[.int .i64 (1), .int .i64 (0), .int .i64 (0), .int .i64 (50), .int .i64 (0), .int .i64 (10), .int .i64 (10), .bool true, .bool false]), (1, .agg #[.int .i64 (2), .int .i64 (40), .int .i64 (16), .int .i64 (0), .int .i64 (0), .int .i64 (10), .int .i64 (10), .bool true, .bool true])]) (cells := #[.int .i64 (1), .int .i64 (0), .int .i64 (0), .int .i64 (50), .int .i64 (0), .int .i64 (10), .int .i64 (10), .bool true, .bool false, .int .i64 (2), .int .i64 (40), .int .i64 (16), .int .i64 (0), .int .i64 (0), .int .i64 (10), .int .i64 (10), .bool true, .bool true]) rfl rfl rfl (by kernel_rfl)) ?_
 rintro _ _ ⟨b24, rfl, rfl⟩
 refine l_val (v := .agg #[.slice (some ⟨b24, 0, none⟩) 2 2, .slice none 0 0, .int .i64 (0), .int .i64 (0)]) rfl rfl rfl (e_build tf85 tf88 (vs := [(0, .slice (some ⟨b24, 0, none⟩) 2 2)]) (cells := #[.slice (some ⟨b24, 0, none⟩) 2 2, .slice none 0 0, .int .i64 (0), .int .i64 (0)]) rfl rfl) ?_
 refine l_call rfl rfl rfl (cl_value (fst := []) (cap := []) (vs := [.agg #[.slice (some ⟨b24, 0, none⟩) 2 2, .slice none 0 0, .int .i64 (0), .int .i64 (0)]]) (all := [.agg #[.slice (some ⟨b24, 0, none⟩) 2 2, .slice none 0 0, .int .i64 (0), .int .i64 (0)]]) tf108 rfl rfl rfl) ?_
 intro w hw
 obtain ⟨β1, sb, kn, hw1, back⟩ := St.frame_all hw
 have hG1 := GR.mono sb hG
 refine (ends1_ok β1 w hw1 _ _ (0) (0) e3 [] (kn _ (k_ptFls (F := BodyF) 0 (m := 2) (xs := e3) rfl rfl rfl (by decide))) (Sl.nil KRR _) (by decide) (by decide) hG1 e3_ok f3 [(⟨1, 1, 2⟩ : KS)] e3_step rfl _ rfl _ rfl rfl).mono ?_
 rintro e w' ⟨rfl, hw'⟩
 refine ⟨_, rfl, _, back _ _ hw', ?_⟩
 clear hw hw1 hw' back kn sb
 refine l_val (v := .tuple #[.agg #[.int .i64 (28), .int .i64 (0)], .agg #[.int .i64 (0), .int .i64 (0)], .agg #[.int .i64 (1), .int .u8 (1), .int .i64 (2)]]) rfl rfl rfl (e_move) ?_
 refine l_val (v := .agg #[.int .i64 (28), .int .i64 (0)]) rfl rfl rfl (e_extract (vs := #[.agg #[.int .i64 (28), .int .i64 (0)], .agg #[.int .i64 (0), .int .i64 (0)], .agg #[.int .i64 (1), .int .u8 (1), .int .i64 (2)]]) rfl rfl) ?_
 refine l_val (v := .agg #[.int .i64 (0), .int .i64 (0)]) rfl rfl rfl (e_extract (vs := #[.agg #[.int .i64 (28), .int .i64 (0)], .agg #[.int .i64 (0), .int .i64 (0)], .agg #[.int .i64 (1), .int .u8 (1), .int .i64 (2)]]) rfl rfl) ?_
 refine l_val (v := .agg #[.int .i64 (1), .int .u8 (1), .int .i64 (2)]) rfl rfl rfl (e_extract (vs := #[.agg #[.int .i64 (28), .int .i64 (0)], .agg #[.int .i64 (0), .int .i64 (0)], .agg #[.int .i64 (1), .int .u8 (1), .int .i64 (2)]]) rfl rfl) ?_
 refine l_mv rfl rfl rfl (m_alloc tf17) ?_
 rintro _ _ ⟨b25, rfl, rfl⟩
 refine l_mv rfl rfl rfl (m_alloc tf17) ?_
 rintro _ _ ⟨b26, rfl, rfl⟩
 refine l_mv rfl rfl rfl (m_alloc tf99) ?_
 rintro _ _ ⟨b27, rfl, rfl⟩
 refine l_mu rfl rfl (m_store 2 tf15 (b := b25) (o := 0) (T := 28) (cs := #[.int .i64 (0), .int .i64 (0)]) (cs' := #[.int .i64 (28), .int .i64 (0)]) (v := .agg #[.int .i64 (28), .int .i64 (0)]) rfl rfl rfl rfl rfl rfl rfl) ?_
 refine l_mu rfl rfl (m_store 1 tf15 (b := b26) (o := 0) (T := 28) (cs := #[.int .i64 (0), .int .i64 (0)]) (cs' := #[.int .i64 (0), .int .i64 (0)]) (v := .agg #[.int .i64 (0), .int .i64 (0)]) rfl rfl rfl rfl rfl rfl rfl) ?_
 refine l_mu rfl rfl (m_store 0 tf106 (b := b27) (o := 0) (T := 55) (cs := #[.int .i64 (0), .int .u8 (0), .int .i64 (0)]) (cs' := #[.int .i64 (1), .int .u8 (1), .int .i64 (2)]) (v := .agg #[.int .i64 (1), .int .u8 (1), .int .i64 (2)]) rfl rfl rfl rfl rfl rfl rfl) ?_
 refine l_nil ?_
 refine f_then ?_
 refine c_seq ?_
 refine c_any [⟨[], [], [0], [58], fun f => f 58 = .agg #[.int .i64 (1), .int .i64 (0), .int .i64 (0), .int .i64 (50), .int .i64 (0), .int .i64 (10), .int .i64 (10), .bool false, .bool false]⟩, ⟨[], [], [], [59], fun f => f 59 = .agg #[.int .i64 (2), .int .i64 (0), .int .i64 (100), .int .i64 (0), .int .i64 (0), .int .i64 (5), .int .i64 (5), .bool false, .bool false]⟩, ⟨[1], [1], [], [60], fun f => f 60 = .agg #[.int .i64 (2), .int .i64 (0), .int .i64 (100), .int .i64 (0), .int .i64 (0), .int .i64 (5), .int .i64 (5), .bool false, .bool true]⟩, ⟨[0, 1, 2], [0, 2], [], [61], fun f => f 61 = .slice (some ⟨(blk (f 61)), 0, none⟩) 2 2⟩, ⟨[], [], [], [62], fun f => f 62 = .agg #[.int .i64 (1), .int .i64 (2), .int .i64 (30)]⟩, ⟨[4], [4], [], [63], fun f => f 63 = .slice (some ⟨(blk (f 63)), 0, none⟩) 1 1⟩, ⟨[0, 1, 2, 3, 4, 5], [3, 5], [], [61, 63, 64], fun f => f 64 = .agg #[.slice (some ⟨(blk (f 61)), 0, none⟩) 2 2, .slice (some ⟨(blk (f 63)), 0, none⟩) 1 1, .int .i64 (0), .int .i64 (0)]⟩, ⟨[0, 1, 2, 3, 4, 5, 6], [6], [], [65], fun f => f 65 = .tuple #[.agg #[.int .i64 (0), .int .i64 (0)], .agg #[.int .i64 (0), .int .i64 (0)], .agg #[.int .i64 (1), .int .u8 (1), .int .i64 (-1)]]⟩, ⟨[0, 1, 2, 3, 4, 5, 6, 7], [7], [], [57], fun f => f 57 = .tuple #[.agg #[.int .i64 (0), .int .i64 (0)], .agg #[.int .i64 (0), .int .i64 (0)], .agg #[.int .i64 (1), .int .u8 (1), .int .i64 (-1)]]⟩, ⟨[0, 1, 2, 3, 4, 5, 6, 7, 8], [8], [], [66], fun f => f 66 = .agg #[.int .i64 (0), .int .i64 (0)]⟩, ⟨[0, 1, 2, 3, 4, 5, 6, 7, 8], [8], [], [67], fun f => f 67 = .agg #[.int .i64 (0), .int .i64 (0)]⟩, ⟨[0, 1, 2, 3, 4, 5, 6, 7, 8], [8], [], [68], fun f => f 68 = .agg #[.int .i64 (1), .int .u8 (1), .int .i64 (-1)]⟩, ⟨[], [], [], [14], fun f => f 14 = .pointer (some ⟨(blk (f 14)), 0, none⟩)⟩, ⟨[], [], [], [15], fun f => f 15 = .pointer (some ⟨(blk (f 15)), 0, none⟩)⟩, ⟨[], [], [], [16], fun f => f 16 = .pointer (some ⟨(blk (f 16)), 0, none⟩)⟩, ⟨[0, 1, 2, 3, 4, 5, 6, 7, 8, 9, 12, 13, 14], [12, 9], [], [], fun _ => True⟩, ⟨[0, 1, 2, 3, 4, 5, 6, 7, 8, 9, 10, 12, 13, 14, 15], [13, 10], [], [], fun _ => True⟩, ⟨[0, 1, 2, 3, 4, 5, 6, 7, 8, 9, 10, 11, 12, 13, 14, 15, 16], [14, 11], [], [], fun _ => True⟩] [⟨none, none, [], [], fun _ => pt b27 (.cells #[.int .i64 (1), .int .u8 (1), .int .i64 (2)] 55)⟩, ⟨none, none, [], [], fun _ => pt b26 (.cells #[.int .i64 (0), .int .i64 (0)] 28)⟩, ⟨none, none, [], [], fun _ => pt b25 (.cells #[.int .i64 (28), .int .i64 (0)] 28)⟩, ⟨none, none, [], [], fun _ => pt b24 (.cells #[.int .i64 (1), .int .i64 (0), .int .i64 (0), .int .i64 (50), .int .i64 (0), .int .i64 (10), .int .i64 (10), .bool true, .bool false, .int .i64 (2), .int .i64 (40), .int .i64 (16), .int .i64 (0), .int .i64 (0), .int .i64 (10), .int .i64 (10), .bool true, .bool true] 52)⟩, ⟨none, none, [], [], fun _ => pt b14 (.cells #[.int .i64 (0), .int .u8 (0), .int .i64 (0)] 55)⟩, ⟨none, none, [], [], fun _ => pt b13 (.cells #[.int .i64 (50), .int .i64 (0)] 28)⟩, ⟨none, none, [], [], fun _ => pt b12 (.cells #[.int .i64 (50), .int .i64 (0)] 28)⟩, ⟨none, none, [], [], fun _ => pt b11 (.cells #[.int .i64 (1), .int .i64 (0), .int .i64 (0), .int .i64 (50), .int .i64 (0), .int .i64 (10), .int .i64 (10), .bool false, .bool false] 52)⟩, ⟨none, none, [0], [], fun _ => pt b1 (.cells #[.int .i64 (1), .int .i64 (0), .int .i64 (0), .int .i64 (50), .int .i64 (0), .int .i64 (10), .int .i64 (10), .bool false, .bool false] 52)⟩, ⟨none, none, [], [], fun _ => pt (blk (fa10 22)) (.cells #[.int .i64 (1), .int .i64 (0), .int .i64 (0), .int .i64 (50), .int .i64 (0), .int .i64 (10), .int .i64 (10), .bool false, .bool false, .int .i64 (2), .int .i64 (60), .int .i64 (0), .int .i64 (0), .int .i64 (0), .int .i64 (10), .int .i64 (10), .bool false, .bool true] 52)⟩, ⟨none, none, [], [], fun _ => pt (blk (fa10 2)) (.cells #[.int .i64 (40), .int .i64 (0)] 28)⟩, ⟨none, none, [], [], fun _ => pt (blk (fa10 3)) (.cells #[.int .i64 (0), .int .i64 (0)] 28)⟩, ⟨none, none, [], [], fun _ => pt (blk (fa10 4)) (.cells #[.int .i64 (1), .int .u8 (1), .int .i64 (2)] 55)⟩, ⟨none, none, [], [], fun _ => pt (blk (fa23 40)) (.cells #[.int .i64 (1), .int .i64 (0), .int .i64 (0), .int .i64 (50), .int .i64 (0), .int .i64 (10), .int .i64 (10), .bool false, .bool false, .int .i64 (3), .int .i64 (0), .int .i64 (-15), .int .i64 (0), .int .i64 (0), .int .i64 (500), .int .i64 (5), .bool false, .bool true] 52)⟩, ⟨none, none, [], [], fun _ => pt (blk (fa23 8)) (.cells #[.int .i64 (50), .int .i64 (0)] 28)⟩, ⟨none, none, [], [], fun _ => pt (blk (fa23 9)) (.cells #[.int .i64 (50), .int .i64 (0)] 28)⟩, ⟨none, none, [], [], fun _ => pt (blk (fa23 10)) (.cells #[.int .i64 (1), .int .u8 (2), .int .i64 (3)] 55)⟩, ⟨(some 3), none, [7], [61], fun f => pt (blk (f 61)) (.cells #[.int .i64 (1), .int .i64 (0), .int .i64 (0), .int .i64 (50), .int .i64 (0), .int .i64 (10), .int .i64 (10), .bool false, .bool false, .int .i64 (2), .int .i64 (0), .int .i64 (100), .int .i64 (0), .int .i64 (0), .int .i64 (5), .int .i64 (5), .bool false, .bool true] 52)⟩, ⟨(some 5), none, [7], [63], fun f => pt (blk (f 63)) (.cells #[.int .i64 (1), .int .i64 (2), .int .i64 (30)] 78)⟩, ⟨(some 12), (some 15), [15], [14], fun f => pt (blk (f 14)) (.cells #[.int .i64 (0), .int .i64 (0)] 28)⟩, ⟨(some 13), (some 16), [16], [15], fun f => pt (blk (f 15)) (.cells #[.int .i64 (0), .int .i64 (0)] 28)⟩, ⟨(some 14), (some 17), [17], [16], fun f => pt (blk (f 16)) (.cells #[.int .i64 (0), .int .u8 (0), .int .i64 (0)] 55)⟩, ⟨(some 15), none, [], [14], fun f => pt (blk (f 14)) (.cells #[.int .i64 (0), .int .i64 (0)] 28)⟩, ⟨(some 16), none, [], [15], fun f => pt (blk (f 15)) (.cells #[.int .i64 (0), .int .i64 (0)] 28)⟩, ⟨(some 17), none, [], [16], fun f => pt (blk (f 16)) (.cells #[.int .i64 (1), .int .u8 (1), .int .i64 (-1)] 55)⟩] [(1, .pointer (some ⟨b1, 0, none⟩)), (2, .pointer (some ⟨(blk (fa10 2)), 0, none⟩)), (3, .pointer (some ⟨(blk (fa10 3)), 0, none⟩)), (4, .pointer (some ⟨(blk (fa10 4)), 0, none⟩)), (5, .pointer (some ⟨b12, 0, none⟩)), (7, .pointer (some ⟨b14, 0, none⟩)), (9, .pointer (some ⟨(blk (fa23 9)), 0, none⟩)), (10, .pointer (some ⟨(blk (fa23 10)), 0, none⟩)), (11, .pointer (some ⟨b25, 0, none⟩)), (13, .pointer (some ⟨b27, 0, none⟩))] [1, 2, 3, 4, 5, 6, 7, 8, 9] [] (by kernel_rfl) (by kernel_rfl) (by kernel_rfl) (by kernel_rfl) rfl ⟨rfl, rfl, rfl, rfl, rfl, rfl, rfl, rfl, rfl, rfl, trivial⟩ ⟨?_, ?_, ?_, ?_, ?_, ?_, ?_, ?_, ?_, ?_, ?_, ?_, ?_, ?_, ?_, ?_, ?_, ?_, trivial⟩ ?_
 ·rintro f M - ⟨i0, -⟩
  have hs1 : f 1 = .pointer (some ⟨b1, 0, none⟩) := i0
  refine ob_start (L' := pt b1 (.cells #[.int .i64 (1), .int .i64 (0), .int .i64 (0), .int .i64 (50), .int .i64 (0), .int .i64 (10), .int .i64 (10), .bool false, .bool false] 52) :: M) (by rfl) (up_cons rfl hs1) ?_
  refine l_val (v := .agg #[.int .i64 (1), .int .i64 (0), .int .i64 (0), .int .i64 (50), .int .i64 (0), .int .i64 (10), .int .i64 (10), .bool false, .bool false]) rfl rfl rfl (e_load tf22 (cs := [.int .i64 (1), .int .i64 (0), .int .i64 (0), .int .i64 (50), .int .i64 (0), .int .i64 (10), .int .i64 (10), .bool false, .bool false]) rfl (k_pt 0 (cs := #[.int .i64 (1), .int .i64 (0), .int .i64 (0), .int .i64 (50), .int .i64 (0), .int .i64 (10), .int .i64 (10), .bool false, .bool false]) (vs := [.int .i64 (1), .int .i64 (0), .int .i64 (0), .int .i64 (50), .int .i64 (0), .int .i64 (10), .int .i64 (10), .bool false, .bool false]) rfl rfl) rfl) ?_
  refine l_nil ?_
  exact f_owes_d (up_cons rfl hs1) rfl (perm_front 0 rfl)
 ·rintro f M - -
  refine ob_start (L' := M) (by rfl) rfl ?_
  refine l_call rfl rfl rfl (cl_value (fst := []) (cap := []) (vs := [.int .i64 (2), .int .i64 (0), .int .i64 (100), .int .i64 (5), .int .i64 (5), .int .i64 (0), .int .i64 (0)]) (all := [.int .i64 (2), .int .i64 (0), .int .i64 (100), .int .i64 (5), .int .i64 (5), .int .i64 (0), .int .i64 (0)]) tf103 rfl rfl rfl) ?_
  intro w hw
  obtain ⟨β1, sb, kn, hw1, back⟩ := St.frame_all hw
  refine (box_ok β1 w hw1 (2 : Int) (0 : Int) (100 : Int) (5 : Int) (5 : Int) (0 : Int) (0 : Int)).mono ?_
  rintro e w' ⟨rfl, hw'⟩
  refine ⟨_, rfl, _, back _ _ hw', ?_⟩
  clear hw hw1 hw' back kn sb
  refine l_nil ?_
  exact f_owes_d rfl rfl (List.Perm.refl _)
 ·rintro f M ⟨k0, -⟩ -
  have hs59 : f 59 = .agg #[.int .i64 (2), .int .i64 (0), .int .i64 (100), .int .i64 (0), .int .i64 (0), .int .i64 (5), .int .i64 (5), .bool false, .bool false] := k0
  refine ob_start (L' := M) (by rfl) (up_cons rfl hs59) ?_
  refine l_call rfl rfl rfl (cl_value (fst := []) (cap := []) (vs := [.agg #[.int .i64 (2), .int .i64 (0), .int .i64 (100), .int .i64 (0), .int .i64 (0), .int .i64 (5), .int .i64 (5), .bool false, .bool false]]) (all := [.agg #[.int .i64 (2), .int .i64 (0), .int .i64 (100), .int .i64 (0), .int .i64 (0), .int .i64 (5), .int .i64 (5), .bool false, .bool false]]) tf107 rfl rfl rfl) ?_
  intro w hw
  obtain ⟨β1, sb, kn, hw1, back⟩ := St.frame_all hw
  refine (fixed_ok β1 w hw1 (⟨2, 0, 100, 0, 0, 5, 5, false, false⟩ : KB)).mono ?_
  rintro e w' ⟨rfl, hw'⟩
  refine ⟨_, rfl, _, back _ _ hw', ?_⟩
  clear hw hw1 hw' back kn sb
  refine l_nil ?_
  exact f_owes_d (up_cons rfl hs59) rfl (List.Perm.refl _)
 ·rintro f M ⟨k0, k1, -⟩ -
  have hs58 : f 58 = .agg #[.int .i64 (1), .int .i64 (0), .int .i64 (0), .int .i64 (50), .int .i64 (0), .int .i64 (10), .int .i64 (10), .bool false, .bool false] := k0
  have hs60 : f 60 = .agg #[.int .i64 (2), .int .i64 (0), .int .i64 (100), .int .i64 (0), .int .i64 (0), .int .i64 (5), .int .i64 (5), .bool false, .bool true] := k1
  refine ob_start (L' := M) (by rfl) (up_cons (up_cons rfl hs58) hs60) ?_
  refine l_mv rfl rfl rfl (m_slices tf43 tf58 (vs := [(0, .agg #[.int .i64 (1), .int .i64 (0), .int .i64 (0), .int .i64 (50), .int .i64 (0), .int .i64 (10), .int .i64 (10), .bool false, .bool false]), (1, .agg #[.int .i64 (2), .int .i64 (0), .int .i64 (100), .int .i64 (0), .int .i64 (0), .int .i64 (5), .int .i64 (5), .bool false, .bool true])]) (cells := #[.int .i64 (1), .int .i64 (0), .int .i64 (0), .int .i64 (50), .int .i64 (0), .int .i64 (10), .int .i64 (10), .bool false, .bool false, .int .i64 (2), .int .i64 (0), .int .i64 (100), .int .i64 (0), .int .i64 (0), .int .i64 (5), .int .i64 (5), .bool false, .bool true]) rfl rfl rfl (by kernel_rfl)) ?_
  rintro _ _ ⟨b29, rfl, rfl⟩
  refine l_nil ?_
  exact f_owes_d (up_cons (up_cons rfl hs58) hs60) rfl (perm_front 0 rfl)
 ·rintro f M - -
  refine ob_start (L' := M) (by rfl) rfl ?_
  refine l_val (v := .agg #[.int .i64 (1), .int .i64 (2), .int .i64 (30)]) rfl rfl rfl (e_build tf77 tf110 (vs := [(0, .int .i64 (1)), (1, .int .i64 (2)), (2, .int .i64 (30))]) (cells := #[.int .i64 (1), .int .i64 (2), .int .i64 (30)]) rfl rfl) ?_
  refine l_nil ?_
  exact f_owes_d rfl rfl (List.Perm.refl _)
 ·rintro f M ⟨k0, -⟩ -
  have hs62 : f 62 = .agg #[.int .i64 (1), .int .i64 (2), .int .i64 (30)] := k0
  refine ob_start (L' := M) (by rfl) (up_cons rfl hs62) ?_
  refine l_mv rfl rfl rfl (m_slices tf46 tf77 (vs := [(0, .agg #[.int .i64 (1), .int .i64 (2), .int .i64 (30)])]) (cells := #[.int .i64 (1), .int .i64 (2), .int .i64 (30)]) rfl rfl rfl rfl) ?_
  rintro _ _ ⟨b31, rfl, rfl⟩
  refine l_nil ?_
  exact f_owes_d (up_cons rfl hs62) rfl (perm_front 0 rfl)
 ·rintro f M ⟨k0, k1, -⟩ -
  have hs61 : f 61 = .slice (some ⟨(blk (f 61)), 0, none⟩) 2 2 := k0
  have hs63 : f 63 = .slice (some ⟨(blk (f 63)), 0, none⟩) 1 1 := k1
  refine ob_start (L' := M) (by rfl) (up_cons (up_cons rfl hs61) hs63) ?_
  refine l_val (v := .agg #[.slice (some ⟨(blk (f 61)), 0, none⟩) 2 2, .slice (some ⟨(blk (f 63)), 0, none⟩) 1 1, .int .i64 (0), .int .i64 (0)]) rfl rfl rfl (e_build tf85 tf88 (vs := [(0, .slice (some ⟨(blk (f 61)), 0, none⟩) 2 2), (1, .slice (some ⟨(blk (f 63)), 0, none⟩) 1 1)]) (cells := #[.slice (some ⟨(blk (f 61)), 0, none⟩) 2 2, .slice (some ⟨(blk (f 63)), 0, none⟩) 1 1, .int .i64 (0), .int .i64 (0)]) rfl rfl) ?_
  refine l_nil ?_
  exact f_owes_d (up_cons (up_cons rfl hs61) hs63) rfl (List.Perm.refl _)
 ·rintro f M ⟨k0, -⟩ -
  have hs64 : f 64 = .agg #[.slice (some ⟨(blk (f 61)), 0, none⟩) 2 2, .slice (some ⟨(blk (f 63)), 0, none⟩) 1 1, .int .i64 (0), .int .i64 (0)] := k0
  refine ob_start (L' := pt (blk (f 61)) (.cells #[.int .i64 (1), .int .i64 (0), .int .i64 (0), .int .i64 (50), .int .i64 (0), .int .i64 (10), .int .i64 (10), .bool false, .bool false, .int .i64 (2), .int .i64 (0), .int .i64 (100), .int .i64 (0), .int .i64 (0), .int .i64 (5), .int .i64 (5), .bool false, .bool true] 52) :: pt (blk (f 63)) (.cells #[.int .i64 (1), .int .i64 (2), .int .i64 (30)] 78) :: M) (by rfl) (up_cons rfl hs64) ?_
  refine l_call rfl rfl rfl (cl_value (fst := []) (cap := []) (vs := [.agg #[.slice (some ⟨(blk (f 61)), 0, none⟩) 2 2, .slice (some ⟨(blk (f 63)), 0, none⟩) 1 1, .int .i64 (0), .int .i64 (0)]]) (all := [.agg #[.slice (some ⟨(blk (f 61)), 0, none⟩) 2 2, .slice (some ⟨(blk (f 63)), 0, none⟩) 1 1, .int .i64 (0), .int .i64 (0)]]) tf108 rfl rfl rfl) ?_
  intro w hw
  obtain ⟨β1, sb, kn, hw1, back⟩ := St.frame_all hw
  have hG1 := GR.mono sb hG
  refine (ends1_ok β1 w hw1 _ _ (0) (0) e4 eR (kn _ (k_ptFls (F := BodyF) 0 (m := 2) (xs := e4) rfl rfl rfl (by decide))) (kn _ (k_ptFls (F := RopeF) 1 (m := 1) (xs := eR) rfl rfl rfl (by decide))) (by decide) (by decide) hG1 e4_ok f4 [(⟨1, 1, -1⟩ : KS)] e4_step rfl _ rfl _ rfl rfl).mono ?_
  rintro e w' ⟨rfl, hw'⟩
  refine ⟨_, rfl, _, back _ _ hw', ?_⟩
  clear hw hw1 hw' back kn sb
  refine l_nil ?_
  exact f_owes_d (up_cons rfl hs64) rfl ((perm_front 1 rfl).trans (perm_front 1 rfl))
 ·rintro f M ⟨k0, -⟩ -
  have hs65 : f 65 = .tuple #[.agg #[.int .i64 (0), .int .i64 (0)], .agg #[.int .i64 (0), .int .i64 (0)], .agg #[.int .i64 (1), .int .u8 (1), .int .i64 (-1)]] := k0
  refine ob_start (L' := M) (by rfl) (up_cons rfl hs65) ?_
  refine l_val (v := .tuple #[.agg #[.int .i64 (0), .int .i64 (0)], .agg #[.int .i64 (0), .int .i64 (0)], .agg #[.int .i64 (1), .int .u8 (1), .int .i64 (-1)]]) rfl rfl rfl (e_move) ?_
  refine l_nil ?_
  exact f_owes_d (up_cons rfl hs65) rfl (List.Perm.refl _)
 ·rintro f M ⟨k0, -⟩ -
  have hs57 : f 57 = .tuple #[.agg #[.int .i64 (0), .int .i64 (0)], .agg #[.int .i64 (0), .int .i64 (0)], .agg #[.int .i64 (1), .int .u8 (1), .int .i64 (-1)]] := k0
  refine ob_start (L' := M) (by rfl) (up_cons rfl hs57) ?_
  refine l_val (v := .agg #[.int .i64 (0), .int .i64 (0)]) rfl rfl rfl (e_extract (vs := #[.agg #[.int .i64 (0), .int .i64 (0)], .agg #[.int .i64 (0), .int .i64 (0)], .agg #[.int .i64 (1), .int .u8 (1), .int .i64 (-1)]]) rfl rfl) ?_
  refine l_nil ?_
  exact f_owes_d (up_cons rfl hs57) rfl (List.Perm.refl _)
 ·rintro f M ⟨k0, -⟩ -
  have hs57 : f 57 = .tuple #[.agg #[.int .i64 (0), .int .i64 (0)], .agg #[.int .i64 (0), .int .i64 (0)], .agg #[.int .i64 (1), .int .u8 (1), .int .i64 (-1)]] := k0
  refine ob_start (L' := M) (by rfl) (up_cons rfl hs57) ?_
  refine l_val (v := .agg #[.int .i64 (0), .int .i64 (0)]) rfl rfl rfl (e_extract (vs := #[.agg #[.int .i64 (0), .int .i64 (0)], .agg #[.int .i64 (0), .int .i64 (0)], .agg #[.int .i64 (1), .int .u8 (1), .int .i64 (-1)]]) rfl rfl) ?_
  refine l_nil ?_
  exact f_owes_d (up_cons rfl hs57) rfl (List.Perm.refl _)
 ·rintro f M ⟨k0, -⟩ -
  have hs57 : f 57 = .tuple #[.agg #[.int .i64 (0), .int .i64 (0)], .agg #[.int .i64 (0), .int .i64 (0)], .agg #[.int .i64 (1), .int .u8 (1), .int .i64 (-1)]] := k0
  refine ob_start (L' := M) (by rfl) (up_cons rfl hs57) ?_
  refine l_val (v := .agg #[.int .i64 (1), .int .u8 (1), .int .i64 (-1)]) rfl rfl rfl (e_extract (vs := #[.agg #[.int .i64 (0), .int .i64 (0)], .agg #[.int .i64 (0), .int .i64 (0)], .agg #[.int .i64 (1), .int .u8 (1), .int .i64 (-1)]]) rfl rfl) ?_
  refine l_nil ?_
  exact f_owes_d (up_cons rfl hs57) rfl (List.Perm.refl _)
 ·rintro f M - -
  refine ob_start (L' := M) (by rfl) rfl ?_
  refine l_mv rfl rfl rfl (m_alloc tf17) ?_
  rintro _ _ ⟨b33, rfl, rfl⟩
  refine l_nil ?_
  exact f_owes_d rfl rfl (perm_front 0 rfl)
 ·rintro f M - -
  refine ob_start (L' := M) (by rfl) rfl ?_
  refine l_mv rfl rfl rfl (m_alloc tf17) ?_
  rintro _ _ ⟨b35, rfl, rfl⟩
  refine l_nil ?_
  exact f_owes_d rfl rfl (perm_front 0 rfl)
 ·rintro f M - -
  refine ob_start (L' := M) (by rfl) rfl ?_
  refine l_mv rfl rfl rfl (m_alloc tf99) ?_
  rintro _ _ ⟨b37, rfl, rfl⟩
  refine l_nil ?_
  exact f_owes_d rfl rfl (perm_front 0 rfl)
 ·rintro f M ⟨k0, k1, -⟩ -
  have hs14 : f 14 = .pointer (some ⟨(blk (f 14)), 0, none⟩) := k0
  have hs66 : f 66 = .agg #[.int .i64 (0), .int .i64 (0)] := k1
  refine ob_start (L' := pt (blk (f 14)) (.cells #[.int .i64 (0), .int .i64 (0)] 28) :: M) (by rfl) (up_cons (up_cons rfl hs14) hs66) ?_
  refine l_mu rfl rfl (m_store 0 tf15 (b := (blk (f 14))) (o := 0) (T := 28) (cs := #[.int .i64 (0), .int .i64 (0)]) (cs' := #[.int .i64 (0), .int .i64 (0)]) (v := .agg #[.int .i64 (0), .int .i64 (0)]) rfl rfl rfl rfl rfl rfl rfl) ?_
  refine l_nil ?_
  exact f_owes_n (up_cons (up_cons rfl hs14) hs66) trivial (perm_front 0 rfl)
 ·rintro f M ⟨k0, k1, -⟩ -
  have hs15 : f 15 = .pointer (some ⟨(blk (f 15)), 0, none⟩) := k0
  have hs67 : f 67 = .agg #[.int .i64 (0), .int .i64 (0)] := k1
  refine ob_start (L' := pt (blk (f 15)) (.cells #[.int .i64 (0), .int .i64 (0)] 28) :: M) (by rfl) (up_cons (up_cons rfl hs15) hs67) ?_
  refine l_mu rfl rfl (m_store 0 tf15 (b := (blk (f 15))) (o := 0) (T := 28) (cs := #[.int .i64 (0), .int .i64 (0)]) (cs' := #[.int .i64 (0), .int .i64 (0)]) (v := .agg #[.int .i64 (0), .int .i64 (0)]) rfl rfl rfl rfl rfl rfl rfl) ?_
  refine l_nil ?_
  exact f_owes_n (up_cons (up_cons rfl hs15) hs67) trivial (perm_front 0 rfl)
 ·rintro f M ⟨k0, k1, -⟩ -
  have hs16 : f 16 = .pointer (some ⟨(blk (f 16)), 0, none⟩) := k0
  have hs68 : f 68 = .agg #[.int .i64 (1), .int .u8 (1), .int .i64 (-1)] := k1
  refine ob_start (L' := pt (blk (f 16)) (.cells #[.int .i64 (0), .int .u8 (0), .int .i64 (0)] 55) :: M) (by rfl) (up_cons (up_cons rfl hs16) hs68) ?_
  refine l_mu rfl rfl (m_store 0 tf106 (b := (blk (f 16))) (o := 0) (T := 55) (cs := #[.int .i64 (0), .int .u8 (0), .int .i64 (0)]) (cs' := #[.int .i64 (1), .int .u8 (1), .int .i64 (-1)]) (v := .agg #[.int .i64 (1), .int .u8 (1), .int .i64 (-1)]) rfl rfl rfl rfl rfl rfl rfl) ?_
  refine l_nil ?_
  exact f_owes_n (up_cons (up_cons rfl hs16) hs68) trivial (perm_front 0 rfl)
 rintro fa38 ⟨-, -, -, -, -, -, -, -, -, -, -, -, k12, -, k14, -, -, -, -⟩ ⟨j0, j1, j2, j3, j4, j5, j6, j7, j8, -⟩
 refine f_re (L' := [pt b27 (.cells #[.int .i64 (1), .int .u8 (1), .int .i64 (2)] 55), pt b26 (.cells #[.int .i64 (0), .int .i64 (0)] 28), pt b25 (.cells #[.int .i64 (28), .int .i64 (0)] 28), pt b24 (.cells #[.int .i64 (1), .int .i64 (0), .int .i64 (0), .int .i64 (50), .int .i64 (0), .int .i64 (10), .int .i64 (10), .bool true, .bool false, .int .i64 (2), .int .i64 (40), .int .i64 (16), .int .i64 (0), .int .i64 (0), .int .i64 (10), .int .i64 (10), .bool true, .bool true] 52), pt b14 (.cells #[.int .i64 (0), .int .u8 (0), .int .i64 (0)] 55), pt b13 (.cells #[.int .i64 (50), .int .i64 (0)] 28), pt b12 (.cells #[.int .i64 (50), .int .i64 (0)] 28), pt b11 (.cells #[.int .i64 (1), .int .i64 (0), .int .i64 (0), .int .i64 (50), .int .i64 (0), .int .i64 (10), .int .i64 (10), .bool false, .bool false] 52), pt b1 (.cells #[.int .i64 (1), .int .i64 (0), .int .i64 (0), .int .i64 (50), .int .i64 (0), .int .i64 (10), .int .i64 (10), .bool false, .bool false] 52), pt (blk (fa10 22)) (.cells #[.int .i64 (1), .int .i64 (0), .int .i64 (0), .int .i64 (50), .int .i64 (0), .int .i64 (10), .int .i64 (10), .bool false, .bool false, .int .i64 (2), .int .i64 (60), .int .i64 (0), .int .i64 (0), .int .i64 (0), .int .i64 (10), .int .i64 (10), .bool false, .bool true] 52), pt (blk (fa10 2)) (.cells #[.int .i64 (40), .int .i64 (0)] 28), pt (blk (fa10 3)) (.cells #[.int .i64 (0), .int .i64 (0)] 28), pt (blk (fa10 4)) (.cells #[.int .i64 (1), .int .u8 (1), .int .i64 (2)] 55), pt (blk (fa23 40)) (.cells #[.int .i64 (1), .int .i64 (0), .int .i64 (0), .int .i64 (50), .int .i64 (0), .int .i64 (10), .int .i64 (10), .bool false, .bool false, .int .i64 (3), .int .i64 (0), .int .i64 (-15), .int .i64 (0), .int .i64 (0), .int .i64 (500), .int .i64 (5), .bool false, .bool true] 52), pt (blk (fa23 8)) (.cells #[.int .i64 (50), .int .i64 (0)] 28), pt (blk (fa23 9)) (.cells #[.int .i64 (50), .int .i64 (0)] 28), pt (blk (fa23 10)) (.cells #[.int .i64 (1), .int .u8 (2), .int .i64 (3)] 55), pt (blk (fa38 61)) (.cells #[.int .i64 (1), .int .i64 (0), .int .i64 (0), .int .i64 (50), .int .i64 (0), .int .i64 (10), .int .i64 (10), .bool false, .bool false, .int .i64 (2), .int .i64 (0), .int .i64 (100), .int .i64 (0), .int .i64 (0), .int .i64 (5), .int .i64 (5), .bool false, .bool true] 52), pt (blk (fa38 63)) (.cells #[.int .i64 (1), .int .i64 (2), .int .i64 (30)] 78), pt (blk (fa38 14)) (.cells #[.int .i64 (0), .int .i64 (0)] 28), pt (blk (fa38 15)) (.cells #[.int .i64 (0), .int .i64 (0)] 28), pt (blk (fa38 16)) (.cells #[.int .i64 (1), .int .u8 (1), .int .i64 (-1)] 55)]) (by rfl) ?_
 refine f_rebase (d := 2) (v := .pointer (some ⟨(blk (fa10 2)), 0, none⟩)) j0 ?_
 refine f_rebase (d := 3) (v := .pointer (some ⟨(blk (fa10 3)), 0, none⟩)) j1 ?_
 refine f_rebase (d := 4) (v := .pointer (some ⟨(blk (fa10 4)), 0, none⟩)) j2 ?_
 refine f_rebase (d := 5) (v := .pointer (some ⟨b12, 0, none⟩)) j3 ?_
 refine f_rebase (d := 7) (v := .pointer (some ⟨b14, 0, none⟩)) j4 ?_
 refine f_rebase (d := 9) (v := .pointer (some ⟨(blk (fa23 9)), 0, none⟩)) j5 ?_
 refine f_rebase (d := 10) (v := .pointer (some ⟨(blk (fa23 10)), 0, none⟩)) j6 ?_
 refine f_rebase (d := 11) (v := .pointer (some ⟨b25, 0, none⟩)) j7 ?_
 refine f_rebase (d := 13) (v := .pointer (some ⟨b27, 0, none⟩)) j8 ?_
 refine f_rebase (d := 14) (v := .pointer (some ⟨(blk (fa38 14)), 0, none⟩)) k12 ?_
 refine f_rebase (d := 16) (v := .pointer (some ⟨(blk (fa38 16)), 0, none⟩)) k14 ?_
 refine f_then ?_
 refine c_seq ?_
 refine c_seq ?_
 refine c_region ?_
 refine l_val (v := .agg #[.int .i64 (40), .int .i64 (0)]) rfl rfl rfl (e_load tf15 (cs := [.int .i64 (40), .int .i64 (0)]) rfl (k_pt 10 (cs := #[.int .i64 (40), .int .i64 (0)]) (vs := [.int .i64 (40), .int .i64 (0)]) rfl rfl) rfl) ?_
 refine l_val (v := .agg #[.int .i64 (40), .int .i64 (0)]) rfl rfl rfl (e_build tf17 tf16 (vs := [(0, .int .i64 (40))]) (cells := #[.int .i64 (40), .int .i64 (0)]) rfl rfl) ?_
 refine l_val (v := .bool false) rfl rfl rfl ((ev_f (by decide) (e_neq_t (p := ¬ ((40 : Int) = (40 : Int) ∧ (0 : Int) = (0 : Int))) (xs := [.int .i64 (40), .int .i64 (0)]) (ys := [.int .i64 (40), .int .i64 (0)]) tf18 tf19 tf20 rfl rfl rfl rfl (not_congr vec_eq)))) ?_
 refine l_val (v := .bool false) rfl rfl rfl (e_move) ?_
 refine g_val (v := .agg #[.int .i64 (0), .int .i64 (0)]) rfl rfl rfl rfl rfl (e_load tf15 (cs := [.int .i64 (0), .int .i64 (0)]) rfl (k_pt 11 (cs := #[.int .i64 (0), .int .i64 (0)]) (vs := [.int .i64 (0), .int .i64 (0)]) rfl rfl) rfl) ?_
 refine g_val (v := .agg #[.int .i64 (0), .int .i64 (0)]) rfl rfl rfl rfl rfl (e_build tf17 tf16 (vs := []) (cells := #[.int .i64 (0), .int .i64 (0)]) rfl rfl) ?_
 refine g_val (v := .bool false) rfl rfl rfl rfl rfl ((ev_f (by decide) (e_neq_t (p := ¬ ((0 : Int) = (0 : Int) ∧ (0 : Int) = (0 : Int))) (xs := [.int .i64 (0), .int .i64 (0)]) (ys := [.int .i64 (0), .int .i64 (0)]) tf18 tf19 tf20 rfl rfl rfl rfl (not_congr vec_eq)))) ?_
 refine l_val (v := .bool false) rfl rfl rfl (e_pick_f rfl) ?_
 refine l_val (v := .bool false) rfl rfl rfl (e_move) ?_
 refine g_val (v := .agg #[.int .i64 (1), .int .u8 (1), .int .i64 (2)]) rfl rfl rfl rfl rfl (e_load tf106 (cs := [.int .i64 (1), .int .u8 (1), .int .i64 (2)]) rfl (k_pt 12 (cs := #[.int .i64 (1), .int .u8 (1), .int .i64 (2)]) (vs := [.int .i64 (1), .int .u8 (1), .int .i64 (2)]) rfl rfl) rfl) ?_
 refine g_val (v := .agg #[.int .i64 (1), .int .u8 (1), .int .i64 (2)]) rfl rfl rfl rfl rfl (e_build tf99 tf98 (vs := [(0, .int .i64 (1)), (1, .int .u8 (1)), (2, .int .i64 (2))]) (cells := #[.int .i64 (1), .int .u8 (1), .int .i64 (2)]) rfl rfl) ?_
 refine g_val (v := .bool false) rfl rfl rfl rfl rfl ((ev_f (by decide) (e_neq_t (p := ¬ ((⟨(1), (1), (2)⟩ : KS) = ⟨(1), (1), (2)⟩)) (xs := [.int .i64 (1), .int .u8 (1), .int .i64 (2)]) (ys := [.int .i64 (1), .int .u8 (1), .int .i64 (2)]) tf111 tf112 tf113 rfl rfl rfl rfl (not_congr (stop_eq (x := ⟨(1), (1), (2)⟩) (y := ⟨(1), (1), (2)⟩)))))) ?_
 refine l_val (v := .bool false) rfl rfl rfl (e_pick_f rfl) ?_
 refine l_val (v := .bool false) rfl rfl rfl (e_move) ?_
 refine g_val (v := .agg #[.int .i64 (50), .int .i64 (0)]) rfl rfl rfl rfl rfl (e_load tf15 (cs := [.int .i64 (50), .int .i64 (0)]) rfl (k_pt 6 (cs := #[.int .i64 (50), .int .i64 (0)]) (vs := [.int .i64 (50), .int .i64 (0)]) rfl rfl) rfl) ?_
 refine g_val (v := .agg #[.int .i64 (50), .int .i64 (0)]) rfl rfl rfl rfl rfl (e_build tf17 tf16 (vs := [(0, .int .i64 (50))]) (cells := #[.int .i64 (50), .int .i64 (0)]) rfl rfl) ?_
 refine g_val (v := .bool false) rfl rfl rfl rfl rfl ((ev_f (by decide) (e_neq_t (p := ¬ ((50 : Int) = (50 : Int) ∧ (0 : Int) = (0 : Int))) (xs := [.int .i64 (50), .int .i64 (0)]) (ys := [.int .i64 (50), .int .i64 (0)]) tf18 tf19 tf20 rfl rfl rfl rfl (not_congr vec_eq)))) ?_
 refine l_val (v := .bool false) rfl rfl rfl (e_pick_f rfl) ?_
 refine l_val (v := .bool false) rfl rfl rfl (e_move) ?_
 refine g_val (v := .agg #[.int .i64 (0), .int .u8 (0), .int .i64 (0)]) rfl rfl rfl rfl rfl (e_load tf106 (cs := [.int .i64 (0), .int .u8 (0), .int .i64 (0)]) rfl (k_pt 4 (cs := #[.int .i64 (0), .int .u8 (0), .int .i64 (0)]) (vs := [.int .i64 (0), .int .u8 (0), .int .i64 (0)]) rfl rfl) rfl) ?_
 refine g_val (v := .agg #[.int .i64 (0), .int .u8 (0), .int .i64 (0)]) rfl rfl rfl rfl rfl (e_build tf99 tf98 (vs := []) (cells := #[.int .i64 (0), .int .u8 (0), .int .i64 (0)]) rfl rfl) ?_
 refine g_val (v := .bool false) rfl rfl rfl rfl rfl ((ev_f (by decide) (e_neq_t (p := ¬ ((⟨(0), (0), (0)⟩ : KS) = ⟨(0), (0), (0)⟩)) (xs := [.int .i64 (0), .int .u8 (0), .int .i64 (0)]) (ys := [.int .i64 (0), .int .u8 (0), .int .i64 (0)]) tf111 tf112 tf113 rfl rfl rfl rfl (not_congr (stop_eq (x := ⟨(0), (0), (0)⟩) (y := ⟨(0), (0), (0)⟩)))))) ?_
 refine l_val (v := .bool false) rfl rfl rfl (e_pick_f rfl) ?_
 refine l_nil ?_
 refine f_then ?_
 refine c_no rfl ?_
 refine c_skip ?_
 refine f_then ?_
 refine c_seq ?_
 refine c_region ?_
 refine l_val (v := .agg #[.int .i64 (50), .int .i64 (0)]) rfl rfl rfl (e_load tf15 (cs := [.int .i64 (50), .int .i64 (0)]) rfl (k_pt 15 (cs := #[.int .i64 (50), .int .i64 (0)]) (vs := [.int .i64 (50), .int .i64 (0)]) rfl rfl) rfl) ?_
 refine l_val (v := .agg #[.int .i64 (50), .int .i64 (0)]) rfl rfl rfl (e_build tf17 tf16 (vs := [(0, .int .i64 (50))]) (cells := #[.int .i64 (50), .int .i64 (0)]) rfl rfl) ?_
 refine l_val (v := .bool true) rfl rfl rfl ((ev_t (by decide) (e_eql_t (p := (50 : Int) = (50 : Int) ∧ (0 : Int) = (0 : Int)) (xs := [.int .i64 (50), .int .i64 (0)]) (ys := [.int .i64 (50), .int .i64 (0)]) tf18 tf19 tf20 rfl rfl rfl rfl vec_eq))) ?_
 refine l_val (v := .bool true) rfl rfl rfl (e_move) ?_
 refine g_val (v := .agg #[.int .i64 (1), .int .u8 (2), .int .i64 (3)]) rfl rfl rfl rfl rfl (e_load tf106 (cs := [.int .i64 (1), .int .u8 (2), .int .i64 (3)]) rfl (k_pt 16 (cs := #[.int .i64 (1), .int .u8 (2), .int .i64 (3)]) (vs := [.int .i64 (1), .int .u8 (2), .int .i64 (3)]) rfl rfl) rfl) ?_
 refine g_val (v := .agg #[.int .i64 (1), .int .u8 (2), .int .i64 (3)]) rfl rfl rfl rfl rfl (e_build tf99 tf98 (vs := [(0, .int .i64 (1)), (1, .int .u8 (2)), (2, .int .i64 (3))]) (cells := #[.int .i64 (1), .int .u8 (2), .int .i64 (3)]) rfl rfl) ?_
 refine g_val (v := .bool true) rfl rfl rfl rfl rfl ((ev_t (by decide) (e_eql_t (p := (⟨(1), (2), (3)⟩ : KS) = ⟨(1), (2), (3)⟩) (xs := [.int .i64 (1), .int .u8 (2), .int .i64 (3)]) (ys := [.int .i64 (1), .int .u8 (2), .int .i64 (3)]) tf111 tf112 tf113 rfl rfl rfl rfl (stop_eq (x := ⟨(1), (2), (3)⟩) (y := ⟨(1), (2), (3)⟩))))) ?_
 refine l_val (v := .bool true) rfl rfl rfl (e_pick_t rfl) ?_
 refine l_val (v := .bool true) rfl rfl rfl (e_move) ?_
 refine g_val (v := .agg #[.int .i64 (28), .int .i64 (0)]) rfl rfl rfl rfl rfl (e_load tf15 (cs := [.int .i64 (28), .int .i64 (0)]) rfl (k_pt 2 (cs := #[.int .i64 (28), .int .i64 (0)]) (vs := [.int .i64 (28), .int .i64 (0)]) rfl rfl) rfl) ?_
 refine g_val (v := .agg #[.int .i64 (28), .int .i64 (0)]) rfl rfl rfl rfl rfl (e_build tf17 tf16 (vs := [(0, .int .i64 (28))]) (cells := #[.int .i64 (28), .int .i64 (0)]) rfl rfl) ?_
 refine g_val (v := .bool true) rfl rfl rfl rfl rfl ((ev_t (by decide) (e_eql_t (p := (28 : Int) = (28 : Int) ∧ (0 : Int) = (0 : Int)) (xs := [.int .i64 (28), .int .i64 (0)]) (ys := [.int .i64 (28), .int .i64 (0)]) tf18 tf19 tf20 rfl rfl rfl rfl vec_eq))) ?_
 refine l_val (v := .bool true) rfl rfl rfl (e_pick_t rfl) ?_
 refine l_val (v := .bool true) rfl rfl rfl (e_move) ?_
 refine g_val (v := .agg #[.int .i64 (1), .int .u8 (1), .int .i64 (2)]) rfl rfl rfl rfl rfl (e_load tf106 (cs := [.int .i64 (1), .int .u8 (1), .int .i64 (2)]) rfl (k_pt 0 (cs := #[.int .i64 (1), .int .u8 (1), .int .i64 (2)]) (vs := [.int .i64 (1), .int .u8 (1), .int .i64 (2)]) rfl rfl) rfl) ?_
 refine g_val (v := .agg #[.int .i64 (1), .int .u8 (1), .int .i64 (2)]) rfl rfl rfl rfl rfl (e_build tf99 tf98 (vs := [(0, .int .i64 (1)), (1, .int .u8 (1)), (2, .int .i64 (2))]) (cells := #[.int .i64 (1), .int .u8 (1), .int .i64 (2)]) rfl rfl) ?_
 refine g_val (v := .bool true) rfl rfl rfl rfl rfl ((ev_t (by decide) (e_eql_t (p := (⟨(1), (1), (2)⟩ : KS) = ⟨(1), (1), (2)⟩) (xs := [.int .i64 (1), .int .u8 (1), .int .i64 (2)]) (ys := [.int .i64 (1), .int .u8 (1), .int .i64 (2)]) tf111 tf112 tf113 rfl rfl rfl rfl (stop_eq (x := ⟨(1), (1), (2)⟩) (y := ⟨(1), (1), (2)⟩))))) ?_
 refine l_val (v := .bool true) rfl rfl rfl (e_pick_t rfl) ?_
 refine l_val (v := .bool true) rfl rfl rfl (e_move) ?_
 refine g_val (v := .agg #[.int .i64 (0), .int .i64 (0)]) rfl rfl rfl rfl rfl (e_load tf15 (cs := [.int .i64 (0), .int .i64 (0)]) rfl (k_pt 19 (cs := #[.int .i64 (0), .int .i64 (0)]) (vs := [.int .i64 (0), .int .i64 (0)]) rfl rfl) rfl) ?_
 refine g_val (v := .agg #[.int .i64 (0), .int .i64 (0)]) rfl rfl rfl rfl rfl (e_build tf17 tf16 (vs := []) (cells := #[.int .i64 (0), .int .i64 (0)]) rfl rfl) ?_
 refine g_val (v := .bool true) rfl rfl rfl rfl rfl ((ev_t (by decide) (e_eql_t (p := (0 : Int) = (0 : Int) ∧ (0 : Int) = (0 : Int)) (xs := [.int .i64 (0), .int .i64 (0)]) (ys := [.int .i64 (0), .int .i64 (0)]) tf18 tf19 tf20 rfl rfl rfl rfl vec_eq))) ?_
 refine l_val (v := .bool true) rfl rfl rfl (e_pick_t rfl) ?_
 refine l_val (v := .bool true) rfl rfl rfl (e_move) ?_
 refine g_val (v := .agg #[.int .i64 (1), .int .u8 (1), .int .i64 (-1)]) rfl rfl rfl rfl rfl (e_load tf106 (cs := [.int .i64 (1), .int .u8 (1), .int .i64 (-1)]) rfl (k_pt 21 (cs := #[.int .i64 (1), .int .u8 (1), .int .i64 (-1)]) (vs := [.int .i64 (1), .int .u8 (1), .int .i64 (-1)]) rfl rfl) rfl) ?_
 refine g_val (v := .agg #[.int .i64 (1), .int .u8 (1), .int .i64 (-1)]) rfl rfl rfl rfl rfl (e_build tf99 tf98 (vs := [(0, .int .i64 (1)), (1, .int .u8 (1)), (2, .int .i64 (-1))]) (cells := #[.int .i64 (1), .int .u8 (1), .int .i64 (-1)]) rfl rfl) ?_
 refine g_val (v := .bool true) rfl rfl rfl rfl rfl ((ev_t (by decide) (e_eql_t (p := (⟨(1), (1), (-1)⟩ : KS) = ⟨(1), (1), (-1)⟩) (xs := [.int .i64 (1), .int .u8 (1), .int .i64 (-1)]) (ys := [.int .i64 (1), .int .u8 (1), .int .i64 (-1)]) tf111 tf112 tf113 rfl rfl rfl rfl (stop_eq (x := ⟨(1), (1), (-1)⟩) (y := ⟨(1), (1), (-1)⟩))))) ?_
 refine l_val (v := .bool true) rfl rfl rfl (e_pick_t rfl) ?_
 refine l_val (v := .bool true) rfl rfl rfl (e_assign) ?_
 refine l_nil ?_
 refine f_then ?_
 refine c_ret ?_
 refine ret1 Tryz.results7 (v := .bool true) rfl ?_
 intro w hw
 exact ⟨rfl, st_mask [false, false, false, false, false, false, false, false, false, false, false, false, false, false, false, false, false, false, false, false, false, false] rfl hw⟩
end Go.Proofs
