/-
 The examples of the chapter stand. Printed by a program of my own.
-/
import Derived.Test.YtdkibofhppgbjaaGreatDoorSt8
import Derived.Test.YtdkibofhppgbjaaGreatDoorStAwk
import Derived.Test.YtdkibofhppgbjaaGreatDoorSlB
namespace Go.Proofs
open Go Go.Sl Go.Stp
instance tf107 : CfC Tryz.prog 33 := ⟨by kernel_rfl⟩
instance tf108 : CfC Tryz.prog 32 := ⟨by kernel_rfl⟩
instance tf109 : CfC Tryz.prog 34 := ⟨by kernel_rfl⟩
theorem tf110 : stB Tryz.prog 78 [(0, 1), (1, 1), (2, 1)] = true := by kernel_rfl
theorem tf111 : lay Tryz.prog 10000 55 = some [.int .i64, .int .u8, .int .i64] := by kernel_rfl
theorem tf112 : isAggT Tryz.prog 55 = true := by kernel_rfl
theorem tf113 : Tryz.prog.eqGuardType Tryz.prog.depth 55 = false := by kernel_rfl
set_option maxHeartbeats 4000000 in
theorem awake_ok (β : Base) (w : World) (hw : St β [] w) (hG : GR β) : Ret Tryz.prog 7 #[] β w (.bool true) := by
 refine enter (n := 120) Tryz.func7 rfl Tryz.ntmps7 rfl ?_ hw
 refine csr (lE oab (lnc (lcR clA (fun w β1 sb kn hw1 => box_ok β1 w hw1 (1 : Int) (0 : Int) (0 : Int) (10 : Int) (10 : Int) (50 : Int) (0 : Int)) ?_)))
 refine alE fun b1 => ?_
 refine lu (mS 0 (#[.int .i64 (1),.int .i64 (0),.int .i64 (0),.int .i64 (50),.int .i64 (0),.int .i64 (10),.int .i64 (10),.bool false,.bool false])) ?_
 refine lnf (c_seq ?_)
 refine cny [sv 19 (.agg #[.int .i64 (1),.int .i64 (0),.int .i64 (0),.int .i64 (50),.int .i64 (0),.int .i64 (10),.int .i64 (10),.bool false,.bool false]) [] [] [0],sv 20 (.agg #[.int .i64 (2),.int .i64 (60),.int .i64 (0),.int .i64 (0),.int .i64 (0),.int .i64 (10),.int .i64 (10),.bool false,.bool false]) [] [] [],sv 21 (.agg #[.int .i64 (2),.int .i64 (60),.int .i64 (0),.int .i64 (0),.int .i64 (0),.int .i64 (10),.int .i64 (10),.bool false,.bool true]) [1] [1] [],⟨[0,1,2],[0,2],[],[22],fun f => f 22 = .slice (some ⟨(blk (f 22)),0,none⟩) 2 2⟩,⟨[0,1,2,3],[3],[],[22,23],fun f => f 23 = .agg #[.slice (some ⟨(blk (f 22)),0,none⟩) 2 2,.slice none 0 0,.int .i64 (0),.int .i64 (0)]⟩,sv 24 (.tuple #[.agg #[.int .i64 (40),.int .i64 (0)],.agg #[.int .i64 (0),.int .i64 (0)],.agg #[.int .i64 (1),.int .u8 (1),.int .i64 (2)]]) [0,1,2,3,4] [4] [],sv 18 (.tuple #[.agg #[.int .i64 (40),.int .i64 (0)],.agg #[.int .i64 (0),.int .i64 (0)],.agg #[.int .i64 (1),.int .u8 (1),.int .i64 (2)]]) (List.range 6) [5] [],sv 25 (.agg #[.int .i64 (40),.int .i64 (0)]) (List.range 7) [6] [],sv 26 (.agg #[.int .i64 (0),.int .i64 (0)]) (List.range 7) [6] [],sv 27 (.agg #[.int .i64 (1),.int .u8 (1),.int .i64 (2)]) (List.range 7) [6] [],⟨[],[],[],[2],fun f => f 2 = .pointer (some ⟨(blk (f 2)),0,none⟩)⟩,⟨[],[],[],[3],fun f => f 3 = .pointer (some ⟨(blk (f 3)),0,none⟩)⟩,⟨[],[],[],[4],fun f => f 4 = .pointer (some ⟨(blk (f 4)),0,none⟩)⟩,⟨[0,1,2,3,4,5,6,7,10,11,12],[10,7],[],[],fun _ => True⟩,⟨[0,1,2,3,4,5,6,7,8,10,11,12,13],[11,8],[],[],fun _ => True⟩,⟨(List.range 15),[12,9],[],[],fun _ => True⟩] [tk (pt b1 (.cells #[.int .i64 (1),.int .i64 (0),.int .i64 (0),.int .i64 (50),.int .i64 (0),.int .i64 (10),.int .i64 (10),.bool false,.bool false] 52)) [0],⟨(some 3),none,[5],[22],fun f => pt (blk (f 22)) (.cells #[.int .i64 (1),.int .i64 (0),.int .i64 (0),.int .i64 (50),.int .i64 (0),.int .i64 (10),.int .i64 (10),.bool false,.bool false,.int .i64 (2),.int .i64 (60),.int .i64 (0),.int .i64 (0),.int .i64 (0),.int .i64 (10),.int .i64 (10),.bool false,.bool true] 52)⟩,⟨(some 10),(some 13),[13],[2],fun f => pt (blk (f 2)) (.cells #[.int .i64 (0),.int .i64 (0)] 28)⟩,⟨(some 11),(some 14),[14],[3],fun f => pt (blk (f 3)) (.cells #[.int .i64 (0),.int .i64 (0)] 28)⟩,⟨(some 12),(some 15),[15],[4],fun f => pt (blk (f 4)) (.cells #[.int .i64 (0),.int .u8 (0),.int .i64 (0)] 55)⟩,⟨(some 13),none,[],[2],fun f => pt (blk (f 2)) (.cells #[.int .i64 (40),.int .i64 (0)] 28)⟩,⟨(some 14),none,[],[3],fun f => pt (blk (f 3)) (.cells #[.int .i64 (0),.int .i64 (0)] 28)⟩,⟨(some 15),none,[],[4],fun f => pt (blk (f 4)) (.cells #[.int .i64 (1),.int .u8 (1),.int .i64 (2)] 55)⟩] [(1,pp b1 0)] [0] [] ⟨rfl,trivial⟩ ⟨?_,?_,?_,?_,?_,?_,?_,?_,?_,?_,?_,?_,?_,?_,?_,?_,trivial⟩ ?_
 ·rintro f M - ⟨i0,-⟩
  exact obE (olg 0)
 ·rintro f M - -
  refine ob_start (L' := M) (by rfl) rfl ?_
  refine lcR clA (fun w β1 sb kn hw1 => box_ok β1 w hw1 (2 : Int) (60 : Int) (0 : Int) (10 : Int) (10 : Int) (0 : Int) (0 : Int)) (l_nil ?_)
  exact f_owes_d rfl rfl (List.Perm.refl _)
 ·rintro f M ⟨k0,-⟩ -
  refine ob_start (L' := M) (by rfl) (up_cons (d := 20) rfl k0) ?_
  refine lcR clA (fun w β1 sb kn hw1 => fixed_ok β1 w hw1 (⟨2,60,0,0,0,10,10,false,false⟩ : KB)) (l_nil ?_)
  exact f_owes_d (up_cons (d := 20) rfl k0) rfl (List.Perm.refl _)
 ·rintro f M ⟨k0,k1,-⟩ -
  refine ob_start (L' := M) (by rfl) (up_cons (d := 21) (up_cons (d := 19) rfl k0) k1) ?_
  refine l_mv rfl rfl rfl (m_slices tf43 tf58.ok (cells := #[.int .i64 (1),.int .i64 (0),.int .i64 (0),.int .i64 (50),.int .i64 (0),.int .i64 (10),.int .i64 (10),.bool false,.bool false,.int .i64 (2),.int .i64 (60),.int .i64 (0),.int .i64 (0),.int .i64 (0),.int .i64 (10),.int .i64 (10),.bool false,.bool true]) rfl rfl rfl (by kernel_rfl)) ?_
  rintro _ _ ⟨b3,rfl,rfl⟩
  refine l_nil ?_
  exact f_owes_d (up_cons (d := 21) (up_cons (d := 19) rfl k0) k1) rfl (perm_front 0 rfl)
 ·rintro f M ⟨k0,-⟩ -
  have hs22 : f 22 = .slice (some ⟨(blk (f 22)),0,none⟩) 2 2 := k0
  exact ob0 (up_cons rfl hs22) rfl (e_build tf85.ok tf88 (vs := [(0,.slice (some ⟨(blk (f 22)),0,none⟩) 2 2)]) (cells := #[.slice (some ⟨(blk (f 22)),0,none⟩) 2 2,.slice none 0 0,.int .i64 (0),.int .i64 (0)]) rfl rfl) (.refl _)
 ·rintro f M ⟨k0,-⟩ -
  have hs23 : f 23 = .agg #[.slice (some ⟨(blk (f 22)),0,none⟩) 2 2,.slice none 0 0,.int .i64 (0),.int .i64 (0)] := k0
  refine ob_start (L' := pt (blk (f 22)) (.cells #[.int .i64 (1),.int .i64 (0),.int .i64 (0),.int .i64 (50),.int .i64 (0),.int .i64 (10),.int .i64 (10),.bool false,.bool false,.int .i64 (2),.int .i64 (60),.int .i64 (0),.int .i64 (0),.int .i64 (0),.int .i64 (10),.int .i64 (10),.bool false,.bool true] 52) :: M) (by rfl) (up_cons rfl hs23) ?_
  refine l_call rfl rfl rfl (cl0 (vs := [.agg #[.slice (some ⟨(blk (f 22)),0,none⟩) 2 2,.slice none 0 0,.int .i64 (0),.int .i64 (0)]]) tf108.ok rfl rfl) ?_
  intro w hw
  obtain ⟨β1,sb,kn,hw1,back⟩ := St.frame_all hw
  have hG1 := GR.mono sb hG
  refine (ends1_ok β1 w hw1 _ _ (0) (0) e0 [] (kn _ (k_ptFls (F := BodyF) 0 (m := 2) (xs := e0) rfl rfl rfl (by decide))) (Sl.nil KRR _) (by decide) (by decide) hG1 e0_ok f0 [(⟨1,1,2⟩ : KS)] e0_step rfl _ rfl _ rfl rfl).mono ?_
  rintro e w' ⟨rfl,hw'⟩
  refine ⟨_,rfl,_,back _ _ hw',?_⟩
  clear hw hw1 hw' back kn sb
  refine l_nil ?_
  exact f_owes_d (up_cons rfl hs23) rfl (perm_front 0 rfl)
 ·rintro f M ⟨k0,-⟩ -
  exact obE omt
 ·rintro f M ⟨k0,-⟩ -
  exact obE oxa
 ·rintro f M ⟨k0,-⟩ -
  exact obE oxa
 ·rintro f M ⟨k0,-⟩ -
  exact obE oxa
 ·rintro f M - -
  refine ob_start (L' := M) (by rfl) rfl (alE fun b5 => l_nil ?_)
  exact f_owes_d rfl rfl (perm_front 0 rfl)
 ·rintro f M - -
  refine ob_start (L' := M) (by rfl) rfl (alE fun b7 => l_nil ?_)
  exact f_owes_d rfl rfl (perm_front 0 rfl)
 ·rintro f M - -
  refine ob_start (L' := M) (by rfl) rfl (alE fun b9 => l_nil ?_)
  exact f_owes_d rfl rfl (perm_front 0 rfl)
 ·rintro f M ⟨k0,k1,-⟩ -
  have hs2 : f 2 = .pointer (some ⟨(blk (f 2)),0,none⟩) := k0
  refine ob_start (L' := pt (blk (f 2)) (.cells #[.int .i64 (0),.int .i64 (0)] 28) :: M) (by rfl) (up_cons (d := 25) (up_cons rfl hs2) k1) ?_
  refine lu (mS 0 (#[.int .i64 (40),.int .i64 (0)])) (l_nil ?_)
  exact f_owes_n (up_cons (d := 25) (up_cons rfl hs2) k1) trivial (perm_front 0 rfl)
 ·rintro f M ⟨k0,k1,-⟩ -
  have hs3 : f 3 = .pointer (some ⟨(blk (f 3)),0,none⟩) := k0
  refine ob_start (L' := pt (blk (f 3)) (.cells #[.int .i64 (0),.int .i64 (0)] 28) :: M) (by rfl) (up_cons (d := 26) (up_cons rfl hs3) k1) ?_
  refine lu (mS 0 (#[.int .i64 (0),.int .i64 (0)])) (l_nil ?_)
  exact f_owes_n (up_cons (d := 26) (up_cons rfl hs3) k1) trivial (perm_front 0 rfl)
 ·rintro f M ⟨k0,k1,-⟩ -
  have hs4 : f 4 = .pointer (some ⟨(blk (f 4)),0,none⟩) := k0
  refine ob_start (L' := pt (blk (f 4)) (.cells #[.int .i64 (0),.int .u8 (0),.int .i64 (0)] 55) :: M) (by rfl) (up_cons (d := 27) (up_cons rfl hs4) k1) ?_
  refine lu (mS 0 (#[.int .i64 (1),.int .u8 (1),.int .i64 (2)])) (l_nil ?_)
  exact f_owes_n (up_cons (d := 27) (up_cons rfl hs4) k1) trivial (perm_front 0 rfl)
 rintro fa10 ⟨-,-,-,-,-,-,-,-,-,-,k10,k11,k12,-,-,-,-⟩ ⟨j0,-⟩
 refine f_re (L' := [pt b1 (.cells #[.int .i64 (1),.int .i64 (0),.int .i64 (0),.int .i64 (50),.int .i64 (0),.int .i64 (10),.int .i64 (10),.bool false,.bool false] 52),pt (blk (fa10 22)) (.cells #[.int .i64 (1),.int .i64 (0),.int .i64 (0),.int .i64 (50),.int .i64 (0),.int .i64 (10),.int .i64 (10),.bool false,.bool false,.int .i64 (2),.int .i64 (60),.int .i64 (0),.int .i64 (0),.int .i64 (0),.int .i64 (10),.int .i64 (10),.bool false,.bool true] 52),pt (blk (fa10 2)) (.cells #[.int .i64 (40),.int .i64 (0)] 28),pt (blk (fa10 3)) (.cells #[.int .i64 (0),.int .i64 (0)] 28),pt (blk (fa10 4)) (.cells #[.int .i64 (1),.int .u8 (1),.int .i64 (2)] 55)]) (by rfl) ?_
 refine f_rebase (d := 1) j0 (f_rebase (d := 2) k10 (f_rebase (d := 3) k11 (f_rebase (d := 4) k12 (ftc (lE (olg 0) ?_)))))
 refine l_mv rfl rfl rfl (m_slices tf43 tf58.ok (cells := #[.int .i64 (1),.int .i64 (0),.int .i64 (0),.int .i64 (50),.int .i64 (0),.int .i64 (10),.int .i64 (10),.bool false,.bool false]) rfl rfl rfl (by kernel_rfl)) ?_
 rintro _ _ ⟨b11,rfl,rfl⟩
 refine lv (v := .agg #[.slice (some ⟨b11,0,none⟩) 1 1,.slice none 0 0,.int .i64 (0),.int .i64 (0)]) (e_build tf85.ok tf88 (vs := [(0,.slice (some ⟨b11,0,none⟩) 1 1)]) (cells := #[.slice (some ⟨b11,0,none⟩) 1 1,.slice none 0 0,.int .i64 (0),.int .i64 (0)]) rfl rfl) ?_
 refine l_call rfl rfl rfl (cl0 (vs := [.agg #[.slice (some ⟨b11,0,none⟩) 1 1,.slice none 0 0,.int .i64 (0),.int .i64 (0)]]) tf108.ok rfl rfl) ?_
 intro w hw
 obtain ⟨β1,sb,kn,hw1,back⟩ := St.frame_all hw
 have hG1 := GR.mono sb hG
 refine (ends0_ok β1 w hw1 _ _ (0) (0) e1 [] (kn _ (k_ptFls (F := BodyF) 0 (m := 1) (xs := e1) rfl rfl rfl (by decide))) (Sl.nil KRR _) (by decide) (by decide) hG1 e1_ok f1 [] e1_step rfl _ rfl rfl).mono ?_
 rintro e w' ⟨rfl,hw'⟩
 refine ⟨_,rfl,_,back _ _ hw',?_⟩
 clear hw hw1 hw' back kn sb
 refine lE omt (lE oxa (lE oxa (lE oxa (alE fun b12 => alE fun b13 => alE fun b14 => lu (mS 2 (#[.int .i64 (50),.int .i64 (0)])) ?_))))
 refine lu (mS 1 (#[.int .i64 (50),.int .i64 (0)])) (lu (mS 0 (#[.int .i64 (0),.int .u8 (0),.int .i64 (0)])) (lnf (c_seq ?_)))
 refine cny [sv 37 (.agg #[.int .i64 (1),.int .i64 (0),.int .i64 (0),.int .i64 (50),.int .i64 (0),.int .i64 (10),.int .i64 (10),.bool false,.bool false]) [] [] [0],sv 38 (.agg #[.int .i64 (3),.int .i64 (0),.int .i64 (-15),.int .i64 (0),.int .i64 (0),.int .i64 (500),.int .i64 (5),.bool false,.bool false]) [] [] [],sv 39 (.agg #[.int .i64 (3),.int .i64 (0),.int .i64 (-15),.int .i64 (0),.int .i64 (0),.int .i64 (500),.int .i64 (5),.bool false,.bool true]) [1] [1] [],⟨[0,1,2],[0,2],[],[40],fun f => f 40 = .slice (some ⟨(blk (f 40)),0,none⟩) 2 2⟩,sv 41 (.agg #[.int .i64 (0),.int .i64 (-8)]) [] [] [],⟨[0,1,2,3,4],[3,4],[],[40,42],fun f => f 42 = .agg #[.slice (some ⟨(blk (f 40)),0,none⟩) 2 2,.slice none 0 0,.int .i64 (0),.int .i64 (-8)]⟩,sv 43 (.tuple #[.agg #[.int .i64 (50),.int .i64 (0)],.agg #[.int .i64 (50),.int .i64 (0)],.agg #[.int .i64 (1),.int .u8 (2),.int .i64 (3)]]) (List.range 6) [5] [],sv 36 (.tuple #[.agg #[.int .i64 (50),.int .i64 (0)],.agg #[.int .i64 (50),.int .i64 (0)],.agg #[.int .i64 (1),.int .u8 (2),.int .i64 (3)]]) (List.range 7) [6] [],sv 44 (.agg #[.int .i64 (50),.int .i64 (0)]) (List.range 8) [7] [],sv 45 (.agg #[.int .i64 (50),.int .i64 (0)]) (List.range 8) [7] [],sv 46 (.agg #[.int .i64 (1),.int .u8 (2),.int .i64 (3)]) (List.range 8) [7] [],⟨[],[],[],[8],fun f => f 8 = .pointer (some ⟨(blk (f 8)),0,none⟩)⟩,⟨[],[],[],[9],fun f => f 9 = .pointer (some ⟨(blk (f 9)),0,none⟩)⟩,⟨[],[],[],[10],fun f => f 10 = .pointer (some ⟨(blk (f 10)),0,none⟩)⟩,⟨[0,1,2,3,4,5,6,7,8,11,12,13],[11,8],[],[],fun _ => True⟩,⟨[0,1,2,3,4,5,6,7,8,9,11,12,13,14],[12,9],[],[],fun _ => True⟩,⟨(List.range 16),[13,10],[],[],fun _ => True⟩] [tk (pt b14 (.cells #[.int .i64 (0),.int .u8 (0),.int .i64 (0)] 55)) [],tk (pt b13 (.cells #[.int .i64 (50),.int .i64 (0)] 28)) [],tk (pt b12 (.cells #[.int .i64 (50),.int .i64 (0)] 28)) [],tk (pt b11 (.cells #[.int .i64 (1),.int .i64 (0),.int .i64 (0),.int .i64 (50),.int .i64 (0),.int .i64 (10),.int .i64 (10),.bool false,.bool false] 52)) [],tk (pt b1 (.cells #[.int .i64 (1),.int .i64 (0),.int .i64 (0),.int .i64 (50),.int .i64 (0),.int .i64 (10),.int .i64 (10),.bool false,.bool false] 52)) [0],tk (pt (blk (fa10 22)) (.cells #[.int .i64 (1),.int .i64 (0),.int .i64 (0),.int .i64 (50),.int .i64 (0),.int .i64 (10),.int .i64 (10),.bool false,.bool false,.int .i64 (2),.int .i64 (60),.int .i64 (0),.int .i64 (0),.int .i64 (0),.int .i64 (10),.int .i64 (10),.bool false,.bool true] 52)) [],tk (pt (blk (fa10 2)) (.cells #[.int .i64 (40),.int .i64 (0)] 28)) [],tk (pt (blk (fa10 3)) (.cells #[.int .i64 (0),.int .i64 (0)] 28)) [],tk (pt (blk (fa10 4)) (.cells #[.int .i64 (1),.int .u8 (1),.int .i64 (2)] 55)) [],⟨(some 3),none,[6],[40],fun f => pt (blk (f 40)) (.cells #[.int .i64 (1),.int .i64 (0),.int .i64 (0),.int .i64 (50),.int .i64 (0),.int .i64 (10),.int .i64 (10),.bool false,.bool false,.int .i64 (3),.int .i64 (0),.int .i64 (-15),.int .i64 (0),.int .i64 (0),.int .i64 (500),.int .i64 (5),.bool false,.bool true] 52)⟩,⟨(some 11),(some 14),[14],[8],fun f => pt (blk (f 8)) (.cells #[.int .i64 (0),.int .i64 (0)] 28)⟩,⟨(some 12),(some 15),[15],[9],fun f => pt (blk (f 9)) (.cells #[.int .i64 (0),.int .i64 (0)] 28)⟩,⟨(some 13),(some 16),[16],[10],fun f => pt (blk (f 10)) (.cells #[.int .i64 (0),.int .u8 (0),.int .i64 (0)] 55)⟩,⟨(some 14),none,[],[8],fun f => pt (blk (f 8)) (.cells #[.int .i64 (50),.int .i64 (0)] 28)⟩,⟨(some 15),none,[],[9],fun f => pt (blk (f 9)) (.cells #[.int .i64 (50),.int .i64 (0)] 28)⟩,⟨(some 16),none,[],[10],fun f => pt (blk (f 10)) (.cells #[.int .i64 (1),.int .u8 (2),.int .i64 (3)] 55)⟩] [(1,pp b1 0),(2,.pointer (some ⟨(blk (fa10 2)),0,none⟩)),(3,.pointer (some ⟨(blk (fa10 3)),0,none⟩)),(4,.pointer (some ⟨(blk (fa10 4)),0,none⟩)),(5,pp b12 0),(7,pp b14 0)] (List.range 6) [] ⟨rfl,rfl,rfl,rfl,rfl,rfl,trivial⟩ ⟨?_,?_,?_,?_,?_,?_,?_,?_,?_,?_,?_,?_,?_,?_,?_,?_,?_,trivial⟩ ?_
 ·rintro f M - ⟨i0,-⟩
  exact obE (olg 0)
 ·rintro f M - -
  refine ob_start (L' := M) (by rfl) rfl ?_
  refine lcR clA (fun w β1 sb kn hw1 => box_ok β1 w hw1 (3 : Int) (0 : Int) (-15 : Int) (500 : Int) (5 : Int) (0 : Int) (0 : Int)) (l_nil ?_)
  exact f_owes_d rfl rfl (List.Perm.refl _)
 ·rintro f M ⟨k0,-⟩ -
  refine ob_start (L' := M) (by rfl) (up_cons (d := 38) rfl k0) ?_
  refine lcR clA (fun w β1 sb kn hw1 => fixed_ok β1 w hw1 (⟨3,0,-15,0,0,500,5,false,false⟩ : KB)) (l_nil ?_)
  exact f_owes_d (up_cons (d := 38) rfl k0) rfl (List.Perm.refl _)
 ·rintro f M ⟨k0,k1,-⟩ -
  refine ob_start (L' := M) (by rfl) (up_cons (d := 39) (up_cons (d := 37) rfl k0) k1) ?_
  refine l_mv rfl rfl rfl (m_slices tf43 tf58.ok (cells := #[.int .i64 (1),.int .i64 (0),.int .i64 (0),.int .i64 (50),.int .i64 (0),.int .i64 (10),.int .i64 (10),.bool false,.bool false,.int .i64 (3),.int .i64 (0),.int .i64 (-15),.int .i64 (0),.int .i64 (0),.int .i64 (500),.int .i64 (5),.bool false,.bool true]) rfl rfl rfl (by kernel_rfl)) ?_
  rintro _ _ ⟨b16,rfl,rfl⟩
  refine l_nil ?_
  exact f_owes_d (up_cons (d := 39) (up_cons (d := 37) rfl k0) k1) rfl (perm_front 0 rfl)
 ·rintro f M - -
  exact ob0 rfl rfl (e_build tf17.ok tf16 (vs := [(1,.int .i64 (-8))]) (cells := #[.int .i64 (0),.int .i64 (-8)]) rfl rfl) (.refl _)
 ·rintro f M ⟨k0,k1,-⟩ -
  have hs40 : f 40 = .slice (some ⟨(blk (f 40)),0,none⟩) 2 2 := k0
  exact ob0 (up_cons (d := 41) (up_cons rfl hs40) k1) rfl (e_build tf85.ok tf88 (vs := [(0,.slice (some ⟨(blk (f 40)),0,none⟩) 2 2),(2,.agg #[.int .i64 (0),.int .i64 (-8)])]) (cells := #[.slice (some ⟨(blk (f 40)),0,none⟩) 2 2,.slice none 0 0,.int .i64 (0),.int .i64 (-8)]) rfl rfl) (.refl _)
 ·rintro f M ⟨k0,-⟩ -
  have hs42 : f 42 = .agg #[.slice (some ⟨(blk (f 40)),0,none⟩) 2 2,.slice none 0 0,.int .i64 (0),.int .i64 (-8)] := k0
  refine ob_start (L' := pt (blk (f 40)) (.cells #[.int .i64 (1),.int .i64 (0),.int .i64 (0),.int .i64 (50),.int .i64 (0),.int .i64 (10),.int .i64 (10),.bool false,.bool false,.int .i64 (3),.int .i64 (0),.int .i64 (-15),.int .i64 (0),.int .i64 (0),.int .i64 (500),.int .i64 (5),.bool false,.bool true] 52) :: M) (by rfl) (up_cons rfl hs42) ?_
  refine l_call rfl rfl rfl (cl0 (vs := [.agg #[.slice (some ⟨(blk (f 40)),0,none⟩) 2 2,.slice none 0 0,.int .i64 (0),.int .i64 (-8)]]) tf108.ok rfl rfl) ?_
  intro w hw
  obtain ⟨β1,sb,kn,hw1,back⟩ := St.frame_all hw
  have hG1 := GR.mono sb hG
  refine (ends1_ok β1 w hw1 _ _ (0) (-8) e2 [] (kn _ (k_ptFls (F := BodyF) 0 (m := 2) (xs := e2) rfl rfl rfl (by decide))) (Sl.nil KRR _) (by decide) (by decide) hG1 e2_ok f2 [(⟨1,2,3⟩ : KS)] e2_step rfl _ rfl _ rfl rfl).mono ?_
  rintro e w' ⟨rfl,hw'⟩
  refine ⟨_,rfl,_,back _ _ hw',?_⟩
  clear hw hw1 hw' back kn sb
  refine l_nil ?_
  exact f_owes_d (up_cons rfl hs42) rfl (perm_front 0 rfl)
 ·rintro f M ⟨k0,-⟩ -
  exact obE omt
 ·rintro f M ⟨k0,-⟩ -
  exact obE oxa
 ·rintro f M ⟨k0,-⟩ -
  exact obE oxa
 ·rintro f M ⟨k0,-⟩ -
  exact obE oxa
 ·rintro f M - -
  refine ob_start (L' := M) (by rfl) rfl (alE fun b18 => l_nil ?_)
  exact f_owes_d rfl rfl (perm_front 0 rfl)
 ·rintro f M - -
  refine ob_start (L' := M) (by rfl) rfl (alE fun b20 => l_nil ?_)
  exact f_owes_d rfl rfl (perm_front 0 rfl)
 ·rintro f M - -
  refine ob_start (L' := M) (by rfl) rfl (alE fun b22 => l_nil ?_)
  exact f_owes_d rfl rfl (perm_front 0 rfl)
 ·rintro f M ⟨k0,k1,-⟩ -
  have hs8 : f 8 = .pointer (some ⟨(blk (f 8)),0,none⟩) := k0
  refine ob_start (L' := pt (blk (f 8)) (.cells #[.int .i64 (0),.int .i64 (0)] 28) :: M) (by rfl) (up_cons (d := 44) (up_cons rfl hs8) k1) ?_
  refine lu (mS 0 (#[.int .i64 (50),.int .i64 (0)])) (l_nil ?_)
  exact f_owes_n (up_cons (d := 44) (up_cons rfl hs8) k1) trivial (perm_front 0 rfl)
 ·rintro f M ⟨k0,k1,-⟩ -
  have hs9 : f 9 = .pointer (some ⟨(blk (f 9)),0,none⟩) := k0
  refine ob_start (L' := pt (blk (f 9)) (.cells #[.int .i64 (0),.int .i64 (0)] 28) :: M) (by rfl) (up_cons (d := 45) (up_cons rfl hs9) k1) ?_
  refine lu (mS 0 (#[.int .i64 (50),.int .i64 (0)])) (l_nil ?_)
  exact f_owes_n (up_cons (d := 45) (up_cons rfl hs9) k1) trivial (perm_front 0 rfl)
 ·rintro f M ⟨k0,k1,-⟩ -
  have hs10 : f 10 = .pointer (some ⟨(blk (f 10)),0,none⟩) := k0
  refine ob_start (L' := pt (blk (f 10)) (.cells #[.int .i64 (0),.int .u8 (0),.int .i64 (0)] 55) :: M) (by rfl) (up_cons (d := 46) (up_cons rfl hs10) k1) ?_
  refine lu (mS 0 (#[.int .i64 (1),.int .u8 (2),.int .i64 (3)])) (l_nil ?_)
  exact f_owes_n (up_cons (d := 46) (up_cons rfl hs10) k1) trivial (perm_front 0 rfl)
 rintro fa23 ⟨-,-,-,-,-,-,-,-,-,-,-,-,k12,k13,-,-,-,-⟩ ⟨j0,j1,j2,j3,j4,j5,-⟩
 refine f_re (L' := [pt b14 (.cells #[.int .i64 (0),.int .u8 (0),.int .i64 (0)] 55),pt b13 (.cells #[.int .i64 (50),.int .i64 (0)] 28),pt b12 (.cells #[.int .i64 (50),.int .i64 (0)] 28),pt b11 (.cells #[.int .i64 (1),.int .i64 (0),.int .i64 (0),.int .i64 (50),.int .i64 (0),.int .i64 (10),.int .i64 (10),.bool false,.bool false] 52),pt b1 (.cells #[.int .i64 (1),.int .i64 (0),.int .i64 (0),.int .i64 (50),.int .i64 (0),.int .i64 (10),.int .i64 (10),.bool false,.bool false] 52),pt (blk (fa10 22)) (.cells #[.int .i64 (1),.int .i64 (0),.int .i64 (0),.int .i64 (50),.int .i64 (0),.int .i64 (10),.int .i64 (10),.bool false,.bool false,.int .i64 (2),.int .i64 (60),.int .i64 (0),.int .i64 (0),.int .i64 (0),.int .i64 (10),.int .i64 (10),.bool false,.bool true] 52),pt (blk (fa10 2)) (.cells #[.int .i64 (40),.int .i64 (0)] 28),pt (blk (fa10 3)) (.cells #[.int .i64 (0),.int .i64 (0)] 28),pt (blk (fa10 4)) (.cells #[.int .i64 (1),.int .u8 (1),.int .i64 (2)] 55),pt (blk (fa23 40)) (.cells #[.int .i64 (1),.int .i64 (0),.int .i64 (0),.int .i64 (50),.int .i64 (0),.int .i64 (10),.int .i64 (10),.bool false,.bool false,.int .i64 (3),.int .i64 (0),.int .i64 (-15),.int .i64 (0),.int .i64 (0),.int .i64 (500),.int .i64 (5),.bool false,.bool true] 52),pt (blk (fa23 8)) (.cells #[.int .i64 (50),.int .i64 (0)] 28),pt (blk (fa23 9)) (.cells #[.int .i64 (50),.int .i64 (0)] 28),pt (blk (fa23 10)) (.cells #[.int .i64 (1),.int .u8 (2),.int .i64 (3)] 55)]) (by rfl) ?_
 refine f_rebase (d := 1) j0 (f_rebase (d := 2) j1 (f_rebase (d := 3) j2 (f_rebase (d := 4) j3 (f_rebase (d := 5) j4 (f_rebase (d := 7) j5 ?_)))))
 refine f_rebase (d := 9) k12 (f_rebase (d := 10) k13 (ftc ?_))
 refine lcR clA (fun w β1 sb kn hw1 => ball_ok β1 w hw1 (1 : Int) (0 : Int) (0 : Int) (10 : Int) (50 : Int) (0 : Int)) ?_
 refine lcR clA (fun w β1 sb kn hw1 => ball_ok β1 w hw1 (2 : Int) (40 : Int) (16 : Int) (10 : Int) (0 : Int) (0 : Int)) ?_
 refine lcR clA (fun w β1 sb kn hw1 => fixed_ok β1 w hw1 (⟨2,40,16,0,0,10,10,true,false⟩ : KB)) ?_
 refine l_mv rfl rfl rfl (m_slices tf43 tf58.ok (cells := #[.int .i64 (1),.int .i64 (0),.int .i64 (0),.int .i64 (50),.int .i64 (0),.int .i64 (10),.int .i64 (10),.bool true,.bool false,.int .i64 (2),.int .i64 (40),.int .i64 (16),.int .i64 (0),.int .i64 (0),.int .i64 (10),.int .i64 (10),.bool true,.bool true]) rfl rfl rfl (by kernel_rfl)) ?_
 rintro _ _ ⟨b24,rfl,rfl⟩
 refine lv (v := .agg #[.slice (some ⟨b24,0,none⟩) 2 2,.slice none 0 0,.int .i64 (0),.int .i64 (0)]) (e_build tf85.ok tf88 (vs := [(0,.slice (some ⟨b24,0,none⟩) 2 2)]) (cells := #[.slice (some ⟨b24,0,none⟩) 2 2,.slice none 0 0,.int .i64 (0),.int .i64 (0)]) rfl rfl) ?_
 refine l_call rfl rfl rfl (cl0 (vs := [.agg #[.slice (some ⟨b24,0,none⟩) 2 2,.slice none 0 0,.int .i64 (0),.int .i64 (0)]]) tf108.ok rfl rfl) ?_
 intro w hw
 obtain ⟨β1,sb,kn,hw1,back⟩ := St.frame_all hw
 have hG1 := GR.mono sb hG
 refine (ends1_ok β1 w hw1 _ _ (0) (0) e3 [] (kn _ (k_ptFls (F := BodyF) 0 (m := 2) (xs := e3) rfl rfl rfl (by decide))) (Sl.nil KRR _) (by decide) (by decide) hG1 e3_ok f3 [(⟨1,1,2⟩ : KS)] e3_step rfl _ rfl _ rfl rfl).mono ?_
 rintro e w' ⟨rfl,hw'⟩
 refine ⟨_,rfl,_,back _ _ hw',?_⟩
 clear hw hw1 hw' back kn sb
 refine lE omt (lE oxa (lE oxa (lE oxa (alE fun b25 => alE fun b26 => alE fun b27 => lu (mS 2 (#[.int .i64 (28),.int .i64 (0)])) ?_))))
 refine lu (mS 1 (#[.int .i64 (0),.int .i64 (0)])) (lu (mS 0 (#[.int .i64 (1),.int .u8 (1),.int .i64 (2)])) (lnf (c_seq ?_)))
 refine cny [sv 58 (.agg #[.int .i64 (1),.int .i64 (0),.int .i64 (0),.int .i64 (50),.int .i64 (0),.int .i64 (10),.int .i64 (10),.bool false,.bool false]) [] [] [0],sv 59 (.agg #[.int .i64 (2),.int .i64 (0),.int .i64 (100),.int .i64 (0),.int .i64 (0),.int .i64 (5),.int .i64 (5),.bool false,.bool false]) [] [] [],sv 60 (.agg #[.int .i64 (2),.int .i64 (0),.int .i64 (100),.int .i64 (0),.int .i64 (0),.int .i64 (5),.int .i64 (5),.bool false,.bool true]) [1] [1] [],⟨[0,1,2],[0,2],[],[61],fun f => f 61 = .slice (some ⟨(blk (f 61)),0,none⟩) 2 2⟩,sv 62 (.agg #[.int .i64 (1),.int .i64 (2),.int .i64 (30)]) [] [] [],⟨[4],[4],[],[63],fun f => f 63 = .slice (some ⟨(blk (f 63)),0,none⟩) 1 1⟩,⟨(List.range 6),[3,5],[],[61,63,64],fun f => f 64 = .agg #[.slice (some ⟨(blk (f 61)),0,none⟩) 2 2,.slice (some ⟨(blk (f 63)),0,none⟩) 1 1,.int .i64 (0),.int .i64 (0)]⟩,sv 65 (.tuple #[.agg #[.int .i64 (0),.int .i64 (0)],.agg #[.int .i64 (0),.int .i64 (0)],.agg #[.int .i64 (1),.int .u8 (1),.int .i64 (-1)]]) (List.range 7) [6] [],sv 57 (.tuple #[.agg #[.int .i64 (0),.int .i64 (0)],.agg #[.int .i64 (0),.int .i64 (0)],.agg #[.int .i64 (1),.int .u8 (1),.int .i64 (-1)]]) (List.range 8) [7] [],sv 66 (.agg #[.int .i64 (0),.int .i64 (0)]) (List.range 9) [8] [],sv 67 (.agg #[.int .i64 (0),.int .i64 (0)]) (List.range 9) [8] [],sv 68 (.agg #[.int .i64 (1),.int .u8 (1),.int .i64 (-1)]) (List.range 9) [8] [],⟨[],[],[],[14],fun f => f 14 = .pointer (some ⟨(blk (f 14)),0,none⟩)⟩,⟨[],[],[],[15],fun f => f 15 = .pointer (some ⟨(blk (f 15)),0,none⟩)⟩,⟨[],[],[],[16],fun f => f 16 = .pointer (some ⟨(blk (f 16)),0,none⟩)⟩,⟨[0,1,2,3,4,5,6,7,8,9,12,13,14],[12,9],[],[],fun _ => True⟩,⟨[0,1,2,3,4,5,6,7,8,9,10,12,13,14,15],[13,10],[],[],fun _ => True⟩,⟨(List.range 17),[14,11],[],[],fun _ => True⟩] [tk (pt b27 (.cells #[.int .i64 (1),.int .u8 (1),.int .i64 (2)] 55)) [],tk (pt b26 (.cells #[.int .i64 (0),.int .i64 (0)] 28)) [],tk (pt b25 (.cells #[.int .i64 (28),.int .i64 (0)] 28)) [],tk (pt b24 (.cells #[.int .i64 (1),.int .i64 (0),.int .i64 (0),.int .i64 (50),.int .i64 (0),.int .i64 (10),.int .i64 (10),.bool true,.bool false,.int .i64 (2),.int .i64 (40),.int .i64 (16),.int .i64 (0),.int .i64 (0),.int .i64 (10),.int .i64 (10),.bool true,.bool true] 52)) [],tk (pt b14 (.cells #[.int .i64 (0),.int .u8 (0),.int .i64 (0)] 55)) [],tk (pt b13 (.cells #[.int .i64 (50),.int .i64 (0)] 28)) [],tk (pt b12 (.cells #[.int .i64 (50),.int .i64 (0)] 28)) [],tk (pt b11 (.cells #[.int .i64 (1),.int .i64 (0),.int .i64 (0),.int .i64 (50),.int .i64 (0),.int .i64 (10),.int .i64 (10),.bool false,.bool false] 52)) [],tk (pt b1 (.cells #[.int .i64 (1),.int .i64 (0),.int .i64 (0),.int .i64 (50),.int .i64 (0),.int .i64 (10),.int .i64 (10),.bool false,.bool false] 52)) [0],tk (pt (blk (fa10 22)) (.cells #[.int .i64 (1),.int .i64 (0),.int .i64 (0),.int .i64 (50),.int .i64 (0),.int .i64 (10),.int .i64 (10),.bool false,.bool false,.int .i64 (2),.int .i64 (60),.int .i64 (0),.int .i64 (0),.int .i64 (0),.int .i64 (10),.int .i64 (10),.bool false,.bool true] 52)) [],tk (pt (blk (fa10 2)) (.cells #[.int .i64 (40),.int .i64 (0)] 28)) [],tk (pt (blk (fa10 3)) (.cells #[.int .i64 (0),.int .i64 (0)] 28)) [],tk (pt (blk (fa10 4)) (.cells #[.int .i64 (1),.int .u8 (1),.int .i64 (2)] 55)) [],tk (pt (blk (fa23 40)) (.cells #[.int .i64 (1),.int .i64 (0),.int .i64 (0),.int .i64 (50),.int .i64 (0),.int .i64 (10),.int .i64 (10),.bool false,.bool false,.int .i64 (3),.int .i64 (0),.int .i64 (-15),.int .i64 (0),.int .i64 (0),.int .i64 (500),.int .i64 (5),.bool false,.bool true] 52)) [],tk (pt (blk (fa23 8)) (.cells #[.int .i64 (50),.int .i64 (0)] 28)) [],tk (pt (blk (fa23 9)) (.cells #[.int .i64 (50),.int .i64 (0)] 28)) [],tk (pt (blk (fa23 10)) (.cells #[.int .i64 (1),.int .u8 (2),.int .i64 (3)] 55)) [],⟨(some 3),none,[7],[61],fun f => pt (blk (f 61)) (.cells #[.int .i64 (1),.int .i64 (0),.int .i64 (0),.int .i64 (50),.int .i64 (0),.int .i64 (10),.int .i64 (10),.bool false,.bool false,.int .i64 (2),.int .i64 (0),.int .i64 (100),.int .i64 (0),.int .i64 (0),.int .i64 (5),.int .i64 (5),.bool false,.bool true] 52)⟩,⟨(some 5),none,[7],[63],fun f => pt (blk (f 63)) (.cells #[.int .i64 (1),.int .i64 (2),.int .i64 (30)] 78)⟩,⟨(some 12),(some 15),[15],[14],fun f => pt (blk (f 14)) (.cells #[.int .i64 (0),.int .i64 (0)] 28)⟩,⟨(some 13),(some 16),[16],[15],fun f => pt (blk (f 15)) (.cells #[.int .i64 (0),.int .i64 (0)] 28)⟩,⟨(some 14),(some 17),[17],[16],fun f => pt (blk (f 16)) (.cells #[.int .i64 (0),.int .u8 (0),.int .i64 (0)] 55)⟩,⟨(some 15),none,[],[14],fun f => pt (blk (f 14)) (.cells #[.int .i64 (0),.int .i64 (0)] 28)⟩,⟨(some 16),none,[],[15],fun f => pt (blk (f 15)) (.cells #[.int .i64 (0),.int .i64 (0)] 28)⟩,⟨(some 17),none,[],[16],fun f => pt (blk (f 16)) (.cells #[.int .i64 (1),.int .u8 (1),.int .i64 (-1)] 55)⟩] [(1,pp b1 0),(2,.pointer (some ⟨(blk (fa10 2)),0,none⟩)),(3,.pointer (some ⟨(blk (fa10 3)),0,none⟩)),(4,.pointer (some ⟨(blk (fa10 4)),0,none⟩)),(5,pp b12 0),(7,pp b14 0),(9,.pointer (some ⟨(blk (fa23 9)),0,none⟩)),(10,.pointer (some ⟨(blk (fa23 10)),0,none⟩)),(11,pp b25 0),(13,pp b27 0)] [1,2,3,4,5,6,7,8,9] [] ⟨rfl,rfl,rfl,rfl,rfl,rfl,rfl,rfl,rfl,rfl,trivial⟩ ⟨?_,?_,?_,?_,?_,?_,?_,?_,?_,?_,?_,?_,?_,?_,?_,?_,?_,?_,trivial⟩ ?_
 ·rintro f M - ⟨i0,-⟩
  exact obE (olg 0)
 ·rintro f M - -
  refine ob_start (L' := M) (by rfl) rfl ?_
  refine lcR clA (fun w β1 sb kn hw1 => box_ok β1 w hw1 (2 : Int) (0 : Int) (100 : Int) (5 : Int) (5 : Int) (0 : Int) (0 : Int)) (l_nil ?_)
  exact f_owes_d rfl rfl (List.Perm.refl _)
 ·rintro f M ⟨k0,-⟩ -
  refine ob_start (L' := M) (by rfl) (up_cons (d := 59) rfl k0) ?_
  refine lcR clA (fun w β1 sb kn hw1 => fixed_ok β1 w hw1 (⟨2,0,100,0,0,5,5,false,false⟩ : KB)) (l_nil ?_)
  exact f_owes_d (up_cons (d := 59) rfl k0) rfl (List.Perm.refl _)
 ·rintro f M ⟨k0,k1,-⟩ -
  refine ob_start (L' := M) (by rfl) (up_cons (d := 60) (up_cons (d := 58) rfl k0) k1) ?_
  refine l_mv rfl rfl rfl (m_slices tf43 tf58.ok (cells := #[.int .i64 (1),.int .i64 (0),.int .i64 (0),.int .i64 (50),.int .i64 (0),.int .i64 (10),.int .i64 (10),.bool false,.bool false,.int .i64 (2),.int .i64 (0),.int .i64 (100),.int .i64 (0),.int .i64 (0),.int .i64 (5),.int .i64 (5),.bool false,.bool true]) rfl rfl rfl (by kernel_rfl)) ?_
  rintro _ _ ⟨b29,rfl,rfl⟩
  refine l_nil ?_
  exact f_owes_d (up_cons (d := 60) (up_cons (d := 58) rfl k0) k1) rfl (perm_front 0 rfl)
 ·rintro f M - -
  exact ob0 rfl rfl (e_build tf77.ok tf110 (vs := [(0,.int .i64 (1)),(1,.int .i64 (2)),(2,.int .i64 (30))]) (cells := #[.int .i64 (1),.int .i64 (2),.int .i64 (30)]) rfl rfl) (.refl _)
 ·rintro f M ⟨k0,-⟩ -
  refine ob_start (L' := M) (by rfl) (up_cons (d := 62) rfl k0) ?_
  refine l_mv rfl rfl rfl (m_slices tf46 tf77.ok (cells := #[.int .i64 (1),.int .i64 (2),.int .i64 (30)]) rfl rfl rfl rfl) ?_
  rintro _ _ ⟨b31,rfl,rfl⟩
  refine l_nil ?_
  exact f_owes_d (up_cons (d := 62) rfl k0) rfl (perm_front 0 rfl)
 ·rintro f M ⟨k0,k1,-⟩ -
  have hs61 : f 61 = .slice (some ⟨(blk (f 61)),0,none⟩) 2 2 := k0
  have hs63 : f 63 = .slice (some ⟨(blk (f 63)),0,none⟩) 1 1 := k1
  exact ob0 (up_cons (up_cons rfl hs61) hs63) rfl (e_build tf85.ok tf88 (vs := [(0,.slice (some ⟨(blk (f 61)),0,none⟩) 2 2),(1,.slice (some ⟨(blk (f 63)),0,none⟩) 1 1)]) (cells := #[.slice (some ⟨(blk (f 61)),0,none⟩) 2 2,.slice (some ⟨(blk (f 63)),0,none⟩) 1 1,.int .i64 (0),.int .i64 (0)]) rfl rfl) (.refl _)
 ·rintro f M ⟨k0,-⟩ -
  have hs64 : f 64 = .agg #[.slice (some ⟨(blk (f 61)),0,none⟩) 2 2,.slice (some ⟨(blk (f 63)),0,none⟩) 1 1,.int .i64 (0),.int .i64 (0)] := k0
  refine ob_start (L' := pt (blk (f 61)) (.cells #[.int .i64 (1),.int .i64 (0),.int .i64 (0),.int .i64 (50),.int .i64 (0),.int .i64 (10),.int .i64 (10),.bool false,.bool false,.int .i64 (2),.int .i64 (0),.int .i64 (100),.int .i64 (0),.int .i64 (0),.int .i64 (5),.int .i64 (5),.bool false,.bool true] 52) :: pt (blk (f 63)) (.cells #[.int .i64 (1),.int .i64 (2),.int .i64 (30)] 78) :: M) (by rfl) (up_cons rfl hs64) ?_
  refine l_call rfl rfl rfl (cl0 (vs := [.agg #[.slice (some ⟨(blk (f 61)),0,none⟩) 2 2,.slice (some ⟨(blk (f 63)),0,none⟩) 1 1,.int .i64 (0),.int .i64 (0)]]) tf108.ok rfl rfl) ?_
  intro w hw
  obtain ⟨β1,sb,kn,hw1,back⟩ := St.frame_all hw
  have hG1 := GR.mono sb hG
  refine (ends1_ok β1 w hw1 _ _ (0) (0) e4 eR (kn _ (k_ptFls (F := BodyF) 0 (m := 2) (xs := e4) rfl rfl rfl (by decide))) (kn _ (k_ptFls (F := RopeF) 1 (m := 1) (xs := eR) rfl rfl rfl (by decide))) (by decide) (by decide) hG1 e4_ok f4 [(⟨1,1,-1⟩ : KS)] e4_step rfl _ rfl _ rfl rfl).mono ?_
  rintro e w' ⟨rfl,hw'⟩
  refine ⟨_,rfl,_,back _ _ hw',?_⟩
  clear hw hw1 hw' back kn sb
  refine l_nil ?_
  exact f_owes_d (up_cons rfl hs64) rfl ((perm_front 1 rfl).trans (perm_front 1 rfl))
 ·rintro f M ⟨k0,-⟩ -
  exact obE omt
 ·rintro f M ⟨k0,-⟩ -
  exact obE oxa
 ·rintro f M ⟨k0,-⟩ -
  exact obE oxa
 ·rintro f M ⟨k0,-⟩ -
  exact obE oxa
 ·rintro f M - -
  refine ob_start (L' := M) (by rfl) rfl (alE fun b33 => l_nil ?_)
  exact f_owes_d rfl rfl (perm_front 0 rfl)
 ·rintro f M - -
  refine ob_start (L' := M) (by rfl) rfl (alE fun b35 => l_nil ?_)
  exact f_owes_d rfl rfl (perm_front 0 rfl)
 ·rintro f M - -
  refine ob_start (L' := M) (by rfl) rfl (alE fun b37 => l_nil ?_)
  exact f_owes_d rfl rfl (perm_front 0 rfl)
 ·rintro f M ⟨k0,k1,-⟩ -
  have hs14 : f 14 = .pointer (some ⟨(blk (f 14)),0,none⟩) := k0
  refine ob_start (L' := pt (blk (f 14)) (.cells #[.int .i64 (0),.int .i64 (0)] 28) :: M) (by rfl) (up_cons (d := 66) (up_cons rfl hs14) k1) ?_
  refine lu (mS 0 (#[.int .i64 (0),.int .i64 (0)])) (l_nil ?_)
  exact f_owes_n (up_cons (d := 66) (up_cons rfl hs14) k1) trivial (perm_front 0 rfl)
 ·rintro f M ⟨k0,k1,-⟩ -
  have hs15 : f 15 = .pointer (some ⟨(blk (f 15)),0,none⟩) := k0
  refine ob_start (L' := pt (blk (f 15)) (.cells #[.int .i64 (0),.int .i64 (0)] 28) :: M) (by rfl) (up_cons (d := 67) (up_cons rfl hs15) k1) ?_
  refine lu (mS 0 (#[.int .i64 (0),.int .i64 (0)])) (l_nil ?_)
  exact f_owes_n (up_cons (d := 67) (up_cons rfl hs15) k1) trivial (perm_front 0 rfl)
 ·rintro f M ⟨k0,k1,-⟩ -
  have hs16 : f 16 = .pointer (some ⟨(blk (f 16)),0,none⟩) := k0
  refine ob_start (L' := pt (blk (f 16)) (.cells #[.int .i64 (0),.int .u8 (0),.int .i64 (0)] 55) :: M) (by rfl) (up_cons (d := 68) (up_cons rfl hs16) k1) ?_
  refine lu (mS 0 (#[.int .i64 (1),.int .u8 (1),.int .i64 (-1)])) (l_nil ?_)
  exact f_owes_n (up_cons (d := 68) (up_cons rfl hs16) k1) trivial (perm_front 0 rfl)
 rintro fa38 ⟨-,-,-,-,-,-,-,-,-,-,-,-,k12,-,k14,-,-,-,-⟩ ⟨j0,j1,j2,j3,j4,j5,j6,j7,j8,-⟩
 refine f_re (L' := [pt b27 (.cells #[.int .i64 (1),.int .u8 (1),.int .i64 (2)] 55),pt b26 (.cells #[.int .i64 (0),.int .i64 (0)] 28),pt b25 (.cells #[.int .i64 (28),.int .i64 (0)] 28),pt b24 (.cells #[.int .i64 (1),.int .i64 (0),.int .i64 (0),.int .i64 (50),.int .i64 (0),.int .i64 (10),.int .i64 (10),.bool true,.bool false,.int .i64 (2),.int .i64 (40),.int .i64 (16),.int .i64 (0),.int .i64 (0),.int .i64 (10),.int .i64 (10),.bool true,.bool true] 52),pt b14 (.cells #[.int .i64 (0),.int .u8 (0),.int .i64 (0)] 55),pt b13 (.cells #[.int .i64 (50),.int .i64 (0)] 28),pt b12 (.cells #[.int .i64 (50),.int .i64 (0)] 28),pt b11 (.cells #[.int .i64 (1),.int .i64 (0),.int .i64 (0),.int .i64 (50),.int .i64 (0),.int .i64 (10),.int .i64 (10),.bool false,.bool false] 52),pt b1 (.cells #[.int .i64 (1),.int .i64 (0),.int .i64 (0),.int .i64 (50),.int .i64 (0),.int .i64 (10),.int .i64 (10),.bool false,.bool false] 52),pt (blk (fa10 22)) (.cells #[.int .i64 (1),.int .i64 (0),.int .i64 (0),.int .i64 (50),.int .i64 (0),.int .i64 (10),.int .i64 (10),.bool false,.bool false,.int .i64 (2),.int .i64 (60),.int .i64 (0),.int .i64 (0),.int .i64 (0),.int .i64 (10),.int .i64 (10),.bool false,.bool true] 52),pt (blk (fa10 2)) (.cells #[.int .i64 (40),.int .i64 (0)] 28),pt (blk (fa10 3)) (.cells #[.int .i64 (0),.int .i64 (0)] 28),pt (blk (fa10 4)) (.cells #[.int .i64 (1),.int .u8 (1),.int .i64 (2)] 55),pt (blk (fa23 40)) (.cells #[.int .i64 (1),.int .i64 (0),.int .i64 (0),.int .i64 (50),.int .i64 (0),.int .i64 (10),.int .i64 (10),.bool false,.bool false,.int .i64 (3),.int .i64 (0),.int .i64 (-15),.int .i64 (0),.int .i64 (0),.int .i64 (500),.int .i64 (5),.bool false,.bool true] 52),pt (blk (fa23 8)) (.cells #[.int .i64 (50),.int .i64 (0)] 28),pt (blk (fa23 9)) (.cells #[.int .i64 (50),.int .i64 (0)] 28),pt (blk (fa23 10)) (.cells #[.int .i64 (1),.int .u8 (2),.int .i64 (3)] 55),pt (blk (fa38 61)) (.cells #[.int .i64 (1),.int .i64 (0),.int .i64 (0),.int .i64 (50),.int .i64 (0),.int .i64 (10),.int .i64 (10),.bool false,.bool false,.int .i64 (2),.int .i64 (0),.int .i64 (100),.int .i64 (0),.int .i64 (0),.int .i64 (5),.int .i64 (5),.bool false,.bool true] 52),pt (blk (fa38 63)) (.cells #[.int .i64 (1),.int .i64 (2),.int .i64 (30)] 78),pt (blk (fa38 14)) (.cells #[.int .i64 (0),.int .i64 (0)] 28),pt (blk (fa38 15)) (.cells #[.int .i64 (0),.int .i64 (0)] 28),pt (blk (fa38 16)) (.cells #[.int .i64 (1),.int .u8 (1),.int .i64 (-1)] 55)]) (by rfl) ?_
 refine f_rebase (d := 2) j0 (f_rebase (d := 3) j1 (f_rebase (d := 4) j2 (f_rebase (d := 5) j3 (f_rebase (d := 7) j4 (f_rebase (d := 9) j5 ?_)))))
 refine f_rebase (d := 10) j6 (f_rebase (d := 11) j7 (f_rebase (d := 13) j8 (f_rebase (d := 14) k12 (f_rebase (d := 16) k14 (fts (csr (lE (olg 10) ?_)))))))
 refine lv (v := .agg #[.int .i64 (40),.int .i64 (0)]) (e_build tf17.ok tf16 (vs := [(0,.int .i64 (40))]) (cells := #[.int .i64 (40),.int .i64 (0)]) rfl rfl) ?_
 refine lv (v := .bool false) ((ev_f (by decide) (e_neq_t (p := ¬ ((40 : Int) = (40 : Int) ∧ (0 : Int) = (0 : Int))) (xs := [.int .i64 (40),.int .i64 (0)]) (ys := [.int .i64 (40),.int .i64 (0)]) tf18 tf19 tf20 rfl rfl rfl rfl (not_congr vec_eq)))) ?_
 refine lE omb (gE (olg 11) ?_)
 refine g_val (v := .agg #[.int .i64 (0),.int .i64 (0)]) rfl rfl rfl rfl rfl (e_build tf17.ok tf16 (vs := []) (cells := #[.int .i64 (0),.int .i64 (0)]) rfl rfl) ?_
 refine g_val (v := .bool false) rfl rfl rfl rfl rfl ((ev_f (by decide) (e_neq_t (p := ¬ ((0 : Int) = (0 : Int) ∧ (0 : Int) = (0 : Int))) (xs := [.int .i64 (0),.int .i64 (0)]) (ys := [.int .i64 (0),.int .i64 (0)]) tf18 tf19 tf20 rfl rfl rfl rfl (not_congr vec_eq)))) ?_
 refine lE okfb (lE omb (gE (olg 12) ?_))
 refine g_val (v := .agg #[.int .i64 (1),.int .u8 (1),.int .i64 (2)]) rfl rfl rfl rfl rfl (e_build tf99.ok tf98 (vs := [(0,.int .i64 (1)),(1,.int .u8 (1)),(2,.int .i64 (2))]) (cells := #[.int .i64 (1),.int .u8 (1),.int .i64 (2)]) rfl rfl) ?_
 refine g_val (v := .bool false) rfl rfl rfl rfl rfl ((ev_f (by decide) (e_neq_t (p := ¬ ((⟨(1),(1),(2)⟩ : KS) = ⟨(1),(1),(2)⟩)) (xs := [.int .i64 (1),.int .u8 (1),.int .i64 (2)]) (ys := [.int .i64 (1),.int .u8 (1),.int .i64 (2)]) tf111 tf112 tf113 rfl rfl rfl rfl (not_congr (stop_eq (x := ⟨(1),(1),(2)⟩) (y := ⟨(1),(1),(2)⟩)))))) ?_
 refine lE okfb (lE omb (gE (olg 6) ?_))
 refine g_val (v := .agg #[.int .i64 (50),.int .i64 (0)]) rfl rfl rfl rfl rfl (e_build tf17.ok tf16 (vs := [(0,.int .i64 (50))]) (cells := #[.int .i64 (50),.int .i64 (0)]) rfl rfl) ?_
 refine g_val (v := .bool false) rfl rfl rfl rfl rfl ((ev_f (by decide) (e_neq_t (p := ¬ ((50 : Int) = (50 : Int) ∧ (0 : Int) = (0 : Int))) (xs := [.int .i64 (50),.int .i64 (0)]) (ys := [.int .i64 (50),.int .i64 (0)]) tf18 tf19 tf20 rfl rfl rfl rfl (not_congr vec_eq)))) ?_
 refine lE okfb (lE omb (gE (olg 4) ?_))
 refine g_val (v := .agg #[.int .i64 (0),.int .u8 (0),.int .i64 (0)]) rfl rfl rfl rfl rfl (e_build tf99.ok tf98 (vs := []) (cells := #[.int .i64 (0),.int .u8 (0),.int .i64 (0)]) rfl rfl) ?_
 refine g_val (v := .bool false) rfl rfl rfl rfl rfl ((ev_f (by decide) (e_neq_t (p := ¬ ((⟨(0),(0),(0)⟩ : KS) = ⟨(0),(0),(0)⟩)) (xs := [.int .i64 (0),.int .u8 (0),.int .i64 (0)]) (ys := [.int .i64 (0),.int .u8 (0),.int .i64 (0)]) tf111 tf112 tf113 rfl rfl rfl rfl (not_congr (stop_eq (x := ⟨(0),(0),(0)⟩) (y := ⟨(0),(0),(0)⟩)))))) ?_
 refine lE okfb (lnf (c_no rfl (csk (csr (lE (olg 15) ?_)))))
 refine lv (v := .agg #[.int .i64 (50),.int .i64 (0)]) (e_build tf17.ok tf16 (vs := [(0,.int .i64 (50))]) (cells := #[.int .i64 (50),.int .i64 (0)]) rfl rfl) ?_
 refine lv (v := .bool true) ((ev_t (by decide) (e_eql_t (p := (50 : Int) = (50 : Int) ∧ (0 : Int) = (0 : Int)) (xs := [.int .i64 (50),.int .i64 (0)]) (ys := [.int .i64 (50),.int .i64 (0)]) tf18 tf19 tf20 rfl rfl rfl rfl vec_eq))) ?_
 refine lE omb (gE (olg 16) ?_)
 refine g_val (v := .agg #[.int .i64 (1),.int .u8 (2),.int .i64 (3)]) rfl rfl rfl rfl rfl (e_build tf99.ok tf98 (vs := [(0,.int .i64 (1)),(1,.int .u8 (2)),(2,.int .i64 (3))]) (cells := #[.int .i64 (1),.int .u8 (2),.int .i64 (3)]) rfl rfl) ?_
 refine g_val (v := .bool true) rfl rfl rfl rfl rfl ((ev_t (by decide) (e_eql_t (p := (⟨(1),(2),(3)⟩ : KS) = ⟨(1),(2),(3)⟩) (xs := [.int .i64 (1),.int .u8 (2),.int .i64 (3)]) (ys := [.int .i64 (1),.int .u8 (2),.int .i64 (3)]) tf111 tf112 tf113 rfl rfl rfl rfl (stop_eq (x := ⟨(1),(2),(3)⟩) (y := ⟨(1),(2),(3)⟩))))) ?_
 refine lE oktb (lE omb (gE (olg 2) ?_))
 refine g_val (v := .agg #[.int .i64 (28),.int .i64 (0)]) rfl rfl rfl rfl rfl (e_build tf17.ok tf16 (vs := [(0,.int .i64 (28))]) (cells := #[.int .i64 (28),.int .i64 (0)]) rfl rfl) ?_
 refine g_val (v := .bool true) rfl rfl rfl rfl rfl ((ev_t (by decide) (e_eql_t (p := (28 : Int) = (28 : Int) ∧ (0 : Int) = (0 : Int)) (xs := [.int .i64 (28),.int .i64 (0)]) (ys := [.int .i64 (28),.int .i64 (0)]) tf18 tf19 tf20 rfl rfl rfl rfl vec_eq))) ?_
 refine lE oktb (lE omb (gE (olg 0) ?_))
 refine g_val (v := .agg #[.int .i64 (1),.int .u8 (1),.int .i64 (2)]) rfl rfl rfl rfl rfl (e_build tf99.ok tf98 (vs := [(0,.int .i64 (1)),(1,.int .u8 (1)),(2,.int .i64 (2))]) (cells := #[.int .i64 (1),.int .u8 (1),.int .i64 (2)]) rfl rfl) ?_
 refine g_val (v := .bool true) rfl rfl rfl rfl rfl ((ev_t (by decide) (e_eql_t (p := (⟨(1),(1),(2)⟩ : KS) = ⟨(1),(1),(2)⟩) (xs := [.int .i64 (1),.int .u8 (1),.int .i64 (2)]) (ys := [.int .i64 (1),.int .u8 (1),.int .i64 (2)]) tf111 tf112 tf113 rfl rfl rfl rfl (stop_eq (x := ⟨(1),(1),(2)⟩) (y := ⟨(1),(1),(2)⟩))))) ?_
 refine lE oktb (lE omb (gE (olg 19) ?_))
 refine g_val (v := .agg #[.int .i64 (0),.int .i64 (0)]) rfl rfl rfl rfl rfl (e_build tf17.ok tf16 (vs := []) (cells := #[.int .i64 (0),.int .i64 (0)]) rfl rfl) ?_
 refine g_val (v := .bool true) rfl rfl rfl rfl rfl ((ev_t (by decide) (e_eql_t (p := (0 : Int) = (0 : Int) ∧ (0 : Int) = (0 : Int)) (xs := [.int .i64 (0),.int .i64 (0)]) (ys := [.int .i64 (0),.int .i64 (0)]) tf18 tf19 tf20 rfl rfl rfl rfl vec_eq))) ?_
 refine lE oktb (lE omb (gE (olg 21) ?_))
 refine g_val (v := .agg #[.int .i64 (1),.int .u8 (1),.int .i64 (-1)]) rfl rfl rfl rfl rfl (e_build tf99.ok tf98 (vs := [(0,.int .i64 (1)),(1,.int .u8 (1)),(2,.int .i64 (-1))]) (cells := #[.int .i64 (1),.int .u8 (1),.int .i64 (-1)]) rfl rfl) ?_
 refine g_val (v := .bool true) rfl rfl rfl rfl rfl ((ev_t (by decide) (e_eql_t (p := (⟨(1),(1),(-1)⟩ : KS) = ⟨(1),(1),(-1)⟩) (xs := [.int .i64 (1),.int .u8 (1),.int .i64 (-1)]) (ys := [.int .i64 (1),.int .u8 (1),.int .i64 (-1)]) tf111 tf112 tf113 rfl rfl rfl rfl (stop_eq (x := ⟨(1),(1),(-1)⟩) (y := ⟨(1),(1),(-1)⟩))))) ?_
 refine lE oktb (lE oab (lnf (c_ret (ret1 Tryz.results7 rfl ?_))))
 intro w hw
 exact ⟨rfl,st_mask [false,false,false,false,false,false,false,false,false,false,false,false,false,false,false,false,false,false,false,false,false,false] rfl hw⟩
end Go.Proofs
