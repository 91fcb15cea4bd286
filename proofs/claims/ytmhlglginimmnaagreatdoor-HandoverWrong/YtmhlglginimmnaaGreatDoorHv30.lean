/-
 HandoverWrong: walked. Printed by a program of my own.
-/
import Derived.Test.YtmhlglginimmnaaGreatDoorHv27
import Derived.Test.YtmhlglginimmnaaGreatDoorHvWrong
import Derived.Test.YtmhlglginimmnaaGreatDoorSlA
import Derived.Test.YtmhlglginimmnaaGreatDoorSlSortF
set_option linter.unusedVariables false
set_option linter.unusedSimpArgs false
namespace Go.Proofs
open Go Go.Sl Go.Hv Go.Jn
theorem uv0 : stB Tryz.prog 77 [(0, 1), (1, 1), (2, 16), (18, 1)] = true := by kernel_rfl
instance uv1 : ZerC Tryz.prog 77 (.agg #[.int .i64 (0), .pointer none, .map none, .slice none 0 0, .int .i64 (0), .int .i64 (0), .int .i64 (0), .int .i64 (0), .int .i64 (0), .int .i64 (0), .int .i64 (0), .int .i64 (0), .int .i64 (0), .int .i64 (0), .int .i64 (0), .int .i64 (0), .int .i64 (0), .int .i64 (0), .bool false]) := ⟨by kernel_rfl⟩
theorem uv2 : slB Tryz.prog 78 23 1 = true := by kernel_rfl
instance uv3 : ZerC Tryz.prog 23 (.pointer none) := ⟨by kernel_rfl⟩
instance uv4 : UndC Tryz.prog 78 23 := ⟨by kernel_rfl⟩
instance uv5 : TyC Tryz.prog 23 false 1 := ⟨by kernel_rfl⟩
instance uv6 : CfC Tryz.prog 12 := ⟨by kernel_rfl⟩
instance uv7 : CfC Tryz.prog 11 := ⟨by kernel_rfl⟩
instance uv8 : CfC Tryz.prog 21 := ⟨by kernel_rfl⟩
instance uv9 : CfC Tryz.prog 27 := ⟨by kernel_rfl⟩
instance uv10 : CfC Tryz.prog 13 := ⟨by kernel_rfl⟩
theorem uv11 : stB Tryz.prog 38 [(0, 1), (1, 1), (2, 1), (3, 1), (4, 2)] = true := by kernel_rfl
instance uv12 : ZerC Tryz.prog 38 (.agg #[.int .i64 (0), .int .i64 (0), .int .i64 (0), .bool false, .int .i64 (0), .slice none 0 0]) := ⟨by kernel_rfl⟩
instance uv13 : CfC Tryz.prog 15 := ⟨by kernel_rfl⟩
instance uv14 : CfC Tryz.prog 29 := ⟨by kernel_rfl⟩
instance uv15 : CfC Tryz.prog 17 := ⟨by kernel_rfl⟩
instance uv16 : CfC Tryz.prog 16 := ⟨by kernel_rfl⟩
instance uv17 : UndC Tryz.prog 40 32 := ⟨by kernel_rfl⟩
instance uv18 : CfC Tryz.prog 20 := ⟨by kernel_rfl⟩
instance uv19 : UndC Tryz.prog 35 38 := ⟨by kernel_rfl⟩
instance uv20 : CfC Tryz.prog 14 := ⟨by kernel_rfl⟩
instance uv21 : CfC Tryz.prog 10 := ⟨by kernel_rfl⟩
instance uv22 : CfC Tryz.prog 9 := ⟨by kernel_rfl⟩
theorem uv23 : stB Tryz.prog 79 [(0, 1), (1, 1)] = true := by kernel_rfl
instance uv24 : ZerC Tryz.prog 79 (.agg #[.int .i64 (0), .int .i64 (0)]) := ⟨by kernel_rfl⟩
theorem uv25 : slB Tryz.prog 80 79 2 = true := by kernel_rfl
instance uv26 : UndC Tryz.prog 80 79 := ⟨by kernel_rfl⟩
instance uv27 : TyC Tryz.prog 79 true 2 := ⟨by kernel_rfl⟩
instance uv28 : FldC Tryz.prog 79 0 0 1 false := ⟨by kernel_rfl⟩
instance uv29 : TyC Tryz.prog 24 false 1 := ⟨by kernel_rfl⟩
instance uv30 : FldC Tryz.prog 79 1 1 1 false := ⟨by kernel_rfl⟩
theorem uv31 : slB Tryz.prog 81 3 1 = true := by kernel_rfl
instance uv32 : ZerC Tryz.prog 3 (.int .i64 (0)) := ⟨by kernel_rfl⟩
instance uv33 : UndC Tryz.prog 81 3 := ⟨by kernel_rfl⟩
instance uv34 : TyC Tryz.prog 3 false 1 := ⟨by kernel_rfl⟩
theorem uv35 : Tryz.prog.underlying 23 = some (.pointer (Tryz.prog.pointee 23)) := by kernel_rfl
theorem uv36 : slB Tryz.prog 40 32 2 = true := by kernel_rfl
instance uv37 : TyC Tryz.prog 32 true 2 := ⟨by kernel_rfl⟩
instance uv38 : CfC Tryz.prog 18 := ⟨by kernel_rfl⟩
theorem uv39 : slB Tryz.prog 35 38 6 = true := by kernel_rfl
instance uv40 : FldC Tryz.prog 38 2 2 1 false := ⟨by kernel_rfl⟩
instance uv41 : FldC Tryz.prog 38 1 1 1 false := ⟨by kernel_rfl⟩
instance uv42 : FldC Tryz.prog 38 4 4 2 true := ⟨by kernel_rfl⟩
instance uv43 : CfC Tryz.prog 19 := ⟨by kernel_rfl⟩
theorem gopen_bad (β : Base) (w : World) (hw : St β [] w) (z : Int) (hz : z ≤ 0 ∨ 7 ≤ z) (S : Nat) : Calls Tryz.prog 9 #[Ix z, pp S 0] w fun r w' => r = .returned (.tuple #[.pointer none, Ix 2]) ∧ St β [] w' := by
 refine enter (n := 54) Tryz.func9 rfl Tryz.ntmps9 rfl ?_ hw
 refine csr (lE oap (lE oai (lnf (cs2 (c_region (lE omi (lE olt ?_)))))))
 refine l_or2 (decide ((z) < (1 : Int))) (decide ((6 : Int) < (z))) rfl (fun hb1 hk1 => ?_) (fun z2 z3 => ?_)
 ·have hb1p := of_decide_eq_false hb1
  refine gE omi (gE ogt (lE okfb ?_))
  exact hk1 _ _
 refine lE omb (l_splitb (s := 17) (b := ((decide ((z) < (1 : Int))) || (decide ((6 : Int) < (z))))) rfl (fun h => ?_) (fun h => ?_))
 rotate_left; (rw [(show ((decide ((z) < (1 : Int))) || (decide ((6 : Int) < (z)))) = true by simp; omega)] at h; cases h)
 refine skE (skE (lE oktb (lnf (c_yes rfl (csr (lE oap (lE oai (lnf (c_ret (f_then_ret ?_))))))))))
 refine ret2 (v := .pointer none) (v' := .int .i64 (2)) Tryz.results9 rfl rfl ?_
 intro w hw
 exact ⟨rfl,st_mask [] rfl hw⟩
set_option maxRecDepth 20000 in
set_option maxHeartbeats 20000000 in
theorem wrong_ok (β : Base) (w : World) (hw : St β [] w) (hG : GRng β) (n : Int) (hn : inI n) : Calls Tryz.prog 8 #[Ix n] w fun r w' => r = .returned (.bool true) ∧ St β [] w' := by
 refine enter (n := 285) Tryz.func8 rfl Tryz.ntmps8 rfl ?_ hw
 refine csr (lE oab (lnc (lE oap (lnf (cs2 (c_region (lE omp ?_)))))))
 refine lv (v := .agg #[.int .i64 (0),.pointer none,.map none,.slice none 0 0,.int .i64 (0),.int .i64 (0),.int .i64 (0),.int .i64 (0),.int .i64 (0),.int .i64 (0),.int .i64 (0),.int .i64 (0),.int .i64 (0),.int .i64 (0),.int .i64 (0),.int .i64 (0),.int .i64 (0),.int .i64 (0),.bool false]) (e_build uv1.ok uv0 (vs := []) (cells := #[.int .i64 (0),.pointer none,.map none,.slice none 0 0,.int .i64 (0),.int .i64 (0),.int .i64 (0),.int .i64 (0),.int .i64 (0),.int .i64 (0),.int .i64 (0),.int .i64 (0),.int .i64 (0),.int .i64 (0),.int .i64 (0),.int .i64 (0),.int .i64 (0),.int .i64 (0),.bool false]) rfl (by kernel_rfl)) ?_
 refine bxa fun b1 => ?_
 refine l_mv rfl rfl rfl (m_slices uv2 uv3.ok (cells := #[.pointer none,pp b1 0]) rfl rfl rfl rfl) ?_
 rintro _ _ ⟨b2,rfl,rfl⟩
 refine lE oln (lE omi (lnf (c_block (c_unroll 3 (un_succ 2 (csr (lE olt (lnf (c_seq (c_yes rfl (csk (c_seq (c_block (csr ?_))))))))))))))
 refine lv (v := pp b2 0) (e_indexPt (b := b2) (o := 0) (k := 0) (len := 2) (cap := 2) rfl rfl uv2 (by decide)) (lE (olp 0) (lE oap (lnc (lE omp ?_))))
 refine lcf (cl0 (vs := [.int .i64 (1),.int .i64 (1)]) uv6.ok rfl rfl) rfl fun w β1 sb kn hw1 back => (thing_ok β1 w hw1 1 1).mono ?_
 rintro e w' ⟨p3,c4,rfl,hw'⟩
 refine ⟨_,rfl,_,back _ _ hw',?_⟩
 clear hw1 hw' back kn sb
 refine lcR clA (fun w β1 sb kn hw1 => bput_ok β1 w hw1 _ 1 (by decide) (bad_nil _) 1 _ rfl) (lE onq (lE omb (gE omp ?_)))
 refine g_call rfl rfl rfl rfl rfl (cl0 (vs := [.int .i64 (1),.int .i64 (1)]) uv6.ok rfl rfl) ?_
 intro w hw
 obtain ⟨β1,sb,kn,hw1,back⟩ := St.frame_all hw
 refine (thing_ok β1 w hw1 1 1).mono ?_
 rintro e w' ⟨p5,c6,rfl,hw'⟩
 refine ⟨_,rfl,_,back _ _ hw',?_⟩
 clear hw hw1 hw' back kn sb
 refine g_call rfl rfl rfl rfl rfl (cl0 (vs := [.pointer none,.agg #[.int .i64 (1),.slice p5 (1) c6]]) uv8.ok rfl rfl) ?_
 intro w hw
 obtain ⟨β1,sb,kn,hw1,back⟩ := St.frame_all hw
 refine (bsave_ok β1 w hw1 _ 1 (by decide) (bad_nil _) 1 _ rfl).mono ?_
 rintro e w' ⟨rfl,hw'⟩
 refine ⟨_,rfl,_,back _ _ hw',?_⟩
 clear hw hw1 hw' back kn sb
 refine gE onq (lE okfb (lE omb (gE omp (g_call rfl rfl rfl rfl rfl (cl0 (vs := [.pointer none,.int .i64 (1)]) uv9.ok rfl rfl) ?_))))
 intro w hw
 obtain ⟨β1,sb,kn,hw1,back⟩ := St.frame_all hw
 refine (bdrop_ok β1 w hw1 _ 1 (by decide) (bad_nil _) 1).mono ?_
 rintro e w' ⟨rfl,hw'⟩
 refine ⟨_,rfl,_,back _ _ hw',?_⟩
 clear hw hw1 hw' back kn sb
 refine gE onq (lE okfb (lE omb (gE omp (g_call rfl rfl rfl rfl rfl (cl0 (vs := [.pointer none,.int .i64 (1),.int .i64 (2)]) uv10.ok rfl rfl) ?_))))
 intro w hw
 obtain ⟨β1,sb,kn,hw1,back⟩ := St.frame_all hw
 refine (bgive_ok β1 w hw1 _ 1 (by decide) (bad_nil _) 1 2).mono ?_
 rintro e w' ⟨rfl,hw'⟩
 refine ⟨_,rfl,_,back _ _ hw',?_⟩
 clear hw hw1 hw' back kn sb
 refine gE onq (lE okfb (lE omb (gE omp ?_)))
 refine g_val (v := .agg #[.int .i64 (0),.int .i64 (0),.int .i64 (0),.bool false,.int .i64 (0),.slice none 0 0]) rfl rfl rfl rfl rfl (e_build uv12.ok uv11 (vs := []) (cells := #[.int .i64 (0),.int .i64 (0),.int .i64 (0),.bool false,.int .i64 (0),.slice none 0 0]) rfl (by kernel_rfl)) ?_
 refine g_call rfl rfl rfl rfl rfl (cl0 (vs := [.pointer none,.agg #[.int .i64 (0),.int .i64 (0),.int .i64 (0),.bool false,.int .i64 (0),.slice none 0 0]]) uv13.ok rfl rfl) ?_
 intro w hw
 obtain ⟨β1,sb,kn,hw1,back⟩ := St.frame_all hw
 refine (btake_ok β1 w hw1 _ 1 (by decide) (bad_nil _) 0 0 0 false 0 _ rfl).mono ?_
 rintro e w' ⟨rfl,hw'⟩
 refine ⟨_,rfl,_,back _ _ hw',?_⟩
 clear hw hw1 hw' back kn sb
 refine gE onq (lE okfb (lE omb (gE omp (g_call rfl rfl rfl rfl rfl (cl0 (vs := [.pointer none]) uv14.ok rfl rfl) ?_))))
 intro w hw
 obtain ⟨β1,sb,kn,hw1,back⟩ := St.frame_all hw
 refine (bcompact_ok β1 w hw1 _ 1 (by decide) (bad_nil _) ).mono ?_
 rintro e w' ⟨rfl,hw'⟩
 refine ⟨_,rfl,_,back _ _ hw',?_⟩
 clear hw hw1 hw' back kn sb
 refine gE onq (lE okfb (lE omb (gE omp (g_call rfl rfl rfl rfl rfl (cl0 (vs := [.pointer none,.int .i64 (1)]) uv15.ok rfl rfl) ?_))))
 intro w hw
 obtain ⟨β1,sb,kn,hw1,back⟩ := St.frame_all hw
 refine (blast_ok β1 w hw1 _ 1 (by decide) (bad_nil _) 1).mono ?_
 rintro e w' ⟨rfl,hw'⟩
 refine ⟨_,rfl,_,back _ _ hw',?_⟩
 clear hw hw1 hw' back kn sb
 refine gE onq (lE okfb (lE omb (gE omp (g_call rfl rfl rfl rfl rfl (cl0 (vs := [.pointer none]) uv16.ok rfl rfl) ?_))))
 intro w hw
 obtain ⟨β1,sb,kn,hw1,back⟩ := St.frame_all hw
 refine (bhere_ok β1 w hw1 _ 1 (by decide) (bad_nil _) ).mono ?_
 rintro e w' ⟨rfl,hw'⟩
 refine ⟨_,rfl,_,back _ _ hw',?_⟩
 clear hw hw1 hw' back kn sb
 refine gE oln (gE omp (g_call rfl rfl rfl rfl rfl (cl0 (vs := [.pointer none]) uv18.ok rfl rfl) ?_))
 intro w hw
 obtain ⟨β1,sb,kn,hw1,back⟩ := St.frame_all hw
 refine (bout_ok β1 w hw1 _ 1 (by decide) (bad_nil _) ).mono ?_
 rintro e w' ⟨rfl,hw'⟩
 refine ⟨_,rfl,_,back _ _ hw',?_⟩
 clear hw hw1 hw' back kn sb
 refine gE oln (gE opl (gE omp (g_call rfl rfl rfl rfl rfl (cl0 (vs := [.pointer none]) uv20.ok rfl rfl) ?_)))
 intro w hw
 obtain ⟨β1,sb,kn,hw1,back⟩ := St.frame_all hw
 refine (bmsgs_ok β1 w hw1 _ 1 (by decide) (bad_nil _) ).mono ?_
 rintro e w' ⟨rfl,hw'⟩
 refine ⟨_,rfl,_,back _ _ hw',?_⟩
 clear hw hw1 hw' back kn sb
 refine gE oln (gE opl (gE onq (lE okfb (lnf (c_no rfl (c_skip (f_block (f_then (c_region (lE opl (lE omi (l_nil (f_cut (un_succ 1 (csr (lE olt ?_))))))))))))))))
 refine lnf (c_seq (c_yes rfl (csk (c_seq (c_block (csr ?_))))))
 refine lv (v := pp b2 1) (e_indexPt (b := b2) (o := 0) (k := 1) (len := 2) (cap := 2) rfl rfl uv2 (by decide)) (lE (olp 2) (lE oap (lnc (lE omp ?_))))
 refine lcf (cl0 (vs := [.int .i64 (1),.int .i64 (1)]) uv6.ok rfl rfl) rfl fun w β1 sb kn hw1 back => (thing_ok β1 w hw1 1 1).mono ?_
 rintro e w' ⟨p7,c8,rfl,hw'⟩
 refine ⟨_,rfl,_,back _ _ hw',?_⟩
 clear hw1 hw' back kn sb
 refine lcR clA (fun w β1 sb kn hw1 => bput_ok β1 w hw1 _ 1 (by decide) (bad_zero (kn _ (k_pt 4 (o := 0) rfl rfl))) 1 _ rfl) (lE onq (lE omb ?_))
 refine gE omp (g_call rfl rfl rfl rfl rfl (cl0 (vs := [.int .i64 (1),.int .i64 (1)]) uv6.ok rfl rfl) ?_)
 intro w hw
 obtain ⟨β1,sb,kn,hw1,back⟩ := St.frame_all hw
 refine (thing_ok β1 w hw1 1 1).mono ?_
 rintro e w' ⟨p9,c10,rfl,hw'⟩
 refine ⟨_,rfl,_,back _ _ hw',?_⟩
 clear hw hw1 hw' back kn sb
 refine g_call rfl rfl rfl rfl rfl (cl0 (vs := [pp b1 0,.agg #[.int .i64 (1),.slice p9 (1) c10]]) uv8.ok rfl rfl) ?_
 intro w hw
 obtain ⟨β1,sb,kn,hw1,back⟩ := St.frame_all hw
 refine (bsave_ok β1 w hw1 _ 1 (by decide) (bad_zero (kn _ (k_pt 5 (o := 0) rfl rfl))) 1 _ rfl).mono ?_
 rintro e w' ⟨rfl,hw'⟩
 refine ⟨_,rfl,_,back _ _ hw',?_⟩
 clear hw hw1 hw' back kn sb
 refine gE onq (lE okfb (lE omb (gE omp (g_call rfl rfl rfl rfl rfl (cl0 (vs := [pp b1 0,.int .i64 (1)]) uv9.ok rfl rfl) ?_))))
 intro w hw
 obtain ⟨β1,sb,kn,hw1,back⟩ := St.frame_all hw
 refine (bdrop_ok β1 w hw1 _ 1 (by decide) (bad_zero (kn _ (k_pt 5 (o := 0) rfl rfl))) 1).mono ?_
 rintro e w' ⟨rfl,hw'⟩
 refine ⟨_,rfl,_,back _ _ hw',?_⟩
 clear hw hw1 hw' back kn sb
 refine gE onq (lE okfb (lE omb (gE omp (g_call rfl rfl rfl rfl rfl (cl0 (vs := [pp b1 0,.int .i64 (1),.int .i64 (2)]) uv10.ok rfl rfl) ?_))))
 intro w hw
 obtain ⟨β1,sb,kn,hw1,back⟩ := St.frame_all hw
 refine (bgive_ok β1 w hw1 _ 1 (by decide) (bad_zero (kn _ (k_pt 5 (o := 0) rfl rfl))) 1 2).mono ?_
 rintro e w' ⟨rfl,hw'⟩
 refine ⟨_,rfl,_,back _ _ hw',?_⟩
 clear hw hw1 hw' back kn sb
 refine gE onq (lE okfb (lE omb (gE omp ?_)))
 refine g_val (v := .agg #[.int .i64 (0),.int .i64 (0),.int .i64 (0),.bool false,.int .i64 (0),.slice none 0 0]) rfl rfl rfl rfl rfl (e_build uv12.ok uv11 (vs := []) (cells := #[.int .i64 (0),.int .i64 (0),.int .i64 (0),.bool false,.int .i64 (0),.slice none 0 0]) rfl (by kernel_rfl)) ?_
 refine g_call rfl rfl rfl rfl rfl (cl0 (vs := [pp b1 0,.agg #[.int .i64 (0),.int .i64 (0),.int .i64 (0),.bool false,.int .i64 (0),.slice none 0 0]]) uv13.ok rfl rfl) ?_
 intro w hw
 obtain ⟨β1,sb,kn,hw1,back⟩ := St.frame_all hw
 refine (btake_ok β1 w hw1 _ 1 (by decide) (bad_zero (kn _ (k_pt 5 (o := 0) rfl rfl))) 0 0 0 false 0 _ rfl).mono ?_
 rintro e w' ⟨rfl,hw'⟩
 refine ⟨_,rfl,_,back _ _ hw',?_⟩
 clear hw hw1 hw' back kn sb
 refine gE onq (lE okfb (lE omb (gE omp (g_call rfl rfl rfl rfl rfl (cl0 (vs := [pp b1 0]) uv14.ok rfl rfl) ?_))))
 intro w hw
 obtain ⟨β1,sb,kn,hw1,back⟩ := St.frame_all hw
 refine (bcompact_ok β1 w hw1 _ 1 (by decide) (bad_zero (kn _ (k_pt 5 (o := 0) rfl rfl))) ).mono ?_
 rintro e w' ⟨rfl,hw'⟩
 refine ⟨_,rfl,_,back _ _ hw',?_⟩
 clear hw hw1 hw' back kn sb
 refine gE onq (lE okfb (lE omb (gE omp (g_call rfl rfl rfl rfl rfl (cl0 (vs := [pp b1 0,.int .i64 (1)]) uv15.ok rfl rfl) ?_))))
 intro w hw
 obtain ⟨β1,sb,kn,hw1,back⟩ := St.frame_all hw
 refine (blast_ok β1 w hw1 _ 1 (by decide) (bad_zero (kn _ (k_pt 5 (o := 0) rfl rfl))) 1).mono ?_
 rintro e w' ⟨rfl,hw'⟩
 refine ⟨_,rfl,_,back _ _ hw',?_⟩
 clear hw hw1 hw' back kn sb
 refine gE onq (lE okfb (lE omb (gE omp (g_call rfl rfl rfl rfl rfl (cl0 (vs := [pp b1 0]) uv16.ok rfl rfl) ?_))))
 intro w hw
 obtain ⟨β1,sb,kn,hw1,back⟩ := St.frame_all hw
 refine (bhere_ok β1 w hw1 _ 1 (by decide) (bad_zero (kn _ (k_pt 5 (o := 0) rfl rfl))) ).mono ?_
 rintro e w' ⟨rfl,hw'⟩
 refine ⟨_,rfl,_,back _ _ hw',?_⟩
 clear hw hw1 hw' back kn sb
 refine gE oln (gE omp (g_call rfl rfl rfl rfl rfl (cl0 (vs := [pp b1 0]) uv18.ok rfl rfl) ?_))
 intro w hw
 obtain ⟨β1,sb,kn,hw1,back⟩ := St.frame_all hw
 refine (bout_ok β1 w hw1 _ 1 (by decide) (bad_zero (kn _ (k_pt 5 (o := 0) rfl rfl))) ).mono ?_
 rintro e w' ⟨rfl,hw'⟩
 refine ⟨_,rfl,_,back _ _ hw',?_⟩
 clear hw hw1 hw' back kn sb
 refine gE oln (gE opl (gE omp (g_call rfl rfl rfl rfl rfl (cl0 (vs := [pp b1 0]) uv20.ok rfl rfl) ?_)))
 intro w hw
 obtain ⟨β1,sb,kn,hw1,back⟩ := St.frame_all hw
 refine (bmsgs_ok β1 w hw1 _ 1 (by decide) (bad_zero (kn _ (k_pt 5 (o := 0) rfl rfl))) ).mono ?_
 rintro e w' ⟨rfl,hw'⟩
 refine ⟨_,rfl,_,back _ _ hw',?_⟩
 clear hw hw1 hw' back kn sb
 refine gE oln (gE opl (gE onq (lE okfb (lnf (c_no rfl (c_skip (f_block (f_then (c_region (lE opl (lE omi (l_nil (f_cut (un_succ 0 (csr (lE olt ?_))))))))))))))))
 refine lnf (c_seq (c_no rfl (c_exit (f_then_exit (f_then_exit (f_exit (ftc ?_)))))))
 refine lcf (cl0 (vs := []) uv21.ok rfl rfl) rfl fun w β1 sb kn hw1 back => (empty_ok β1 w hw1 4 (by decide)).mono ?_
 rintro e w' ⟨S11,rfl,hw'⟩
 refine ⟨_,rfl,_,back _ _ hw',?_⟩
 clear hw1 hw' back kn sb
 refine l_call rfl rfl rfl (cl0 (vs := [.int .i64 (4),pp S11 0]) uv22.ok rfl rfl) ?_
 intro w hw
 replace hw := hw.perm (L' := _ :: _ :: _ :: _ :: _ :: _ :: _ :: []) (by exact (((((((perm_front 6 rfl).trans (perm_front 6 rfl)).trans (perm_front 6 rfl)).trans (perm_front 6 rfl)).trans (perm_front 6 rfl)).trans (perm_front 6 rfl)).trans (perm_front 6 rfl)))
 obtain ⟨β1,sb,kn,hw1,back⟩ := St.frame (L := [_]) (M := _ :: _ :: _ :: _ :: _ :: _ :: []) hw
 refine ((gopen_ok β1 w S11 0 (freshG 4) true hw1 (by decide)).mono fun _ _ z => open_yes z).mono ?_
 rintro e w' ⟨G12,rfl,hw'⟩
 refine ⟨_,rfl,_,back _ _ hw',?_⟩
 clear hw hw1 hw' back kn sb
 refine lE omt (lE oxp (lE oxi (lE oap (lE oai (lnf (cs2 (c_region (lE omi (lE onq (lE omb (gE omp ?_)))))))))))
 refine g_call rfl rfl rfl rfl rfl (cl0 (vs := [.int .i64 (1),.int .i64 (1)]) uv6.ok rfl rfl) ?_
 intro w hw
 obtain ⟨β1,sb,kn,hw1,back⟩ := St.frame_all hw
 refine (thing_ok β1 w hw1 1 1).mono ?_
 rintro e w' ⟨p13,c14,rfl,hw'⟩
 refine ⟨_,rfl,_,back _ _ hw',?_⟩
 clear hw hw1 hw' back kn sb
 refine g_call rfl rfl rfl rfl rfl (cl0 (vs := [pp G12 0,.agg #[.int .i64 (1),.slice p13 (1) c14]]) uv7.ok rfl rfl) ?_
 intro w hw
 replace hw := hw.perm (L' := _ :: _ :: _ :: _ :: _ :: _ :: _ :: _ :: []) (by exact ((((((((perm_front 7 rfl).trans (perm_front 7 rfl)).trans (perm_front 7 rfl)).trans (perm_front 7 rfl)).trans (perm_front 7 rfl)).trans (perm_front 7 rfl)).trans (perm_front 6 rfl)).trans (perm_front 7 rfl)))
 obtain ⟨β1,sb,kn,hw1,back⟩ := St.frame (L := [_]) (M := _ :: _ :: _ :: _ :: _ :: _ :: _ :: []) hw
 refine ((gput_ok β1 w (Cs.mono _ _ _ _ sb hG) G12 S11 0 (freshG 4) true hw1 (by decide) (thE 1 1) _ (kn _ (k_flN 0 (F := CpF) (m := 1) rfl rfl))).mono fun _ _ z => act_yes (N' := 300) (Y := wgX1) wg_p1 wg_y1 (Nat.le_refl _) z).mono ?_
 rintro e w' ⟨rfl,hw'⟩
 refine ⟨_,rfl,_,back _ _ hw',?_⟩
 clear hw hw1 hw' back kn sb
 refine gE onq (lE okfb (lE omb (gE omp (g_call rfl rfl rfl rfl rfl (cl0 (vs := [.int .i64 (2),.int .i64 (2)]) uv6.ok rfl rfl) ?_))))
 intro w hw
 obtain ⟨β1,sb,kn,hw1,back⟩ := St.frame_all hw
 refine (thing_ok β1 w hw1 2 2).mono ?_
 rintro e w' ⟨p15,c16,rfl,hw'⟩
 refine ⟨_,rfl,_,back _ _ hw',?_⟩
 clear hw hw1 hw' back kn sb
 refine g_call rfl rfl rfl rfl rfl (cl0 (vs := [pp G12 0,.agg #[.int .i64 (2),.slice p15 (1) c16]]) uv7.ok rfl rfl) ?_
 intro w hw
 replace hw := hw.perm (L' := _ :: _ :: _ :: _ :: _ :: _ :: _ :: _ :: _ :: []) (by exact (((((((((perm_front 8 rfl).trans (perm_front 8 rfl)).trans (perm_front 8 rfl)).trans (perm_front 8 rfl)).trans (perm_front 8 rfl)).trans (perm_front 8 rfl)).trans (perm_front 8 rfl)).trans (perm_front 7 rfl)).trans (perm_front 8 rfl)))
 obtain ⟨β1,sb,kn,hw1,back⟩ := St.frame (L := [_]) (M := _ :: _ :: _ :: _ :: _ :: _ :: _ :: _ :: []) hw
 refine ((gput_ok β1 w (Cs.mono _ _ _ _ sb hG) G12 S11 300 wgX1 true hw1 (by decide) (thE 2 2) _ (kn _ (k_flN 0 (F := CpF) (m := 1) rfl rfl))).mono fun _ _ z => act_yes (N' := 600) (Y := wgX2) wg_p2 wg_y2 (Nat.le_refl _) z).mono ?_
 rintro e w' ⟨rfl,hw'⟩
 refine ⟨_,rfl,_,back _ _ hw',?_⟩
 clear hw hw1 hw' back kn sb
 refine gE onq (lE okfb (lE omb (gE omp (g_call rfl rfl rfl rfl rfl (cl0 (vs := [pp G12 0,.int .i64 (2),.int .i64 (6)]) uv10.ok rfl rfl) ?_))))
 intro w hw
 replace hw := hw.perm (L' := _ :: _ :: _ :: _ :: _ :: _ :: _ :: _ :: _ :: []) (by exact (((((((((perm_front 8 rfl).trans (perm_front 8 rfl)).trans (perm_front 8 rfl)).trans (perm_front 8 rfl)).trans (perm_front 8 rfl)).trans (perm_front 8 rfl)).trans (perm_front 8 rfl)).trans (perm_front 8 rfl)).trans (perm_front 8 rfl)))
 obtain ⟨β1,sb,kn,hw1,back⟩ := St.frame (L := [_]) (M := _ :: _ :: _ :: _ :: _ :: _ :: _ :: _ :: []) hw
 refine ((ggive_ok β1 w (Cs.mono _ _ _ _ sb hG) G12 S11 600 wgX2 true hw1 (by decide) 2 6 (by decide) (by decide)).mono fun _ _ z => act_yes (N' := 900) (Y := wgX) wg_p3 wg_y3 (Nat.le_refl _) z).mono ?_
 rintro e w' ⟨rfl,hw'⟩
 refine ⟨_,rfl,_,back _ _ hw',?_⟩
 clear hw hw1 hw' back kn sb
 refine gE onq (lE okfb (lnf (c_no rfl (csk (csr (lE omi (lE omz (lE omi (lE omx (lE oai (lE oai (lnf (cs2 ?_)))))))))))))
 obtain ⟨low,hlo⟩ : ∃ z,z = (min (n) (0 : Int)) := ⟨_,rfl⟩
 obtain ⟨high,hhi⟩ : ∃ z,z = (max (n) (7 : Int)) := ⟨_,rfl⟩
 have hlow : low ≤ 0 := by omega
 have hhigh : 7 ≤ high := by omega
 refine rbs 8 (v := Ix low) (show (Ix (min (n) (0 : Int)) : Value) = Ix low from congrArg (Value.int .i64) hlo.symm) ?_
 refine rbs 9 (v := Ix high) (show (Ix (max (n) (7 : Int)) : Value) = Ix high from congrArg (Value.int .i64) hhi.symm) (c_region (lE omp ?_))
 refine lcf (cl0 (vs := [.int .i64 (1),.int .i64 (5)]) uv6.ok rfl rfl) rfl fun w β1 sb kn hw1 back => (thing_ok β1 w hw1 1 5).mono ?_
 rintro e w' ⟨p17,c18,rfl,hw'⟩
 refine ⟨_,rfl,_,back _ _ hw',?_⟩
 clear hw1 hw' back kn sb
 refine l_call rfl rfl rfl (cl0 (vs := [pp G12 0,.agg #[.int .i64 (1),.slice p17 (1) c18]]) uv7.ok rfl rfl) ?_
 intro w hw
 replace hw := hw.perm (L' := [gateR G12 S11 wgX 900 true,rowF CpF 100 p17 c18 [(⟨10,5,0,0,0⟩ : KComp)],rowF CpF 100 p15 c16 [(⟨10,2,0,0,0⟩ : KComp)],rowF CpF 100 p13 c14 [(⟨10,1,0,0,0⟩ : KComp)],rowF CpF 100 p9 c10 [(⟨10,1,0,0,0⟩ : KComp)],rowF CpF 100 p7 c8 [(⟨10,1,0,0,0⟩ : KComp)],rowF CpF 100 p5 c6 [(⟨10,1,0,0,0⟩ : KComp)],rowF CpF 100 p3 c4 [(⟨10,1,0,0,0⟩ : KComp)],pt b2 (.cells #[.pointer none,pp b1 0] 23),pt b1 (.cells #[.int .i64 (0),.pointer none,.map none,.slice none 0 0,.int .i64 (0),.int .i64 (0),.int .i64 (0),.int .i64 (0),.int .i64 (0),.int .i64 (0),.int .i64 (0),.int .i64 (0),.int .i64 (0),.int .i64 (0),.int .i64 (0),.int .i64 (0),.int .i64 (0),.int .i64 (0),.bool false] 77)]) (by exact (perm_ix [1,0,2,3,4,5,6,7,8,9] 10 rfl (by kernel_rfl) (by kernel_rfl)))
 obtain ⟨β1,sb,kn,hw1,back⟩ := St.frame (L := [_]) (M := _ :: _ :: _ :: _ :: _ :: _ :: _ :: _ :: _ :: []) hw
 refine ((gput_ok β1 w (Cs.mono _ _ _ _ sb hG) G12 S11 900 wgX true hw1 (by decide) (thE 1 5) _ (kn _ (k_flN 0 (F := CpF) (m := 1) rfl rfl))).mono fun _ _ z => act_no wg_put1 z).mono ?_
 rintro e w' ⟨rfl,hw'⟩
 refine ⟨_,rfl,_,back _ _ hw',?_⟩
 clear hw hw1 hw' back kn sb
 refine lv (v := .agg #[.int .i64 (2),.int .i64 (2)]) (e_build uv24.ok uv23 (vs := [(0,.int .i64 (2)),(1,.int .i64 (2))]) (cells := #[.int .i64 (2),.int .i64 (2)]) rfl rfl) ?_
 refine lE omp (lcf (cl0 (vs := [.int .i64 (2),.int .i64 (5)]) uv6.ok rfl rfl) rfl fun w β1 sb kn hw1 back => (thing_ok β1 w hw1 2 5).mono ?_)
 rintro e w' ⟨p19,c20,rfl,hw'⟩
 refine ⟨_,rfl,_,back _ _ hw',?_⟩
 clear hw1 hw' back kn sb
 refine l_call rfl rfl rfl (cl0 (vs := [pp G12 0,.agg #[.int .i64 (2),.slice p19 (1) c20]]) uv7.ok rfl rfl) ?_
 intro w hw
 replace hw := hw.perm (L' := [gateR G12 S11 wgX 900 true,rowF CpF 100 p19 c20 [(⟨10,5,0,0,0⟩ : KComp)],rowF CpF 100 p17 c18 [(⟨10,5,0,0,0⟩ : KComp)],rowF CpF 100 p15 c16 [(⟨10,2,0,0,0⟩ : KComp)],rowF CpF 100 p13 c14 [(⟨10,1,0,0,0⟩ : KComp)],rowF CpF 100 p9 c10 [(⟨10,1,0,0,0⟩ : KComp)],rowF CpF 100 p7 c8 [(⟨10,1,0,0,0⟩ : KComp)],rowF CpF 100 p5 c6 [(⟨10,1,0,0,0⟩ : KComp)],rowF CpF 100 p3 c4 [(⟨10,1,0,0,0⟩ : KComp)],pt b2 (.cells #[.pointer none,pp b1 0] 23),pt b1 (.cells #[.int .i64 (0),.pointer none,.map none,.slice none 0 0,.int .i64 (0),.int .i64 (0),.int .i64 (0),.int .i64 (0),.int .i64 (0),.int .i64 (0),.int .i64 (0),.int .i64 (0),.int .i64 (0),.int .i64 (0),.int .i64 (0),.int .i64 (0),.int .i64 (0),.int .i64 (0),.bool false] 77)]) (by exact (perm_ix [1,0,2,3,4,5,6,7,8,9,10] 11 rfl (by kernel_rfl) (by kernel_rfl)))
 obtain ⟨β1,sb,kn,hw1,back⟩ := St.frame (L := [_]) (M := _ :: _ :: _ :: _ :: _ :: _ :: _ :: _ :: _ :: _ :: []) hw
 refine ((gput_ok β1 w (Cs.mono _ _ _ _ sb hG) G12 S11 900 wgX true hw1 (by decide) (thE 2 5) _ (kn _ (k_flN 0 (F := CpF) (m := 1) rfl rfl))).mono fun _ _ z => act_no wg_put2 z).mono ?_
 rintro e w' ⟨rfl,hw'⟩
 refine ⟨_,rfl,_,back _ _ hw',?_⟩
 clear hw hw1 hw' back kn sb
 refine lv (v := .agg #[.int .i64 (2),.int .i64 (2)]) (e_build uv24.ok uv23 (vs := [(0,.int .i64 (2)),(1,.int .i64 (2))]) (cells := #[.int .i64 (2),.int .i64 (2)]) rfl rfl) ?_
 refine lE omp (lE omi (lcf (cl0 (vs := [Ix (low),.int .i64 (1)]) uv6.ok rfl rfl) rfl fun w β1 sb kn hw1 back => (thing_ok β1 w hw1 low 1).mono ?_))
 rintro e w' ⟨p21,c22,rfl,hw'⟩
 refine ⟨_,rfl,_,back _ _ hw',?_⟩
 clear hw1 hw' back kn sb
 refine l_call rfl rfl rfl (cl0 (vs := [pp G12 0,.agg #[Ix (low),.slice p21 (1) c22]]) uv7.ok rfl rfl) ?_
 intro w hw
 replace hw := hw.perm (L' := [gateR G12 S11 wgX 900 true,rowF CpF 100 p21 c22 [(⟨10,1,0,0,0⟩ : KComp)],rowF CpF 100 p19 c20 [(⟨10,5,0,0,0⟩ : KComp)],rowF CpF 100 p17 c18 [(⟨10,5,0,0,0⟩ : KComp)],rowF CpF 100 p15 c16 [(⟨10,2,0,0,0⟩ : KComp)],rowF CpF 100 p13 c14 [(⟨10,1,0,0,0⟩ : KComp)],rowF CpF 100 p9 c10 [(⟨10,1,0,0,0⟩ : KComp)],rowF CpF 100 p7 c8 [(⟨10,1,0,0,0⟩ : KComp)],rowF CpF 100 p5 c6 [(⟨10,1,0,0,0⟩ : KComp)],rowF CpF 100 p3 c4 [(⟨10,1,0,0,0⟩ : KComp)],pt b2 (.cells #[.pointer none,pp b1 0] 23),pt b1 (.cells #[.int .i64 (0),.pointer none,.map none,.slice none 0 0,.int .i64 (0),.int .i64 (0),.int .i64 (0),.int .i64 (0),.int .i64 (0),.int .i64 (0),.int .i64 (0),.int .i64 (0),.int .i64 (0),.int .i64 (0),.int .i64 (0),.int .i64 (0),.int .i64 (0),.int .i64 (0),.bool false] 77)]) (by exact (perm_ix [1,0,2,3,4,5,6,7,8,9,10,11] 12 rfl (by kernel_rfl) (by kernel_rfl)))
 obtain ⟨β1,sb,kn,hw1,back⟩ := St.frame (L := [_]) (M := _ :: _ :: _ :: _ :: _ :: _ :: _ :: _ :: _ :: _ :: _ :: []) hw
 refine ((gput_ok β1 w (Cs.mono _ _ _ _ sb hG) G12 S11 900 wgX true hw1 (by decide) (thE low 1) _ (kn _ (k_flN 0 (F := CpF) (m := 1) rfl rfl))).mono fun _ _ z => act_no (wg_put3 hlow) z).mono ?_
 rintro e w' ⟨rfl,hw'⟩
 refine ⟨_,rfl,_,back _ _ hw',?_⟩
 clear hw hw1 hw' back kn sb
 refine lv (v := .agg #[.int .i64 (2),.int .i64 (2)]) (e_build uv24.ok uv23 (vs := [(0,.int .i64 (2)),(1,.int .i64 (2))]) (cells := #[.int .i64 (2),.int .i64 (2)]) rfl rfl) ?_
 refine lE omp (lcf (cl0 (vs := [.int .i64 (2),.int .i64 (5)]) uv6.ok rfl rfl) rfl fun w β1 sb kn hw1 back => (thing_ok β1 w hw1 2 5).mono ?_)
 rintro e w' ⟨p23,c24,rfl,hw'⟩
 refine ⟨_,rfl,_,back _ _ hw',?_⟩
 clear hw1 hw' back kn sb
 refine l_call rfl rfl rfl (cl0 (vs := [pp G12 0,.agg #[.int .i64 (2),.slice p23 (1) c24]]) uv8.ok rfl rfl) ?_
 intro w hw
 replace hw := hw.perm (L' := [gateR G12 S11 wgX 900 true,rowF CpF 100 p23 c24 [(⟨10,5,0,0,0⟩ : KComp)],rowF CpF 100 p21 c22 [(⟨10,1,0,0,0⟩ : KComp)],rowF CpF 100 p19 c20 [(⟨10,5,0,0,0⟩ : KComp)],rowF CpF 100 p17 c18 [(⟨10,5,0,0,0⟩ : KComp)],rowF CpF 100 p15 c16 [(⟨10,2,0,0,0⟩ : KComp)],rowF CpF 100 p13 c14 [(⟨10,1,0,0,0⟩ : KComp)],rowF CpF 100 p9 c10 [(⟨10,1,0,0,0⟩ : KComp)],rowF CpF 100 p7 c8 [(⟨10,1,0,0,0⟩ : KComp)],rowF CpF 100 p5 c6 [(⟨10,1,0,0,0⟩ : KComp)],rowF CpF 100 p3 c4 [(⟨10,1,0,0,0⟩ : KComp)],pt b2 (.cells #[.pointer none,pp b1 0] 23),pt b1 (.cells #[.int .i64 (0),.pointer none,.map none,.slice none 0 0,.int .i64 (0),.int .i64 (0),.int .i64 (0),.int .i64 (0),.int .i64 (0),.int .i64 (0),.int .i64 (0),.int .i64 (0),.int .i64 (0),.int .i64 (0),.int .i64 (0),.int .i64 (0),.int .i64 (0),.int .i64 (0),.bool false] 77)]) (by exact (perm_ix [1,0,2,3,4,5,6,7,8,9,10,11,12] 13 rfl (by kernel_rfl) (by kernel_rfl)))
 obtain ⟨β1,sb,kn,hw1,back⟩ := St.frame (L := [_]) (M := _ :: _ :: _ :: _ :: _ :: _ :: _ :: _ :: _ :: _ :: _ :: _ :: []) hw
 refine ((gsave_ok β1 w (Cs.mono _ _ _ _ sb hG) G12 S11 900 wgX true hw1 (by decide) (thE 2 5) _ (kn _ (k_flN 0 (F := CpF) (m := 1) rfl rfl))).mono fun _ _ z => act_no wg_save2 z).mono ?_
 rintro e w' ⟨rfl,hw'⟩
 refine ⟨_,rfl,_,back _ _ hw',?_⟩
 clear hw hw1 hw' back kn sb
 refine lv (v := .agg #[.int .i64 (6),.int .i64 (6)]) (e_build uv24.ok uv23 (vs := [(0,.int .i64 (6)),(1,.int .i64 (6))]) (cells := #[.int .i64 (6),.int .i64 (6)]) rfl rfl) ?_
 refine lE omp (lE omi (lcf (cl0 (vs := [Ix (low),.int .i64 (5)]) uv6.ok rfl rfl) rfl fun w β1 sb kn hw1 back => (thing_ok β1 w hw1 low 5).mono ?_))
 rintro e w' ⟨p25,c26,rfl,hw'⟩
 refine ⟨_,rfl,_,back _ _ hw',?_⟩
 clear hw1 hw' back kn sb
 refine l_call rfl rfl rfl (cl0 (vs := [pp G12 0,.agg #[Ix (low),.slice p25 (1) c26]]) uv8.ok rfl rfl) ?_
 intro w hw
 replace hw := hw.perm (L' := [gateR G12 S11 wgX 900 true,rowF CpF 100 p25 c26 [(⟨10,5,0,0,0⟩ : KComp)],rowF CpF 100 p23 c24 [(⟨10,5,0,0,0⟩ : KComp)],rowF CpF 100 p21 c22 [(⟨10,1,0,0,0⟩ : KComp)],rowF CpF 100 p19 c20 [(⟨10,5,0,0,0⟩ : KComp)],rowF CpF 100 p17 c18 [(⟨10,5,0,0,0⟩ : KComp)],rowF CpF 100 p15 c16 [(⟨10,2,0,0,0⟩ : KComp)],rowF CpF 100 p13 c14 [(⟨10,1,0,0,0⟩ : KComp)],rowF CpF 100 p9 c10 [(⟨10,1,0,0,0⟩ : KComp)],rowF CpF 100 p7 c8 [(⟨10,1,0,0,0⟩ : KComp)],rowF CpF 100 p5 c6 [(⟨10,1,0,0,0⟩ : KComp)],rowF CpF 100 p3 c4 [(⟨10,1,0,0,0⟩ : KComp)],pt b2 (.cells #[.pointer none,pp b1 0] 23),pt b1 (.cells #[.int .i64 (0),.pointer none,.map none,.slice none 0 0,.int .i64 (0),.int .i64 (0),.int .i64 (0),.int .i64 (0),.int .i64 (0),.int .i64 (0),.int .i64 (0),.int .i64 (0),.int .i64 (0),.int .i64 (0),.int .i64 (0),.int .i64 (0),.int .i64 (0),.int .i64 (0),.bool false] 77)]) (by exact (perm_ix [1,0,2,3,4,5,6,7,8,9,10,11,12,13] 14 rfl (by kernel_rfl) (by kernel_rfl)))
 obtain ⟨β1,sb,kn,hw1,back⟩ := St.frame (L := [_]) (M := _ :: _ :: _ :: _ :: _ :: _ :: _ :: _ :: _ :: _ :: _ :: _ :: _ :: []) hw
 refine ((gsave_ok β1 w (Cs.mono _ _ _ _ sb hG) G12 S11 900 wgX true hw1 (by decide) (thE low 5) _ (kn _ (k_flN 0 (F := CpF) (m := 1) rfl rfl))).mono fun _ _ z => act_no (wg_save3 hlow) z).mono ?_
 rintro e w' ⟨rfl,hw'⟩
 refine ⟨_,rfl,_,back _ _ hw',?_⟩
 clear hw hw1 hw' back kn sb
 refine lv (v := .agg #[.int .i64 (2),.int .i64 (2)]) (e_build uv24.ok uv23 (vs := [(0,.int .i64 (2)),(1,.int .i64 (2))]) (cells := #[.int .i64 (2),.int .i64 (2)]) rfl rfl) ?_
 refine lE omp (l_call rfl rfl rfl (cl0 (vs := [pp G12 0,.int .i64 (2)]) uv9.ok rfl rfl) ?_)
 intro w hw
 replace hw := hw.perm (L' := [gateR G12 S11 wgX 900 true,rowF CpF 100 p25 c26 [(⟨10,5,0,0,0⟩ : KComp)],rowF CpF 100 p23 c24 [(⟨10,5,0,0,0⟩ : KComp)],rowF CpF 100 p21 c22 [(⟨10,1,0,0,0⟩ : KComp)],rowF CpF 100 p19 c20 [(⟨10,5,0,0,0⟩ : KComp)],rowF CpF 100 p17 c18 [(⟨10,5,0,0,0⟩ : KComp)],rowF CpF 100 p15 c16 [(⟨10,2,0,0,0⟩ : KComp)],rowF CpF 100 p13 c14 [(⟨10,1,0,0,0⟩ : KComp)],rowF CpF 100 p9 c10 [(⟨10,1,0,0,0⟩ : KComp)],rowF CpF 100 p7 c8 [(⟨10,1,0,0,0⟩ : KComp)],rowF CpF 100 p5 c6 [(⟨10,1,0,0,0⟩ : KComp)],rowF CpF 100 p3 c4 [(⟨10,1,0,0,0⟩ : KComp)],pt b2 (.cells #[.pointer none,pp b1 0] 23),pt b1 (.cells #[.int .i64 (0),.pointer none,.map none,.slice none 0 0,.int .i64 (0),.int .i64 (0),.int .i64 (0),.int .i64 (0),.int .i64 (0),.int .i64 (0),.int .i64 (0),.int .i64 (0),.int .i64 (0),.int .i64 (0),.int .i64 (0),.int .i64 (0),.int .i64 (0),.int .i64 (0),.bool false] 77)]) (by exact (perm_ix [0,1,2,3,4,5,6,7,8,9,10,11,12,13] 14 rfl (by kernel_rfl) (by kernel_rfl)))
 obtain ⟨β1,sb,kn,hw1,back⟩ := St.frame (L := [_]) (M := _ :: _ :: _ :: _ :: _ :: _ :: _ :: _ :: _ :: _ :: _ :: _ :: _ :: []) hw
 refine ((gdrop_ok β1 w (Cs.mono _ _ _ _ sb hG) G12 S11 900 wgX true hw1 (by decide) 2 (by decide)).mono fun _ _ z => act_no wg_drop2 z).mono ?_
 rintro e w' ⟨rfl,hw'⟩
 refine ⟨_,rfl,_,back _ _ hw',?_⟩
 clear hw hw1 hw' back kn sb
 refine lv (v := .agg #[.int .i64 (6),.int .i64 (6)]) (e_build uv24.ok uv23 (vs := [(0,.int .i64 (6)),(1,.int .i64 (6))]) (cells := #[.int .i64 (6),.int .i64 (6)]) rfl rfl) ?_
 refine lE omp (lE omi (l_call rfl rfl rfl (cl0 (vs := [pp G12 0,Ix (low)]) uv9.ok rfl rfl) ?_))
 intro w hw
 replace hw := hw.perm (L' := [gateR G12 S11 wgX 900 true,rowF CpF 100 p25 c26 [(⟨10,5,0,0,0⟩ : KComp)],rowF CpF 100 p23 c24 [(⟨10,5,0,0,0⟩ : KComp)],rowF CpF 100 p21 c22 [(⟨10,1,0,0,0⟩ : KComp)],rowF CpF 100 p19 c20 [(⟨10,5,0,0,0⟩ : KComp)],rowF CpF 100 p17 c18 [(⟨10,5,0,0,0⟩ : KComp)],rowF CpF 100 p15 c16 [(⟨10,2,0,0,0⟩ : KComp)],rowF CpF 100 p13 c14 [(⟨10,1,0,0,0⟩ : KComp)],rowF CpF 100 p9 c10 [(⟨10,1,0,0,0⟩ : KComp)],rowF CpF 100 p7 c8 [(⟨10,1,0,0,0⟩ : KComp)],rowF CpF 100 p5 c6 [(⟨10,1,0,0,0⟩ : KComp)],rowF CpF 100 p3 c4 [(⟨10,1,0,0,0⟩ : KComp)],pt b2 (.cells #[.pointer none,pp b1 0] 23),pt b1 (.cells #[.int .i64 (0),.pointer none,.map none,.slice none 0 0,.int .i64 (0),.int .i64 (0),.int .i64 (0),.int .i64 (0),.int .i64 (0),.int .i64 (0),.int .i64 (0),.int .i64 (0),.int .i64 (0),.int .i64 (0),.int .i64 (0),.int .i64 (0),.int .i64 (0),.int .i64 (0),.bool false] 77)]) (by exact (perm_ix [0,1,2,3,4,5,6,7,8,9,10,11,12,13] 14 rfl (by kernel_rfl) (by kernel_rfl)))
 obtain ⟨β1,sb,kn,hw1,back⟩ := St.frame (L := [_]) (M := _ :: _ :: _ :: _ :: _ :: _ :: _ :: _ :: _ :: _ :: _ :: _ :: _ :: []) hw
 refine ((gdrop_ok β1 w (Cs.mono _ _ _ _ sb hG) G12 S11 900 wgX true hw1 (by decide) low ⟨by omega,by omega⟩).mono fun _ _ z => act_no (wg_drop3 hlow) z).mono ?_
 rintro e w' ⟨rfl,hw'⟩
 refine ⟨_,rfl,_,back _ _ hw',?_⟩
 clear hw hw1 hw' back kn sb
 refine lv (v := .agg #[.int .i64 (6),.int .i64 (6)]) (e_build uv24.ok uv23 (vs := [(0,.int .i64 (6)),(1,.int .i64 (6))]) (cells := #[.int .i64 (6),.int .i64 (6)]) rfl rfl) ?_
 refine lE omp (l_call rfl rfl rfl (cl0 (vs := [pp G12 0,.int .i64 (1),.int .i64 (4)]) uv10.ok rfl rfl) ?_)
 intro w hw
 replace hw := hw.perm (L' := [gateR G12 S11 wgX 900 true,rowF CpF 100 p25 c26 [(⟨10,5,0,0,0⟩ : KComp)],rowF CpF 100 p23 c24 [(⟨10,5,0,0,0⟩ : KComp)],rowF CpF 100 p21 c22 [(⟨10,1,0,0,0⟩ : KComp)],rowF CpF 100 p19 c20 [(⟨10,5,0,0,0⟩ : KComp)],rowF CpF 100 p17 c18 [(⟨10,5,0,0,0⟩ : KComp)],rowF CpF 100 p15 c16 [(⟨10,2,0,0,0⟩ : KComp)],rowF CpF 100 p13 c14 [(⟨10,1,0,0,0⟩ : KComp)],rowF CpF 100 p9 c10 [(⟨10,1,0,0,0⟩ : KComp)],rowF CpF 100 p7 c8 [(⟨10,1,0,0,0⟩ : KComp)],rowF CpF 100 p5 c6 [(⟨10,1,0,0,0⟩ : KComp)],rowF CpF 100 p3 c4 [(⟨10,1,0,0,0⟩ : KComp)],pt b2 (.cells #[.pointer none,pp b1 0] 23),pt b1 (.cells #[.int .i64 (0),.pointer none,.map none,.slice none 0 0,.int .i64 (0),.int .i64 (0),.int .i64 (0),.int .i64 (0),.int .i64 (0),.int .i64 (0),.int .i64 (0),.int .i64 (0),.int .i64 (0),.int .i64 (0),.int .i64 (0),.int .i64 (0),.int .i64 (0),.int .i64 (0),.bool false] 77)]) (by exact (perm_ix [0,1,2,3,4,5,6,7,8,9,10,11,12,13] 14 rfl (by kernel_rfl) (by kernel_rfl)))
 obtain ⟨β1,sb,kn,hw1,back⟩ := St.frame (L := [_]) (M := _ :: _ :: _ :: _ :: _ :: _ :: _ :: _ :: _ :: _ :: _ :: _ :: _ :: []) hw
 refine ((ggive_ok β1 w (Cs.mono _ _ _ _ sb hG) G12 S11 900 wgX true hw1 (by decide) 1 4 (by decide) (by decide)).mono fun _ _ z => act_no wg_give1 z).mono ?_
 rintro e w' ⟨rfl,hw'⟩
 refine ⟨_,rfl,_,back _ _ hw',?_⟩
 clear hw hw1 hw' back kn sb
 refine lv (v := .agg #[.int .i64 (2),.int .i64 (2)]) (e_build uv24.ok uv23 (vs := [(0,.int .i64 (2)),(1,.int .i64 (2))]) (cells := #[.int .i64 (2),.int .i64 (2)]) rfl rfl) ?_
 refine lE omp (lE omi (l_call rfl rfl rfl (cl0 (vs := [pp G12 0,.int .i64 (1),Ix (low)]) uv10.ok rfl rfl) ?_))
 intro w hw
 replace hw := hw.perm (L' := [gateR G12 S11 wgX 900 true,rowF CpF 100 p25 c26 [(⟨10,5,0,0,0⟩ : KComp)],rowF CpF 100 p23 c24 [(⟨10,5,0,0,0⟩ : KComp)],rowF CpF 100 p21 c22 [(⟨10,1,0,0,0⟩ : KComp)],rowF CpF 100 p19 c20 [(⟨10,5,0,0,0⟩ : KComp)],rowF CpF 100 p17 c18 [(⟨10,5,0,0,0⟩ : KComp)],rowF CpF 100 p15 c16 [(⟨10,2,0,0,0⟩ : KComp)],rowF CpF 100 p13 c14 [(⟨10,1,0,0,0⟩ : KComp)],rowF CpF 100 p9 c10 [(⟨10,1,0,0,0⟩ : KComp)],rowF CpF 100 p7 c8 [(⟨10,1,0,0,0⟩ : KComp)],rowF CpF 100 p5 c6 [(⟨10,1,0,0,0⟩ : KComp)],rowF CpF 100 p3 c4 [(⟨10,1,0,0,0⟩ : KComp)],pt b2 (.cells #[.pointer none,pp b1 0] 23),pt b1 (.cells #[.int .i64 (0),.pointer none,.map none,.slice none 0 0,.int .i64 (0),.int .i64 (0),.int .i64 (0),.int .i64 (0),.int .i64 (0),.int .i64 (0),.int .i64 (0),.int .i64 (0),.int .i64 (0),.int .i64 (0),.int .i64 (0),.int .i64 (0),.int .i64 (0),.int .i64 (0),.bool false] 77)]) (by exact (perm_ix [0,1,2,3,4,5,6,7,8,9,10,11,12,13] 14 rfl (by kernel_rfl) (by kernel_rfl)))
 obtain ⟨β1,sb,kn,hw1,back⟩ := St.frame (L := [_]) (M := _ :: _ :: _ :: _ :: _ :: _ :: _ :: _ :: _ :: _ :: _ :: _ :: _ :: []) hw
 refine ((ggive_ok β1 w (Cs.mono _ _ _ _ sb hG) G12 S11 900 wgX true hw1 (by decide) 1 low (by decide) ⟨by omega,by omega⟩).mono fun _ _ z => act_no (wg_give2 (.inl hlow)) z).mono ?_
 rintro e w' ⟨rfl,hw'⟩
 refine ⟨_,rfl,_,back _ _ hw',?_⟩
 clear hw hw1 hw' back kn sb
 refine lv (v := .agg #[.int .i64 (2),.int .i64 (2)]) (e_build uv24.ok uv23 (vs := [(0,.int .i64 (2)),(1,.int .i64 (2))]) (cells := #[.int .i64 (2),.int .i64 (2)]) rfl rfl) ?_
 refine lE omp (lE omi (l_call rfl rfl rfl (cl0 (vs := [pp G12 0,.int .i64 (1),Ix (high)]) uv10.ok rfl rfl) ?_))
 intro w hw
 replace hw := hw.perm (L' := [gateR G12 S11 wgX 900 true,rowF CpF 100 p25 c26 [(⟨10,5,0,0,0⟩ : KComp)],rowF CpF 100 p23 c24 [(⟨10,5,0,0,0⟩ : KComp)],rowF CpF 100 p21 c22 [(⟨10,1,0,0,0⟩ : KComp)],rowF CpF 100 p19 c20 [(⟨10,5,0,0,0⟩ : KComp)],rowF CpF 100 p17 c18 [(⟨10,5,0,0,0⟩ : KComp)],rowF CpF 100 p15 c16 [(⟨10,2,0,0,0⟩ : KComp)],rowF CpF 100 p13 c14 [(⟨10,1,0,0,0⟩ : KComp)],rowF CpF 100 p9 c10 [(⟨10,1,0,0,0⟩ : KComp)],rowF CpF 100 p7 c8 [(⟨10,1,0,0,0⟩ : KComp)],rowF CpF 100 p5 c6 [(⟨10,1,0,0,0⟩ : KComp)],rowF CpF 100 p3 c4 [(⟨10,1,0,0,0⟩ : KComp)],pt b2 (.cells #[.pointer none,pp b1 0] 23),pt b1 (.cells #[.int .i64 (0),.pointer none,.map none,.slice none 0 0,.int .i64 (0),.int .i64 (0),.int .i64 (0),.int .i64 (0),.int .i64 (0),.int .i64 (0),.int .i64 (0),.int .i64 (0),.int .i64 (0),.int .i64 (0),.int .i64 (0),.int .i64 (0),.int .i64 (0),.int .i64 (0),.bool false] 77)]) (by exact (perm_ix [0,1,2,3,4,5,6,7,8,9,10,11,12,13] 14 rfl (by kernel_rfl) (by kernel_rfl)))
 obtain ⟨β1,sb,kn,hw1,back⟩ := St.frame (L := [_]) (M := _ :: _ :: _ :: _ :: _ :: _ :: _ :: _ :: _ :: _ :: _ :: _ :: _ :: []) hw
 refine ((ggive_ok β1 w (Cs.mono _ _ _ _ sb hG) G12 S11 900 wgX true hw1 (by decide) 1 high (by decide) ⟨by omega,by omega⟩).mono fun _ _ z => act_no (wg_give2 (.inr hhigh)) z).mono ?_
 rintro e w' ⟨rfl,hw'⟩
 refine ⟨_,rfl,_,back _ _ hw',?_⟩
 clear hw hw1 hw' back kn sb
 refine lv (v := .agg #[.int .i64 (2),.int .i64 (2)]) (e_build uv24.ok uv23 (vs := [(0,.int .i64 (2)),(1,.int .i64 (2))]) (cells := #[.int .i64 (2),.int .i64 (2)]) rfl rfl) ?_
 refine lE omp (l_call rfl rfl rfl (cl0 (vs := [pp G12 0,.int .i64 (2),.int .i64 (6)]) uv10.ok rfl rfl) ?_)
 intro w hw
 replace hw := hw.perm (L' := [gateR G12 S11 wgX 900 true,rowF CpF 100 p25 c26 [(⟨10,5,0,0,0⟩ : KComp)],rowF CpF 100 p23 c24 [(⟨10,5,0,0,0⟩ : KComp)],rowF CpF 100 p21 c22 [(⟨10,1,0,0,0⟩ : KComp)],rowF CpF 100 p19 c20 [(⟨10,5,0,0,0⟩ : KComp)],rowF CpF 100 p17 c18 [(⟨10,5,0,0,0⟩ : KComp)],rowF CpF 100 p15 c16 [(⟨10,2,0,0,0⟩ : KComp)],rowF CpF 100 p13 c14 [(⟨10,1,0,0,0⟩ : KComp)],rowF CpF 100 p9 c10 [(⟨10,1,0,0,0⟩ : KComp)],rowF CpF 100 p7 c8 [(⟨10,1,0,0,0⟩ : KComp)],rowF CpF 100 p5 c6 [(⟨10,1,0,0,0⟩ : KComp)],rowF CpF 100 p3 c4 [(⟨10,1,0,0,0⟩ : KComp)],pt b2 (.cells #[.pointer none,pp b1 0] 23),pt b1 (.cells #[.int .i64 (0),.pointer none,.map none,.slice none 0 0,.int .i64 (0),.int .i64 (0),.int .i64 (0),.int .i64 (0),.int .i64 (0),.int .i64 (0),.int .i64 (0),.int .i64 (0),.int .i64 (0),.int .i64 (0),.int .i64 (0),.int .i64 (0),.int .i64 (0),.int .i64 (0),.bool false] 77)]) (by exact (perm_ix [0,1,2,3,4,5,6,7,8,9,10,11,12,13] 14 rfl (by kernel_rfl) (by kernel_rfl)))
 obtain ⟨β1,sb,kn,hw1,back⟩ := St.frame (L := [_]) (M := _ :: _ :: _ :: _ :: _ :: _ :: _ :: _ :: _ :: _ :: _ :: _ :: _ :: []) hw
 refine ((ggive_ok β1 w (Cs.mono _ _ _ _ sb hG) G12 S11 900 wgX true hw1 (by decide) 2 6 (by decide) (by decide)).mono fun _ _ z => act_no wg_give3 z).mono ?_
 rintro e w' ⟨rfl,hw'⟩
 refine ⟨_,rfl,_,back _ _ hw',?_⟩
 clear hw hw1 hw' back kn sb
 refine lv (v := .agg #[.int .i64 (6),.int .i64 (6)]) (e_build uv24.ok uv23 (vs := [(0,.int .i64 (6)),(1,.int .i64 (6))]) (cells := #[.int .i64 (6),.int .i64 (6)]) rfl rfl) ?_
 refine lE omp ?_
 refine lv (v := .agg #[.int .i64 (6),.int .i64 (5),.int .i64 (1),.bool true,.int .i64 (0),.slice none 0 0]) (e_build uv12.ok uv11 (vs := [(0,.int .i64 (6)),(1,.int .i64 (5)),(2,.int .i64 (1)),(3,.bool true)]) (cells := #[.int .i64 (6),.int .i64 (5),.int .i64 (1),.bool true,.int .i64 (0),.slice none 0 0]) rfl (by kernel_rfl)) ?_
 refine l_call rfl rfl rfl (cl0 (vs := [pp G12 0,.agg #[.int .i64 (6),.int .i64 (5),.int .i64 (1),.bool true,.int .i64 (0),.slice none 0 0]]) uv13.ok rfl rfl) ?_
 intro w hw
 replace hw := hw.perm (L' := [gateR G12 S11 wgX 900 true,rowF CpF 100 p25 c26 [(⟨10,5,0,0,0⟩ : KComp)],rowF CpF 100 p23 c24 [(⟨10,5,0,0,0⟩ : KComp)],rowF CpF 100 p21 c22 [(⟨10,1,0,0,0⟩ : KComp)],rowF CpF 100 p19 c20 [(⟨10,5,0,0,0⟩ : KComp)],rowF CpF 100 p17 c18 [(⟨10,5,0,0,0⟩ : KComp)],rowF CpF 100 p15 c16 [(⟨10,2,0,0,0⟩ : KComp)],rowF CpF 100 p13 c14 [(⟨10,1,0,0,0⟩ : KComp)],rowF CpF 100 p9 c10 [(⟨10,1,0,0,0⟩ : KComp)],rowF CpF 100 p7 c8 [(⟨10,1,0,0,0⟩ : KComp)],rowF CpF 100 p5 c6 [(⟨10,1,0,0,0⟩ : KComp)],rowF CpF 100 p3 c4 [(⟨10,1,0,0,0⟩ : KComp)],pt b2 (.cells #[.pointer none,pp b1 0] 23),pt b1 (.cells #[.int .i64 (0),.pointer none,.map none,.slice none 0 0,.int .i64 (0),.int .i64 (0),.int .i64 (0),.int .i64 (0),.int .i64 (0),.int .i64 (0),.int .i64 (0),.int .i64 (0),.int .i64 (0),.int .i64 (0),.int .i64 (0),.int .i64 (0),.int .i64 (0),.int .i64 (0),.bool false] 77)]) (by exact (perm_ix [0,1,2,3,4,5,6,7,8,9,10,11,12,13] 14 rfl (by kernel_rfl) (by kernel_rfl)))
 obtain ⟨β1,sb,kn,hw1,back⟩ := St.frame (L := [_]) (M := _ :: _ :: _ :: _ :: _ :: _ :: _ :: _ :: _ :: _ :: _ :: _ :: _ :: []) hw
 refine ((gtake_ok β1 w (Cs.mono _ _ _ _ sb hG) G12 S11 900 wgX true hw1 (by decide) (⟨6,5,1,true,(⟨0,[]⟩ : KEnt)⟩ : KMs) _ (Sl.nil _ _)).mono fun _ _ z => act_no wg_take1 z).mono ?_
 rintro e w' ⟨rfl,hw'⟩
 refine ⟨_,rfl,_,back _ _ hw',?_⟩
 clear hw hw1 hw' back kn sb
 refine lv (v := .agg #[.int .i64 (2),.int .i64 (2)]) (e_build uv24.ok uv23 (vs := [(0,.int .i64 (2)),(1,.int .i64 (2))]) (cells := #[.int .i64 (2),.int .i64 (2)]) rfl rfl) ?_
 refine lE omp ?_
 refine lv (v := .agg #[.int .i64 (4),.int .i64 (4),.int .i64 (1),.bool true,.int .i64 (0),.slice none 0 0]) (e_build uv12.ok uv11 (vs := [(0,.int .i64 (4)),(1,.int .i64 (4)),(2,.int .i64 (1)),(3,.bool true)]) (cells := #[.int .i64 (4),.int .i64 (4),.int .i64 (1),.bool true,.int .i64 (0),.slice none 0 0]) rfl (by kernel_rfl)) ?_
 refine l_call rfl rfl rfl (cl0 (vs := [pp G12 0,.agg #[.int .i64 (4),.int .i64 (4),.int .i64 (1),.bool true,.int .i64 (0),.slice none 0 0]]) uv13.ok rfl rfl) ?_
 intro w hw
 replace hw := hw.perm (L' := [gateR G12 S11 wgX 900 true,rowF CpF 100 p25 c26 [(⟨10,5,0,0,0⟩ : KComp)],rowF CpF 100 p23 c24 [(⟨10,5,0,0,0⟩ : KComp)],rowF CpF 100 p21 c22 [(⟨10,1,0,0,0⟩ : KComp)],rowF CpF 100 p19 c20 [(⟨10,5,0,0,0⟩ : KComp)],rowF CpF 100 p17 c18 [(⟨10,5,0,0,0⟩ : KComp)],rowF CpF 100 p15 c16 [(⟨10,2,0,0,0⟩ : KComp)],rowF CpF 100 p13 c14 [(⟨10,1,0,0,0⟩ : KComp)],rowF CpF 100 p9 c10 [(⟨10,1,0,0,0⟩ : KComp)],rowF CpF 100 p7 c8 [(⟨10,1,0,0,0⟩ : KComp)],rowF CpF 100 p5 c6 [(⟨10,1,0,0,0⟩ : KComp)],rowF CpF 100 p3 c4 [(⟨10,1,0,0,0⟩ : KComp)],pt b2 (.cells #[.pointer none,pp b1 0] 23),pt b1 (.cells #[.int .i64 (0),.pointer none,.map none,.slice none 0 0,.int .i64 (0),.int .i64 (0),.int .i64 (0),.int .i64 (0),.int .i64 (0),.int .i64 (0),.int .i64 (0),.int .i64 (0),.int .i64 (0),.int .i64 (0),.int .i64 (0),.int .i64 (0),.int .i64 (0),.int .i64 (0),.bool false] 77)]) (by exact (perm_ix [0,1,2,3,4,5,6,7,8,9,10,11,12,13] 14 rfl (by kernel_rfl) (by kernel_rfl)))
 obtain ⟨β1,sb,kn,hw1,back⟩ := St.frame (L := [_]) (M := _ :: _ :: _ :: _ :: _ :: _ :: _ :: _ :: _ :: _ :: _ :: _ :: _ :: []) hw
 refine ((gtake_ok β1 w (Cs.mono _ _ _ _ sb hG) G12 S11 900 wgX true hw1 (by decide) (⟨4,4,1,true,(⟨0,[]⟩ : KEnt)⟩ : KMs) _ (Sl.nil _ _)).mono fun _ _ z => act_no wg_take2 z).mono ?_
 rintro e w' ⟨rfl,hw'⟩
 refine ⟨_,rfl,_,back _ _ hw',?_⟩
 clear hw hw1 hw' back kn sb
 refine lv (v := .agg #[.int .i64 (2),.int .i64 (2)]) (e_build uv24.ok uv23 (vs := [(0,.int .i64 (2)),(1,.int .i64 (2))]) (cells := #[.int .i64 (2),.int .i64 (2)]) rfl rfl) ?_
 refine lE omp (lE omi ?_)
 refine lv (v := .agg #[Ix (high),.int .i64 (4),.int .i64 (1),.bool false,.int .i64 (0),.slice none 0 0]) (e_build uv12.ok uv11 (vs := [(0,Ix (high)),(1,.int .i64 (4)),(2,.int .i64 (1))]) (cells := #[Ix (high),.int .i64 (4),.int .i64 (1),.bool false,.int .i64 (0),.slice none 0 0]) rfl (by kernel_rfl)) ?_
 refine l_call rfl rfl rfl (cl0 (vs := [pp G12 0,.agg #[Ix (high),.int .i64 (4),.int .i64 (1),.bool false,.int .i64 (0),.slice none 0 0]]) uv13.ok rfl rfl) ?_
 intro w hw
 replace hw := hw.perm (L' := [gateR G12 S11 wgX 900 true,rowF CpF 100 p25 c26 [(⟨10,5,0,0,0⟩ : KComp)],rowF CpF 100 p23 c24 [(⟨10,5,0,0,0⟩ : KComp)],rowF CpF 100 p21 c22 [(⟨10,1,0,0,0⟩ : KComp)],rowF CpF 100 p19 c20 [(⟨10,5,0,0,0⟩ : KComp)],rowF CpF 100 p17 c18 [(⟨10,5,0,0,0⟩ : KComp)],rowF CpF 100 p15 c16 [(⟨10,2,0,0,0⟩ : KComp)],rowF CpF 100 p13 c14 [(⟨10,1,0,0,0⟩ : KComp)],rowF CpF 100 p9 c10 [(⟨10,1,0,0,0⟩ : KComp)],rowF CpF 100 p7 c8 [(⟨10,1,0,0,0⟩ : KComp)],rowF CpF 100 p5 c6 [(⟨10,1,0,0,0⟩ : KComp)],rowF CpF 100 p3 c4 [(⟨10,1,0,0,0⟩ : KComp)],pt b2 (.cells #[.pointer none,pp b1 0] 23),pt b1 (.cells #[.int .i64 (0),.pointer none,.map none,.slice none 0 0,.int .i64 (0),.int .i64 (0),.int .i64 (0),.int .i64 (0),.int .i64 (0),.int .i64 (0),.int .i64 (0),.int .i64 (0),.int .i64 (0),.int .i64 (0),.int .i64 (0),.int .i64 (0),.int .i64 (0),.int .i64 (0),.bool false] 77)]) (by exact (perm_ix [0,1,2,3,4,5,6,7,8,9,10,11,12,13] 14 rfl (by kernel_rfl) (by kernel_rfl)))
 obtain ⟨β1,sb,kn,hw1,back⟩ := St.frame (L := [_]) (M := _ :: _ :: _ :: _ :: _ :: _ :: _ :: _ :: _ :: _ :: _ :: _ :: _ :: []) hw
 refine ((gtake_ok β1 w (Cs.mono _ _ _ _ sb hG) G12 S11 900 wgX true hw1 (by decide) (⟨high,4,1,false,(⟨0,[]⟩ : KEnt)⟩ : KMs) _ (Sl.nil _ _)).mono fun _ _ z => act_no (wg_take3 (.inr hhigh)) z).mono ?_
 rintro e w' ⟨rfl,hw'⟩
 refine ⟨_,rfl,_,back _ _ hw',?_⟩
 clear hw hw1 hw' back kn sb
 refine lv (v := .agg #[.int .i64 (2),.int .i64 (2)]) (e_build uv24.ok uv23 (vs := [(0,.int .i64 (2)),(1,.int .i64 (2))]) (cells := #[.int .i64 (2),.int .i64 (2)]) rfl rfl) ?_
 refine lE omp (lE omi (lE omx ?_))
 refine lv (v := .agg #[.int .i64 (6),.int .i64 (4),Ix (max (n) (2 : Int)),.bool true,.int .i64 (0),.slice none 0 0]) (e_build uv12.ok uv11 (vs := [(0,.int .i64 (6)),(1,.int .i64 (4)),(2,Ix (max (n) (2 : Int))),(3,.bool true)]) (cells := #[.int .i64 (6),.int .i64 (4),Ix (max (n) (2 : Int)),.bool true,.int .i64 (0),.slice none 0 0]) rfl (by kernel_rfl)) ?_
 refine l_call rfl rfl rfl (cl0 (vs := [pp G12 0,.agg #[.int .i64 (6),.int .i64 (4),Ix (max (n) (2 : Int)),.bool true,.int .i64 (0),.slice none 0 0]]) uv13.ok rfl rfl) ?_
 intro w hw
 replace hw := hw.perm (L' := [gateR G12 S11 wgX 900 true,rowF CpF 100 p25 c26 [(⟨10,5,0,0,0⟩ : KComp)],rowF CpF 100 p23 c24 [(⟨10,5,0,0,0⟩ : KComp)],rowF CpF 100 p21 c22 [(⟨10,1,0,0,0⟩ : KComp)],rowF CpF 100 p19 c20 [(⟨10,5,0,0,0⟩ : KComp)],rowF CpF 100 p17 c18 [(⟨10,5,0,0,0⟩ : KComp)],rowF CpF 100 p15 c16 [(⟨10,2,0,0,0⟩ : KComp)],rowF CpF 100 p13 c14 [(⟨10,1,0,0,0⟩ : KComp)],rowF CpF 100 p9 c10 [(⟨10,1,0,0,0⟩ : KComp)],rowF CpF 100 p7 c8 [(⟨10,1,0,0,0⟩ : KComp)],rowF CpF 100 p5 c6 [(⟨10,1,0,0,0⟩ : KComp)],rowF CpF 100 p3 c4 [(⟨10,1,0,0,0⟩ : KComp)],pt b2 (.cells #[.pointer none,pp b1 0] 23),pt b1 (.cells #[.int .i64 (0),.pointer none,.map none,.slice none 0 0,.int .i64 (0),.int .i64 (0),.int .i64 (0),.int .i64 (0),.int .i64 (0),.int .i64 (0),.int .i64 (0),.int .i64 (0),.int .i64 (0),.int .i64 (0),.int .i64 (0),.int .i64 (0),.int .i64 (0),.int .i64 (0),.bool false] 77)]) (by exact (perm_ix [0,1,2,3,4,5,6,7,8,9,10,11,12,13] 14 rfl (by kernel_rfl) (by kernel_rfl)))
 obtain ⟨β1,sb,kn,hw1,back⟩ := St.frame (L := [_]) (M := _ :: _ :: _ :: _ :: _ :: _ :: _ :: _ :: _ :: _ :: _ :: _ :: _ :: []) hw
 refine ((gtake_ok β1 w (Cs.mono _ _ _ _ sb hG) G12 S11 900 wgX true hw1 (by decide) (⟨6,4,max (n) (2 : Int),true,(⟨0,[]⟩ : KEnt)⟩ : KMs) _ (Sl.nil _ _)).mono fun _ _ z => act_no (wg_take4 (.inl (by omega))) z).mono ?_
 rintro e w' ⟨rfl,hw'⟩
 refine ⟨_,rfl,_,back _ _ hw',?_⟩
 clear hw hw1 hw' back kn sb
 refine lv (v := .agg #[.int .i64 (2),.int .i64 (2)]) (e_build uv24.ok uv23 (vs := [(0,.int .i64 (2)),(1,.int .i64 (2))]) (cells := #[.int .i64 (2),.int .i64 (2)]) rfl rfl) ?_
 refine lE omp (lE omi (lE omz ?_))
 refine lv (v := .agg #[.int .i64 (6),.int .i64 (4),Ix (min (n) (-1 : Int)),.bool true,.int .i64 (0),.slice none 0 0]) (e_build uv12.ok uv11 (vs := [(0,.int .i64 (6)),(1,.int .i64 (4)),(2,Ix (min (n) (-1 : Int))),(3,.bool true)]) (cells := #[.int .i64 (6),.int .i64 (4),Ix (min (n) (-1 : Int)),.bool true,.int .i64 (0),.slice none 0 0]) rfl (by kernel_rfl)) ?_
 refine l_call rfl rfl rfl (cl0 (vs := [pp G12 0,.agg #[.int .i64 (6),.int .i64 (4),Ix (min (n) (-1 : Int)),.bool true,.int .i64 (0),.slice none 0 0]]) uv13.ok rfl rfl) ?_
 intro w hw
 replace hw := hw.perm (L' := [gateR G12 S11 wgX 900 true,rowF CpF 100 p25 c26 [(⟨10,5,0,0,0⟩ : KComp)],rowF CpF 100 p23 c24 [(⟨10,5,0,0,0⟩ : KComp)],rowF CpF 100 p21 c22 [(⟨10,1,0,0,0⟩ : KComp)],rowF CpF 100 p19 c20 [(⟨10,5,0,0,0⟩ : KComp)],rowF CpF 100 p17 c18 [(⟨10,5,0,0,0⟩ : KComp)],rowF CpF 100 p15 c16 [(⟨10,2,0,0,0⟩ : KComp)],rowF CpF 100 p13 c14 [(⟨10,1,0,0,0⟩ : KComp)],rowF CpF 100 p9 c10 [(⟨10,1,0,0,0⟩ : KComp)],rowF CpF 100 p7 c8 [(⟨10,1,0,0,0⟩ : KComp)],rowF CpF 100 p5 c6 [(⟨10,1,0,0,0⟩ : KComp)],rowF CpF 100 p3 c4 [(⟨10,1,0,0,0⟩ : KComp)],pt b2 (.cells #[.pointer none,pp b1 0] 23),pt b1 (.cells #[.int .i64 (0),.pointer none,.map none,.slice none 0 0,.int .i64 (0),.int .i64 (0),.int .i64 (0),.int .i64 (0),.int .i64 (0),.int .i64 (0),.int .i64 (0),.int .i64 (0),.int .i64 (0),.int .i64 (0),.int .i64 (0),.int .i64 (0),.int .i64 (0),.int .i64 (0),.bool false] 77)]) (by exact (perm_ix [0,1,2,3,4,5,6,7,8,9,10,11,12,13] 14 rfl (by kernel_rfl) (by kernel_rfl)))
 obtain ⟨β1,sb,kn,hw1,back⟩ := St.frame (L := [_]) (M := _ :: _ :: _ :: _ :: _ :: _ :: _ :: _ :: _ :: _ :: _ :: _ :: _ :: []) hw
 refine ((gtake_ok β1 w (Cs.mono _ _ _ _ sb hG) G12 S11 900 wgX true hw1 (by decide) (⟨6,4,min (n) (-1 : Int),true,(⟨0,[]⟩ : KEnt)⟩ : KMs) _ (Sl.nil _ _)).mono fun _ _ z => act_no (wg_take4 (.inr (by omega))) z).mono ?_
 rintro e w' ⟨rfl,hw'⟩
 refine ⟨_,rfl,_,back _ _ hw',?_⟩
 clear hw hw1 hw' back kn sb
 refine lv (v := .agg #[.int .i64 (2),.int .i64 (2)]) (e_build uv24.ok uv23 (vs := [(0,.int .i64 (2)),(1,.int .i64 (2))]) (cells := #[.int .i64 (2),.int .i64 (2)]) rfl rfl) ?_
 refine lE omp ?_
 refine lv (v := .agg #[.int .i64 (5),.int .i64 (4),.int .i64 (1),.bool true,.int .i64 (0),.slice none 0 0]) (e_build uv12.ok uv11 (vs := [(0,.int .i64 (5)),(1,.int .i64 (4)),(2,.int .i64 (1)),(3,.bool true)]) (cells := #[.int .i64 (5),.int .i64 (4),.int .i64 (1),.bool true,.int .i64 (0),.slice none 0 0]) rfl (by kernel_rfl)) ?_
 refine l_call rfl rfl rfl (cl0 (vs := [pp G12 0,.agg #[.int .i64 (5),.int .i64 (4),.int .i64 (1),.bool true,.int .i64 (0),.slice none 0 0]]) uv13.ok rfl rfl) ?_
 intro w hw
 replace hw := hw.perm (L' := [gateR G12 S11 wgX 900 true,rowF CpF 100 p25 c26 [(⟨10,5,0,0,0⟩ : KComp)],rowF CpF 100 p23 c24 [(⟨10,5,0,0,0⟩ : KComp)],rowF CpF 100 p21 c22 [(⟨10,1,0,0,0⟩ : KComp)],rowF CpF 100 p19 c20 [(⟨10,5,0,0,0⟩ : KComp)],rowF CpF 100 p17 c18 [(⟨10,5,0,0,0⟩ : KComp)],rowF CpF 100 p15 c16 [(⟨10,2,0,0,0⟩ : KComp)],rowF CpF 100 p13 c14 [(⟨10,1,0,0,0⟩ : KComp)],rowF CpF 100 p9 c10 [(⟨10,1,0,0,0⟩ : KComp)],rowF CpF 100 p7 c8 [(⟨10,1,0,0,0⟩ : KComp)],rowF CpF 100 p5 c6 [(⟨10,1,0,0,0⟩ : KComp)],rowF CpF 100 p3 c4 [(⟨10,1,0,0,0⟩ : KComp)],pt b2 (.cells #[.pointer none,pp b1 0] 23),pt b1 (.cells #[.int .i64 (0),.pointer none,.map none,.slice none 0 0,.int .i64 (0),.int .i64 (0),.int .i64 (0),.int .i64 (0),.int .i64 (0),.int .i64 (0),.int .i64 (0),.int .i64 (0),.int .i64 (0),.int .i64 (0),.int .i64 (0),.int .i64 (0),.int .i64 (0),.int .i64 (0),.bool false] 77)]) (by exact (perm_ix [0,1,2,3,4,5,6,7,8,9,10,11,12,13] 14 rfl (by kernel_rfl) (by kernel_rfl)))
 obtain ⟨β1,sb,kn,hw1,back⟩ := St.frame (L := [_]) (M := _ :: _ :: _ :: _ :: _ :: _ :: _ :: _ :: _ :: _ :: _ :: _ :: _ :: []) hw
 refine ((gtake_ok β1 w (Cs.mono _ _ _ _ sb hG) G12 S11 900 wgX true hw1 (by decide) (⟨5,4,1,true,(⟨0,[]⟩ : KEnt)⟩ : KMs) _ (Sl.nil _ _)).mono fun _ _ z => act_no wg_take5 z).mono ?_
 rintro e w' ⟨rfl,hw'⟩
 refine ⟨_,rfl,_,back _ _ hw',?_⟩
 clear hw hw1 hw' back kn sb
 refine lv (v := .agg #[.int .i64 (2),.int .i64 (2)]) (e_build uv24.ok uv23 (vs := [(0,.int .i64 (2)),(1,.int .i64 (2))]) (cells := #[.int .i64 (2),.int .i64 (2)]) rfl rfl) ?_
 refine lE omp (lcf (cl0 (vs := [.int .i64 (1),.int .i64 (9)]) uv6.ok rfl rfl) rfl fun w β1 sb kn hw1 back => (thing_ok β1 w hw1 1 9).mono ?_)
 rintro e w' ⟨p27,c28,rfl,hw'⟩
 refine ⟨_,rfl,_,back _ _ hw',?_⟩
 clear hw1 hw' back kn sb
 refine lv (v := .agg #[.int .i64 (5),.int .i64 (4),.int .i64 (1),.bool false,.int .i64 (1),.slice p27 (1) c28]) (e_build uv12.ok uv11 (vs := [(0,.int .i64 (5)),(1,.int .i64 (4)),(2,.int .i64 (1)),(4,.agg #[.int .i64 (1),.slice p27 (1) c28])]) (cells := #[.int .i64 (5),.int .i64 (4),.int .i64 (1),.bool false,.int .i64 (1),.slice p27 (1) c28]) rfl (by kernel_rfl)) ?_
 refine l_call rfl rfl rfl (cl0 (vs := [pp G12 0,.agg #[.int .i64 (5),.int .i64 (4),.int .i64 (1),.bool false,.int .i64 (1),.slice p27 (1) c28]]) uv13.ok rfl rfl) ?_
 intro w hw
 replace hw := hw.perm (L' := [gateR G12 S11 wgX 900 true,rowF CpF 100 p27 c28 [(⟨10,9,0,0,0⟩ : KComp)],rowF CpF 100 p25 c26 [(⟨10,5,0,0,0⟩ : KComp)],rowF CpF 100 p23 c24 [(⟨10,5,0,0,0⟩ : KComp)],rowF CpF 100 p21 c22 [(⟨10,1,0,0,0⟩ : KComp)],rowF CpF 100 p19 c20 [(⟨10,5,0,0,0⟩ : KComp)],rowF CpF 100 p17 c18 [(⟨10,5,0,0,0⟩ : KComp)],rowF CpF 100 p15 c16 [(⟨10,2,0,0,0⟩ : KComp)],rowF CpF 100 p13 c14 [(⟨10,1,0,0,0⟩ : KComp)],rowF CpF 100 p9 c10 [(⟨10,1,0,0,0⟩ : KComp)],rowF CpF 100 p7 c8 [(⟨10,1,0,0,0⟩ : KComp)],rowF CpF 100 p5 c6 [(⟨10,1,0,0,0⟩ : KComp)],rowF CpF 100 p3 c4 [(⟨10,1,0,0,0⟩ : KComp)],pt b2 (.cells #[.pointer none,pp b1 0] 23),pt b1 (.cells #[.int .i64 (0),.pointer none,.map none,.slice none 0 0,.int .i64 (0),.int .i64 (0),.int .i64 (0),.int .i64 (0),.int .i64 (0),.int .i64 (0),.int .i64 (0),.int .i64 (0),.int .i64 (0),.int .i64 (0),.int .i64 (0),.int .i64 (0),.int .i64 (0),.int .i64 (0),.bool false] 77)]) (by exact (perm_ix [1,0,2,3,4,5,6,7,8,9,10,11,12,13,14] 15 rfl (by kernel_rfl) (by kernel_rfl)))
 obtain ⟨β1,sb,kn,hw1,back⟩ := St.frame (L := [_]) (M := _ :: _ :: _ :: _ :: _ :: _ :: _ :: _ :: _ :: _ :: _ :: _ :: _ :: _ :: []) hw
 refine ((gtake_ok β1 w (Cs.mono _ _ _ _ sb hG) G12 S11 900 wgX true hw1 (by decide) (⟨5,4,1,false,(thE 1 9)⟩ : KMs) _ (kn _ (k_flN 0 (F := CpF) (m := 1) rfl rfl))).mono fun _ _ z => act_no wg_take6 z).mono ?_
 rintro e w' ⟨rfl,hw'⟩
 refine ⟨_,rfl,_,back _ _ hw',?_⟩
 clear hw hw1 hw' back kn sb
 refine lv (v := .agg #[.int .i64 (2),.int .i64 (2)]) (e_build uv24.ok uv23 (vs := [(0,.int .i64 (2)),(1,.int .i64 (2))]) (cells := #[.int .i64 (2),.int .i64 (2)]) rfl rfl) ?_
 refine lE omp (lE omi (lcf (cl0 (vs := [Ix (low),.int .i64 (9)]) uv6.ok rfl rfl) rfl fun w β1 sb kn hw1 back => (thing_ok β1 w hw1 low 9).mono ?_))
 rintro e w' ⟨p29,c30,rfl,hw'⟩
 refine ⟨_,rfl,_,back _ _ hw',?_⟩
 clear hw1 hw' back kn sb
 refine lv (v := .agg #[.int .i64 (5),.int .i64 (4),.int .i64 (1),.bool false,Ix (low),.slice p29 (1) c30]) (e_build uv12.ok uv11 (vs := [(0,.int .i64 (5)),(1,.int .i64 (4)),(2,.int .i64 (1)),(4,.agg #[Ix (low),.slice p29 (1) c30])]) (cells := #[.int .i64 (5),.int .i64 (4),.int .i64 (1),.bool false,Ix (low),.slice p29 (1) c30]) rfl (by kernel_rfl)) ?_
 refine l_call rfl rfl rfl (cl0 (vs := [pp G12 0,.agg #[.int .i64 (5),.int .i64 (4),.int .i64 (1),.bool false,Ix (low),.slice p29 (1) c30]]) uv13.ok rfl rfl) ?_
 intro w hw
 replace hw := hw.perm (L' := [gateR G12 S11 wgX 900 true,rowF CpF 100 p29 c30 [(⟨10,9,0,0,0⟩ : KComp)],rowF CpF 100 p27 c28 [(⟨10,9,0,0,0⟩ : KComp)],rowF CpF 100 p25 c26 [(⟨10,5,0,0,0⟩ : KComp)],rowF CpF 100 p23 c24 [(⟨10,5,0,0,0⟩ : KComp)],rowF CpF 100 p21 c22 [(⟨10,1,0,0,0⟩ : KComp)],rowF CpF 100 p19 c20 [(⟨10,5,0,0,0⟩ : KComp)],rowF CpF 100 p17 c18 [(⟨10,5,0,0,0⟩ : KComp)],rowF CpF 100 p15 c16 [(⟨10,2,0,0,0⟩ : KComp)],rowF CpF 100 p13 c14 [(⟨10,1,0,0,0⟩ : KComp)],rowF CpF 100 p9 c10 [(⟨10,1,0,0,0⟩ : KComp)],rowF CpF 100 p7 c8 [(⟨10,1,0,0,0⟩ : KComp)],rowF CpF 100 p5 c6 [(⟨10,1,0,0,0⟩ : KComp)],rowF CpF 100 p3 c4 [(⟨10,1,0,0,0⟩ : KComp)],pt b2 (.cells #[.pointer none,pp b1 0] 23),pt b1 (.cells #[.int .i64 (0),.pointer none,.map none,.slice none 0 0,.int .i64 (0),.int .i64 (0),.int .i64 (0),.int .i64 (0),.int .i64 (0),.int .i64 (0),.int .i64 (0),.int .i64 (0),.int .i64 (0),.int .i64 (0),.int .i64 (0),.int .i64 (0),.int .i64 (0),.int .i64 (0),.bool false] 77)]) (by exact (perm_ix [1,0,2,3,4,5,6,7,8,9,10,11,12,13,14,15] 16 rfl (by kernel_rfl) (by kernel_rfl)))
 obtain ⟨β1,sb,kn,hw1,back⟩ := St.frame (L := [_]) (M := _ :: _ :: _ :: _ :: _ :: _ :: _ :: _ :: _ :: _ :: _ :: _ :: _ :: _ :: _ :: []) hw
 refine ((gtake_ok β1 w (Cs.mono _ _ _ _ sb hG) G12 S11 900 wgX true hw1 (by decide) (⟨5,4,1,false,(thE low 9)⟩ : KMs) _ (kn _ (k_flN 0 (F := CpF) (m := 1) rfl rfl))).mono fun _ _ z => act_no (wg_take7 hlow) z).mono ?_
 rintro e w' ⟨rfl,hw'⟩
 refine ⟨_,rfl,_,back _ _ hw',?_⟩
 clear hw hw1 hw' back kn sb
 refine lv (v := .agg #[.int .i64 (2),.int .i64 (2)]) (e_build uv24.ok uv23 (vs := [(0,.int .i64 (2)),(1,.int .i64 (2))]) (cells := #[.int .i64 (2),.int .i64 (2)]) rfl rfl) ?_
 refine lE omp (lE omi (lE omx ?_))
 refine lcf (cl0 (vs := [.int .i64 (9),.int .i64 (9)]) uv6.ok rfl rfl) rfl fun w β1 sb kn hw1 back => (thing_ok β1 w hw1 9 9).mono ?_
 rintro e w' ⟨p31,c32,rfl,hw'⟩
 refine ⟨_,rfl,_,back _ _ hw',?_⟩
 clear hw1 hw' back kn sb
 refine lv (v := .agg #[.int .i64 (5),.int .i64 (4),Ix (max (n) (2 : Int)),.bool false,.int .i64 (9),.slice p31 (1) c32]) (e_build uv12.ok uv11 (vs := [(0,.int .i64 (5)),(1,.int .i64 (4)),(2,Ix (max (n) (2 : Int))),(4,.agg #[.int .i64 (9),.slice p31 (1) c32])]) (cells := #[.int .i64 (5),.int .i64 (4),Ix (max (n) (2 : Int)),.bool false,.int .i64 (9),.slice p31 (1) c32]) rfl (by kernel_rfl)) ?_
 refine l_call rfl rfl rfl (cl0 (vs := [pp G12 0,.agg #[.int .i64 (5),.int .i64 (4),Ix (max (n) (2 : Int)),.bool false,.int .i64 (9),.slice p31 (1) c32]]) uv13.ok rfl rfl) ?_
 intro w hw
 replace hw := hw.perm (L' := [gateR G12 S11 wgX 900 true,rowF CpF 100 p31 c32 [(⟨10,9,0,0,0⟩ : KComp)],rowF CpF 100 p29 c30 [(⟨10,9,0,0,0⟩ : KComp)],rowF CpF 100 p27 c28 [(⟨10,9,0,0,0⟩ : KComp)],rowF CpF 100 p25 c26 [(⟨10,5,0,0,0⟩ : KComp)],rowF CpF 100 p23 c24 [(⟨10,5,0,0,0⟩ : KComp)],rowF CpF 100 p21 c22 [(⟨10,1,0,0,0⟩ : KComp)],rowF CpF 100 p19 c20 [(⟨10,5,0,0,0⟩ : KComp)],rowF CpF 100 p17 c18 [(⟨10,5,0,0,0⟩ : KComp)],rowF CpF 100 p15 c16 [(⟨10,2,0,0,0⟩ : KComp)],rowF CpF 100 p13 c14 [(⟨10,1,0,0,0⟩ : KComp)],rowF CpF 100 p9 c10 [(⟨10,1,0,0,0⟩ : KComp)],rowF CpF 100 p7 c8 [(⟨10,1,0,0,0⟩ : KComp)],rowF CpF 100 p5 c6 [(⟨10,1,0,0,0⟩ : KComp)],rowF CpF 100 p3 c4 [(⟨10,1,0,0,0⟩ : KComp)],pt b2 (.cells #[.pointer none,pp b1 0] 23),pt b1 (.cells #[.int .i64 (0),.pointer none,.map none,.slice none 0 0,.int .i64 (0),.int .i64 (0),.int .i64 (0),.int .i64 (0),.int .i64 (0),.int .i64 (0),.int .i64 (0),.int .i64 (0),.int .i64 (0),.int .i64 (0),.int .i64 (0),.int .i64 (0),.int .i64 (0),.int .i64 (0),.bool false] 77)]) (by exact (perm_ix [1,0,2,3,4,5,6,7,8,9,10,11,12,13,14,15,16] 17 rfl (by kernel_rfl) (by kernel_rfl)))
 obtain ⟨β1,sb,kn,hw1,back⟩ := St.frame (L := [_]) (M := _ :: _ :: _ :: _ :: _ :: _ :: _ :: _ :: _ :: _ :: _ :: _ :: _ :: _ :: _ :: _ :: []) hw
 refine ((gtake_ok β1 w (Cs.mono _ _ _ _ sb hG) G12 S11 900 wgX true hw1 (by decide) (⟨5,4,max (n) (2 : Int),false,(thE 9 9)⟩ : KMs) _ (kn _ (k_flN 0 (F := CpF) (m := 1) rfl rfl))).mono fun _ _ z => act_no (wg_take8 (by omega)) z).mono ?_
 rintro e w' ⟨rfl,hw'⟩
 refine ⟨_,rfl,_,back _ _ hw',?_⟩
 clear hw hw1 hw' back kn sb
 refine lv (v := .agg #[.int .i64 (320),.int .i64 (320)]) (e_build uv24.ok uv23 (vs := [(0,.int .i64 (320)),(1,.int .i64 (320))]) (cells := #[.int .i64 (320),.int .i64 (320)]) rfl rfl) ?_
 refine lE omp (lE omi (lcf (cl0 (vs := [.int .i64 (9),.int .i64 (9)]) uv6.ok rfl rfl) rfl fun w β1 sb kn hw1 back => (thing_ok β1 w hw1 9 9).mono ?_))
 rintro e w' ⟨p33,c34,rfl,hw'⟩
 refine ⟨_,rfl,_,back _ _ hw',?_⟩
 clear hw1 hw' back kn sb
 refine lv (v := .agg #[.int .i64 (5),.int .i64 (4),Ix (low),.bool false,.int .i64 (9),.slice p33 (1) c34]) (e_build uv12.ok uv11 (vs := [(0,.int .i64 (5)),(1,.int .i64 (4)),(2,Ix (low)),(4,.agg #[.int .i64 (9),.slice p33 (1) c34])]) (cells := #[.int .i64 (5),.int .i64 (4),Ix (low),.bool false,.int .i64 (9),.slice p33 (1) c34]) rfl (by kernel_rfl)) ?_
 refine l_call rfl rfl rfl (cl0 (vs := [pp G12 0,.agg #[.int .i64 (5),.int .i64 (4),Ix (low),.bool false,.int .i64 (9),.slice p33 (1) c34]]) uv13.ok rfl rfl) ?_
 intro w hw
 replace hw := hw.perm (L' := [gateR G12 S11 wgX 900 true,rowF CpF 100 p33 c34 [(⟨10,9,0,0,0⟩ : KComp)],rowF CpF 100 p31 c32 [(⟨10,9,0,0,0⟩ : KComp)],rowF CpF 100 p29 c30 [(⟨10,9,0,0,0⟩ : KComp)],rowF CpF 100 p27 c28 [(⟨10,9,0,0,0⟩ : KComp)],rowF CpF 100 p25 c26 [(⟨10,5,0,0,0⟩ : KComp)],rowF CpF 100 p23 c24 [(⟨10,5,0,0,0⟩ : KComp)],rowF CpF 100 p21 c22 [(⟨10,1,0,0,0⟩ : KComp)],rowF CpF 100 p19 c20 [(⟨10,5,0,0,0⟩ : KComp)],rowF CpF 100 p17 c18 [(⟨10,5,0,0,0⟩ : KComp)],rowF CpF 100 p15 c16 [(⟨10,2,0,0,0⟩ : KComp)],rowF CpF 100 p13 c14 [(⟨10,1,0,0,0⟩ : KComp)],rowF CpF 100 p9 c10 [(⟨10,1,0,0,0⟩ : KComp)],rowF CpF 100 p7 c8 [(⟨10,1,0,0,0⟩ : KComp)],rowF CpF 100 p5 c6 [(⟨10,1,0,0,0⟩ : KComp)],rowF CpF 100 p3 c4 [(⟨10,1,0,0,0⟩ : KComp)],pt b2 (.cells #[.pointer none,pp b1 0] 23),pt b1 (.cells #[.int .i64 (0),.pointer none,.map none,.slice none 0 0,.int .i64 (0),.int .i64 (0),.int .i64 (0),.int .i64 (0),.int .i64 (0),.int .i64 (0),.int .i64 (0),.int .i64 (0),.int .i64 (0),.int .i64 (0),.int .i64 (0),.int .i64 (0),.int .i64 (0),.int .i64 (0),.bool false] 77)]) (by exact (perm_ix [1,0,2,3,4,5,6,7,8,9,10,11,12,13,14,15,16,17] 18 rfl (by kernel_rfl) (by kernel_rfl)))
 obtain ⟨β1,sb,kn,hw1,back⟩ := St.frame (L := [_]) (M := _ :: _ :: _ :: _ :: _ :: _ :: _ :: _ :: _ :: _ :: _ :: _ :: _ :: _ :: _ :: _ :: _ :: []) hw
 refine ((gtake_ok β1 w (Cs.mono _ _ _ _ sb hG) G12 S11 900 wgX true hw1 (by decide) (⟨5,4,low,false,(thE 9 9)⟩ : KMs) _ (kn _ (k_flN 0 (F := CpF) (m := 1) rfl rfl))).mono fun _ _ z => act_no (wg_take9 hlow) z).mono ?_
 rintro e w' ⟨rfl,hw'⟩
 refine ⟨_,rfl,_,back _ _ hw',?_⟩
 clear hw hw1 hw' back kn sb
 refine lv (v := .agg #[.int .i64 (0),.int .i64 (0)]) (e_build uv24.ok uv23 (vs := [(0,.int .i64 (0)),(1,.int .i64 (0))]) (cells := #[.int .i64 (0),.int .i64 (0)]) rfl rfl) ?_
 refine l_mv rfl rfl rfl (m_slices uv25 uv24.ok (cells := #[.int .i64 (2),.int .i64 (2),.int .i64 (2),.int .i64 (2),.int .i64 (2),.int .i64 (2),.int .i64 (6),.int .i64 (6),.int .i64 (2),.int .i64 (2),.int .i64 (6),.int .i64 (6),.int .i64 (6),.int .i64 (6),.int .i64 (2),.int .i64 (2),.int .i64 (2),.int .i64 (2),.int .i64 (2),.int .i64 (2),.int .i64 (6),.int .i64 (6),.int .i64 (2),.int .i64 (2),.int .i64 (2),.int .i64 (2),.int .i64 (2),.int .i64 (2),.int .i64 (2),.int .i64 (2),.int .i64 (2),.int .i64 (2),.int .i64 (2),.int .i64 (2),.int .i64 (2),.int .i64 (2),.int .i64 (2),.int .i64 (2),.int .i64 (320),.int .i64 (320),.int .i64 (0),.int .i64 (0)]) rfl rfl rfl (by kernel_rfl)) ?_
 rintro _ _ ⟨b35,rfl,rfl⟩
 refine lE oln (lE omi (lnf (c_block ?_)))
 refine c_conseq 0 (r' := rowF PrF 79 (some ⟨b35,0,none⟩) 21 wgL) rfl (pt_rowF (F := PrF) (xs := wgL) rfl (by decide)) ?_
 have hwl : wgL.length = 21 := rfl
 refine c_mask [true,true,true,true,true,true,true,true,true,true,true,true,true,true,true,true,true,true,true] rfl ?_
 refine c_loop (fun (i : Nat) f L => (f 6 = pp G12 0 ∧ f 8 = Ix (low) ∧ f 9 = Ix (high) ∧ f 202 = .slice (some ⟨b35,0,none⟩) (21) 21 ∧ f 203 = .int .i64 (21) ∧ f 204 = Nx (i)) ∧ L = [rowF PrF 79 (some ⟨b35,0,none⟩) 21 wgL,gateR G12 S11 wgX 900 true,rowF CpF 100 p33 c34 [(⟨10,9,0,0,0⟩ : KComp)],rowF CpF 100 p31 c32 [(⟨10,9,0,0,0⟩ : KComp)],rowF CpF 100 p29 c30 [(⟨10,9,0,0,0⟩ : KComp)],rowF CpF 100 p27 c28 [(⟨10,9,0,0,0⟩ : KComp)],rowF CpF 100 p25 c26 [(⟨10,5,0,0,0⟩ : KComp)],rowF CpF 100 p23 c24 [(⟨10,5,0,0,0⟩ : KComp)],rowF CpF 100 p21 c22 [(⟨10,1,0,0,0⟩ : KComp)],rowF CpF 100 p19 c20 [(⟨10,5,0,0,0⟩ : KComp)],rowF CpF 100 p17 c18 [(⟨10,5,0,0,0⟩ : KComp)],rowF CpF 100 p15 c16 [(⟨10,2,0,0,0⟩ : KComp)],rowF CpF 100 p13 c14 [(⟨10,1,0,0,0⟩ : KComp)],rowF CpF 100 p9 c10 [(⟨10,1,0,0,0⟩ : KComp)],rowF CpF 100 p7 c8 [(⟨10,1,0,0,0⟩ : KComp)],rowF CpF 100 p5 c6 [(⟨10,1,0,0,0⟩ : KComp)],rowF CpF 100 p3 c4 [(⟨10,1,0,0,0⟩ : KComp)],pt b2 (.cells #[.pointer none,pp b1 0] 23),pt b1 (.cells #[.int .i64 (0),.pointer none,.map none,.slice none 0 0,.int .i64 (0),.int .i64 (0),.int .i64 (0),.int .i64 (0),.int .i64 (0),.int .i64 (0),.int .i64 (0),.int .i64 (0),.int .i64 (0),.int .i64 (0),.int .i64 (0),.int .i64 (0),.int .i64 (0),.int .i64 (0),.bool false] 77)] ∧ (i ≤ 21)) (fun i => 21 - i) 0 ?_ ?_
 ·exact ⟨⟨rfl,rfl,rfl,rfl,rfl,rfl⟩,rfl,(Nat.zero_le _)⟩
 rintro i f0 L0 ⟨⟨hs6,hs8,hs9,hs202,hs203,hs204⟩,hL,hi⟩
 subst L0
 refine rbs 6 hs6 (rbs 8 hs8 (rbs 9 hs9 (rbs 202 hs202 (rbs 203 hs203 (rbs 204 hs204 (csr (lE olt (lnf (c_seq ?_)))))))))
 refine c_if _ rfl (fun hc36 => ?_) (fun hc36 => ?_)
 ·refine csk (c_seq (c_block (c_seq ?_)))
  obtain ⟨x37,hx38⟩ : ∃ x_,wgL[i]? = some x_ := ⟨_,List.getElem?_eq_getElem (by first | omega | decide)⟩
  have hxs := wgL_same hx38
  refine c_region (lv (v := .pointer (some ((ba (some ⟨b35,0,none⟩)).add (i * 2)))) (e_indexFlN 0 (F := PrF) rfl (by omega) rfl uv25 (by omega) rfl) ?_)
  refine lv (v := .agg #[Ix (x37.1),Ix (x37.2)]) (e_load uv27.ok rfl (k_flAt 0 (F := PrF) rfl hx38) rfl) (alE fun b39 => ?_)
  refine lu (mS 0 (#[Ix (x37.1),Ix (x37.2)])) (lnc (lE ofp (lE (oli 0) (lE ofp (lE (oli 0) (lE onq (lnf (c_if _ rfl (fun hc40 => ?_) (fun hc40 => ?_)))))))))
  ·exact absurd hc40 (fun q => q (by first | omega | decide | exact hxs))
  refine c_skip (f_block (f_then (c_region (lv (v := Nx (i + 1)) (e_add rfl rfl (i64n (by omega) (by omega))) (lE omi (l_nil ?_))))))
  refine f_mask [false,true,true,true,true,true,true,true,true,true,true,true,true,true,true,true,true,true,true,true] rfl ?_
  exact f_cut ⟨i + 1,⟨⟨rfl,rfl,rfl,rfl,rfl,rfl⟩,rfl,(by omega)⟩,(show 21 - (i + 1) < 21 - i from by omega)⟩
 refine c_exit (f_then_exit (f_then_exit (f_exit (fts (csr (lE omi (lE omi ?_)))))))
 refine l_mv rfl rfl rfl (m_slices uv31 uv32.ok (cells := #[Ix (low),Ix (high)]) rfl rfl rfl rfl) ?_
 rintro _ _ ⟨b41,rfl,rfl⟩
 refine lE oln (lE omi (lnf (c_block (c_unroll 3 (un_succ 2 (csr (lE olt (lnf (c_seq (c_yes rfl (csk (c_seq (c_block (csr ?_))))))))))))))
 refine lv (v := pp b41 0) (e_indexPt (b := b41) (o := 0) (k := 0) (len := 2) (cap := 2) rfl rfl uv31 (by decide)) (lE (oli 0) (lE oai (lnc (lE omi ?_))))
 refine lcf (cl0 (vs := []) uv21.ok rfl rfl) rfl fun w β1 sb kn hw1 back => (empty_ok β1 w hw1 1 (by decide)).mono ?_
 rintro e w' ⟨S42,rfl,hw'⟩
 refine ⟨_,rfl,_,back _ _ hw',?_⟩
 clear hw1 hw' back kn sb
 refine lcR clA (fun w β1 sb kn hw1 => gopen_bad β1 w hw1 low (.inl hlow) S42) (lE omt (lE oxp (lE oxi (lE oap (lE oai (lnc (lE omp ?_)))))))
 refine lv (v := .bool false) (e_neq_pnil (p := none) rfl rfl uv35) (lE omb (gE omi (gE onq (lE okfb (lE omb (gE omp (gE omi ?_)))))))
 refine g_call rfl rfl rfl rfl rfl (cl0 (vs := [pp G12 0,Ix (low)]) uv15.ok rfl rfl) ?_
 intro w hw
 replace hw := hw.perm (L' := [gateR G12 S11 wgX 900 true,shelfR S42 (freshG 1) 0 true,pt b41 (.cells #[Ix (low),Ix (high)] 3),rowF PrF 79 (some ⟨b35,0,none⟩) 21 wgL,rowF CpF 100 p33 c34 [(⟨10,9,0,0,0⟩ : KComp)],rowF CpF 100 p31 c32 [(⟨10,9,0,0,0⟩ : KComp)],rowF CpF 100 p29 c30 [(⟨10,9,0,0,0⟩ : KComp)],rowF CpF 100 p27 c28 [(⟨10,9,0,0,0⟩ : KComp)],rowF CpF 100 p25 c26 [(⟨10,5,0,0,0⟩ : KComp)],rowF CpF 100 p23 c24 [(⟨10,5,0,0,0⟩ : KComp)],rowF CpF 100 p21 c22 [(⟨10,1,0,0,0⟩ : KComp)],rowF CpF 100 p19 c20 [(⟨10,5,0,0,0⟩ : KComp)],rowF CpF 100 p17 c18 [(⟨10,5,0,0,0⟩ : KComp)],rowF CpF 100 p15 c16 [(⟨10,2,0,0,0⟩ : KComp)],rowF CpF 100 p13 c14 [(⟨10,1,0,0,0⟩ : KComp)],rowF CpF 100 p9 c10 [(⟨10,1,0,0,0⟩ : KComp)],rowF CpF 100 p7 c8 [(⟨10,1,0,0,0⟩ : KComp)],rowF CpF 100 p5 c6 [(⟨10,1,0,0,0⟩ : KComp)],rowF CpF 100 p3 c4 [(⟨10,1,0,0,0⟩ : KComp)],pt b2 (.cells #[.pointer none,pp b1 0] 23),pt b1 (.cells #[.int .i64 (0),.pointer none,.map none,.slice none 0 0,.int .i64 (0),.int .i64 (0),.int .i64 (0),.int .i64 (0),.int .i64 (0),.int .i64 (0),.int .i64 (0),.int .i64 (0),.int .i64 (0),.int .i64 (0),.int .i64 (0),.int .i64 (0),.int .i64 (0),.int .i64 (0),.bool false] 77)]) (by exact (perm_ix [3,0,1,2,4,5,6,7,8,9,10,11,12,13,14,15,16,17,18,19,20] 21 rfl (by kernel_rfl) (by kernel_rfl)))
 obtain ⟨β1,sb,kn,hw1,back⟩ := St.frame (L := [_]) (M := _ :: _ :: _ :: _ :: _ :: _ :: _ :: _ :: _ :: _ :: _ :: _ :: _ :: _ :: _ :: _ :: _ :: _ :: _ :: _ :: []) hw
 refine ((lastG_ok β1 w G12 S11 900 wgX true hw1 low).mono fun _ _ z => shownL (wg_last (.inl hlow)) z).mono ?_
 rintro e w' ⟨rfl,hw'⟩
 refine ⟨_,rfl,_,back _ _ hw',?_⟩
 clear hw hw1 hw' back kn sb
 refine gE onq (lE okfb (lnf (c_no rfl (c_skip (f_block (f_then (c_region (lE opl (lE omi (l_nil (f_cut (un_succ 1 (csr (lE olt (lnf (c_seq ?_))))))))))))))))
 refine c_yes rfl (csk (c_seq (c_block (csr ?_))))
 refine lv (v := pp b41 1) (e_indexPt (b := b41) (o := 0) (k := 1) (len := 2) (cap := 2) rfl rfl uv31 (by decide)) (lE (oli 2) (lE oai (lnc (lE omi ?_))))
 refine lcf (cl0 (vs := []) uv21.ok rfl rfl) rfl fun w β1 sb kn hw1 back => (empty_ok β1 w hw1 1 (by decide)).mono ?_
 rintro e w' ⟨S43,rfl,hw'⟩
 refine ⟨_,rfl,_,back _ _ hw',?_⟩
 clear hw1 hw' back kn sb
 refine lcR clA (fun w β1 sb kn hw1 => gopen_bad β1 w hw1 high (.inr hhigh) S43) (lE omt (lE oxp (lE oxi (lE oap (lE oai (lnc (lE omp ?_)))))))
 refine lv (v := .bool false) (e_neq_pnil (p := none) rfl rfl uv35) (lE omb (gE omi (gE onq (lE okfb (lE omb (gE omp (gE omi ?_)))))))
 refine g_call rfl rfl rfl rfl rfl (cl0 (vs := [pp G12 0,Ix (high)]) uv15.ok rfl rfl) ?_
 intro w hw
 replace hw := hw.perm (L' := [gateR G12 S11 wgX 900 true,shelfR S43 (freshG 1) 0 true,shelfR S42 (freshG 1) 0 true,pt b41 (.cells #[Ix (low),Ix (high)] 3),rowF PrF 79 (some ⟨b35,0,none⟩) 21 wgL,rowF CpF 100 p33 c34 [(⟨10,9,0,0,0⟩ : KComp)],rowF CpF 100 p31 c32 [(⟨10,9,0,0,0⟩ : KComp)],rowF CpF 100 p29 c30 [(⟨10,9,0,0,0⟩ : KComp)],rowF CpF 100 p27 c28 [(⟨10,9,0,0,0⟩ : KComp)],rowF CpF 100 p25 c26 [(⟨10,5,0,0,0⟩ : KComp)],rowF CpF 100 p23 c24 [(⟨10,5,0,0,0⟩ : KComp)],rowF CpF 100 p21 c22 [(⟨10,1,0,0,0⟩ : KComp)],rowF CpF 100 p19 c20 [(⟨10,5,0,0,0⟩ : KComp)],rowF CpF 100 p17 c18 [(⟨10,5,0,0,0⟩ : KComp)],rowF CpF 100 p15 c16 [(⟨10,2,0,0,0⟩ : KComp)],rowF CpF 100 p13 c14 [(⟨10,1,0,0,0⟩ : KComp)],rowF CpF 100 p9 c10 [(⟨10,1,0,0,0⟩ : KComp)],rowF CpF 100 p7 c8 [(⟨10,1,0,0,0⟩ : KComp)],rowF CpF 100 p5 c6 [(⟨10,1,0,0,0⟩ : KComp)],rowF CpF 100 p3 c4 [(⟨10,1,0,0,0⟩ : KComp)],pt b2 (.cells #[.pointer none,pp b1 0] 23),pt b1 (.cells #[.int .i64 (0),.pointer none,.map none,.slice none 0 0,.int .i64 (0),.int .i64 (0),.int .i64 (0),.int .i64 (0),.int .i64 (0),.int .i64 (0),.int .i64 (0),.int .i64 (0),.int .i64 (0),.int .i64 (0),.int .i64 (0),.int .i64 (0),.int .i64 (0),.int .i64 (0),.bool false] 77)]) (by exact (perm_ix [1,0,2,3,4,5,6,7,8,9,10,11,12,13,14,15,16,17,18,19,20,21] 22 rfl (by kernel_rfl) (by kernel_rfl)))
 obtain ⟨β1,sb,kn,hw1,back⟩ := St.frame (L := [_]) (M := _ :: _ :: _ :: _ :: _ :: _ :: _ :: _ :: _ :: _ :: _ :: _ :: _ :: _ :: _ :: _ :: _ :: _ :: _ :: _ :: _ :: []) hw
 refine ((lastG_ok β1 w G12 S11 900 wgX true hw1 high).mono fun _ _ z => shownL (wg_last (.inr hhigh)) z).mono ?_
 rintro e w' ⟨rfl,hw'⟩
 refine ⟨_,rfl,_,back _ _ hw',?_⟩
 clear hw hw1 hw' back kn sb
 refine gE onq (lE okfb (lnf (c_no rfl (c_skip (f_block (f_then (c_region (lE opl (lE omi (l_nil (f_cut (un_succ 0 (csr (lE olt (lnf (c_seq ?_))))))))))))))))
 refine c_no rfl (c_exit (f_then_exit (f_then_exit (f_exit (ftc (lE omp (l_call rfl rfl rfl (cl0 (vs := [pp G12 0]) uv16.ok rfl rfl) ?_)))))))
 intro w hw
 replace hw := hw.perm (L' := [gateR G12 S11 wgX 900 true,shelfR S43 (freshG 1) 0 true,shelfR S42 (freshG 1) 0 true,pt b41 (.cells #[Ix (low),Ix (high)] 3),rowF PrF 79 (some ⟨b35,0,none⟩) 21 wgL,rowF CpF 100 p33 c34 [(⟨10,9,0,0,0⟩ : KComp)],rowF CpF 100 p31 c32 [(⟨10,9,0,0,0⟩ : KComp)],rowF CpF 100 p29 c30 [(⟨10,9,0,0,0⟩ : KComp)],rowF CpF 100 p27 c28 [(⟨10,9,0,0,0⟩ : KComp)],rowF CpF 100 p25 c26 [(⟨10,5,0,0,0⟩ : KComp)],rowF CpF 100 p23 c24 [(⟨10,5,0,0,0⟩ : KComp)],rowF CpF 100 p21 c22 [(⟨10,1,0,0,0⟩ : KComp)],rowF CpF 100 p19 c20 [(⟨10,5,0,0,0⟩ : KComp)],rowF CpF 100 p17 c18 [(⟨10,5,0,0,0⟩ : KComp)],rowF CpF 100 p15 c16 [(⟨10,2,0,0,0⟩ : KComp)],rowF CpF 100 p13 c14 [(⟨10,1,0,0,0⟩ : KComp)],rowF CpF 100 p9 c10 [(⟨10,1,0,0,0⟩ : KComp)],rowF CpF 100 p7 c8 [(⟨10,1,0,0,0⟩ : KComp)],rowF CpF 100 p5 c6 [(⟨10,1,0,0,0⟩ : KComp)],rowF CpF 100 p3 c4 [(⟨10,1,0,0,0⟩ : KComp)],pt b2 (.cells #[.pointer none,pp b1 0] 23),pt b1 (.cells #[.int .i64 (0),.pointer none,.map none,.slice none 0 0,.int .i64 (0),.int .i64 (0),.int .i64 (0),.int .i64 (0),.int .i64 (0),.int .i64 (0),.int .i64 (0),.int .i64 (0),.int .i64 (0),.int .i64 (0),.int .i64 (0),.int .i64 (0),.int .i64 (0),.int .i64 (0),.bool false] 77)]) (by exact (perm_ix [0,1,2,3,4,5,6,7,8,9,10,11,12,13,14,15,16,17,18,19,20,21] 22 rfl (by kernel_rfl) (by kernel_rfl)))
 obtain ⟨β1,sb,kn,hw1,back⟩ := St.frame (L := [_]) (M := _ :: _ :: _ :: _ :: _ :: _ :: _ :: _ :: _ :: _ :: _ :: _ :: _ :: _ :: _ :: _ :: _ :: _ :: _ :: _ :: _ :: []) hw
 refine ((hereG_ok β1 w G12 S11 900 wgX true hw1).mono fun _ _ z => shownE (L' := [thE 1 1]) rfl z).mono ?_
 rintro e w' ⟨p44,c45,rfl,hw'⟩
 refine ⟨_,rfl,_,back _ _ hw',?_⟩
 clear hw hw1 hw' back kn sb
 refine lE omp (l_call rfl rfl rfl (cl0 (vs := [pp G12 0]) uv18.ok rfl rfl) ?_)
 intro w hw
 replace hw := hw.perm (L' := [gateR G12 S11 wgX 900 true,entsR p44 c45 [thE 1 1],shelfR S43 (freshG 1) 0 true,shelfR S42 (freshG 1) 0 true,pt b41 (.cells #[Ix (low),Ix (high)] 3),rowF PrF 79 (some ⟨b35,0,none⟩) 21 wgL,rowF CpF 100 p33 c34 [(⟨10,9,0,0,0⟩ : KComp)],rowF CpF 100 p31 c32 [(⟨10,9,0,0,0⟩ : KComp)],rowF CpF 100 p29 c30 [(⟨10,9,0,0,0⟩ : KComp)],rowF CpF 100 p27 c28 [(⟨10,9,0,0,0⟩ : KComp)],rowF CpF 100 p25 c26 [(⟨10,5,0,0,0⟩ : KComp)],rowF CpF 100 p23 c24 [(⟨10,5,0,0,0⟩ : KComp)],rowF CpF 100 p21 c22 [(⟨10,1,0,0,0⟩ : KComp)],rowF CpF 100 p19 c20 [(⟨10,5,0,0,0⟩ : KComp)],rowF CpF 100 p17 c18 [(⟨10,5,0,0,0⟩ : KComp)],rowF CpF 100 p15 c16 [(⟨10,2,0,0,0⟩ : KComp)],rowF CpF 100 p13 c14 [(⟨10,1,0,0,0⟩ : KComp)],rowF CpF 100 p9 c10 [(⟨10,1,0,0,0⟩ : KComp)],rowF CpF 100 p7 c8 [(⟨10,1,0,0,0⟩ : KComp)],rowF CpF 100 p5 c6 [(⟨10,1,0,0,0⟩ : KComp)],rowF CpF 100 p3 c4 [(⟨10,1,0,0,0⟩ : KComp)],pt b2 (.cells #[.pointer none,pp b1 0] 23),pt b1 (.cells #[.int .i64 (0),.pointer none,.map none,.slice none 0 0,.int .i64 (0),.int .i64 (0),.int .i64 (0),.int .i64 (0),.int .i64 (0),.int .i64 (0),.int .i64 (0),.int .i64 (0),.int .i64 (0),.int .i64 (0),.int .i64 (0),.int .i64 (0),.int .i64 (0),.int .i64 (0),.bool false] 77)]) (by exact (perm_ix [1,0,2,3,4,5,6,7,8,9,10,11,12,13,14,15,16,17,18,19,20,21,22] 23 rfl (by kernel_rfl) (by kernel_rfl)))
 obtain ⟨β1,sb,kn,hw1,back⟩ := St.frame (L := [_]) (M := _ :: _ :: _ :: _ :: _ :: _ :: _ :: _ :: _ :: _ :: _ :: _ :: _ :: _ :: _ :: _ :: _ :: _ :: _ :: _ :: _ :: _ :: []) hw
 refine ((outG_ok β1 w G12 S11 900 wgX true hw1).mono fun _ _ z => shownM (L' := [wgM]) rfl z).mono ?_
 rintro e w' ⟨p46,c47,rfl,hw'⟩
 refine ⟨_,rfl,_,back _ _ hw',?_⟩
 clear hw hw1 hw' back kn sb
 refine lE oas (lE oas (lnf (c_seq (c_pi [2,0,1,3,4,5,6,7,8,9,10,11,12,13,14,15,16,17,18,19,20,21,22,23] 24 rfl (by kernel_rfl) ?_))))
 refine c_openEnts rfl fun ez48 hez49 heh50 => ?_
 have hez49l : ez48.length = [thE 1 1].length := by rw [← hez49,List.length_map]
 have hez49k : (ez48.map Prod.fst).length = ez48.length := List.length_map _
 have hez49n : ez48.length = 1 := hez49l
 refine rbs 16 (v := sB p44 ez48 c45) (show (sB p44 [thE 1 1] c45 : Value) = sB p44 ez48 c45 from congrArg (fun z => Value.slice p44 z c45) hez49l.symm) ?_
 refine c_pi [2,0,1,3,4,5,6,7,8,9,10,11,12,13,14,15,16,17,18,19,20,21,22,23,24] 25 rfl (by kernel_rfl) (c_openMsgs rfl fun oz51 hoz52 hoh53 => ?_)
 have hoz52l : oz51.length = [wgM].length := by rw [← hoz52,List.length_map]
 have hoz52k : (oz51.map Prod.fst).length = oz51.length := List.length_map _
 have hoz52n : oz51.length = 1 := hoz52l
 refine rbs 17 (v := sB p46 oz51 c47) (show (sB p46 [wgM] c47 : Value) = sB p46 oz51 c47 from congrArg (fun z => Value.slice p46 z c47) hoz52l.symm) ?_
 obtain ⟨x54,hx55⟩ : ∃ x_,(ez48.map Prod.fst)[0]? = some x_ := ⟨_,List.getElem?_eq_getElem (by first | omega | decide)⟩
 obtain ⟨e56,hs57,hm58,hp59⟩ := ent_at hez49 heh50 hx55
 injection hs57 with hs57
 subst hs57
 have hei : x54.id = 1 := hm58.id
 obtain ⟨x60,hx61⟩ : ∃ x_,(oz51.map Prod.fst)[0]? = some x_ := ⟨_,List.getElem?_eq_getElem (by first | omega | decide)⟩
 obtain ⟨s62,hs63,hm64,hp65⟩ := msg_at hoz52 hoh53 hx61
 injection hs63 with hs63
 subst hs63
 have hyn : x60.number = 1 := hm64.number
 have hyt : x60.to = 6 := hm64.to
 have hyi : x60.id = 2 := hm64.id
 refine cnz [sv 245 (sB p44 ez48 c45) [] [] [0],sv 246 (Nx (ez48.length)) [0] [0] [],sv 247 (.bool true) [0,1] [1] [],sv 248 (.bool true) [0,1,2] [2] [],sv 249 (sB p44 ez48 c45) [0,1,2,3] [3] [0],sv 250 (.pointer (some ((ba p44).add (0 * 2)))) [0,1,2,3,4] [4,3] [],sv 251 (.agg #[Ix (x54.id),.slice x54.p (x54.n) x54.c]) (List.range 6) [5,3] [],⟨[0,1,2,3],[3],[],[252],fun f => f 252 = .agg #[.int .i64 (1),.slice (thA (f 252)) (1) (thC (f 252))]⟩,sv 253 (.bool true) (List.range 8) [6,7,3] [],sv 254 (.bool true) (List.range 9) [3,8] [],sv 255 (.bool true) (List.range 10) [9] [],sv 256 (sB p46 oz51 c47) (List.range 11) [10] [1],sv 257 (Nx (oz51.length)) (List.range 12) [11,10] [],sv 258 (.bool true) (List.range 13) [12,10] [],sv 259 (.bool true) (List.range 14) [10,13] [],sv 260 (.bool true) (List.range 15) [14] [],sv 261 (sB p46 oz51 c47) (List.range 16) [15] [1],sv 262 (.pointer (some ((ba p46).add (0 * 6)))) (List.range 17) [16,15] [],sv 263 (.pointer (some ((ba p46).add (0 * 6 + 2)))) (List.range 18) [17,15] [],sv 264 (Ix (x60.number)) (List.range 19) [18,15] [],sv 265 (.bool true) (List.range 20) [19,15] [],sv 266 (.bool true) (List.range 21) [15,20] [],sv 267 (.bool true) (List.range 22) [21] [],sv 268 (sB p46 oz51 c47) (List.range 23) [22] [1],sv 269 (.pointer (some ((ba p46).add (0 * 6)))) (List.range 24) [23,22] [],sv 270 (.pointer (some ((ba p46).add (0 * 6 + 1)))) (List.range 25) [24,22] [],sv 271 (Ix (x60.to)) (List.range 26) [25,22] [],sv 272 (.bool true) (List.range 27) [26,22] [],sv 273 (.bool true) (List.range 28) [22,27] [],sv 274 (.bool true) (List.range 29) [28] [],sv 275 (sB p46 oz51 c47) (List.range 30) [29] [1],sv 276 (.pointer (some ((ba p46).add (0 * 6)))) (List.range 31) [30,29] [],sv 277 (.pointer (some ((ba p46).add (0 * 6 + 4)))) (List.range 32) [31,29] [],sv 278 (.agg #[Ix (x60.id),.slice x60.p (x60.n) x60.c]) (List.range 33) [32,29] [],⟨(List.range 30),[29],[],[279],fun f => f 279 = .agg #[.int .i64 (2),.slice (thA (f 279)) (1) (thC (f 279))]⟩,sv 280 (.bool true) (List.range 35) [33,34,29] [],sv 281 (.bool true) (List.range 36) [29,35] [],sv 282 (.bool true) (List.range 37) [36] [],sv 283 (.bool true) (List.range 38) [37] [],sv 284 (.bool true) (List.range 39) [37,38] [],sv 2 (.bool true) (List.range 40) [39] []] [u1 [17,19,24,26,31,33],u1 [35],u1 [5,6],u1 [8]] [⟨(some 7),none,[8],[252],fun f => rowF CpF 100 (thA (f 252)) (thC (f 252)) [(⟨10,1,0,0,0⟩ : KComp)]⟩,⟨(some 34),none,[35],[279],fun f => rowF CpF 100 (thA (f 279)) (thC (f 279)) [(⟨10,2,0,0,0⟩ : KComp)]⟩] [(16,sB p44 ez48 c45),(17,sB p46 oz51 c47)] [] ⟨rfl,rfl,trivial⟩ ⟨?_,?_,?_,?_,?_,?_,?_,?_,?_,?_,?_,?_,?_,?_,?_,?_,?_,?_,?_,?_,?_,?_,?_,?_,?_,?_,?_,?_,?_,?_,?_,?_,?_,?_,?_,?_,?_,?_,?_,?_,?_,trivial⟩ ?_
 ·rintro f M - ⟨i0,-⟩
  exact obE oms
 ·rintro f M ⟨k0,-⟩ -
  exact obE oln
 ·rintro f M ⟨k0,-⟩ -
  exact ob0 (up_cons (d := 246) rfl k0) rfl ((ev_t (by first | omega | decide) (e_eql (a := ((ez48.length : Nat) : Int)) (b := (1 : Int)) rfl rfl))) (.refl _)
 ·rintro f M ⟨k0,-⟩ -
  exact obE omb
 ·rintro f M ⟨k0,-⟩ ⟨i0,-⟩
  exact obG oms
 ·rintro f M ⟨k0,k1,-⟩ -
  exact obg (L' := rowF EhF 32 p44 c45 (ez48.map Prod.fst) :: M) (v := .pointer (some ((ba p44).add (0 * 2)))) (up_cons (d := 248) (up_cons (d := 249) rfl k0) k1) (e_indexFlN 0 (F := EhF) (j := 0) (m := ez48.length) (xs := (ez48.map Prod.fst)) rfl (List.length_map _).symm rfl uv36 (by omega) rfl) rfl rfl rfl rfl (perm_front 0 rfl) (by rfl)
 ·rintro f M ⟨k0,k1,-⟩ -
  exact obg (L' := rowF EhF 32 p44 c45 (ez48.map Prod.fst) :: M) (v := .agg #[Ix (x54.id),.slice x54.p (x54.n) x54.c]) (up_cons (d := 248) (up_cons (d := 250) rfl k0) k1) (e_load uv37.ok rfl (k_flAt 0 (F := EhF) rfl hx55) rfl) rfl rfl rfl rfl (perm_front 0 rfl) (by rfl)
 ·rintro f M ⟨k0,-⟩ -
  refine ob_start (L' := M) (by rfl) (up_cons (d := 248) rfl k0) ?_
  refine g_call rfl rfl rfl rfl rfl (cl0 (vs := [.int .i64 (1),.int .i64 (1)]) uv6.ok rfl rfl) ?_
  intro w hw
  obtain ⟨β1,sb,kn,hw1,back⟩ := St.frame_all hw
  refine (thing_ok β1 w hw1 1 1).mono ?_
  rintro e w' ⟨p68,c69,rfl,hw'⟩
  refine ⟨_,rfl,_,back _ _ hw',?_⟩
  clear hw hw1 hw' back kn sb
  refine l_nil ?_
  exact f_owes_d (up_cons (d := 248) rfl k0) rfl (perm_front 0 rfl)
 ·rintro f M ⟨k0,k1,k2,-⟩ -
  have hs252 : f 252 = .agg #[.int .i64 (1),.slice (thA (f 252)) (1) (thC (f 252))] := k1
  refine ob_start (L' := poolR ez48 :: rowF CpF 100 (thA (f 252)) (thC (f 252)) [(⟨10,1,0,0,0⟩ : KComp)] :: M) (by rfl) (up_cons (d := 248) (up_cons (up_cons (d := 251) rfl k0) hs252) k2) ?_
  refine g_call rfl rfl rfl rfl rfl (cl0 (vs := [.agg #[Ix (x54.id),.slice x54.p (x54.n) x54.c],.agg #[.int .i64 (1),.slice (thA (f 252)) (1) (thC (f 252))]]) uv38.ok rfl rfl) ?_
  intro w hw
  obtain ⟨β1,sb,kn,hw1,back⟩ := St.frame_all hw
  refine (sameE_ok β1 w hw1 x54.id 1 _ _ ((thE 1 1).comps) [(⟨10,1,0,0,0⟩ : KComp)] (kn _ (k_poolS (zs := ez48) (z := (x54,(thE 1 1))) 0 rfl hp59 hm58)) (kn _ (k_flN 1 (F := CpF) (m := 1) rfl rfl))).mono ?_
  rintro e w' ⟨rfl,hw'⟩
  refine ⟨_,rfl,_,back _ _ hw',?_⟩
  clear hw hw1 hw' back kn sb
  refine l_nil ?_
  exact f_owes_d (up_cons (d := 248) (up_cons (up_cons (d := 251) rfl k0) hs252) k2) (congrArg Value.bool (decide_eq_true (by rw [hei] <;> rfl))) ((perm_front 1 rfl).trans (perm_front 1 rfl))
 ·rintro f M ⟨k0,k1,-⟩ -
  exact obE oktb
 ·rintro f M ⟨k0,-⟩ -
  exact obE omb
 ·rintro f M ⟨k0,-⟩ ⟨i0,-⟩
  exact obG oms
 ·rintro f M ⟨k0,k1,-⟩ -
  exact obG oln
 ·rintro f M ⟨k0,k1,-⟩ -
  exact obg (L' := M) (v := .bool true) (up_cons (d := 255) (up_cons (d := 257) rfl k0) k1) ((ev_t (by first | omega | decide) (e_eql (a := ((oz51.length : Nat) : Int)) (b := (1 : Int)) rfl rfl))) rfl rfl rfl rfl (.refl _) (by rfl)
 ·rintro f M ⟨k0,k1,-⟩ -
  exact obE oktb
 ·rintro f M ⟨k0,-⟩ -
  exact obE omb
 ·rintro f M ⟨k0,-⟩ ⟨i0,-⟩
  exact obG oms
 ·rintro f M ⟨k0,k1,-⟩ -
  exact obg (L' := rowF MgF 38 p46 c47 (oz51.map Prod.fst) :: M) (v := .pointer (some ((ba p46).add (0 * 6)))) (up_cons (d := 260) (up_cons (d := 261) rfl k0) k1) (e_indexFlN 0 (F := MgF) (j := 0) (m := oz51.length) (xs := (oz51.map Prod.fst)) rfl (List.length_map _).symm rfl uv39 (by omega) rfl) rfl rfl rfl rfl (perm_front 0 rfl) (by rfl)
 ·rintro f M ⟨k0,k1,-⟩ -
  exact obg (L' := M) (v := .pointer (some ((ba p46).add (0 * 6 + 2)))) (up_cons (d := 260) (up_cons (d := 262) rfl k0) k1) (e_fd rfl uv40.ok) rfl rfl rfl rfl (.refl _) (by rfl)
 ·rintro f M ⟨k0,k1,-⟩ -
  exact obg (L' := rowF MgF 38 p46 c47 (oz51.map Prod.fst) :: M) (v := Ix (x60.number)) (up_cons (d := 260) (up_cons (d := 263) rfl k0) k1) (e_load1 uv34.ok rfl (k_flPart 0 (F := MgF) (o := 2) (us := [Ix (x60.number)]) rfl hx61 rfl)) rfl rfl rfl rfl (perm_front 0 rfl) (by rfl)
 ·rintro f M ⟨k0,k1,-⟩ -
  exact obg (L' := M) (v := .bool true) (up_cons (d := 260) (up_cons (d := 264) rfl k0) k1) ((ev_t (by first | omega | decide) (e_eql (a := (x60.number)) (b := (1 : Int)) rfl rfl))) rfl rfl rfl rfl (.refl _) (by rfl)
 ·rintro f M ⟨k0,k1,-⟩ -
  exact obE oktb
 ·rintro f M ⟨k0,-⟩ -
  exact obE omb
 ·rintro f M ⟨k0,-⟩ ⟨i0,-⟩
  exact obG oms
 ·rintro f M ⟨k0,k1,-⟩ -
  exact obg (L' := rowF MgF 38 p46 c47 (oz51.map Prod.fst) :: M) (v := .pointer (some ((ba p46).add (0 * 6)))) (up_cons (d := 267) (up_cons (d := 268) rfl k0) k1) (e_indexFlN 0 (F := MgF) (j := 0) (m := oz51.length) (xs := (oz51.map Prod.fst)) rfl (List.length_map _).symm rfl uv39 (by omega) rfl) rfl rfl rfl rfl (perm_front 0 rfl) (by rfl)
 ·rintro f M ⟨k0,k1,-⟩ -
  exact obg (L' := M) (v := .pointer (some ((ba p46).add (0 * 6 + 1)))) (up_cons (d := 267) (up_cons (d := 269) rfl k0) k1) (e_fd rfl uv41.ok) rfl rfl rfl rfl (.refl _) (by rfl)
 ·rintro f M ⟨k0,k1,-⟩ -
  exact obg (L' := rowF MgF 38 p46 c47 (oz51.map Prod.fst) :: M) (v := Ix (x60.to)) (up_cons (d := 267) (up_cons (d := 270) rfl k0) k1) (e_load1 uv34.ok rfl (k_flPart 0 (F := MgF) (o := 1) (us := [Ix (x60.to)]) rfl hx61 rfl)) rfl rfl rfl rfl (perm_front 0 rfl) (by rfl)
 ·rintro f M ⟨k0,k1,-⟩ -
  exact obg (L' := M) (v := .bool true) (up_cons (d := 267) (up_cons (d := 271) rfl k0) k1) ((ev_t (by first | omega | decide) (e_eql (a := (x60.to)) (b := (6 : Int)) rfl rfl))) rfl rfl rfl rfl (.refl _) (by rfl)
 ·rintro f M ⟨k0,k1,-⟩ -
  exact obE oktb
 ·rintro f M ⟨k0,-⟩ -
  exact obE omb
 ·rintro f M ⟨k0,-⟩ ⟨i0,-⟩
  exact obG oms
 ·rintro f M ⟨k0,k1,-⟩ -
  exact obg (L' := rowF MgF 38 p46 c47 (oz51.map Prod.fst) :: M) (v := .pointer (some ((ba p46).add (0 * 6)))) (up_cons (d := 274) (up_cons (d := 275) rfl k0) k1) (e_indexFlN 0 (F := MgF) (j := 0) (m := oz51.length) (xs := (oz51.map Prod.fst)) rfl (List.length_map _).symm rfl uv39 (by omega) rfl) rfl rfl rfl rfl (perm_front 0 rfl) (by rfl)
 ·rintro f M ⟨k0,k1,-⟩ -
  exact obg (L' := M) (v := .pointer (some ((ba p46).add (0 * 6 + 4)))) (up_cons (d := 274) (up_cons (d := 276) rfl k0) k1) (e_fd rfl uv42.ok) rfl rfl rfl rfl (.refl _) (by rfl)
 ·rintro f M ⟨k0,k1,-⟩ -
  exact obg (L' := rowF MgF 38 p46 c47 (oz51.map Prod.fst) :: M) (v := .agg #[Ix (x60.id),.slice x60.p (x60.n) x60.c]) (up_cons (d := 274) (up_cons (d := 277) rfl k0) k1) (e_load uv37.ok rfl (k_flPart 0 (F := MgF) (o := 4) (us := [Ix (x60.id),.slice x60.p (x60.n) x60.c]) rfl hx61 rfl) rfl) rfl rfl rfl rfl (perm_front 0 rfl) (by rfl)
 ·rintro f M ⟨k0,-⟩ -
  refine obS (up_cons (d := 274) rfl k0) ?_
  refine g_call rfl rfl rfl rfl rfl (cl0 (vs := [.int .i64 (2),.int .i64 (2)]) uv6.ok rfl rfl) ?_
  intro w hw
  obtain ⟨β1,sb,kn,hw1,back⟩ := St.frame_all hw
  refine (thing_ok β1 w hw1 2 2).mono ?_
  rintro e w' ⟨p72,c73,rfl,hw'⟩
  refine ⟨_,rfl,_,back _ _ hw',?_⟩
  clear hw hw1 hw' back kn sb
  refine l_nil ?_
  exact f_owes_d (up_cons (d := 274) rfl k0) rfl (perm_front 0 rfl)
 ·rintro f M ⟨k0,k1,k2,-⟩ -
  have hs279 : f 279 = .agg #[.int .i64 (2),.slice (thA (f 279)) (1) (thC (f 279))] := k1
  refine obS (up_cons (d := 274) (up_cons (up_cons (d := 278) rfl k0) hs279) k2) ?_
  refine g_call rfl rfl rfl rfl rfl (cl0 (vs := [.agg #[Ix (x60.id),.slice x60.p (x60.n) x60.c],.agg #[.int .i64 (2),.slice (thA (f 279)) (1) (thC (f 279))]]) uv38.ok rfl rfl) ?_
  intro w hw
  obtain ⟨β1,sb,kn,hw1,back⟩ := St.frame_all hw
  refine (sameE_ok β1 w hw1 x60.id 2 _ _ wgM.e.comps [(⟨10,2,0,0,0⟩ : KComp)] (kn _ (k_poolS (zs := (MPool.e oz51)) (z := (x60.eh,wgM.e)) 0 rfl hp65 hm64.eh)) (kn _ (k_flN 1 (F := CpF) (m := 1) rfl rfl))).mono ?_
  rintro e w' ⟨rfl,hw'⟩
  refine ⟨_,rfl,_,back _ _ hw',?_⟩
  clear hw hw1 hw' back kn sb
  refine l_nil ?_
  exact f_owes_d (up_cons (d := 274) (up_cons (up_cons (d := 278) rfl k0) hs279) k2) (congrArg Value.bool (decide_eq_true (by rw [hyi] <;> rfl))) ((perm_front 1 rfl).trans (perm_front 1 rfl))
 ·rintro f M ⟨k0,k1,-⟩ -
  exact obE oktb
 ·rintro f M ⟨k0,-⟩ -
  exact obE omb
 ·rintro f M ⟨k0,-⟩ -
  refine obS (up_cons (d := 282) rfl k0) ?_
  refine g_call rfl rfl rfl rfl rfl (cl0 (vs := []) uv43.ok rfl rfl) ?_
  intro w hw
  obtain ⟨β1,sb,kn,hw1,back⟩ := St.frame_all hw
  refine (awake_ok β1 w hw1 (Cs.mono _ _ _ _ sb hG)).mono ?_
  rintro e w' ⟨rfl,hw'⟩
  refine ⟨_,rfl,_,back _ _ hw',?_⟩
  clear hw hw1 hw' back kn sb
  refine l_nil ?_
  exact f_owes_d (up_cons (d := 282) rfl k0) rfl (List.Perm.refl _)
 ·rintro f M ⟨k0,k1,-⟩ -
  exact obE oktb
 ·rintro f M ⟨k0,-⟩ -
  exact obE oab
 rintro fa74 ⟨-,-,-,-,-,-,-,-,-,-,-,-,-,-,-,-,-,-,-,-,-,-,-,-,-,-,-,-,-,-,-,-,-,-,-,-,-,-,-,-,k40,-⟩ -
 refine fre ?_
 refine f_rebase (d := 2) k40 (ftr (ret1 Tryz.results8 rfl ?_))
 intro w hw
 exact ⟨rfl,st_mask [false,false,false,false,false,false,false,false,false,false,false,false,false,false,false,false,false,false,false,false,false,false,false,false,false,false,false,false] rfl hw⟩
end Go.Proofs
