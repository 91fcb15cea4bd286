/-
 The chapter's examples: walked. Printed by a program of my own.
-/
import Derived.Test.YtoijanalppaplaaGreatIsAwk
import Derived.Test.YtoijanalppaplaaGreatSlC
namespace Go.Isl
open Go.Sl Go.Brd Go.Stp Go.Proofs
theorem arr4_eq {a b c d e f g h : Int} : [Ix a, Ix b, Ix c, Ix d] = [Ix e, Ix f, Ix g, Ix h] ↔ a = e ∧ b = f ∧ c = g ∧ d = h := by simp
end Go.Isl
namespace Go.Proofs
open Go Go.Sl Go.Brd Go.Stp Go.Isl
theorem islandsM_ok (β : Base) (w : World) (hw : St β [] w) (v u : Value) (gx gy : Int) (bs : List KB) (rs : List KR) (hs_ : Sl KBR β.heap v bs) (hr_ : Sl KRR β.heap u rs) (hgx : -9223372036854775808 ≤ gx ∧ gx ≤ 9223372036854775807) (hgy : -9223372036854775808 ≤ gy ∧ gy ≤ 9223372036854775807) : Calls Tryz.prog 14 #[.agg #[v, u, Ix gx, Ix gy]] w fun r w' => ∃ p c hs, hs.map (·.xs) = islR bs rs gx gy ∧ r = .returned (.tuple #[sB p hs c, Ix (errI bs rs gx gy)]) ∧ St β [Sat (llL p c hs)] w' :=
 (islands_ok β w hw v u gx gy bs rs hs_ hr_ hgx hgy).mono fun _ _ ⟨p, c, hs, h1, h2, h3⟩ => ⟨p, c, hs, h1, h2, St.merge (L := llL p c hs) (M := []) h3 fun _ q => q⟩
theorem tf73 : cfB Tryz.prog 15 = true := by kernel_rfl
theorem tf74 : stB Tryz.prog 42 [(0, 1), (1, 1), (2, 1)] = true := by kernel_rfl
theorem tf75 : cfB Tryz.prog 14 = true := by kernel_rfl
theorem tf76 : cfB Tryz.prog 19 = true := by kernel_rfl
theorem tf77 : cfB Tryz.prog 23 = true := by kernel_rfl
theorem tf78 : lay Tryz.prog 10000 36 = some [.int .i64, .int .i64, .int .i64, .int .i64] := by kernel_rfl
theorem tf79 : isAggT Tryz.prog 36 = true := by kernel_rfl
theorem tf80 : Tryz.prog.eqGuardType Tryz.prog.depth 36 = false := by kernel_rfl
set_option maxHeartbeats 4000000 in
theorem awake_ok (β : Base) (w : World) (hw : St β [] w) : Calls Tryz.prog 8 #[] w fun r w' => r = .returned (.bool true) ∧ St β [] w' := by
 refine enter (n := 106) Tryz.func8 rfl Tryz.ntmps8 rfl ?_ hw
 refine c_seq ?_
 have hea := aw_ea
 have heb := aw_eb
 have hec := aw_ec
 have hep := aw_ep
 have hpl : (ptB exB [(⟨1, 3, 200⟩ : KR)] 0 0 [1]).length = 2 := by rw [aw_pb]; rfl
 refine c_region ?_
 refine l_val (v := .bool false) rfl rfl rfl e_assign ?_
 refine lnc ?_
 refine lcf (cl0 (vs := []) tf73 rfl rfl) rfl fun w β1 sb kn hw1 back => (example_ok β1 w hw1).mono ?_
 rintro e w' ⟨b1, rfl, hw'⟩
 refine ⟨_, rfl, _, back _ _ hw', ?_⟩
 clear hw1 hw' back kn sb
 refine lcf (cl0 (vs := []) tf73 rfl rfl) rfl fun w β1 sb kn hw1 back => (example_ok β1 w hw1).mono ?_
 rintro e w' ⟨b2, rfl, hw'⟩
 refine ⟨_, rfl, _, back _ _ hw', ?_⟩
 clear hw1 hw' back kn sb
 refine lcf (cl0 (vs := []) tf73 rfl rfl) rfl fun w β1 sb kn hw1 back => (example_ok β1 w hw1).mono ?_
 rintro e w' ⟨b3, rfl, hw'⟩
 refine ⟨_, rfl, _, back _ _ hw', ?_⟩
 clear hw1 hw' back kn sb
 refine l_mv rfl rfl rfl (m_alloc tf67) ?_
 rintro _ _ ⟨b4, rfl, rfl⟩
 refine l_mv rfl rfl rfl (m_alloc tf67) ?_
 rintro _ _ ⟨b5, rfl, rfl⟩
 refine l_mv rfl rfl rfl (m_alloc tf67) ?_
 rintro _ _ ⟨b6, rfl, rfl⟩
 refine lu (m_store 2 tf31 (cs' := #[.slice (some ⟨b1, 0, none⟩) (4) 4, .slice none 0 0, .int .i64 (0), .int .i64 (0)]) rfl rfl rfl rfl rfl rfl rfl) ?_
 refine lu (m_store 1 tf31 (cs' := #[.slice (some ⟨b2, 0, none⟩) (4) 4, .slice none 0 0, .int .i64 (0), .int .i64 (0)]) rfl rfl rfl rfl rfl rfl rfl) ?_
 refine lu (m_store 0 tf31 (cs' := #[.slice (some ⟨b3, 0, none⟩) (4) 4, .slice none 0 0, .int .i64 (0), .int .i64 (0)]) rfl rfl rfl rfl rfl rfl rfl) ?_
 refine lnc ?_
 refine lv (v := pp b5 2) (e_fieldPt rfl tf40) ?_
 refine lv (v := pp b5 2) (e_fieldPt rfl tf10) ?_
 refine lu (m_store 1 tf11 (cs' := #[.slice (some ⟨b2, 0, none⟩) (4) 4, .slice none 0 0, .int .i64 (5), .int .i64 (0)]) rfl rfl rfl rfl rfl rfl rfl) ?_
 refine lnc ?_
 refine lv (v := .agg #[.int .i64 (1), .int .i64 (3), .int .i64 (200)]) (e_build tf57 tf74 (vs := [(0, .int .i64 (1)), (1, .int .i64 (3)), (2, .int .i64 (200))]) (cells := #[.int .i64 (1), .int .i64 (3), .int .i64 (200)]) rfl rfl) ?_
 refine l_mv rfl rfl rfl (m_slices tf55 tf57 (cells := #[.int .i64 (1), .int .i64 (3), .int .i64 (200)]) rfl rfl rfl rfl) ?_
 rintro _ _ ⟨b7, rfl, rfl⟩
 refine lv (v := pp b6 1) (e_fieldPt rfl tf52) ?_
 refine lu (m_store 1 tf53 (cs' := #[.slice (some ⟨b3, 0, none⟩) (4) 4, .slice (some ⟨b7, 0, none⟩) 1 1, .int .i64 (0), .int .i64 (0)]) rfl rfl rfl rfl rfl rfl rfl) ?_
 refine lnc ?_
 refine lv (v := .agg #[.slice (some ⟨b1, 0, none⟩) (4) 4, .slice none 0 0, .int .i64 (0), .int .i64 (0)]) (e_load tf31 rfl (k_pt 3 rfl rfl) rfl) ?_
 refine lcf (cl0 (vs := [.agg #[.slice (some ⟨b1, 0, none⟩) (4) 4, .slice none 0 0, .int .i64 (0), .int .i64 (0)]]) tf75 rfl rfl) rfl fun w β1 sb kn hw1 back => (islandsM_ok β1 w hw1 _ _ 0 0 exB [] (kn _ (k_flN 6 (F := BodyF) (m := 4) rfl rfl)) (Sl.nil _ _) (by omega) (by omega)).mono ?_
 rintro e w' ⟨p8, c9, hs10, hx11, rfl, hw'⟩
 refine ⟨_, rfl, _, back _ _ hw', ?_⟩
 clear hw1 hw' back kn sb
 refine lv (v := .tuple #[sB p8 hs10 c9, Ix ((errI exB [] 0 0))]) e_move ?_
 refine lv (v := sB p8 hs10 c9) (e_extract (vs := #[sB p8 hs10 c9, Ix ((errI exB [] 0 0))]) rfl rfl) ?_
 refine lv (v := Ix ((errI exB [] 0 0))) (e_extract (vs := #[sB p8 hs10 c9, Ix ((errI exB [] 0 0))]) rfl rfl) ?_
 refine lv (v := sB p8 hs10 c9) e_assign ?_
 refine lv (v := Ix ((errI exB [] 0 0))) e_assign ?_
 refine lnc ?_
 refine lv (v := .agg #[.slice (some ⟨b2, 0, none⟩) (4) 4, .slice none 0 0, .int .i64 (5), .int .i64 (0)]) (e_load tf31 rfl (k_pt 3 rfl rfl) rfl) ?_
 refine lcf (cl0 (vs := [.agg #[.slice (some ⟨b2, 0, none⟩) (4) 4, .slice none 0 0, .int .i64 (5), .int .i64 (0)]]) tf75 rfl rfl) rfl fun w β1 sb kn hw1 back => (islandsM_ok β1 w hw1 _ _ 5 0 exB [] (kn _ (k_flN 6 (F := BodyF) (m := 4) rfl rfl)) (Sl.nil _ _) (by omega) (by omega)).mono ?_
 rintro e w' ⟨p12, c13, hs14, hx15, rfl, hw'⟩
 refine ⟨_, rfl, _, back _ _ hw', ?_⟩
 clear hw1 hw' back kn sb
 refine lv (v := .tuple #[sB p12 hs14 c13, Ix ((errI exB [] 5 0))]) e_move ?_
 refine lv (v := sB p12 hs14 c13) (e_extract (vs := #[sB p12 hs14 c13, Ix ((errI exB [] 5 0))]) rfl rfl) ?_
 refine lv (v := Ix ((errI exB [] 5 0))) (e_extract (vs := #[sB p12 hs14 c13, Ix ((errI exB [] 5 0))]) rfl rfl) ?_
 refine lv (v := sB p12 hs14 c13) e_assign ?_
 refine lv (v := Ix ((errI exB [] 5 0))) e_assign ?_
 refine lnc ?_
 refine lv (v := .agg #[.slice (some ⟨b3, 0, none⟩) (4) 4, .slice (some ⟨b7, 0, none⟩) 1 1, .int .i64 (0), .int .i64 (0)]) (e_load tf31 rfl (k_pt 3 rfl rfl) rfl) ?_
 refine lcf (cl0 (vs := [.agg #[.slice (some ⟨b3, 0, none⟩) (4) 4, .slice (some ⟨b7, 0, none⟩) 1 1, .int .i64 (0), .int .i64 (0)]]) tf75 rfl rfl) rfl fun w β1 sb kn hw1 back => (islandsM_ok β1 w hw1 _ _ 0 0 exB [(⟨1, 3, 200⟩ : KR)] (kn _ (k_flN 6 (F := BodyF) (m := 4) rfl rfl)) (kn _ (k_ptFls (F := RopeF) 2 (m := 1) (xs := [(⟨1, 3, 200⟩ : KR)]) rfl rfl rfl (by decide))) (by omega) (by omega)).mono ?_
 rintro e w' ⟨p16, c17, hs18, hx19, rfl, hw'⟩
 refine ⟨_, rfl, _, back _ _ hw', ?_⟩
 clear hw1 hw' back kn sb
 refine lv (v := .tuple #[sB p16 hs18 c17, Ix ((errI exB [(⟨1, 3, 200⟩ : KR)] 0 0))]) e_move ?_
 refine lv (v := sB p16 hs18 c17) (e_extract (vs := #[sB p16 hs18 c17, Ix ((errI exB [(⟨1, 3, 200⟩ : KR)] 0 0))]) rfl rfl) ?_
 refine lv (v := Ix ((errI exB [(⟨1, 3, 200⟩ : KR)] 0 0))) (e_extract (vs := #[sB p16 hs18 c17, Ix ((errI exB [(⟨1, 3, 200⟩ : KR)] 0 0))]) rfl rfl) ?_
 refine lv (v := sB p16 hs18 c17) e_assign ?_
 refine lv (v := Ix ((errI exB [(⟨1, 3, 200⟩ : KR)] 0 0))) e_assign ?_
 refine lnc ?_
 refine lv (v := .agg #[.slice (some ⟨b3, 0, none⟩) (4) 4, .slice (some ⟨b7, 0, none⟩) 1 1, .int .i64 (0), .int .i64 (0)]) (e_load tf31 rfl (k_pt 4 rfl rfl) rfl) ?_
 refine l_mv rfl rfl rfl (m_slices tf23 tf24 (cells := #[.int .i64 (1)]) rfl rfl rfl rfl) ?_
 rintro _ _ ⟨b20, rfl, rfl⟩
 refine lcf (cl0 (vs := [.agg #[.slice (some ⟨b3, 0, none⟩) (4) 4, .slice (some ⟨b7, 0, none⟩) 1 1, .int .i64 (0), .int .i64 (0)], .slice (some ⟨b20, 0, none⟩) 1 1]) tf76 rfl rfl) rfl fun w β1 sb kn hw1 back => (part_ok β1 w hw1 _ _ _ 0 0 exB [(⟨1, 3, 200⟩ : KR)] [1] (kn _ (k_flN 8 (F := BodyF) (m := 4) rfl rfl)) (kn _ (k_ptFls (F := RopeF) 4 (m := 1) (xs := [(⟨1, 3, 200⟩ : KR)]) rfl rfl rfl (by decide))) (kn _ (k_ptFls (F := IntF) 0 (m := 1) (xs := [1]) rfl rfl rfl (by decide))) (by omega) (by omega)).mono ?_
 rintro e w' ⟨p21, c22, q23, d24, rfl, hw'⟩
 refine ⟨_, rfl, _, back _ _ hw', ?_⟩
 clear hw1 hw' back kn sb
 refine lv (v := .tuple #[.agg #[sB p21 (ptB exB [(⟨1, 3, 200⟩ : KR)] 0 0 [1]) c22, sB q23 (ptR exB [(⟨1, 3, 200⟩ : KR)] 0 0 [1]) d24, Ix ((ptG exB [(⟨1, 3, 200⟩ : KR)] 0 0 [1] 0)), Ix ((ptG exB [(⟨1, 3, 200⟩ : KR)] 0 0 [1] 0))], Ix ((errPt exB [(⟨1, 3, 200⟩ : KR)] 0 0 [1]))]) e_move ?_
 refine lv (v := .agg #[sB p21 (ptB exB [(⟨1, 3, 200⟩ : KR)] 0 0 [1]) c22, sB q23 (ptR exB [(⟨1, 3, 200⟩ : KR)] 0 0 [1]) d24, Ix ((ptG exB [(⟨1, 3, 200⟩ : KR)] 0 0 [1] 0)), Ix ((ptG exB [(⟨1, 3, 200⟩ : KR)] 0 0 [1] 0))]) (e_extract (vs := #[.agg #[sB p21 (ptB exB [(⟨1, 3, 200⟩ : KR)] 0 0 [1]) c22, sB q23 (ptR exB [(⟨1, 3, 200⟩ : KR)] 0 0 [1]) d24, Ix ((ptG exB [(⟨1, 3, 200⟩ : KR)] 0 0 [1] 0)), Ix ((ptG exB [(⟨1, 3, 200⟩ : KR)] 0 0 [1] 0))], Ix ((errPt exB [(⟨1, 3, 200⟩ : KR)] 0 0 [1]))]) rfl rfl) ?_
 refine lv (v := Ix ((errPt exB [(⟨1, 3, 200⟩ : KR)] 0 0 [1]))) (e_extract (vs := #[.agg #[sB p21 (ptB exB [(⟨1, 3, 200⟩ : KR)] 0 0 [1]) c22, sB q23 (ptR exB [(⟨1, 3, 200⟩ : KR)] 0 0 [1]) d24, Ix ((ptG exB [(⟨1, 3, 200⟩ : KR)] 0 0 [1] 0)), Ix ((ptG exB [(⟨1, 3, 200⟩ : KR)] 0 0 [1] 0))], Ix ((errPt exB [(⟨1, 3, 200⟩ : KR)] 0 0 [1]))]) rfl rfl) ?_
 refine l_mv rfl rfl rfl (m_alloc tf67) ?_
 rintro _ _ ⟨b25, rfl, rfl⟩
 refine lu (m_store 0 tf31 (cs' := #[sB p21 (ptB exB [(⟨1, 3, 200⟩ : KR)] 0 0 [1]) c22, sB q23 (ptR exB [(⟨1, 3, 200⟩ : KR)] 0 0 [1]) d24, Ix ((ptG exB [(⟨1, 3, 200⟩ : KR)] 0 0 [1] 0)), Ix ((ptG exB [(⟨1, 3, 200⟩ : KR)] 0 0 [1] 0))]) rfl rfl rfl rfl rfl rfl rfl) ?_
 refine lv (v := Ix ((errPt exB [(⟨1, 3, 200⟩ : KR)] 0 0 [1]))) e_assign ?_
 refine lnf ?_
 refine cs2 ?_
 refine c_region ?_
 refine lv (v := Ix ((errI exB [] 0 0))) e_move ?_
 refine lv (v := Ix ((errI exB [] 5 0))) e_move ?_
 refine lv (v := Ix (((errI exB [] 0 0)) + ((errI exB [] 5 0)))) (e_add (a := ((errI exB [] 0 0))) (b := ((errI exB [] 5 0))) rfl rfl (i64w (by omega))) ?_
 refine lv (v := Ix ((errI exB [(⟨1, 3, 200⟩ : KR)] 0 0))) e_move ?_
 refine lv (v := Ix ((((errI exB [] 0 0)) + ((errI exB [] 5 0))) + ((errI exB [(⟨1, 3, 200⟩ : KR)] 0 0)))) (e_add (a := (((errI exB [] 0 0)) + ((errI exB [] 5 0)))) (b := ((errI exB [(⟨1, 3, 200⟩ : KR)] 0 0))) rfl rfl (i64w (by omega))) ?_
 refine lv (v := Ix ((errPt exB [(⟨1, 3, 200⟩ : KR)] 0 0 [1]))) e_move ?_
 refine lv (v := Ix (((((errI exB [] 0 0)) + ((errI exB [] 5 0))) + ((errI exB [(⟨1, 3, 200⟩ : KR)] 0 0))) + ((errPt exB [(⟨1, 3, 200⟩ : KR)] 0 0 [1])))) (e_add (a := ((((errI exB [] 0 0)) + ((errI exB [] 5 0))) + ((errI exB [(⟨1, 3, 200⟩ : KR)] 0 0)))) (b := ((errPt exB [(⟨1, 3, 200⟩ : KR)] 0 0 [1]))) rfl rfl (i64w (by omega))) ?_
 refine lv (e_neq (a := (((((errI exB [] 0 0)) + ((errI exB [] 5 0))) + ((errI exB [(⟨1, 3, 200⟩ : KR)] 0 0))) + ((errPt exB [(⟨1, 3, 200⟩ : KR)] 0 0 [1])))) (b := (0 : Int)) rfl rfl) ?_
 refine lv (v := .bool (decide ((((((errI exB [] 0 0)) + ((errI exB [] 5 0))) + ((errI exB [(⟨1, 3, 200⟩ : KR)] 0 0))) + ((errPt exB [(⟨1, 3, 200⟩ : KR)] 0 0 [1]))) ≠ (0 : Int)))) e_move ?_
 refine l_split (s := 50) (p := (((((errI exB [] 0 0)) + ((errI exB [] 5 0))) + ((errI exB [(⟨1, 3, 200⟩ : KR)] 0 0))) + ((errPt exB [(⟨1, 3, 200⟩ : KR)] 0 0 [1]))) ≠ (0 : Int)) rfl (fun h => ?_) (fun h => ?_)
 exact absurd h (by rw [aw_ea, aw_eb, aw_ec, aw_ep]; decide)
 refine g_val (v := sB p8 hs10 c9) rfl rfl rfl rfl rfl e_move ?_
 refine g_mv rfl rfl rfl rfl rfl (m_slices tf23 tf24 (cells := #[.int .i64 (1)]) rfl rfl rfl rfl) ?_
 rintro _ _ ⟨b26, rfl, rfl⟩
 refine g_mv rfl rfl rfl rfl rfl (m_slices tf23 tf24 (cells := #[.int .i64 (2)]) rfl rfl rfl rfl) ?_
 rintro _ _ ⟨b27, rfl, rfl⟩
 refine g_mv rfl rfl rfl rfl rfl (m_slices tf23 tf24 (cells := #[.int .i64 (3)]) rfl rfl rfl rfl) ?_
 rintro _ _ ⟨b28, rfl, rfl⟩
 refine g_mv rfl rfl rfl rfl rfl (m_slices tf21 tf38 (cells := #[.slice (some ⟨b26, 0, none⟩) 1 1, .slice (some ⟨b27, 0, none⟩) 1 1, .slice (some ⟨b28, 0, none⟩) 1 1]) rfl rfl rfl rfl) ?_
 rintro _ _ ⟨b29, rfl, rfl⟩
 refine g_call rfl rfl rfl rfl rfl (cl0 (vs := [sB p8 hs10 c9, .slice (some ⟨b29, 0, none⟩) 3 3]) tf77 rfl rfl) ?_
 intro w hw
 obtain ⟨β1, sb, kn, hw1, back⟩ := St.frame_all hw
 refine (sameL_ok β1 w hw1 _ _ (hs10.map (·.xs)) [[1], [2], [3]] (kn _ (k_ll 10 rfl)) (kn _ (k_lists (m := 3) (xss := [[1], [2], [3]]) 0 rfl rfl rfl (by decide) (.cons (k_ptFls (F := IntF) 3 (m := 1) (xs := [1]) rfl rfl rfl (by decide)) (.cons (k_ptFls (F := IntF) 2 (m := 1) (xs := [2]) rfl rfl rfl (by decide)) (.cons (k_ptFls (F := IntF) 1 (m := 1) (xs := [3]) rfl rfl rfl (by decide)) .nil)))))).mono ?_
 rintro e w' ⟨rfl, hw'⟩
 refine ⟨_, rfl, _, back _ _ hw', ?_⟩
 clear hw hw1 hw' back kn sb
 refine g_val (v := .bool (decide (¬ ((hs10.map (·.xs)) = [[1], [2], [3]])))) rfl rfl rfl rfl rfl (e_not_p (p := (hs10.map (·.xs)) = [[1], [2], [3]]) rfl) ?_
 refine lv (v := .bool (decide (¬ ((hs10.map (·.xs)) = [[1], [2], [3]])))) (e_pick_f rfl) ?_
 refine lv (v := .bool (decide (¬ ((hs10.map (·.xs)) = [[1], [2], [3]])))) e_move ?_
 refine l_split (s := 59) (p := ¬ ((hs10.map (·.xs)) = [[1], [2], [3]])) rfl (fun h => ?_) (fun h => ?_)
 exact absurd h (fun q => q (hx11.trans aw_a))
 refine g_val (v := sB p12 hs14 c13) rfl rfl rfl rfl rfl e_move ?_
 refine g_mv rfl rfl rfl rfl rfl (m_slices tf23 tf24 (cells := #[.int .i64 (1), .int .i64 (2), .int .i64 (3)]) rfl rfl rfl rfl) ?_
 rintro _ _ ⟨b30, rfl, rfl⟩
 refine g_mv rfl rfl rfl rfl rfl (m_slices tf21 tf38 (cells := #[.slice (some ⟨b30, 0, none⟩) 3 3]) rfl rfl rfl rfl) ?_
 rintro _ _ ⟨b31, rfl, rfl⟩
 refine g_call rfl rfl rfl rfl rfl (cl0 (vs := [sB p12 hs14 c13, .slice (some ⟨b31, 0, none⟩) 1 1]) tf77 rfl rfl) ?_
 intro w hw
 obtain ⟨β1, sb, kn, hw1, back⟩ := St.frame_all hw
 refine (sameL_ok β1 w hw1 _ _ (hs14.map (·.xs)) [[1, 2, 3]] (kn _ (k_ll 11 rfl)) (kn _ (k_lists (m := 1) (xss := [[1, 2, 3]]) 0 rfl rfl rfl (by decide) (.cons (k_ptFls (F := IntF) 1 (m := 3) (xs := [1, 2, 3]) rfl rfl rfl (by decide)) .nil)))).mono ?_
 rintro e w' ⟨rfl, hw'⟩
 refine ⟨_, rfl, _, back _ _ hw', ?_⟩
 clear hw hw1 hw' back kn sb
 refine g_val (v := .bool (decide (¬ ((hs14.map (·.xs)) = [[1, 2, 3]])))) rfl rfl rfl rfl rfl (e_not_p (p := (hs14.map (·.xs)) = [[1, 2, 3]]) rfl) ?_
 refine lv (v := .bool (decide (¬ ((hs14.map (·.xs)) = [[1, 2, 3]])))) (e_pick_f rfl) ?_
 refine lv (v := .bool (decide (¬ ((hs14.map (·.xs)) = [[1, 2, 3]])))) e_move ?_
 refine l_split (s := 66) (p := ¬ ((hs14.map (·.xs)) = [[1, 2, 3]])) rfl (fun h => ?_) (fun h => ?_)
 exact absurd h (fun q => q (hx15.trans aw_b))
 refine g_val (v := sB p16 hs18 c17) rfl rfl rfl rfl rfl e_move ?_
 refine g_mv rfl rfl rfl rfl rfl (m_slices tf23 tf24 (cells := #[.int .i64 (1), .int .i64 (3)]) rfl rfl rfl rfl) ?_
 rintro _ _ ⟨b32, rfl, rfl⟩
 refine g_mv rfl rfl rfl rfl rfl (m_slices tf23 tf24 (cells := #[.int .i64 (2)]) rfl rfl rfl rfl) ?_
 rintro _ _ ⟨b33, rfl, rfl⟩
 refine g_mv rfl rfl rfl rfl rfl (m_slices tf21 tf38 (cells := #[.slice (some ⟨b32, 0, none⟩) 2 2, .slice (some ⟨b33, 0, none⟩) 1 1]) rfl rfl rfl rfl) ?_
 rintro _ _ ⟨b34, rfl, rfl⟩
 refine g_call rfl rfl rfl rfl rfl (cl0 (vs := [sB p16 hs18 c17, .slice (some ⟨b34, 0, none⟩) 2 2]) tf77 rfl rfl) ?_
 intro w hw
 obtain ⟨β1, sb, kn, hw1, back⟩ := St.frame_all hw
 refine (sameL_ok β1 w hw1 _ _ (hs18.map (·.xs)) [[1, 3], [2]] (kn _ (k_ll 13 rfl)) (kn _ (k_lists (m := 2) (xss := [[1, 3], [2]]) 0 rfl rfl rfl (by decide) (.cons (k_ptFls (F := IntF) 2 (m := 2) (xs := [1, 3]) rfl rfl rfl (by decide)) (.cons (k_ptFls (F := IntF) 1 (m := 1) (xs := [2]) rfl rfl rfl (by decide)) .nil))))).mono ?_
 rintro e w' ⟨rfl, hw'⟩
 refine ⟨_, rfl, _, back _ _ hw', ?_⟩
 clear hw hw1 hw' back kn sb
 refine g_val (v := .bool (decide (¬ ((hs18.map (·.xs)) = [[1, 3], [2]])))) rfl rfl rfl rfl rfl (e_not_p (p := (hs18.map (·.xs)) = [[1, 3], [2]]) rfl) ?_
 refine lv (v := .bool (decide (¬ ((hs18.map (·.xs)) = [[1, 3], [2]])))) (e_pick_f rfl) ?_
 refine lnf ?_
 refine c_if (¬ ((hs18.map (·.xs)) = [[1, 3], [2]])) rfl (fun hc35 => ?_) (fun hc35 => ?_)
 ·exact absurd hc35 (fun q => q (hx19.trans aw_c))
 refine csk ?_
 refine c_seq ?_
 refine c_any [⟨[], [], [0], [74], fun f => f 74 = pp b5 0⟩, ⟨[0], [0], [], [75], fun f => f 75 = .slice (some ⟨b2, 0, none⟩) (4) 4⟩, ⟨[0, 1], [1], [], [76], fun f => f 76 = .pointer (some ((ba (some ⟨b2, 0, none⟩)).add (0 * 9)))⟩, ⟨[0, 1, 2], [2], [], [77], fun f => f 77 = .agg (bC (⟨1, 0, 0, 50, 0, 10, 10, false, false⟩ : KB))⟩, ⟨[], [], [0], [78], fun f => f 78 = pp b5 2⟩, ⟨[4], [4], [], [79], fun f => f 79 = .agg #[.int .i64 (5), .int .i64 (0)]⟩, ⟨(List.range 6), [3, 5], [], [80], fun f => f 80 = .agg (aC (reachA (⟨1, 0, 0, 50, 0, 10, 10, false, false⟩ : KB) 5 0))⟩, ⟨[], [], [], [12], fun f => f 12 = .pointer (some ⟨(blk (f 12)), 0, none⟩)⟩, ⟨(List.range 8), [7, 6], [], [], fun _ => True⟩] [⟨none, none, [], [], fun _ => pt b34 (.cells #[.slice (some ⟨b32, 0, none⟩) 2 2, .slice (some ⟨b33, 0, none⟩) 1 1] 28)⟩, ⟨none, none, [], [], fun _ => pt b33 (.cells #[.int .i64 (2)] 3)⟩, ⟨none, none, [], [], fun _ => pt b32 (.cells #[.int .i64 (1), .int .i64 (3)] 3)⟩, ⟨none, none, [], [], fun _ => pt b31 (.cells #[.slice (some ⟨b30, 0, none⟩) 3 3] 28)⟩, ⟨none, none, [], [], fun _ => pt b30 (.cells #[.int .i64 (1), .int .i64 (2), .int .i64 (3)] 3)⟩, ⟨none, none, [], [], fun _ => pt b29 (.cells #[.slice (some ⟨b26, 0, none⟩) 1 1, .slice (some ⟨b27, 0, none⟩) 1 1, .slice (some ⟨b28, 0, none⟩) 1 1] 28)⟩, ⟨none, none, [], [], fun _ => pt b28 (.cells #[.int .i64 (3)] 3)⟩, ⟨none, none, [], [], fun _ => pt b27 (.cells #[.int .i64 (2)] 3)⟩, ⟨none, none, [], [], fun _ => pt b26 (.cells #[.int .i64 (1)] 3)⟩, ⟨none, none, [], [], fun _ => pt b25 (.cells #[sB p21 (ptB exB [(⟨1, 3, 200⟩ : KR)] 0 0 [1]) c22, sB q23 (ptR exB [(⟨1, 3, 200⟩ : KR)] 0 0 [1]) d24, Ix ((ptG exB [(⟨1, 3, 200⟩ : KR)] 0 0 [1] 0)), Ix ((ptG exB [(⟨1, 3, 200⟩ : KR)] 0 0 [1] 0))] 27)⟩, ⟨none, none, [], [], fun _ => rowF BodyF 33 p21 c22 (ptB exB [(⟨1, 3, 200⟩ : KR)] 0 0 [1])⟩, ⟨none, none, [], [], fun _ => rowF RopeF 42 q23 d24 (ptR exB [(⟨1, 3, 200⟩ : KR)] 0 0 [1])⟩, ⟨none, none, [], [], fun _ => pt b20 (.cells #[.int .i64 (1)] 3)⟩, ⟨none, none, [], [], fun _ => Sat (llL p16 c17 hs18)⟩, ⟨none, none, [], [], fun _ => Sat (llL p12 c13 hs14)⟩, ⟨none, none, [], [], fun _ => Sat (llL p8 c9 hs10)⟩, ⟨none, none, [], [], fun _ => pt b7 (.cells #[.int .i64 (1), .int .i64 (3), .int .i64 (200)] 42)⟩, ⟨none, none, [], [], fun _ => pt b6 (.cells #[.slice (some ⟨b3, 0, none⟩) (4) 4, .slice (some ⟨b7, 0, none⟩) 1 1, .int .i64 (0), .int .i64 (0)] 27)⟩, ⟨none, none, [1, 5], [], fun _ => pt b5 (.cells #[.slice (some ⟨b2, 0, none⟩) (4) 4, .slice none 0 0, .int .i64 (5), .int .i64 (0)] 27)⟩, ⟨none, none, [], [], fun _ => pt b4 (.cells #[.slice (some ⟨b1, 0, none⟩) (4) 4, .slice none 0 0, .int .i64 (0), .int .i64 (0)] 27)⟩, ⟨none, none, [], [], fun _ => rowF BodyF 33 (some ⟨b3, 0, none⟩) 4 exB⟩, ⟨none, none, [2, 3], [], fun _ => rowF BodyF 33 (some ⟨b2, 0, none⟩) 4 exB⟩, ⟨none, none, [], [], fun _ => rowF BodyF 33 (some ⟨b1, 0, none⟩) 4 exB⟩, ⟨(some 7), (some 8), [8], [12], fun f => pt (blk (f 12)) (.cells #[.int .i64 (0), .int .i64 (0), .int .i64 (0), .int .i64 (0)] 36)⟩, ⟨(some 8), none, [], [12], fun f => pt (blk (f 12)) (.cells (aC (reachA (⟨1, 0, 0, 50, 0, 10, 10, false, false⟩ : KB) 5 0)) 36)⟩] [(2, pp b5 0), (10, pp b25 0)] [1] [] (by kernel_rfl) (by kernel_rfl) (by kernel_rfl) (by kernel_rfl) rfl ⟨rfl, rfl, trivial⟩ ⟨?_, ?_, ?_, ?_, ?_, ?_, ?_, ?_, ?_, trivial⟩ ?_
 ·rintro f M - ⟨i0, -⟩
  exact ob0 (up_cons (d := 2) rfl i0) rfl (e_fieldPt rfl tf33) (.refl _)
 ·rintro f M ⟨k0, -⟩ -
  exact obv (L' := pt b5 (.cells #[.slice (some ⟨b2, 0, none⟩) (4) 4, .slice none 0 0, .int .i64 (5), .int .i64 (0)] 27) :: M) (up_cons (d := 74) rfl k0) rfl (e_load1 tf26 rfl (k_pt 0 rfl rfl)) (perm_front 0 rfl) (by rfl)
 ·rintro f M ⟨k0, -⟩ -
  exact obv (L' := rowF BodyF 33 (some ⟨b2, 0, none⟩) 4 exB :: M) (up_cons (d := 75) rfl k0) rfl (e_indexFlN 0 (F := BodyF) (j := 0) (m := 4) (xs := exB) rfl rfl rfl tf16 (by omega) rfl) (perm_front 0 rfl) (by rfl)
 ·rintro f M ⟨k0, -⟩ -
  exact obv (L' := rowF BodyF 33 (some ⟨b2, 0, none⟩) 4 exB :: M) (up_cons (d := 76) rfl k0) rfl (e_load tf1 rfl (k_flAt 0 (F := BodyF) rfl (show exB[0]? = some (⟨1, 0, 0, 50, 0, 10, 10, false, false⟩ : KB) from rfl)) rfl) (perm_front 0 rfl) (by rfl)
 ·rintro f M - ⟨i0, -⟩
  exact ob0 (up_cons (d := 2) rfl i0) rfl (e_fieldPt rfl tf40) (.refl _)
 ·rintro f M ⟨k0, -⟩ -
  exact obv (L' := pt b5 (.cells #[.slice (some ⟨b2, 0, none⟩) (4) 4, .slice none 0 0, .int .i64 (5), .int .i64 (0)] 27) :: M) (up_cons (d := 78) rfl k0) rfl (e_load tf5 rfl (k_pt 0 rfl rfl) rfl) (perm_front 0 rfl) (by rfl)
 ·rintro f M ⟨k0, k1, -⟩ -
  refine ob_start (L' := M) (by rfl) (up_cons (d := 79) (up_cons (d := 77) rfl k0) k1) ?_
  refine lcf (cl0 (vs := [.agg (bC (⟨1, 0, 0, 50, 0, 10, 10, false, false⟩ : KB)), .agg #[.int .i64 (5), .int .i64 (0)]]) tf41 rfl rfl) rfl fun w β1 sb kn hw1 back => (reachA_ok β1 w hw1 (⟨1, 0, 0, 50, 0, 10, 10, false, false⟩ : KB) 5 0 (by omega) (by omega)).mono ?_
  rintro e w' ⟨rfl, hw'⟩
  refine ⟨_, rfl, _, back _ _ hw', ?_⟩
  clear hw1 hw' back kn sb
  refine l_nil ?_
  exact f_owes_d (up_cons (d := 79) (up_cons (d := 77) rfl k0) k1) rfl (List.Perm.refl _)
 ·rintro f M - -
  refine ob_start (L' := M) (by rfl) rfl ?_
  refine l_mv rfl rfl rfl (m_alloc tf0) ?_
  rintro _ _ ⟨b37, rfl, rfl⟩
  refine l_nil ?_
  exact f_owes_d rfl rfl (perm_front 0 rfl)
 ·rintro f M ⟨k0, k1, -⟩ -
  have hs12 : f 12 = .pointer (some ⟨(blk (f 12)), 0, none⟩) := k0
  refine ob_start (L' := pt (blk (f 12)) (.cells #[.int .i64 (0), .int .i64 (0), .int .i64 (0), .int .i64 (0)] 36) :: M) (by rfl) (up_cons (d := 80) (up_cons rfl hs12) k1) ?_
  refine lu (m_store 0 tf4 (cs' := (aC (reachA (⟨1, 0, 0, 50, 0, 10, 10, false, false⟩ : KB) 5 0))) rfl rfl rfl rfl rfl rfl rfl) ?_
  refine l_nil ?_
  exact f_owes_n (up_cons (d := 80) (up_cons rfl hs12) k1) trivial (perm_front 0 rfl)
 rintro fa38 ⟨-, -, -, -, -, -, -, k7, -, -⟩ ⟨j0, -⟩
 refine f_re (L' := [pt b34 (.cells #[.slice (some ⟨b32, 0, none⟩) 2 2, .slice (some ⟨b33, 0, none⟩) 1 1] 28), pt b33 (.cells #[.int .i64 (2)] 3), pt b32 (.cells #[.int .i64 (1), .int .i64 (3)] 3), pt b31 (.cells #[.slice (some ⟨b30, 0, none⟩) 3 3] 28), pt b30 (.cells #[.int .i64 (1), .int .i64 (2), .int .i64 (3)] 3), pt b29 (.cells #[.slice (some ⟨b26, 0, none⟩) 1 1, .slice (some ⟨b27, 0, none⟩) 1 1, .slice (some ⟨b28, 0, none⟩) 1 1] 28), pt b28 (.cells #[.int .i64 (3)] 3), pt b27 (.cells #[.int .i64 (2)] 3), pt b26 (.cells #[.int .i64 (1)] 3), pt b25 (.cells #[sB p21 (ptB exB [(⟨1, 3, 200⟩ : KR)] 0 0 [1]) c22, sB q23 (ptR exB [(⟨1, 3, 200⟩ : KR)] 0 0 [1]) d24, Ix ((ptG exB [(⟨1, 3, 200⟩ : KR)] 0 0 [1] 0)), Ix ((ptG exB [(⟨1, 3, 200⟩ : KR)] 0 0 [1] 0))] 27), rowF BodyF 33 p21 c22 (ptB exB [(⟨1, 3, 200⟩ : KR)] 0 0 [1]), rowF RopeF 42 q23 d24 (ptR exB [(⟨1, 3, 200⟩ : KR)] 0 0 [1]), pt b20 (.cells #[.int .i64 (1)] 3), Sat (llL p16 c17 hs18), Sat (llL p12 c13 hs14), Sat (llL p8 c9 hs10), pt b7 (.cells #[.int .i64 (1), .int .i64 (3), .int .i64 (200)] 42), pt b6 (.cells #[.slice (some ⟨b3, 0, none⟩) (4) 4, .slice (some ⟨b7, 0, none⟩) 1 1, .int .i64 (0), .int .i64 (0)] 27), pt b5 (.cells #[.slice (some ⟨b2, 0, none⟩) (4) 4, .slice none 0 0, .int .i64 (5), .int .i64 (0)] 27), pt b4 (.cells #[.slice (some ⟨b1, 0, none⟩) (4) 4, .slice none 0 0, .int .i64 (0), .int .i64 (0)] 27), rowF BodyF 33 (some ⟨b3, 0, none⟩) 4 exB, rowF BodyF 33 (some ⟨b2, 0, none⟩) 4 exB, rowF BodyF 33 (some ⟨b1, 0, none⟩) 4 exB, pt (blk (fa38 12)) (.cells (aC (reachA (⟨1, 0, 0, 50, 0, 10, 10, false, false⟩ : KB) 5 0)) 36)]) (by rfl) ?_
 refine f_rebase (d := 10) j0 ?_
 refine f_rebase (d := 12) k7 ?_
 refine ftc ?_
 refine lv (v := .agg (aC (reachA (⟨1, 0, 0, 50, 0, 10, 10, false, false⟩ : KB) 5 0))) (e_load tf4 rfl (k_pt 23 rfl rfl) rfl) ?_
 refine lv (v := .agg #[.int .i64 (-10), .int .i64 (-10)]) (e_build tf8 tf13 (vs := [(0, .int .i64 (-10)), (1, .int .i64 (-10))]) (cells := #[.int .i64 (-10), .int .i64 (-10)]) rfl rfl) ?_
 refine lv (v := .agg #[.int .i64 (65), .int .i64 (10)]) (e_build tf8 tf13 (vs := [(0, .int .i64 (65)), (1, .int .i64 (10))]) (cells := #[.int .i64 (65), .int .i64 (10)]) rfl rfl) ?_
 refine lv (v := .agg #[.int .i64 (-10), .int .i64 (-10), .int .i64 (65), .int .i64 (10)]) (e_build tf0 tf3 (vs := [(0, .agg #[.int .i64 (-10), .int .i64 (-10)]), (1, .agg #[.int .i64 (65), .int .i64 (10)])]) (cells := #[.int .i64 (-10), .int .i64 (-10), .int .i64 (65), .int .i64 (10)]) rfl rfl) ?_
 refine lv (v := .bool (decide (((reachA (⟨1, 0, 0, 50, 0, 10, 10, false, false⟩ : KB) 5 0).lx) = (-10 : Int) ∧ ((reachA (⟨1, 0, 0, 50, 0, 10, 10, false, false⟩ : KB) 5 0).ly) = (-10 : Int) ∧ ((reachA (⟨1, 0, 0, 50, 0, 10, 10, false, false⟩ : KB) 5 0).hx) = (65 : Int) ∧ ((reachA (⟨1, 0, 0, 50, 0, 10, 10, false, false⟩ : KB) 5 0).hy) = (10 : Int)))) (e_eql_t (xs := (areaE (reachA (⟨1, 0, 0, 50, 0, 10, 10, false, false⟩ : KB) 5 0))) (ys := [.int .i64 (-10), .int .i64 (-10), .int .i64 (65), .int .i64 (10)]) tf78 tf79 tf80 rfl rfl rfl rfl arr4_eq) ?_
 refine lv (v := .bool (decide (((reachA (⟨1, 0, 0, 50, 0, 10, 10, false, false⟩ : KB) 5 0).lx) = (-10 : Int) ∧ ((reachA (⟨1, 0, 0, 50, 0, 10, 10, false, false⟩ : KB) 5 0).ly) = (-10 : Int) ∧ ((reachA (⟨1, 0, 0, 50, 0, 10, 10, false, false⟩ : KB) 5 0).hx) = (65 : Int) ∧ ((reachA (⟨1, 0, 0, 50, 0, 10, 10, false, false⟩ : KB) 5 0).hy) = (10 : Int)))) e_move ?_
 refine l_split (s := 86) (p := ((reachA (⟨1, 0, 0, 50, 0, 10, 10, false, false⟩ : KB) 5 0).lx) = (-10 : Int) ∧ ((reachA (⟨1, 0, 0, 50, 0, 10, 10, false, false⟩ : KB) 5 0).ly) = (-10 : Int) ∧ ((reachA (⟨1, 0, 0, 50, 0, 10, 10, false, false⟩ : KB) 5 0).hx) = (65 : Int) ∧ ((reachA (⟨1, 0, 0, 50, 0, 10, 10, false, false⟩ : KB) 5 0).hy) = (10 : Int)) rfl (fun h => ?_) (fun h => ?_)
 rotate_left; exact absurd (by rw [aw_reach]; decide) h
 refine g_val (v := pp b25 0) rfl rfl rfl rfl rfl (e_fieldPt rfl tf33) ?_
 refine g_val (v := sB p21 (ptB exB [(⟨1, 3, 200⟩ : KR)] 0 0 [1]) c22) rfl rfl rfl rfl rfl (e_load1 tf26 rfl (k_pt 9 rfl rfl)) ?_
 refine g_val (v := Nx ((ptB exB [(⟨1, 3, 200⟩ : KR)] 0 0 [1]).length)) rfl rfl rfl rfl rfl (e_len (a := p21) (n := (ptB exB [(⟨1, 3, 200⟩ : KR)] 0 0 [1]).length) (c := c22) rfl tf15) ?_
 refine g_val rfl rfl rfl rfl rfl (e_eql (a := (((ptB exB [(⟨1, 3, 200⟩ : KR)] 0 0 [1]).length : Nat) : Int)) (b := (2 : Int)) rfl rfl) ?_
 refine lv (v := .bool (decide ((((ptB exB [(⟨1, 3, 200⟩ : KR)] 0 0 [1]).length : Nat) : Int) = (2 : Int)))) (e_pick_t rfl) ?_
 refine lv (v := .bool (decide ((((ptB exB [(⟨1, 3, 200⟩ : KR)] 0 0 [1]).length : Nat) : Int) = (2 : Int)))) e_move ?_
 refine l_split (s := 92) (p := (((ptB exB [(⟨1, 3, 200⟩ : KR)] 0 0 [1]).length : Nat) : Int) = (2 : Int)) rfl (fun h => ?_) (fun h => ?_)
 rotate_left; exact absurd (by rw [aw_pb]; rfl) h
 refine g_val (v := pp b25 0) rfl rfl rfl rfl rfl (e_fieldPt rfl tf33) ?_
 refine g_val (v := sB p21 (ptB exB [(⟨1, 3, 200⟩ : KR)] 0 0 [1]) c22) rfl rfl rfl rfl rfl (e_load1 tf26 rfl (k_pt 9 rfl rfl)) ?_
 refine g_val (v := .pointer (some ((ba p21).add (1 * 9)))) rfl rfl rfl rfl rfl (e_indexFlN 10 (F := BodyF) (j := 1) (m := (ptB exB [(⟨1, 3, 200⟩ : KR)] 0 0 [1]).length) (xs := (ptB exB [(⟨1, 3, 200⟩ : KR)] 0 0 [1])) rfl rfl rfl tf16 (by omega) rfl) ?_
 refine g_val (v := .pointer (some ((ba p21).add (1 * 9)))) rfl rfl rfl rfl rfl (ev_eq (congrArg (fun z => Value.pointer (some z)) (show ((ba p21).add (1 * 9) : Addr).add 0 = (ba p21).add (1 * 9) by rw [Addr.add_add'] <;> rfl)) (e_fieldAddr (a := (ba p21).add (1 * 9)) rfl tf27)) ?_
 refine g_val (v := Ix ((⟨4, 0, 200, 0, 0, 500, 5, false, true⟩ : KB).id)) rfl rfl rfl rfl rfl (e_load1 tf11 rfl (k_flPart 10 (F := BodyF) (o := 0) (us := [Ix ((⟨4, 0, 200, 0, 0, 500, 5, false, true⟩ : KB).id)]) rfl (show (ptB exB [(⟨1, 3, 200⟩ : KR)] 0 0 [1])[1]? = some (⟨4, 0, 200, 0, 0, 500, 5, false, true⟩ : KB) from by rw [aw_pb]; rfl) rfl)) ?_
 refine g_val rfl rfl rfl rfl rfl (e_eql (a := ((⟨4, 0, 200, 0, 0, 500, 5, false, true⟩ : KB).id)) (b := (4 : Int)) rfl rfl) ?_
 refine lv (v := .bool (decide (((⟨4, 0, 200, 0, 0, 500, 5, false, true⟩ : KB).id) = (4 : Int)))) (e_pick_t rfl) ?_
 refine lv (v := .bool (decide (((⟨4, 0, 200, 0, 0, 500, 5, false, true⟩ : KB).id) = (4 : Int)))) e_move ?_
 refine l_split (s := 100) (p := ((⟨4, 0, 200, 0, 0, 500, 5, false, true⟩ : KB).id) = (4 : Int)) rfl (fun h => ?_) (fun h => ?_)
 rotate_left; exact absurd rfl h
 refine g_val (v := pp b25 1) rfl rfl rfl rfl rfl (e_fieldPt rfl tf52) ?_
 refine g_val (v := sB q23 (ptR exB [(⟨1, 3, 200⟩ : KR)] 0 0 [1]) d24) rfl rfl rfl rfl rfl (e_load1 tf53 rfl (k_pt 9 rfl rfl)) ?_
 refine g_val (v := Nx ((ptR exB [(⟨1, 3, 200⟩ : KR)] 0 0 [1]).length)) rfl rfl rfl rfl rfl (e_len (a := q23) (n := (ptR exB [(⟨1, 3, 200⟩ : KR)] 0 0 [1]).length) (c := d24) rfl tf54) ?_
 refine g_val rfl rfl rfl rfl rfl (e_eql (a := (((ptR exB [(⟨1, 3, 200⟩ : KR)] 0 0 [1]).length : Nat) : Int)) (b := (0 : Int)) rfl rfl) ?_
 refine lv (v := .bool (decide ((((ptR exB [(⟨1, 3, 200⟩ : KR)] 0 0 [1]).length : Nat) : Int) = (0 : Int)))) (e_pick_t rfl) ?_
 refine lv (v := .bool (decide ((((ptR exB [(⟨1, 3, 200⟩ : KR)] 0 0 [1]).length : Nat) : Int) = (0 : Int)))) e_assign ?_
 refine lnf ?_
 refine c_ret ?_
 refine ret1 Tryz.results8 (v := .bool (decide ((((ptR exB [(⟨1, 3, 200⟩ : KR)] 0 0 [1]).length : Nat) : Int) = (0 : Int)))) rfl ?_
 intro w hw
 exact ⟨congrArg (fun b : Bool => Ending.returned (.bool b)) (decide_eq_true (by rw [aw_pr]; rfl)), st_mask [false, false, false, false, false, false, false, false, false, false, false, false, false, false, false, false, false, false, false, false, false, false, false, false] rfl hw⟩
end Go.Proofs
