/-
 Results of one's own; a house that is there: walked. Printed by a program of my own.
-/
import Derived.Test.YtjejfkajcbdgjaaGreatTd5
import Derived.Test.YtjejfkajcbdgjaaGreatTdMem
namespace Go.Proofs
open Go Go.Sl Go.Td Go.Jn
theorem tt88 : cfB Tryz.prog 57 = true := by kernel_rfl
theorem tt89 : Tryz.prog.underlying 23 = some (.pointer (Tryz.prog.pointee 23)) := by kernel_rfl
theorem tt90 : fldB Tryz.prog 91 0 0 1 false = true := by kernel_rfl
theorem tt91 : tyB Tryz.prog 89 false 1 = true := by kernel_rfl
theorem tt92 : Tryz.prog.underlying 89 = some (.pointer (Tryz.prog.pointee 89)) := by kernel_rfl
theorem tt93 : cfB Tryz.prog 40 = true := by kernel_rfl
theorem tt94 : fldB Tryz.prog 91 2 9 1 false = true := by kernel_rfl
theorem tt95 : tyB Tryz.prog 4 false 1 = true := by kernel_rfl
theorem own_ok (β : Base) (w : World) (hw : St β [] w) (dn : Bool) (at0 e0 : Int) (v : Value) (xs : List Int) (hs : Sl IntF.R β.heap v xs) (hn : xs.length ≤ 1048576) : Calls Tryz.prog 36 #[.agg #[.bool dn, Ix at0, Ix e0, v]] w fun r w' => ∃ p c, r = .returned (.agg #[.bool dn, Ix at0, Ix e0, .slice p xs.length c]) ∧ St β [rowF IntF 3 p c xs] w' := by
 obtain ⟨va, vc, rfl, vl, vm, ve⟩ := hs.get
 refine enter (n := 8) Tryz.func36 rfl Tryz.ntmps36 rfl ?_ hw
 refine c_seq ?_
 refine c_region ?_
 refine l_mv rfl rfl rfl (m_box (v := .agg #[.bool (dn), Ix (at0), Ix (e0), .slice va (xs.length) (vc)]) rfl) ?_
 rintro _ _ ⟨b1, rfl, rfl⟩
 refine l_mv rfl rfl rfl (m_alloc tt53) ?_
 rintro _ _ ⟨b2, rfl, rfl⟩
 refine l_nil ?_
 refine f_then ?_
 refine c_seq ?_
 refine c_region ?_
 refine l_val (v := .pointer (some ⟨b1, 3, none⟩)) rfl rfl rfl (e_fieldPt (b := b1) (o := 0) rfl tt62) ?_
 refine l_val (v := .slice va (xs.length) (vc)) rfl rfl rfl (e_load1 tt63 (v := .slice va (xs.length) (vc)) rfl (k_pt 1 (cs := #[.bool (dn), Ix (at0), Ix (e0), .slice va (xs.length) (vc)]) (vs := [.slice va (xs.length) (vc)]) rfl rfl)) ?_
 refine l_call rfl rfl rfl (cl_value (fst := []) (cap := []) (vs := [.slice va (xs.length) (vc)]) (all := [.slice va (xs.length) (vc)]) tt88 rfl rfl rfl) ?_
 intro w hw
 obtain ⟨β1, sb, kn, hw1, back⟩ := St.frame_all hw
 refine (cloneI_ok β1 w hw1 _ xs (Sl.mono _ _ _ _ _ sb (⟨⟨_, _, rfl, vl, vm, ve⟩⟩ : Sl IntF.R _ _ xs)) (by omega)).mono ?_
 rintro e w' ⟨p3, c4, rfl, hw'⟩
 refine ⟨_, rfl, _, back _ _ hw', ?_⟩
 clear hw hw1 hw' back kn sb
 refine l_val (v := .pointer (some ⟨b1, 3, none⟩)) rfl rfl rfl (e_fieldPt (b := b1) (o := 0) rfl tt62) ?_
 refine l_mu rfl rfl (m_store 2 tt63 (b := b1) (o := 3) (T := 37) (cs := #[.bool (dn), Ix (at0), Ix (e0), .slice va (xs.length) (vc)]) (cs' := #[.bool (dn), Ix (at0), Ix (e0), .slice p3 (xs.length) c4]) (v := .slice p3 (xs.length) c4) rfl rfl rfl rfl rfl rfl rfl) ?_
 refine l_nil ?_
 refine f_then ?_
 refine c_seq ?_
 refine c_region ?_
 refine l_val (v := .agg #[.bool (dn), Ix (at0), Ix (e0), .slice p3 (xs.length) c4]) rfl rfl rfl (e_load tt61 (cs := [.bool (dn), Ix (at0), Ix (e0), .slice p3 (xs.length) c4]) rfl (k_pt 2 (cs := #[.bool (dn), Ix (at0), Ix (e0), .slice p3 (xs.length) c4]) (vs := [.bool (dn), Ix (at0), Ix (e0), .slice p3 (xs.length) c4]) rfl rfl) rfl) ?_
 refine l_mu rfl rfl (m_store 1 tt61 (b := b2) (o := 0) (T := 37) (cs := #[.bool false, .int .i64 (0), .int .i64 (0), .slice none 0 0]) (cs' := #[.bool (dn), Ix (at0), Ix (e0), .slice p3 (xs.length) c4]) (v := .agg #[.bool (dn), Ix (at0), Ix (e0), .slice p3 (xs.length) c4]) rfl rfl rfl rfl rfl rfl rfl) ?_
 refine l_nil ?_
 refine f_then ?_
 refine c_ret ?_
 refine retG (l := [.cell 2 37]) (m := [.agg #[.bool (dn), Ix (at0), Ix (e0), .slice p3 (xs.length) c4]]) (v := .agg #[.bool (dn), Ix (at0), Ix (e0), .slice p3 (xs.length) c4]) Tryz.results36 ⟨rd_cell tt61 (cs := [.bool (dn), Ix (at0), Ix (e0), .slice p3 (xs.length) c4]) rfl (k_pt 1 (cs := #[.bool (dn), Ix (at0), Ix (e0), .slice p3 (xs.length) c4]) (vs := [.bool (dn), Ix (at0), Ix (e0), .slice p3 (xs.length) c4]) rfl rfl) rfl, trivial⟩ rfl ?_
 intro w hw
 exact ⟨_, _, rfl, st_mask (L' := [rowF IntF 3 p3 c4 xs]) [true, false, false] rfl hw⟩
theorem hthere_ok (β : Base) (w : World) (hw : St β [] w) (H jb mp mh mm : Nat) (s : KSt) (dn : Bool) (hc : Cs β.heap ⟨H, 0, none⟩ [.pointer (some ⟨jb, 0, none⟩), .map (some mp), .map (some mh), Ix s.last, Ix s.su.a0, Ix s.su.a1, Ix s.su.a2, Ix s.su.a3, .map (some mm), .bool dn]) : Calls Tryz.prog 40 #[.pointer (some ⟨H, 0, none⟩)] w fun r w' => r = .returned (.bool true) ∧ St β [] w' := by
 refine enter (n := 12) Tryz.func40 rfl Tryz.ntmps40 rfl ?_ hw
 refine c_seq ?_
 refine c_region ?_
 refine l_val (v := .bool false) rfl rfl rfl (e_assign) ?_
 refine l_nil ?_
 refine f_then ?_
 refine c_seq ?_
 refine c_region ?_
 refine l_val (v := .pointer (some (⟨H, 0, none⟩))) rfl rfl rfl (e_move) ?_
 refine l_val (v := .bool true) rfl rfl rfl (e_neq_pnil (p := some (⟨H, 0, none⟩)) rfl rfl tt89) ?_
 refine l_val (v := .bool true) rfl rfl rfl (e_move) ?_
 refine g_val (v := .pointer (some (⟨H, 0, none⟩))) rfl rfl rfl rfl rfl (e_move) ?_
 refine g_val (v := .pointer (some (⟨H, 0, none⟩))) rfl rfl rfl rfl rfl (e_nil (a := ⟨H, 0, none⟩) rfl) ?_
 refine g_val (v := .pointer (some ((⟨H, 0, none⟩ : Addr).add 0))) rfl rfl rfl rfl rfl (e_fieldAddr (a := ⟨H, 0, none⟩) rfl tt90) ?_
 refine g_val (v := .pointer (some ⟨jb, 0, none⟩)) rfl rfl rfl rfl rfl (e_load1 tt91 (v := .pointer (some ⟨jb, 0, none⟩)) rfl (Knows.imp (Knows.of_base (Cs.mono _ _) hc) (fun _ h => Cs.sub (vs := [.pointer (some ⟨jb, 0, none⟩)]) 0 h rfl))) ?_
 refine g_val (v := .bool true) rfl rfl rfl rfl rfl (e_neq_pnil (p := some (⟨jb, 0, none⟩)) rfl rfl tt92) ?_
 refine l_val (v := .bool true) rfl rfl rfl (e_pick_t rfl) ?_
 refine l_val (v := .bool true) rfl rfl rfl (e_assign) ?_
 refine l_nil ?_
 refine f_then ?_
 refine c_ret ?_
 refine ret1 Tryz.results40 (v := .bool true) rfl ?_
 intro w hw
 exact ⟨rfl, st_mask [] rfl hw⟩
theorem hready_ok (β : Base) (w : World) (hw : St β [] w) (H jb mp mh mm : Nat) (s : KSt) (hc : Cs β.heap ⟨H, 0, none⟩ [.pointer (some ⟨jb, 0, none⟩), .map (some mp), .map (some mh), Ix s.last, Ix s.su.a0, Ix s.su.a1, Ix s.su.a2, Ix s.su.a3, .map (some mm), .bool false]) : Calls Tryz.prog 32 #[.pointer (some ⟨H, 0, none⟩)] w fun r w' => r = .returned (Ix 0) ∧ St β [] w' := by
 refine enter (n := 12) Tryz.func32 rfl Tryz.ntmps32 rfl ?_ hw
 refine c_seq ?_
 refine c_region ?_
 refine l_val (v := .int .i64 (0)) rfl rfl rfl (e_assign) ?_
 refine l_nil ?_
 refine f_then ?_
 refine c_seq ?_
 refine c_block ?_
 refine c_seq ?_
 refine c_region ?_
 refine l_val (v := .pointer (some (⟨H, 0, none⟩))) rfl rfl rfl (e_move) ?_
 refine l_call rfl rfl rfl (cl_value (fst := []) (cap := []) (vs := [.pointer (some (⟨H, 0, none⟩))]) (all := [.pointer (some (⟨H, 0, none⟩))]) tt93 rfl rfl rfl) ?_
 intro w hw
 obtain ⟨β1, sb, kn, hw1, back⟩ := St.frame_all hw
 refine (hthere_ok β1 w hw1 _ _ _ _ _ s _ (Cs.mono _ _ _ _ sb hc)).mono ?_
 rintro e w' ⟨rfl, hw'⟩
 refine ⟨_, rfl, _, back _ _ hw', ?_⟩
 clear hw hw1 hw' back kn sb
 refine l_val (v := .bool false) rfl rfl rfl (e_not (a := true) rfl) ?_
 refine l_val (v := .bool false) rfl rfl rfl (e_assign) ?_
 refine l_nil ?_
 refine f_then ?_
 refine c_no rfl ?_
 refine c_seq ?_
 refine c_region ?_
 refine l_val (v := .pointer (some (⟨H, 0, none⟩))) rfl rfl rfl (e_move) ?_
 refine l_val (v := .pointer (some (⟨H, 0, none⟩))) rfl rfl rfl (e_nil (a := ⟨H, 0, none⟩) rfl) ?_
 refine l_val (v := .pointer (some ((⟨H, 0, none⟩ : Addr).add 9))) rfl rfl rfl (e_fieldAddr (a := ⟨H, 0, none⟩) rfl tt94) ?_
 refine l_val (v := .bool false) rfl rfl rfl (e_load1 tt95 (v := .bool false) rfl (Knows.imp (Knows.of_base (Cs.mono _ _) hc) (fun _ h => Cs.sub (vs := [.bool false]) 9 h rfl))) ?_
 refine l_val (v := .bool false) rfl rfl rfl (e_assign) ?_
 refine l_nil ?_
 refine f_then ?_
 refine c_no rfl ?_
 refine c_skip ?_
 refine f_block ?_
 refine f_then ?_
 refine c_seq ?_
 refine c_region ?_
 refine l_val (v := .int .i64 (0)) rfl rfl rfl (e_assign) ?_
 refine l_nil ?_
 refine f_then ?_
 refine c_ret ?_
 refine ret1 Tryz.results32 (v := .int .i64 (0)) rfl ?_
 intro w hw
 exact ⟨rfl, st_mask [] rfl hw⟩
end Go.Proofs
