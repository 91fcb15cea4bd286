/-
 Open, opened: walked. Printed by a program of my own.
-/
import Derived.Test.YtjejfkajcbdgjaaGreatTd13
import Derived.Test.YtjejfkajcbdgjaaGreatTdOp
namespace Go.Proofs
open Go Go.Sl Go.Td Go.Jn
theorem tt151 : Tryz.prog.underlying 26 = some (.pointer (Tryz.prog.pointee 26)) := by kernel_rfl
theorem tt152 : tyB Tryz.prog 29 true 4 = true := by kernel_rfl
theorem tt153 : cfB Tryz.prog 45 = true := by kernel_rfl
theorem tt154 : (Tryz.prog.info? 109).bind (·.zero) = some (.agg #[.int .i64 (0), .int .i64 (0), .slice none 0 0, .slice none 0 0, .int .i64 (0)]) := by kernel_rfl
theorem tt155 : tyB Tryz.prog 109 true 5 = true := by kernel_rfl
theorem tt156 : fldB Tryz.prog 109 2 2 1 false = true := by kernel_rfl
theorem tt157 : fldB Tryz.prog 109 3 3 1 false = true := by kernel_rfl
theorem tt158 : tyB Tryz.prog 107 false 1 = true := by kernel_rfl
theorem tt159 : cfB Tryz.prog 46 = true := by kernel_rfl
theorem tt160 : cfB Tryz.prog 47 = true := by kernel_rfl
theorem tt161 : stB Tryz.prog 91 [(0, 1), (1, 8), (9, 1)] = true := by kernel_rfl
theorem tt162 : (Tryz.prog.info? 91).bind (·.zero) = some (.agg #[.pointer none, .map none, .map none, .int .i64 (0), .int .i64 (0), .int .i64 (0), .int .i64 (0), .int .i64 (0), .map none, .bool false]) := by kernel_rfl
theorem tt163 : fldB Tryz.prog 29 3 3 1 false = true := by kernel_rfl
theorem tt164 : cfB Tryz.prog 21 = true := by kernel_rfl
set_option maxHeartbeats 4000000 in
theorem openh_ok (β : Base) (w : World) (S N W : Nat) (X : KHs) (hw : St β [shelfR S X N W (-1)] w) (hN : N ≤ 1000000) : Calls Tryz.prog 21 #[.pointer (some ⟨S, 0, none⟩)] w fun r w' => ∃ H, r = .returned (.tuple #[.pointer (some ⟨H, 0, none⟩), .int .i64 0]) ∧ St β [houseR H S X N W (-1)] w' := by
 obtain ⟨i, k, hso, hpw, hw⟩ := St.openShelf hw
 have hok := hso.inv.okP hN
 have hri := hso.inv.read
 have hcut : cutOk (k.area i.epoch) k.power i.size := .inr (by rw [hpw]; decide)
 obtain ⟨X0, ds, hi⟩ := hso.img
 obtain ⟨hl0, hl1⟩ := hso.lasts hN hi
 have hbl : i.state.length ≤ 65536 := hso.inv.wf.state
 have hrl : i.recs.length ≤ 1048576 := Nat.le_trans hso.inv.wf.next (Nat.le_trans hso.inv.nN (Nat.le_trans hN (by decide)))
 refine enter (n := 43) Tryz.func21 rfl Tryz.ntmps21 rfl ?_ hw
 refine c_seq ?_
 refine c_region ?_
 refine l_val (v := .pointer none) rfl rfl rfl (e_assign) ?_
 refine l_val (v := .int .i64 (0)) rfl rfl rfl (e_assign) ?_
 refine l_nil ?_
 refine f_then ?_
 refine c_seq ?_
 refine c_seq ?_
 refine c_region ?_
 refine l_val (v := .pointer (some ⟨S, 0, none⟩)) rfl rfl rfl (e_move) ?_
 refine l_val (v := .bool false) rfl rfl rfl (e_eql_pnil (p := some (⟨S, 0, none⟩)) rfl rfl tt151) ?_
 refine l_nil ?_
 refine f_then ?_
 refine c_no rfl ?_
 refine c_skip ?_
 refine f_then ?_
 refine c_seq ?_
 refine c_openStore rfl (fun pH1 pA2 pB3 cH4 cA5 cB6 => ?_)
 refine c_region ?_
 refine l_val (v := .pointer (some ⟨S, 0, none⟩)) rfl rfl rfl (e_move) ?_
 refine l_val (v := .pointer (some ⟨S, 0, none⟩)) rfl rfl rfl (e_nil (a := ⟨S, 0, none⟩) rfl) ?_
 refine l_val (v := .agg #[.slice pH1 (k.head).length cH4, .slice pA2 (k.a).length cA5, .slice pB3 (k.b).length cB6, Ix (k.power)]) rfl rfl rfl (e_load tt152 (cs := [.slice pH1 (k.head).length cH4, .slice pA2 (k.a).length cA5, .slice pB3 (k.b).length cB6, Ix (k.power)]) rfl (k_pt 0 (cs := #[.slice pH1 (k.head).length cH4, .slice pA2 (k.a).length cA5, .slice pB3 (k.b).length cB6, Ix (k.power)]) (vs := [.slice pH1 (k.head).length cH4, .slice pA2 (k.a).length cA5, .slice pB3 (k.b).length cB6, Ix (k.power)]) rfl rfl) rfl) ?_
 refine l_call rfl rfl rfl (cl_value (fst := []) (cap := []) (vs := [.agg #[.slice pH1 (k.head).length cH4, .slice pA2 (k.a).length cA5, .slice pB3 (k.b).length cB6, Ix (k.power)]]) (all := [.agg #[.slice pH1 (k.head).length cH4, .slice pA2 (k.a).length cA5, .slice pB3 (k.b).length cB6, Ix (k.power)]]) tt153 rfl rfl rfl) ?_
 intro w hw
 obtain ⟨β1, sb, kn, hw1, back⟩ := St.frame_all hw
 refine (readC_ok β1 w hw1 k _ _ _ (kn _ (Knows.of_res 1 rfl (Sl.mono U8R _ _) fun _ h => row_u8 h)) (kn _ (Knows.of_res 2 rfl (Sl.mono U8R _ _) fun _ h => row_u8 h)) (kn _ (Knows.of_res 3 rfl (Sl.mono U8R _ _) fun _ h => row_u8 h)) hok i hri).mono ?_
 rintro e w' ⟨ps7, pr8, cs9, cr10, rfl, hw'⟩
 refine ⟨_, rfl, _, back _ _ hw', ?_⟩
 clear hw hw1 hw' back kn sb
 refine l_val (v := .tuple #[.agg #[Nx (i.epoch), Nx (i.next), .slice ps7 (i.state).length cs9, .slice pr8 (i.recs).length cr10, Nx (i.size)], .int .i64 (0)]) rfl rfl rfl (e_move) ?_
 refine l_val (v := .agg #[Nx (i.epoch), Nx (i.next), .slice ps7 (i.state).length cs9, .slice pr8 (i.recs).length cr10, Nx (i.size)]) rfl rfl rfl (e_extract (vs := #[.agg #[Nx (i.epoch), Nx (i.next), .slice ps7 (i.state).length cs9, .slice pr8 (i.recs).length cr10, Nx (i.size)], .int .i64 (0)]) rfl rfl) ?_
 refine l_val (v := .int .i64 (0)) rfl rfl rfl (e_extract (vs := #[.agg #[Nx (i.epoch), Nx (i.next), .slice ps7 (i.state).length cs9, .slice pr8 (i.recs).length cr10, Nx (i.size)], .int .i64 (0)]) rfl rfl) ?_
 refine l_mv rfl rfl rfl (m_alloc tt154) ?_
 rintro _ _ ⟨b11, rfl, rfl⟩
 refine l_mu rfl rfl (m_store 0 tt155 (b := b11) (o := 0) (T := 109) (cs := #[.int .i64 (0), .int .i64 (0), .slice none 0 0, .slice none 0 0, .int .i64 (0)]) (cs' := #[Nx (i.epoch), Nx (i.next), .slice ps7 (i.state).length cs9, .slice pr8 (i.recs).length cr10, Nx (i.size)]) (v := .agg #[Nx (i.epoch), Nx (i.next), .slice ps7 (i.state).length cs9, .slice pr8 (i.recs).length cr10, Nx (i.size)]) rfl rfl rfl rfl rfl rfl rfl) ?_
 refine l_val (v := .int .i64 (0)) rfl rfl rfl (e_assign) ?_
 refine l_nil ?_
 refine f_then ?_
 refine c_seq ?_
 refine c_seq ?_
 refine c_region ?_
 refine l_val (v := .int .i64 (0)) rfl rfl rfl (e_move) ?_
 refine l_val (v := .bool false) rfl rfl rfl (e_neq (a := (0 : Int)) (b := (0 : Int)) rfl rfl) ?_
 refine l_nil ?_
 refine f_then ?_
 refine c_no rfl ?_
 refine c_skip ?_
 refine f_then ?_
 refine c_seq ?_
 refine c_region ?_
 refine l_val (v := .pointer (some ⟨b11, 2, none⟩)) rfl rfl rfl (e_fieldPt (b := b11) (o := 0) rfl tt156) ?_
 refine l_val (v := .slice ps7 (i.state).length cs9) rfl rfl rfl (e_load1 tt70 (v := .slice ps7 (i.state).length cs9) rfl (k_pt 0 (cs := #[Nx (i.epoch), Nx (i.next), .slice ps7 (i.state).length cs9, .slice pr8 (i.recs).length cr10, Nx (i.size)]) (vs := [.slice ps7 (i.state).length cs9]) rfl rfl)) ?_
 refine l_val (v := .pointer (some ⟨b11, 3, none⟩)) rfl rfl rfl (e_fieldPt (b := b11) (o := 0) rfl tt157) ?_
 refine l_val (v := .slice pr8 (i.recs).length cr10) rfl rfl rfl (e_load1 tt158 (v := .slice pr8 (i.recs).length cr10) rfl (k_pt 0 (cs := #[Nx (i.epoch), Nx (i.next), .slice ps7 (i.state).length cs9, .slice pr8 (i.recs).length cr10, Nx (i.size)]) (vs := [.slice pr8 (i.recs).length cr10]) rfl rfl)) ?_
 refine l_call rfl rfl rfl (cl_value (fst := []) (cap := []) (vs := [.slice ps7 (i.state).length cs9, .slice pr8 (i.recs).length cr10]) (all := [.slice ps7 (i.state).length cs9, .slice pr8 (i.recs).length cr10]) tt159 rfl rfl rfl) ?_
 intro w hw
 obtain ⟨β1, sb, kn, hw1, back⟩ := St.frame_all hw
 refine (restore_ok β1 w hw1 _ _ i.state (kn _ (Knows.of_res 1 rfl (Sl.mono U8R _ _) fun _ h => row_u8 h)) hbl i.recs (kn _ (Knows.of_res 2 rfl (Sl.mono BsR _ _) fun _ h => recs_sl h)) hrl X X0 ds hi.st hi.x0 hi.recs hi.ok hi.x hl0 hl1).mono ?_
 rintro e w' ⟨mp12, mh13, mm14, s15, ms16, zs17, he18, hm19, rfl, hw'⟩
 refine ⟨_, rfl, _, back _ _ hw', ?_⟩
 clear hw hw1 hw' back kn sb
 refine l_val (v := .tuple #[.agg #[.map (some mp12), .map (some mh13), Ix (s15.last), Ix (s15.su.a0), Ix (s15.su.a1), Ix (s15.su.a2), Ix (s15.su.a3), .map (some mm14)], .bool true]) rfl rfl rfl (e_move) ?_
 refine l_val (v := .agg #[.map (some mp12), .map (some mh13), Ix (s15.last), Ix (s15.su.a0), Ix (s15.su.a1), Ix (s15.su.a2), Ix (s15.su.a3), .map (some mm14)]) rfl rfl rfl (e_extract (vs := #[.agg #[.map (some mp12), .map (some mh13), Ix (s15.last), Ix (s15.su.a0), Ix (s15.su.a1), Ix (s15.su.a2), Ix (s15.su.a3), .map (some mm14)], .bool true]) rfl rfl) ?_
 refine l_val (v := .bool true) rfl rfl rfl (e_extract (vs := #[.agg #[.map (some mp12), .map (some mh13), Ix (s15.last), Ix (s15.su.a0), Ix (s15.su.a1), Ix (s15.su.a2), Ix (s15.su.a3), .map (some mm14)], .bool true]) rfl rfl) ?_
 refine l_mv rfl rfl rfl (m_alloc tt52) ?_
 rintro _ _ ⟨b20, rfl, rfl⟩
 refine l_mu rfl rfl (m_store 0 tt54 (b := b20) (o := 0) (T := 88) (cs := #[.map none, .map none, .int .i64 (0), .int .i64 (0), .int .i64 (0), .int .i64 (0), .int .i64 (0), .map none]) (cs' := #[.map (some mp12), .map (some mh13), Ix (s15.last), Ix (s15.su.a0), Ix (s15.su.a1), Ix (s15.su.a2), Ix (s15.su.a3), .map (some mm14)]) (v := .agg #[.map (some mp12), .map (some mh13), Ix (s15.last), Ix (s15.su.a0), Ix (s15.su.a1), Ix (s15.su.a2), Ix (s15.su.a3), .map (some mm14)]) rfl rfl rfl rfl rfl rfl rfl) ?_
 refine l_val (v := .bool true) rfl rfl rfl (e_assign) ?_
 refine l_nil ?_
 refine f_then ?_
 refine c_seq ?_
 refine c_seq ?_
 refine c_region ?_
 refine l_val (v := .bool true) rfl rfl rfl (e_move) ?_
 refine l_val (v := .bool false) rfl rfl rfl (e_not (a := true) rfl) ?_
 refine l_nil ?_
 refine f_then ?_
 refine c_no rfl ?_
 refine c_skip ?_
 refine f_then ?_
 refine c_seq ?_
 refine c_perm (L' := [pt S (.cells #[.slice pH1 (k.head).length cH4, .slice pA2 (k.a).length cA5, .slice pB3 (k.b).length cB6, Ix (k.power)] 29), row (.slice pH1 (k.head).length cH4) 5 1 ((k.head).length) (BX k.head), row (.slice pA2 (k.a).length cA5) 5 1 ((k.a).length) (BX k.a), row (.slice pB3 (k.b).length cB6) 5 1 ((k.b).length) (BX k.b), pt b20 (.cells #[.map (some mp12), .map (some mh13), Ix (s15.last), Ix (s15.su.a0), Ix (s15.su.a1), Ix (s15.su.a2), Ix (s15.su.a3), .map (some mm14)] 88), mpR PuM mp12 s15.ps, mpR HoM mh13 s15.hs, mpR MeM mm14 ms16, memR zs17, pt b11 (.cells #[Nx (i.epoch), Nx (i.next), .slice ps7 (i.state).length cs9, .slice pr8 (i.recs).length cr10, Nx (i.size)] 109), row (.slice ps7 (i.state).length cs9) 5 1 ((i.state).length) (BX i.state), recsR 27 pr8 cr10 i.recs]) (by exact (perm_ix [8, 9, 10, 11, 0, 1, 2, 3, 4, 5, 6, 7] 12 rfl (by kernel_rfl) (by kernel_rfl))) ?_
 refine c_closeStore (S := S) (k := k) (pH := pH1) (pA := pA2) (pB := pB3) (cH := cH4) (cA := cA5) (cB := cB6) (M := [pt b20 (.cells #[.map (some mp12), .map (some mh13), Ix (s15.last), Ix (s15.su.a0), Ix (s15.su.a1), Ix (s15.su.a2), Ix (s15.su.a3), .map (some mm14)] 88), mpR PuM mp12 s15.ps, mpR HoM mh13 s15.hs, mpR MeM mm14 ms16, memR zs17, pt b11 (.cells #[Nx (i.epoch), Nx (i.next), .slice ps7 (i.state).length cs9, .slice pr8 (i.recs).length cr10, Nx (i.size)] 109), row (.slice ps7 (i.state).length cs9) 5 1 ((i.state).length) (BX i.state), recsR 27 pr8 cr10 i.recs]) rfl ?_
 refine c_region ?_
 refine l_val (v := .pointer (some ⟨S, 0, none⟩)) rfl rfl rfl (e_move) ?_
 refine l_call rfl rfl rfl (cl_value (fst := []) (cap := []) (vs := [.pointer (some ⟨S, 0, none⟩)]) (all := [.pointer (some ⟨S, 0, none⟩)]) tt160 rfl rfl rfl) ?_
 intro w hw
 replace hw := hw.perm (L' := _ :: _ :: _ :: _ :: _ :: _ :: _ :: _ :: _ :: []) (by exact (((((((((perm_front 8 rfl).trans (perm_front 8 rfl)).trans (perm_front 8 rfl)).trans (perm_front 8 rfl)).trans (perm_front 8 rfl)).trans (perm_front 8 rfl)).trans (perm_front 8 rfl)).trans (perm_front 8 rfl)).trans (perm_front 8 rfl)))
 obtain ⟨β1, sb, kn, hw1, back⟩ := St.frame (L := [_]) (M := _ :: _ :: _ :: _ :: _ :: _ :: _ :: _ :: []) hw
 refine (open_ok β1 w S k hok (by omega) i hri hcut hw1).mono ?_
 rintro e w' ⟨J21, rfl, hw'⟩
 refine ⟨_, rfl, _, back _ _ hw', ?_⟩
 clear hw hw1 hw' back kn sb
 refine l_val (v := .tuple #[.pointer (some ⟨J21, 0, none⟩), .int .i64 (0)]) rfl rfl rfl (e_move) ?_
 refine l_val (v := .pointer (some ⟨J21, 0, none⟩)) rfl rfl rfl (e_extract (vs := #[.pointer (some ⟨J21, 0, none⟩), .int .i64 (0)]) rfl rfl) ?_
 refine l_val (v := .int .i64 (0)) rfl rfl rfl (e_extract (vs := #[.pointer (some ⟨J21, 0, none⟩), .int .i64 (0)]) rfl rfl) ?_
 refine l_val (v := .pointer (some ⟨J21, 0, none⟩)) rfl rfl rfl (e_assign) ?_
 refine l_val (v := .int .i64 (0)) rfl rfl rfl (e_assign) ?_
 refine l_nil ?_
 refine f_then ?_
 refine c_seq ?_
 refine c_seq ?_
 refine c_region ?_
 refine l_val (v := .int .i64 (0)) rfl rfl rfl (e_move) ?_
 refine l_val (v := .bool false) rfl rfl rfl (e_neq (a := (0 : Int)) (b := (0 : Int)) rfl rfl) ?_
 refine l_nil ?_
 refine f_then ?_
 refine c_no rfl ?_
 refine c_skip ?_
 refine f_then ?_
 refine c_seq ?_
 refine c_region ?_
 refine l_val (v := .pointer (some ⟨J21, 0, none⟩)) rfl rfl rfl (e_move) ?_
 refine l_val (v := .agg #[.map (some mp12), .map (some mh13), Ix (s15.last), Ix (s15.su.a0), Ix (s15.su.a1), Ix (s15.su.a2), Ix (s15.su.a3), .map (some mm14)]) rfl rfl rfl (e_load tt54 (cs := [.map (some mp12), .map (some mh13), Ix (s15.last), Ix (s15.su.a0), Ix (s15.su.a1), Ix (s15.su.a2), Ix (s15.su.a3), .map (some mm14)]) rfl (k_pt 2 (cs := #[.map (some mp12), .map (some mh13), Ix (s15.last), Ix (s15.su.a0), Ix (s15.su.a1), Ix (s15.su.a2), Ix (s15.su.a3), .map (some mm14)]) (vs := [.map (some mp12), .map (some mh13), Ix (s15.last), Ix (s15.su.a0), Ix (s15.su.a1), Ix (s15.su.a2), Ix (s15.su.a3), .map (some mm14)]) rfl rfl) rfl) ?_
 refine l_val (v := .agg #[.pointer (some ⟨J21, 0, none⟩), .map (some mp12), .map (some mh13), Ix (s15.last), Ix (s15.su.a0), Ix (s15.su.a1), Ix (s15.su.a2), Ix (s15.su.a3), .map (some mm14), .bool false]) rfl rfl rfl (e_build tt162 tt161 (vs := [(0, .pointer (some ⟨J21, 0, none⟩)), (1, .agg #[.map (some mp12), .map (some mh13), Ix (s15.last), Ix (s15.su.a0), Ix (s15.su.a1), Ix (s15.su.a2), Ix (s15.su.a3), .map (some mm14)])]) (cells := #[.pointer (some ⟨J21, 0, none⟩), .map (some mp12), .map (some mh13), Ix (s15.last), Ix (s15.su.a0), Ix (s15.su.a1), Ix (s15.su.a2), Ix (s15.su.a3), .map (some mm14), .bool false]) rfl (by kernel_rfl)) ?_
 refine l_mv rfl rfl rfl (m_box (v := .agg #[.pointer (some ⟨J21, 0, none⟩), .map (some mp12), .map (some mh13), Ix (s15.last), Ix (s15.su.a0), Ix (s15.su.a1), Ix (s15.su.a2), Ix (s15.su.a3), .map (some mm14), .bool false]) rfl) ?_
 rintro _ _ ⟨b22, rfl, rfl⟩
 refine l_val (v := .pointer (some ⟨b22, 0, none⟩)) rfl rfl rfl (e_assign) ?_
 refine l_val (v := .int .i64 (0)) rfl rfl rfl (e_assign) ?_
 refine l_nil ?_
 refine f_then ?_
 refine c_ret ?_
 refine ret2 (v := .pointer (some ⟨b22, 0, none⟩)) (v' := .int .i64 (0)) Tryz.results21 rfl rfl ?_
 intro w hw
 replace hw := hw.perm (L' := [pt b22 (.cells #[.pointer (some ⟨J21, 0, none⟩), .map (some mp12), .map (some mh13), Ix (s15.last), Ix (s15.su.a0), Ix (s15.su.a1), Ix (s15.su.a2), Ix (s15.su.a3), .map (some mm14), .bool false] 91), jourR J21 S i false, storeR S (cutS k i.epoch i.size), mpR PuM mp12 s15.ps, mpR HoM mh13 s15.hs, mpR MeM mm14 ms16, memR zs17, pt b20 (.cells #[.map (some mp12), .map (some mh13), Ix (s15.last), Ix (s15.su.a0), Ix (s15.su.a1), Ix (s15.su.a2), Ix (s15.su.a3), .map (some mm14)] 88), pt b11 (.cells #[Nx (i.epoch), Nx (i.next), .slice ps7 (i.state).length cs9, .slice pr8 (i.recs).length cr10, Nx (i.size)] 109), row (.slice ps7 (i.state).length cs9) 5 1 ((i.state).length) (BX i.state), recsR 27 pr8 cr10 i.recs]) (by exact (perm_ix [0, 1, 2, 4, 5, 6, 7, 3, 8, 9, 10] 11 rfl (by kernel_rfl) (by kernel_rfl)))
 replace hw := st_mask (L' := [pt b22 (.cells #[.pointer (some ⟨J21, 0, none⟩), .map (some mp12), .map (some mh13), Ix (s15.last), Ix (s15.su.a0), Ix (s15.su.a1), Ix (s15.su.a2), Ix (s15.su.a3), .map (some mm14), .bool false] 91), jourR J21 S i false, storeR S (cutS k i.epoch i.size), mpR PuM mp12 s15.ps, mpR HoM mh13 s15.hs, mpR MeM mm14 ms16, memR zs17]) [true, true, true, true, true, true, true, false, false, false, false] rfl hw
 exact ⟨_, rfl, St.closeHouse (M := []) ⟨he18, hso.cut hpw, hm19⟩ (cut_neg1 hpw) hw⟩
theorem opened_ok (β : Base) (w : World) (S N W : Nat) (X : KHs) (pw : Int) (hw : St β [shelfR S X N W pw] w) (hN : N ≤ 1000000) : Calls Tryz.prog 10 #[.pointer (some ⟨S, 0, none⟩)] w fun r w' => ∃ H, r = .returned (.tuple #[.pointer (some ⟨H, 0, none⟩), .bool true]) ∧ St β [houseR H S X N W (-1)] w' := by
 refine enter (n := 21) Tryz.func10 rfl Tryz.ntmps10 rfl ?_ hw
 refine c_seq ?_
 refine c_region ?_
 refine l_val (v := .pointer none) rfl rfl rfl (e_assign) ?_
 refine l_val (v := .bool false) rfl rfl rfl (e_assign) ?_
 refine l_nil ?_
 refine f_then ?_
 refine c_seq ?_
 refine c_openShelf rfl (fun i k hso hpw => ?_)
 refine c_openStore rfl (fun pH1 pA2 pB3 cH4 cA5 cB6 => ?_)
 refine c_region ?_
 refine l_val (v := .pointer (some ⟨S, 0, none⟩)) rfl rfl rfl (e_move) ?_
 refine l_val (v := .pointer (some ⟨S, 0, none⟩)) rfl rfl rfl (e_nil (a := ⟨S, 0, none⟩) rfl) ?_
 refine l_val (v := .pointer (some ⟨S, 3, none⟩)) rfl rfl rfl (e_fieldPt (b := S) (o := 0) rfl tt163) ?_
 refine l_mu rfl rfl (m_store 0 tt2 (b := S) (o := 3) (T := 29) (cs := #[.slice pH1 (k.head).length cH4, .slice pA2 (k.a).length cA5, .slice pB3 (k.b).length cB6, Ix (k.power)]) (cs' := #[.slice pH1 (k.head).length cH4, .slice pA2 (k.a).length cA5, .slice pB3 (k.b).length cB6, .int .i64 (-1)]) (v := .int .i64 (-1)) rfl rfl rfl rfl rfl rfl rfl) ?_
 refine l_nil ?_
 refine f_then ?_
 refine c_seq ?_
 refine c_closeStore (S := S) (k := { k with power := -1 }) (pH := pH1) (pA := pA2) (pB := pB3) (cH := cH4) (cA := cA5) (cB := cB6) (M := []) rfl ?_
 refine c_closeShelf (p := -1) (M := []) rfl (hso.pow (by decide) (by decide)) rfl ?_
 refine c_region ?_
 refine l_val (v := .pointer (some ⟨S, 0, none⟩)) rfl rfl rfl (e_move) ?_
 refine l_call rfl rfl rfl (cl_value (fst := []) (cap := []) (vs := [.pointer (some ⟨S, 0, none⟩)]) (all := [.pointer (some ⟨S, 0, none⟩)]) tt164 rfl rfl rfl) ?_
 intro w hw
 replace hw := hw.perm (L' := _ :: []) (by exact (perm_front 0 rfl))
 obtain ⟨β1, sb, kn, hw1, back⟩ := St.frame (L := [_]) (M := []) hw
 refine (openh_ok β1 w S N W X hw1 hN).mono ?_
 rintro e w' ⟨H7, rfl, hw'⟩
 refine ⟨_, rfl, _, back _ _ hw', ?_⟩
 clear hw hw1 hw' back kn sb
 refine l_val (v := .tuple #[.pointer (some ⟨H7, 0, none⟩), .int .i64 (0)]) rfl rfl rfl (e_move) ?_
 refine l_val (v := .pointer (some ⟨H7, 0, none⟩)) rfl rfl rfl (e_extract (vs := #[.pointer (some ⟨H7, 0, none⟩), .int .i64 (0)]) rfl rfl) ?_
 refine l_val (v := .int .i64 (0)) rfl rfl rfl (e_extract (vs := #[.pointer (some ⟨H7, 0, none⟩), .int .i64 (0)]) rfl rfl) ?_
 refine l_val (v := .pointer (some ⟨H7, 0, none⟩)) rfl rfl rfl (e_assign) ?_
 refine l_val (v := .int .i64 (0)) rfl rfl rfl (e_assign) ?_
 refine l_nil ?_
 refine f_then ?_
 refine c_seq ?_
 refine c_region ?_
 refine l_val (v := .pointer (some ⟨H7, 0, none⟩)) rfl rfl rfl (e_move) ?_
 refine l_val (v := .int .i64 (0)) rfl rfl rfl (e_move) ?_
 refine l_val (v := .bool true) rfl rfl rfl (e_eql (a := (0 : Int)) (b := (0 : Int)) rfl rfl) ?_
 refine l_val (v := .bool true) rfl rfl rfl (e_move) ?_
 refine g_val (v := .pointer (some ⟨H7, 0, none⟩)) rfl rfl rfl rfl rfl (e_move) ?_
 refine g_val (v := .bool true) rfl rfl rfl rfl rfl (e_neq_pnil (p := some (⟨H7, 0, none⟩)) rfl rfl tt89) ?_
 refine l_val (v := .bool true) rfl rfl rfl (e_pick_t rfl) ?_
 refine l_val (v := .pointer (some ⟨H7, 0, none⟩)) rfl rfl rfl (e_assign) ?_
 refine l_val (v := .bool true) rfl rfl rfl (e_assign) ?_
 refine l_nil ?_
 refine f_then ?_
 refine c_ret ?_
 refine ret2 (v := .pointer (some ⟨H7, 0, none⟩)) (v' := .bool true) Tryz.results10 rfl rfl ?_
 intro w hw
 exact ⟨_, rfl, hw⟩
end Go.Proofs
