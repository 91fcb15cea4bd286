/-
 StepIslands: walked. Printed by a program of my own.
-/
import Derived.Test.YtdkibofhppgbjaaGreatDoorStIsl
import Derived.Test.YtdkibofhppgbjaaGreatDoorStEq
namespace Go.Isl
open Go.Sl Go.Brd Go.Stp Go.Proofs
theorem seen_zero (S : List KS) (xl : List (List Int)) (t : Nat) : seenI S xl t 0 = 0 := by unfold seenI; simp [vis_zero]
theorem mine_old {l : List Int} {k : Nat} {x e : Int} (he : l[k]? = some e) (h : x ∈ l.take k) : true = decide (x ∈ l.take (k + 1)) := by
 rw [List.take_add_one, he]; exact (decide_eq_true (List.mem_append_left _ h)).symm
theorem mine_new {l : List Int} {k : Nat} {x e : Int} (he : l[k]? = some e) (h : ¬ x ∈ l.take k) : decide (x = e) = decide (x ∈ l.take (k + 1)) := by
 rw [List.take_add_one, he]; refine decide_eq_decide.2 ?_; simp [h]
end Go.Isl
namespace Go.Proofs
open Go Go.Sl Go.Brd Go.Stp Go.Isl
theorem stepZ_ok (β : Base) (w : World) (hw : St β [] w) (v rv : Value) (gx gy : Int) (bs : List KB) (rs : List KR) (hs : Sl KBR β.heap v bs) (hr : Sl KRR β.heap rv rs) (hgx : -9223372036854775808 ≤ gx ∧ gx ≤ 9223372036854775807) (hgy : -9223372036854775808 ≤ gy ∧ gy ≤ 9223372036854775807) (hG : GR β) (hok : okS bs rs gx gy) (T : List KB) (S : List KS) (hTS : stepsTo rs gx gy bs bs.length = (T, S)) : Calls Tryz.prog 9 #[.agg #[v, rv, Ix gx, Ix gy]] w fun r w' => ∃ p1 c1 p2 c2 sp sc, r = .returned (.tuple #[.agg #[.slice p1 T.length c1, .slice p2 rs.length c2, Ix gx, Ix gy], .slice sp S.length sc, .int .i64 (0)]) ∧ St β [rowF BodyF 52 p1 c1 T, rowF RopeF 78 p2 c2 rs, rowF StopF 55 sp sc S] w' :=
 (step_ok β w hw v rv gx gy bs rs hs hr hgx hgy hG).mono fun r w' h => by
  rcases h with ⟨_, p1, c1, p2, c2, sp, sc, h1, h2⟩ | ⟨hn, _⟩
  ·have hl := (step_keeps (rs := rs) (gx := gx) (gy := gy) hok.2.2.2.1 bs.length).1.len
   rw [hTS] at h1 h2 hl
   unfold sB at h1
   simp only at h1 h2 hl
   rw [← hl] at h1
   exact ⟨p1, c1, p2, c2, sp, sc, h1, h2⟩
  ·exact absurd hok hn
theorem partM_ok (β : Base) (w : World) (hw : St β [] w) (v u l : Value) (gx gy : Int) (bs : List KB) (rs : List KR) (ids : List Int) (hs_ : Sl KBR β.heap v bs) (hr_ : Sl KRR β.heap u rs) (hi_ : Sl IntF.R β.heap l ids) (hgx : -9223372036854775808 ≤ gx ∧ gx ≤ 9223372036854775807) (hgy : -9223372036854775808 ≤ gy ∧ gy ≤ 9223372036854775807) (hok : okS bs rs gx gy) (hf : ∀ x ∈ ids, freeAt bs x) (P : List KB) (hP : partB ids bs = P) (Q : List KR) (hQ : partR P rs = Q) : Calls Tryz.prog 12 #[.agg #[v, u, Ix gx, Ix gy], l] w fun r w' => ∃ p c q d, r = .returned (.tuple #[.agg #[.slice p P.length c, .slice q Q.length d, Ix gx, Ix gy], Ix 0]) ∧ St β [rowF BodyF 52 p c P, rowF RopeF 78 q d Q] w' := by
 subst hP; subst hQ
 exact partO_ok β w hw v u l gx gy bs rs ids hs_ hr_ hi_ hgx hgy hok hf
theorem findN_ok (β : Base) (w : World) (hw : St β [] w) (v rv : Value) (gx gy : Int) (xs : List KB) (hs : Sl KBR β.heap v xs) (i : Int) (m : Nat) (hm : idxI (fun y : KB => decide (y.id = i)) xs = ((m : Nat) : Int)) : Calls Tryz.prog 15 #[.agg #[v, rv, Ix gx, Ix gy], Ix i] w fun r w' => r = .returned (Nx m) ∧ St β [] w' :=
 (findS_ok β w hw v rv gx gy xs hs i).mono fun r w' ⟨h1, h2⟩ => ⟨by rw [h1, hm], h2⟩
theorem ty0 : cfB Tryz.prog 7 = true := by kernel_rfl
theorem ty1 : cfB Tryz.prog 8 = true := by kernel_rfl
theorem ty2 : (Tryz.prog.info? 30).bind (·.zero) = some (.agg #[.slice none 0 0, .slice none 0 0, .int .i64 (0), .int .i64 (0)]) := by kernel_rfl
theorem ty3 : tyB Tryz.prog 30 true 4 = true := by kernel_rfl
theorem ty4 : cfB Tryz.prog 9 = true := by kernel_rfl
theorem ty5 : cfB Tryz.prog 10 = true := by kernel_rfl
theorem ty6 : fldB Tryz.prog 30 0 0 1 false = true := by kernel_rfl
theorem ty7 : tyB Tryz.prog 25 false 1 = true := by kernel_rfl
theorem ty8 : Tryz.prog.underlying 25 = some (.slice 52) := by kernel_rfl
theorem ty9 : cfB Tryz.prog 11 = true := by kernel_rfl
theorem ty10 : Tryz.prog.underlying 42 = some (.slice 46) := by kernel_rfl
theorem ty11 : Tryz.prog.underlying 5 = some (.int .u8) := by kernel_rfl
theorem ty12 : Tryz.prog.underlying 3 = some (.int .i64) := by kernel_rfl
theorem ty13 : slB Tryz.prog 42 46 1 = true := by kernel_rfl
theorem ty14 : tyB Tryz.prog 46 false 1 = true := by kernel_rfl
theorem ty15 : cfB Tryz.prog 12 = true := by kernel_rfl
theorem ty16 : cfB Tryz.prog 13 = true := by kernel_rfl
theorem ty17 : cfB Tryz.prog 14 = true := by kernel_rfl
theorem ty18 : Tryz.prog.underlying 38 = some (.slice 55) := by kernel_rfl
theorem ty19 : slB Tryz.prog 25 52 9 = true := by kernel_rfl
theorem ty20 : tyB Tryz.prog 52 true 9 = true := by kernel_rfl
theorem ty21 : (Tryz.prog.info? 52).bind (·.zero) = some (.agg #[.int .i64 (0), .int .i64 (0), .int .i64 (0), .int .i64 (0), .int .i64 (0), .int .i64 (0), .int .i64 (0), .bool false, .bool false]) := by kernel_rfl
theorem ty22 : fldB Tryz.prog 52 0 0 1 false = true := by kernel_rfl
theorem ty23 : tyB Tryz.prog 3 false 1 = true := by kernel_rfl
theorem ty24 : cfB Tryz.prog 15 = true := by kernel_rfl
theorem ty25 : lay Tryz.prog 10000 52 = some [.int .i64, .int .i64, .int .i64, .int .i64, .int .i64, .int .i64, .int .i64, .bool, .bool] := by kernel_rfl
theorem ty26 : isAggT Tryz.prog 52 = true := by kernel_rfl
theorem ty27 : Tryz.prog.eqGuardType Tryz.prog.depth 52 = false := by kernel_rfl
theorem ty28 : slB Tryz.prog 38 55 3 = true := by kernel_rfl
theorem ty29 : tyB Tryz.prog 55 true 3 = true := by kernel_rfl
theorem ty30 : (Tryz.prog.info? 55).bind (·.zero) = some (.agg #[.int .i64 (0), .int .u8 (0), .int .i64 (0)]) := by kernel_rfl
theorem ty31 : Tryz.prog.underlying 46 = some (.slice 3) := by kernel_rfl
theorem ty32 : slB Tryz.prog 46 3 1 = true := by kernel_rfl
theorem ty33 : fldB Tryz.prog 55 0 0 1 false = true := by kernel_rfl
theorem ty34 : lay Tryz.prog 10000 55 = some [.int .i64, .int .u8, .int .i64] := by kernel_rfl
theorem ty35 : isAggT Tryz.prog 55 = true := by kernel_rfl
theorem ty36 : Tryz.prog.eqGuardType Tryz.prog.depth 55 = false := by kernel_rfl
set_option maxHeartbeats 4000000 in
theorem islands8_ok (β : Base) (w : World) (hw : St β [] w) (v u : Value) (fs : List KF) (us : List UInt8) (hs : Sl FormR β.heap v fs) (hu : Sl U8R β.heap u us) (gx gy : Int) (hgx8 : -128 ≤ gx ∧ gx ≤ 127) (hgy8 : -128 ≤ gy ∧ gy ≤ 127) (tn : UInt8) (hG : GR β) : Calls Tryz.prog 4 #[v, u, .int .i8 gx, .int .i8 gy, Bx tn] w fun r w' => r = .returned (.bool true) ∧ St β [] w' := by
 refine enter (n := 212) Tryz.func4 rfl Tryz.ntmps4 rfl ?_ hw
 refine c_seq ?_
 refine c_region ?_
 refine l_val (v := .bool false) rfl rfl rfl (e_assign) ?_
 refine l_nil ?_
 refine f_then ?_
 refine c_seq ?_
 refine c_seq ?_
 refine c_region ?_
 refine l_call rfl rfl rfl (cl_value (fst := []) (cap := []) (vs := []) (all := []) ty0 rfl rfl rfl) ?_
 intro w hw
 obtain ⟨β1, sb, kn, hw1, back⟩ := St.frame_all hw
 refine (awake_ok β1 w hw1 (GR.mono sb hG)).mono ?_
 rintro e w' ⟨rfl, hw'⟩
 refine ⟨_, rfl, _, back _ _ hw', ?_⟩
 clear hw hw1 hw' back kn sb
 refine l_val (v := .bool false) rfl rfl rfl (e_not (a := true) rfl) ?_
 refine l_nil ?_
 refine f_then ?_
 refine c_no rfl ?_
 refine c_skip ?_
 refine f_then ?_
 refine c_seq ?_
 refine c_region ?_
 refine l_val (v := v) rfl rfl rfl (e_move) ?_
 refine l_val (v := u) rfl rfl rfl (e_move) ?_
 refine l_val (v := .int .i8 (gx)) rfl rfl rfl (e_move) ?_
 refine l_val (v := .int .i8 (gy)) rfl rfl rfl (e_move) ?_
 refine l_call rfl rfl rfl (cl_value (fst := []) (cap := []) (vs := [v, u, .int .i8 (gx), .int .i8 (gy)]) (all := [v, u, .int .i8 (gx), .int .i8 (gy)]) ty1 rfl rfl rfl) ?_
 intro w hw
 obtain ⟨β1, sb, kn, hw1, back⟩ := St.frame_all hw
 refine (made8_ok β1 w hw1 _ _ fs us (Sl.mono _ _ _ _ _ sb hs) (Sl.mono _ _ _ _ _ sb hu) gx gy hgx8 hgy8).mono ?_
 rintro e w' ⟨bs, R, p1, c2, q3, d4, rfl, hmP, hbl, hrl, hw'⟩
 refine ⟨_, rfl, _, back _ _ hw', ?_⟩
 clear hw hw1 hw' back kn sb
 refine l_mv rfl rfl rfl (m_alloc ty2) ?_
 rintro _ _ ⟨b5, rfl, rfl⟩
 refine l_mu rfl rfl (m_store 0 ty3 (b := b5) (o := 0) (T := 30) (cs := #[.slice none 0 0, .slice none 0 0, .int .i64 (0), .int .i64 (0)]) (cs' := #[.slice p1 (bs.length) c2, .slice q3 (R.length) d4, Ix ((Int.tmod gx 32)), Ix ((Int.tmod gy 32))]) (v := .agg #[.slice p1 (bs.length) c2, .slice q3 (R.length) d4, Ix ((Int.tmod gx 32)), Ix ((Int.tmod gy 32))]) rfl rfl rfl rfl rfl rfl rfl) ?_
 refine l_nil ?_
 refine f_then ?_
 refine c_seq ?_
 have hgX := tmod_bd gx
 have hgY := tmod_bd gy
 obtain ⟨gX, hgx1⟩ : ∃ z, z = Int.tmod gx 32 := ⟨_, rfl⟩
 obtain ⟨gY, hgy1⟩ : ∃ z, z = Int.tmod gy 32 := ⟨_, rfl⟩
 rw [← hgx1] at hgX hmP
 rw [← hgy1] at hgY hmP
 rw [← hgx1, ← hgy1]
 have hok := hmP.ok
 obtain ⟨hk1, hk2, hk3, hk4, hk5, hk6⟩ := id hok
 have hfew := hmP.few
 refine c_freeze2 (M := [pt b5 (.cells #[.slice p1 (bs.length) c2, .slice q3 (R.length) d4, Ix (gX), Ix (gY)] 30)]) (K := [rowF BodyF 52 p1 c2 bs, rowF RopeF 78 q3 d4 R]) rfl (fun βf ext1 kn1 bk1 => ?_)
 have hslB : Sl KBR βf.heap (.slice p1 bs.length c2) bs := kn1 _ (k_fl 0 (F := BodyF) rfl)
 obtain ⟨-, hcB, hmB, heB⟩ := hslB.parts
 have hslR : Sl KRR βf.heap (.slice q3 R.length d4) R := kn1 _ (k_fl 1 (F := RopeF) rfl)
 obtain ⟨-, hcR, hmR, heR⟩ := hslR.parts
 have hG := GR.mono ext1.sub hG
 have hfb := freeB_len bs
 have hb16 := hmP.few
 have hr6 := hmP.ropes
 obtain ⟨T, S, hTS⟩ : ∃ T S, stepsTo R gX gY bs bs.length = (T, S) := ⟨_, _, rfl⟩
 have hTl : T.length = bs.length := by have h := (step_keeps (rs := R) (gx := gX) (gy := gY) hok.2.2.2.1 bs.length).1.len; rw [hTS] at h; exact h
 refine c_region ?_
 refine l_val (v := .agg #[.slice p1 (bs.length) (c2), .slice q3 (R.length) (d4), Ix (gX), Ix (gY)]) rfl rfl rfl (e_load ty3 (cs := [.slice p1 (bs.length) (c2), .slice q3 (R.length) (d4), Ix (gX), Ix (gY)]) rfl (k_pt 0 (cs := #[.slice p1 (bs.length) (c2), .slice q3 (R.length) (d4), Ix (gX), Ix (gY)]) (vs := [.slice p1 (bs.length) (c2), .slice q3 (R.length) (d4), Ix (gX), Ix (gY)]) rfl rfl) rfl) ?_
 refine l_call rfl rfl rfl (cl_value (fst := []) (cap := []) (vs := [.agg #[.slice p1 (bs.length) (c2), .slice q3 (R.length) (d4), Ix (gX), Ix (gY)]]) (all := [.agg #[.slice p1 (bs.length) (c2), .slice q3 (R.length) (d4), Ix (gX), Ix (gY)]]) ty4 rfl rfl rfl) ?_
 intro w hw
 obtain ⟨β1, sb, kn, hw1, back⟩ := St.frame_all hw
 refine (stepZ_ok β1 w hw1 _ _ gX gY bs R (Sl.mono _ _ _ _ _ sb hslB) (Sl.mono _ _ _ _ _ sb hslR) (by omega) (by omega) (GR.mono sb hG) hok T S hTS).mono ?_
 rintro e w' ⟨p6, c7, q8, d9, sp10, sc11, rfl, hw'⟩
 refine ⟨_, rfl, _, back _ _ hw', ?_⟩
 clear hw hw1 hw' back kn sb
 refine l_val (v := .tuple #[.agg #[.slice p6 (T.length) c7, .slice q8 (R.length) d9, Ix (gX), Ix (gY)], .slice sp10 (S.length) sc11, .int .i64 (0)]) rfl rfl rfl (e_move) ?_
 refine l_val (v := .agg #[.slice p6 (T.length) c7, .slice q8 (R.length) d9, Ix (gX), Ix (gY)]) rfl rfl rfl (e_extract (vs := #[.agg #[.slice p6 (T.length) c7, .slice q8 (R.length) d9, Ix (gX), Ix (gY)], .slice sp10 (S.length) sc11, .int .i64 (0)]) rfl rfl) ?_
 refine l_val (v := .slice sp10 (S.length) sc11) rfl rfl rfl (e_extract (vs := #[.agg #[.slice p6 (T.length) c7, .slice q8 (R.length) d9, Ix (gX), Ix (gY)], .slice sp10 (S.length) sc11, .int .i64 (0)]) rfl rfl) ?_
 refine l_val (v := .int .i64 (0)) rfl rfl rfl (e_extract (vs := #[.agg #[.slice p6 (T.length) c7, .slice q8 (R.length) d9, Ix (gX), Ix (gY)], .slice sp10 (S.length) sc11, .int .i64 (0)]) rfl rfl) ?_
 refine l_mv rfl rfl rfl (m_alloc ty2) ?_
 rintro _ _ ⟨b12, rfl, rfl⟩
 refine l_mu rfl rfl (m_store 0 ty3 (b := b12) (o := 0) (T := 30) (cs := #[.slice none 0 0, .slice none 0 0, .int .i64 (0), .int .i64 (0)]) (cs' := #[.slice p6 (T.length) c7, .slice q8 (R.length) d9, Ix (gX), Ix (gY)]) (v := .agg #[.slice p6 (T.length) c7, .slice q8 (R.length) d9, Ix (gX), Ix (gY)]) rfl rfl rfl rfl rfl rfl rfl) ?_
 refine l_val (v := .slice sp10 (S.length) sc11) rfl rfl rfl (e_assign) ?_
 refine l_val (v := .int .i64 (0)) rfl rfl rfl (e_assign) ?_
 refine l_nil ?_
 refine f_then ?_
 refine c_seq ?_
 refine c_perm (L' := [pt b12 (.cells #[.slice p6 (T.length) c7, .slice q8 (R.length) d9, Ix (gX), Ix (gY)] 30), pt b5 (.cells #[.slice p1 (bs.length) (c2), .slice q3 (R.length) (d4), Ix (gX), Ix (gY)] 30), rowF BodyF 52 p6 c7 T, rowF RopeF 78 q8 d9 R, rowF StopF 55 sp10 sc11 S]) (by exact (perm_ix [0, 4, 1, 2, 3] 5 rfl (by kernel_rfl) (by kernel_rfl))) ?_
 refine c_freeze2 (M := [pt b12 (.cells #[.slice p6 (T.length) c7, .slice q8 (R.length) d9, Ix (gX), Ix (gY)] 30), pt b5 (.cells #[.slice p1 (bs.length) (c2), .slice q3 (R.length) (d4), Ix (gX), Ix (gY)] 30)]) (K := [rowF BodyF 52 p6 c7 T, rowF RopeF 78 q8 d9 R, rowF StopF 55 sp10 sc11 S]) rfl (fun βW extW knW bkW => ?_)
 have hslWT : Sl KBR βW.heap (.slice p6 T.length c7) T := knW _ (k_fl 0 (F := BodyF) rfl)
 obtain ⟨-, hcWT, hmWT, heWT⟩ := hslWT.parts
 have hslWQ : Sl KRR βW.heap (.slice q8 R.length d9) R := knW _ (k_fl 1 (F := RopeF) rfl)
 obtain ⟨-, hcWQ, hmWQ, heWQ⟩ := hslWQ.parts
 have hslWS : Sl KSR βW.heap (.slice sp10 S.length sc11) S := knW _ (k_fl 2 (F := StopF) rfl)
 obtain ⟨-, hcWS, hmWS, heWS⟩ := hslWS.parts
 have hslB := Sl.mono _ _ _ _ _ extW.sub hslB
 have hslR := Sl.mono _ _ _ _ _ extW.sub hslR
 have heB := Elems.mono _ _ _ _ _ extW.sub heB
 have heR := Elems.mono _ _ _ _ _ extW.sub heR
 have hG := GR.mono extW.sub hG
 refine c_region ?_
 refine l_val (v := .agg #[.slice p1 (bs.length) (c2), .slice q3 (R.length) (d4), Ix (gX), Ix (gY)]) rfl rfl rfl (e_load ty3 (cs := [.slice p1 (bs.length) (c2), .slice q3 (R.length) (d4), Ix (gX), Ix (gY)]) rfl (k_pt 1 (cs := #[.slice p1 (bs.length) (c2), .slice q3 (R.length) (d4), Ix (gX), Ix (gY)]) (vs := [.slice p1 (bs.length) (c2), .slice q3 (R.length) (d4), Ix (gX), Ix (gY)]) rfl rfl) rfl) ?_
 refine l_call rfl rfl rfl (cl_value (fst := []) (cap := []) (vs := [.agg #[.slice p1 (bs.length) (c2), .slice q3 (R.length) (d4), Ix (gX), Ix (gY)]]) (all := [.agg #[.slice p1 (bs.length) (c2), .slice q3 (R.length) (d4), Ix (gX), Ix (gY)]]) ty5 rfl rfl rfl) ?_
 intro w hw
 obtain ⟨β1, sb, kn, hw1, back⟩ := St.frame_all hw
 refine (islO_ok β1 w hw1 _ _ gX gY bs R (Sl.mono _ _ _ _ _ sb hslB) (Sl.mono _ _ _ _ _ sb hslR) (by omega) (by omega) hok).mono ?_
 rintro e w' ⟨p13, c14, hs15, hx16, rfl, hw'⟩
 refine ⟨_, rfl, _, back _ _ hw', ?_⟩
 clear hw hw1 hw' back kn sb
 refine l_val (v := .tuple #[.slice p13 (hs15.length) c14, .int .i64 (0)]) rfl rfl rfl (e_move) ?_
 refine l_val (v := .slice p13 (hs15.length) c14) rfl rfl rfl (e_extract (vs := #[.slice p13 (hs15.length) c14, .int .i64 (0)]) rfl rfl) ?_
 refine l_val (v := .int .i64 (0)) rfl rfl rfl (e_extract (vs := #[.slice p13 (hs15.length) c14, .int .i64 (0)]) rfl rfl) ?_
 refine l_val (v := .slice p13 (hs15.length) c14) rfl rfl rfl (e_assign) ?_
 refine l_val (v := .int .i64 (0)) rfl rfl rfl (e_assign) ?_
 refine l_nil ?_
 refine f_then ?_
 refine c_seq ?_
 refine c_seq ?_
 refine c_perm (L' := [pt b12 (.cells #[.slice p6 (T.length) (c7), .slice q8 (R.length) (d9), Ix (gX), Ix (gY)] 30), pt b5 (.cells #[.slice p1 (bs.length) (c2), .slice q3 (R.length) (d4), Ix (gX), Ix (gY)] 30), Sat (llL p13 c14 hs15)]) (perm_ix [1, 2, 0] 3 rfl (by kernel_rfl) (by kernel_rfl)) ?_
 refine c_freeze2 (M := [pt b12 (.cells #[.slice p6 (T.length) (c7), .slice q8 (R.length) (d9), Ix (gX), Ix (gY)] 30), pt b5 (.cells #[.slice p1 (bs.length) (c2), .slice q3 (R.length) (d4), Ix (gX), Ix (gY)] 30)]) (K := [Sat (llL p13 c14 hs15)]) rfl (fun βX extX knX bkX => ?_)
 have hslX := knX _ (k_ll 0 rfl)
 obtain ⟨xl, hqX⟩ : ∃ z, z = hs15.map (·.xs) := ⟨_, rfl⟩
 have hln : hs15.length = xl.length := by rw [hqX, List.length_map]
 rw [← hqX, hln] at hslX
 rw [hln]
 have hXX : xl = (islR bs R gX gY) := by rw [hqX, hx16]
 obtain ⟨-, hcX, hmX, heX⟩ := hslX.parts
 have hslB := Sl.mono _ _ _ _ _ extX.sub hslB
 have hslR := Sl.mono _ _ _ _ _ extX.sub hslR
 have heB := Elems.mono _ _ _ _ _ extX.sub heB
 have heR := Elems.mono _ _ _ _ _ extX.sub heR
 have hslWT := Sl.mono _ _ _ _ _ extX.sub hslWT
 have heWT := Elems.mono _ _ _ _ _ extX.sub heWT
 have hslWQ := Sl.mono _ _ _ _ _ extX.sub hslWQ
 have heWQ := Elems.mono _ _ _ _ _ extX.sub heWQ
 have hslWS := Sl.mono _ _ _ _ _ extX.sub hslWS
 have heWS := Elems.mono _ _ _ _ _ extX.sub heWS
 have hG := GR.mono extX.sub hG
 have hS : IsS (freeB bs) R gX gY xl := IsS.of hok hXX
 have hXl : xl.length ≤ 16 := by have := hS.heads_len; omega
 have hI : IslS bs R gX gY T S xl := ⟨hok, hS, hTS⟩
 have hSm := Nat.le_trans hcWS hmWS
 have htn := tn.toNat_lt
 refine c_region ?_
 refine l_val (v := .int .i64 (0)) rfl rfl rfl (e_move) ?_
 refine l_val (v := .int .i64 (0)) rfl rfl rfl (e_move) ?_
 refine l_val (v := .int .i64 (0)) rfl rfl rfl (e_add (a := (0 : Int)) (b := (0 : Int)) rfl rfl (by decide)) ?_
 refine l_val (v := .bool false) rfl rfl rfl (e_neq (a := (0 : Int)) (b := (0 : Int)) rfl rfl) ?_
 refine l_val (v := .bool false) rfl rfl rfl (e_move) ?_
 refine g_val (v := .pointer (some ⟨b12, 0, none⟩)) rfl rfl rfl rfl rfl (e_fieldPt (b := b12) (o := 0) rfl ty6) ?_
 refine g_val (v := .slice p6 (T.length) (c7)) rfl rfl rfl rfl rfl (e_load1 ty7 (v := .slice p6 (T.length) (c7)) rfl (k_pt 0 (cs := #[.slice p6 (T.length) (c7), .slice q8 (R.length) (d9), Ix (gX), Ix (gY)]) (vs := [.slice p6 (T.length) (c7)]) rfl rfl)) ?_
 refine g_val (v := Nx (T.length)) rfl rfl rfl rfl rfl (e_len (a := p6) (n := T.length) (c := c7) rfl ty8) ?_
 refine g_val (v := .pointer (some ⟨b5, 0, none⟩)) rfl rfl rfl rfl rfl (e_fieldPt (b := b5) (o := 0) rfl ty6) ?_
 refine g_val (v := .slice p1 (bs.length) (c2)) rfl rfl rfl rfl rfl (e_load1 ty7 (v := .slice p1 (bs.length) (c2)) rfl (k_pt 1 (cs := #[.slice p1 (bs.length) (c2), .slice q3 (R.length) (d4), Ix (gX), Ix (gY)]) (vs := [.slice p1 (bs.length) (c2)]) rfl rfl)) ?_
 refine g_val (v := Nx (bs.length)) rfl rfl rfl rfl rfl (e_len (a := p1) (n := bs.length) (c := c2) rfl ty8) ?_
 refine g_val (v := .bool (decide (((T.length : Nat) : Int) ≠ ((bs.length : Nat) : Int)))) rfl rfl rfl rfl rfl (e_neq (a := ((T.length : Nat) : Int)) (b := ((bs.length : Nat) : Int)) rfl rfl) ?_
 refine l_val (v := .bool (decide (((T.length : Nat) : Int) ≠ ((bs.length : Nat) : Int)))) rfl rfl rfl (e_pick_f rfl) ?_
 refine l_nil ?_
 refine f_then ?_
 refine c_if (((T.length : Nat) : Int) ≠ ((bs.length : Nat) : Int)) rfl (fun hc17 => ?_) (fun hc17 => ?_)
 ·
  exact absurd hc17 (by omega)
 ·
  refine c_skip ?_
  refine f_then ?_
  refine c_seq ?_
  refine c_region ?_
  refine l_val (v := .agg #[.slice p1 (bs.length) (c2), .slice q3 (R.length) (d4), Ix (gX), Ix (gY)]) rfl rfl rfl (e_load ty3 (cs := [.slice p1 (bs.length) (c2), .slice q3 (R.length) (d4), Ix (gX), Ix (gY)]) rfl (k_pt 1 (cs := #[.slice p1 (bs.length) (c2), .slice q3 (R.length) (d4), Ix (gX), Ix (gY)]) (vs := [.slice p1 (bs.length) (c2), .slice q3 (R.length) (d4), Ix (gX), Ix (gY)]) rfl rfl) rfl) ?_
  refine l_call rfl rfl rfl (cl_value (fst := []) (cap := []) (vs := [.agg #[.slice p1 (bs.length) (c2), .slice q3 (R.length) (d4), Ix (gX), Ix (gY)]]) (all := [.agg #[.slice p1 (bs.length) (c2), .slice q3 (R.length) (d4), Ix (gX), Ix (gY)]]) ty9 rfl rfl rfl) ?_
  intro w hw
  obtain ⟨β1, sb, kn, hw1, back⟩ := St.frame_all hw
  refine (copyS_ok β1 w hw1 _ _ gX gY bs R (Sl.mono _ _ _ _ _ sb hslB) (Sl.mono _ _ _ _ _ sb hslR) (by omega) (by omega)).mono ?_
  rintro e w' ⟨p18, c19, q20, d21, rfl, hw'⟩
  refine ⟨_, rfl, _, back _ _ hw', ?_⟩
  clear hw hw1 hw' back kn sb
  refine l_mv rfl rfl rfl (m_alloc ty2) ?_
  rintro _ _ ⟨b22, rfl, rfl⟩
  refine l_mu rfl rfl (m_store 0 ty3 (b := b22) (o := 0) (T := 30) (cs := #[.slice none 0 0, .slice none 0 0, .int .i64 (0), .int .i64 (0)]) (cs' := #[.slice p18 (bs.length) c19, .slice q20 (R.length) d21, Ix (gX), Ix (gY)]) (v := .agg #[.slice p18 (bs.length) c19, .slice q20 (R.length) d21, Ix (gX), Ix (gY)]) rfl rfl rfl rfl rfl rfl rfl) ?_
  refine l_nil ?_
  refine f_then ?_
  refine c_seq ?_
  refine c_region ?_
  refine l_val (v := .int .i64 (0)) rfl rfl rfl (e_assign) ?_
  refine l_nil ?_
  refine f_then ?_
  refine c_seq ?_
  refine c_seq ?_
  refine c_region ?_
  refine l_val (v := .slice p13 (xl.length) (c14)) rfl rfl rfl (e_move) ?_
  refine l_val (v := Nx (xl.length)) rfl rfl rfl (e_len (a := p13) (n := xl.length) (c := c14) rfl ty10) ?_
  refine l_val (v := .int .i64 (0)) rfl rfl rfl (e_move) ?_
  refine l_nil ?_
  refine f_then ?_
  refine c_block ?_
  refine c_loop (fun (x_ : Nat × List Int × List KB) (f : Fm) (L : List Res) => match x_ with | (k, d, ob) => (f 4 = Bx (tn) ∧ f 11 = .pointer (some ⟨b5, 0, none⟩) ∧ f 12 = .pointer (some ⟨b12, 0, none⟩) ∧ f 13 = .slice sp10 (S.length) (sc11) ∧ f 15 = .slice p13 (xl.length) (c14) ∧ f 17 = .pointer (some ⟨b22, 0, none⟩) ∧ f 18 = Nx ((seenI S xl tn.toNat k)) ∧ f 74 = Nx (xl.length) ∧ f 75 = Nx (k)) ∧ L = [pt b22 (.cells #[.slice p18 (bs.length) c19, .slice q20 (R.length) d21, Ix (gX), Ix (gY)] 30), rowF BodyF 52 p18 c19 ob, rowF RopeF 78 q20 d21 R, pt b12 (.cells #[.slice p6 (T.length) (c7), .slice q8 (R.length) (d9), Ix (gX), Ix (gY)] 30), pt b5 (.cells #[.slice p1 (bs.length) (c2), .slice q3 (R.length) (d4), Ix (gX), Ix (gY)] 30)] ∧ (k ≤ xl.length ∧ DoneI bs xl tn.toNat k d ∧ ob = mixB d bs T)) (fun (x_ : Nat × List Int × List KB) => match x_ with | (k, d, ob) => xl.length - k) (0, [], bs) ?_ ?_
  ·exact ⟨⟨rfl, rfl, rfl, rfl, rfl, rfl, congrArg (fun z : Nat => Nx z) (seen_zero S xl tn.toNat).symm, rfl, rfl⟩, rfl, ⟨by omega, done_nil _ _ _, hI.start.symm⟩⟩
  rintro ⟨k, d, ob⟩ f0 L0 ⟨⟨hs4, hs11, hs12, hs13, hs15, hs17, hs18, hs74, hs75⟩, hL, ⟨hk, hd, hob⟩⟩
  subst L0
  refine rebase (d := 4) hs4 ?_
  refine rebase (d := 11) hs11 ?_
  refine rebase (d := 12) hs12 ?_
  refine rebase (d := 13) hs13 ?_
  refine rebase (d := 15) hs15 ?_
  refine rebase (d := 17) hs17 ?_
  refine rebase (d := 18) hs18 ?_
  refine rebase (d := 74) hs74 ?_
  refine rebase (d := 75) hs75 ?_
  clear hs4 hs11 hs12 hs13 hs15 hs17 hs18 hs74 hs75
  have hobl : ob.length = bs.length := by rw [hob]; exact mix_len hI.twin
  have hsl1 := seen_le S xl tn.toNat k
  refine c_seq ?_
  refine c_region ?_
  refine l_val (v := .bool (decide (((k : Nat) : Int) < ((xl.length : Nat) : Int)))) rfl rfl rfl (e_lss (a := ((k : Nat) : Int)) (b := ((xl.length : Nat) : Int)) rfl rfl) ?_
  refine l_nil ?_
  refine f_then ?_
  refine c_seq ?_
  refine c_if (((k : Nat) : Int) < ((xl.length : Nat) : Int)) rfl (fun hc23 => ?_) (fun hc23 => ?_)
  ·
   refine c_skip ?_
   refine f_then ?_
   refine c_seq ?_
   refine c_block ?_
   refine c_seq ?_
   refine c_region ?_
   refine l_val (v := Nx (k)) rfl rfl rfl (e_move) ?_
   refine l_val (v := Nx (k)) rfl rfl rfl (e_assign) ?_
   refine l_nil ?_
   refine f_then ?_
   refine c_seq ?_
   have hml := Nat.mod_lt (k + tn.toNat) (show 0 < xl.length by omega)
   refine c_region ?_
   refine l_val (v := .slice p13 (xl.length) (c14)) rfl rfl rfl (e_move) ?_
   refine l_val (v := Nx (k)) rfl rfl rfl (e_move) ?_
   refine l_val (v := Bx (tn)) rfl rfl rfl (e_move) ?_
   refine l_val (v := Nx (tn.toNat)) rfl rfl rfl (e_conv (a := ((tn).toNat : Int)) rfl ⟨_, ty11⟩ ty12 (i64n rfl (by have := (tn).toNat_lt; omega))) ?_
   refine l_val (v := Nx (k + tn.toNat)) rfl rfl rfl (e_add (a := ((k : Nat) : Int)) (b := ((tn.toNat : Nat) : Int)) rfl rfl (i64n (by omega) (by omega))) ?_
   refine l_val (v := .slice p13 (xl.length) (c14)) rfl rfl rfl (e_move) ?_
   refine l_val (v := Nx (xl.length)) rfl rfl rfl (e_len (a := p13) (n := xl.length) (c := c14) rfl ty10) ?_
   refine l_val (v := Nx ((k + tn.toNat) % xl.length)) rfl rfl rfl (e_rem (a := ((k + tn.toNat : Nat) : Int)) (b := ((xl.length : Nat) : Int)) rfl rfl (by omega) (nat_tmod _ _)) ?_
   obtain ⟨x24, hx25⟩ : ∃ x_, (xl)[(k + tn.toNat) % xl.length]? = some x_ := ⟨_, List.getElem?_eq_getElem (by omega)⟩
   obtain ⟨ha26, cs27, hc28, hr29⟩ := heX _ _ hx25
   obtain ⟨v30, rfl, hv31⟩ := hr29
   obtain ⟨a32, c33, rfl, hl34, hm35, he36⟩ := (hv31).get
   have hposx24 := hS.first hx25
   have hrlx24 := row_len hS hx25
   refine l_val (v := .pointer (some ((ba p13).add (((k + tn.toNat) % xl.length) * 1)))) rfl rfl rfl (e_indexAddr (k := (k + tn.toNat) % xl.length) (len := xl.length) (cap := c14) (a := p13) rfl rfl ty13 (by omega) ha26) ?_
   refine l_val (v := .slice a32 (x24.length) (c33)) rfl rfl rfl (e_load1 ty14 (v := .slice a32 (x24.length) (c33)) rfl (Knows.of_base (Cs.mono _ _) hc28)) ?_
   refine l_val (v := .slice a32 (x24.length) (c33)) rfl rfl rfl (e_assign) ?_
   refine l_nil ?_
   refine f_then ?_
   refine c_seq ?_
   obtain ⟨P, hP⟩ : ∃ z, z = partB x24 bs := ⟨_, rfl⟩
   obtain ⟨Q, hQ⟩ : ∃ z, z = partR P R := ⟨_, rfl⟩
   obtain ⟨TP, hTP⟩ : ∃ z, z = partB x24 T := ⟨_, rfl⟩
   obtain ⟨SP, hSP⟩ : ∃ z, z = S.filter fun s => decide (s.id ∈ x24) := ⟨_, rfl⟩
   have hPm : partB x24 ob = P := by rw [hP, hob]; exact hI.part hd (by omega) hx25
   have hst : stepsTo Q gX gY P P.length = (TP, SP) := by rw [hQ, hP, hTP, hSP]; exact hI.steps hx25
   have hokP : okS P Q gX gY := by rw [hQ, hP]; exact part_okS hok x24
   have hokM : okS ob R gX gY := by rw [hob]; exact hI.okM d
   have hfrM : ∀ z ∈ x24, freeAt ob z := by rw [hob]; exact hI.freeM hx25
   have hPl : P.length ≤ bs.length := by rw [hP]; exact partB_len _ _
   have hQl : Q.length ≤ R.length := by rw [hQ]; exact partR_len _ _
   have hTPl : TP.length ≤ T.length := by rw [hTP]; exact partB_len _ _
   have hSPl : SP.length ≤ S.length := by rw [hSP]; exact List.length_filter_le _ _
   have hsn := hI.seen (t := tn.toNat) (by omega) hx25
   rw [← hSP] at hsn
   have hsl2 := seen_le S xl tn.toNat (k + 1)
   refine c_region ?_
   refine l_val (v := .agg #[.slice p18 (bs.length) c19, .slice q20 (R.length) d21, Ix (gX), Ix (gY)]) rfl rfl rfl (e_load ty3 (cs := [.slice p18 (bs.length) c19, .slice q20 (R.length) d21, Ix (gX), Ix (gY)]) rfl (k_pt 0 (cs := #[.slice p18 (bs.length) c19, .slice q20 (R.length) d21, Ix (gX), Ix (gY)]) (vs := [.slice p18 (bs.length) c19, .slice q20 (R.length) d21, Ix (gX), Ix (gY)]) rfl rfl) rfl) ?_
   refine l_val (v := .slice a32 (x24.length) (c33)) rfl rfl rfl (e_move) ?_
   refine l_call rfl rfl rfl (cl_value (fst := []) (cap := []) (vs := [.agg #[.slice p18 (bs.length) c19, .slice q20 (R.length) d21, Ix (gX), Ix (gY)], .slice a32 (x24.length) (c33)]) (all := [.agg #[.slice p18 (bs.length) c19, .slice q20 (R.length) d21, Ix (gX), Ix (gY)], .slice a32 (x24.length) (c33)]) ty15 rfl rfl rfl) ?_
   intro w hw
   obtain ⟨β1, sb, kn, hw1, back⟩ := St.frame_all hw
   refine (partM_ok β1 w hw1 _ _ _ gX gY ob R x24 (kn _ (k_flN 1 (F := BodyF) (m := bs.length) rfl (by omega))) (kn _ (k_flN 2 (F := RopeF) (m := R.length) rfl rfl)) (Sl.mono _ _ _ _ _ sb (⟨⟨_, _, rfl, by omega, by omega, he36⟩⟩ : Sl IntF.R _ _ x24)) (by omega) (by omega) hokM hfrM P hPm Q hQ.symm).mono ?_
   rintro e w' ⟨p37, c38, q39, d40, rfl, hw'⟩
   refine ⟨_, rfl, _, back _ _ hw', ?_⟩
   clear hw hw1 hw' back kn sb
   refine l_val (v := .tuple #[.agg #[.slice p37 (P.length) c38, .slice q39 (Q.length) d40, Ix (gX), Ix (gY)], .int .i64 (0)]) rfl rfl rfl (e_move) ?_
   refine l_val (v := .agg #[.slice p37 (P.length) c38, .slice q39 (Q.length) d40, Ix (gX), Ix (gY)]) rfl rfl rfl (e_extract (vs := #[.agg #[.slice p37 (P.length) c38, .slice q39 (Q.length) d40, Ix (gX), Ix (gY)], .int .i64 (0)]) rfl rfl) ?_
   refine l_val (v := .int .i64 (0)) rfl rfl rfl (e_extract (vs := #[.agg #[.slice p37 (P.length) c38, .slice q39 (Q.length) d40, Ix (gX), Ix (gY)], .int .i64 (0)]) rfl rfl) ?_
   refine l_mv rfl rfl rfl (m_alloc ty2) ?_
   rintro _ _ ⟨b41, rfl, rfl⟩
   refine l_mu rfl rfl (m_store 0 ty3 (b := b41) (o := 0) (T := 30) (cs := #[.slice none 0 0, .slice none 0 0, .int .i64 (0), .int .i64 (0)]) (cs' := #[.slice p37 (P.length) c38, .slice q39 (Q.length) d40, Ix (gX), Ix (gY)]) (v := .agg #[.slice p37 (P.length) c38, .slice q39 (Q.length) d40, Ix (gX), Ix (gY)]) rfl rfl rfl rfl rfl rfl rfl) ?_
   refine l_val (v := .int .i64 (0)) rfl rfl rfl (e_assign) ?_
   refine l_nil ?_
   refine f_then ?_
   refine c_seq ?_
   refine c_region ?_
   refine l_val (v := .agg #[.slice p1 (bs.length) (c2), .slice q3 (R.length) (d4), Ix (gX), Ix (gY)]) rfl rfl rfl (e_load ty3 (cs := [.slice p1 (bs.length) (c2), .slice q3 (R.length) (d4), Ix (gX), Ix (gY)]) rfl (k_pt 7 (cs := #[.slice p1 (bs.length) (c2), .slice q3 (R.length) (d4), Ix (gX), Ix (gY)]) (vs := [.slice p1 (bs.length) (c2), .slice q3 (R.length) (d4), Ix (gX), Ix (gY)]) rfl rfl) rfl) ?_
   refine l_val (v := .slice a32 (x24.length) (c33)) rfl rfl rfl (e_move) ?_
   refine l_call rfl rfl rfl (cl_value (fst := []) (cap := []) (vs := [.agg #[.slice p1 (bs.length) (c2), .slice q3 (R.length) (d4), Ix (gX), Ix (gY)], .slice a32 (x24.length) (c33)]) (all := [.agg #[.slice p1 (bs.length) (c2), .slice q3 (R.length) (d4), Ix (gX), Ix (gY)], .slice a32 (x24.length) (c33)]) ty15 rfl rfl rfl) ?_
   intro w hw
   obtain ⟨β1, sb, kn, hw1, back⟩ := St.frame_all hw
   refine (partM_ok β1 w hw1 _ _ _ gX gY bs R x24 (Sl.mono _ _ _ _ _ sb hslB) (Sl.mono _ _ _ _ _ sb hslR) (Sl.mono _ _ _ _ _ sb (⟨⟨_, _, rfl, by omega, by omega, he36⟩⟩ : Sl IntF.R _ _ x24)) (by omega) (by omega) hok (hI.free hx25) P hP.symm Q hQ.symm).mono ?_
   rintro e w' ⟨p42, c43, q44, d45, rfl, hw'⟩
   refine ⟨_, rfl, _, back _ _ hw', ?_⟩
   clear hw hw1 hw' back kn sb
   refine l_val (v := .tuple #[.agg #[.slice p42 (P.length) c43, .slice q44 (Q.length) d45, Ix (gX), Ix (gY)], .int .i64 (0)]) rfl rfl rfl (e_move) ?_
   refine l_val (v := .agg #[.slice p42 (P.length) c43, .slice q44 (Q.length) d45, Ix (gX), Ix (gY)]) rfl rfl rfl (e_extract (vs := #[.agg #[.slice p42 (P.length) c43, .slice q44 (Q.length) d45, Ix (gX), Ix (gY)], .int .i64 (0)]) rfl rfl) ?_
   refine l_val (v := .int .i64 (0)) rfl rfl rfl (e_extract (vs := #[.agg #[.slice p42 (P.length) c43, .slice q44 (Q.length) d45, Ix (gX), Ix (gY)], .int .i64 (0)]) rfl rfl) ?_
   refine l_mv rfl rfl rfl (m_alloc ty2) ?_
   rintro _ _ ⟨b46, rfl, rfl⟩
   refine l_mu rfl rfl (m_store 0 ty3 (b := b46) (o := 0) (T := 30) (cs := #[.slice none 0 0, .slice none 0 0, .int .i64 (0), .int .i64 (0)]) (cs' := #[.slice p42 (P.length) c43, .slice q44 (Q.length) d45, Ix (gX), Ix (gY)]) (v := .agg #[.slice p42 (P.length) c43, .slice q44 (Q.length) d45, Ix (gX), Ix (gY)]) rfl rfl rfl rfl rfl rfl rfl) ?_
   refine l_val (v := .int .i64 (0)) rfl rfl rfl (e_assign) ?_
   refine l_nil ?_
   refine f_then ?_
   refine c_seq ?_
   refine c_region ?_
   refine l_val (v := .agg #[.slice p37 (P.length) c38, .slice q39 (Q.length) d40, Ix (gX), Ix (gY)]) rfl rfl rfl (e_load ty3 (cs := [.slice p37 (P.length) c38, .slice q39 (Q.length) d40, Ix (gX), Ix (gY)]) rfl (k_pt 3 (cs := #[.slice p37 (P.length) c38, .slice q39 (Q.length) d40, Ix (gX), Ix (gY)]) (vs := [.slice p37 (P.length) c38, .slice q39 (Q.length) d40, Ix (gX), Ix (gY)]) rfl rfl) rfl) ?_
   refine l_call rfl rfl rfl (cl_value (fst := []) (cap := []) (vs := [.agg #[.slice p37 (P.length) c38, .slice q39 (Q.length) d40, Ix (gX), Ix (gY)]]) (all := [.agg #[.slice p37 (P.length) c38, .slice q39 (Q.length) d40, Ix (gX), Ix (gY)]]) ty4 rfl rfl rfl) ?_
   intro w hw
   obtain ⟨β1, sb, kn, hw1, back⟩ := St.frame_all hw
   refine (stepZ_ok β1 w hw1 _ _ gX gY P Q (kn _ (k_flN 4 (F := BodyF) (m := P.length) rfl rfl)) (kn _ (k_flN 5 (F := RopeF) (m := Q.length) rfl rfl)) (by omega) (by omega) (GR.mono sb hG) hokP TP SP hst).mono ?_
   rintro e w' ⟨p47, c48, q49, d50, sp51, sc52, rfl, hw'⟩
   refine ⟨_, rfl, _, back _ _ hw', ?_⟩
   clear hw hw1 hw' back kn sb
   refine l_val (v := .tuple #[.agg #[.slice p47 (TP.length) c48, .slice q49 (Q.length) d50, Ix (gX), Ix (gY)], .slice sp51 (SP.length) sc52, .int .i64 (0)]) rfl rfl rfl (e_move) ?_
   refine l_val (v := .agg #[.slice p47 (TP.length) c48, .slice q49 (Q.length) d50, Ix (gX), Ix (gY)]) rfl rfl rfl (e_extract (vs := #[.agg #[.slice p47 (TP.length) c48, .slice q49 (Q.length) d50, Ix (gX), Ix (gY)], .slice sp51 (SP.length) sc52, .int .i64 (0)]) rfl rfl) ?_
   refine l_val (v := .slice sp51 (SP.length) sc52) rfl rfl rfl (e_extract (vs := #[.agg #[.slice p47 (TP.length) c48, .slice q49 (Q.length) d50, Ix (gX), Ix (gY)], .slice sp51 (SP.length) sc52, .int .i64 (0)]) rfl rfl) ?_
   refine l_val (v := .int .i64 (0)) rfl rfl rfl (e_extract (vs := #[.agg #[.slice p47 (TP.length) c48, .slice q49 (Q.length) d50, Ix (gX), Ix (gY)], .slice sp51 (SP.length) sc52, .int .i64 (0)]) rfl rfl) ?_
   refine l_mv rfl rfl rfl (m_alloc ty2) ?_
   rintro _ _ ⟨b53, rfl, rfl⟩
   refine l_mu rfl rfl (m_store 0 ty3 (b := b53) (o := 0) (T := 30) (cs := #[.slice none 0 0, .slice none 0 0, .int .i64 (0), .int .i64 (0)]) (cs' := #[.slice p47 (TP.length) c48, .slice q49 (Q.length) d50, Ix (gX), Ix (gY)]) (v := .agg #[.slice p47 (TP.length) c48, .slice q49 (Q.length) d50, Ix (gX), Ix (gY)]) rfl rfl rfl rfl rfl rfl rfl) ?_
   refine l_val (v := .slice sp51 (SP.length) sc52) rfl rfl rfl (e_assign) ?_
   refine l_val (v := .int .i64 (0)) rfl rfl rfl (e_assign) ?_
   refine l_nil ?_
   refine f_then ?_
   refine c_seq ?_
   refine c_region ?_
   refine l_val (v := .agg #[.slice p42 (P.length) c43, .slice q44 (Q.length) d45, Ix (gX), Ix (gY)]) rfl rfl rfl (e_load ty3 (cs := [.slice p42 (P.length) c43, .slice q44 (Q.length) d45, Ix (gX), Ix (gY)]) rfl (k_pt 4 (cs := #[.slice p42 (P.length) c43, .slice q44 (Q.length) d45, Ix (gX), Ix (gY)]) (vs := [.slice p42 (P.length) c43, .slice q44 (Q.length) d45, Ix (gX), Ix (gY)]) rfl rfl) rfl) ?_
   refine l_call rfl rfl rfl (cl_value (fst := []) (cap := []) (vs := [.agg #[.slice p42 (P.length) c43, .slice q44 (Q.length) d45, Ix (gX), Ix (gY)]]) (all := [.agg #[.slice p42 (P.length) c43, .slice q44 (Q.length) d45, Ix (gX), Ix (gY)]]) ty4 rfl rfl rfl) ?_
   intro w hw
   obtain ⟨β1, sb, kn, hw1, back⟩ := St.frame_all hw
   refine (stepZ_ok β1 w hw1 _ _ gX gY P Q (kn _ (k_flN 5 (F := BodyF) (m := P.length) rfl rfl)) (kn _ (k_flN 6 (F := RopeF) (m := Q.length) rfl rfl)) (by omega) (by omega) (GR.mono sb hG) hokP TP SP hst).mono ?_
   rintro e w' ⟨p54, c55, q56, d57, sp58, sc59, rfl, hw'⟩
   refine ⟨_, rfl, _, back _ _ hw', ?_⟩
   clear hw hw1 hw' back kn sb
   refine l_val (v := .tuple #[.agg #[.slice p54 (TP.length) c55, .slice q56 (Q.length) d57, Ix (gX), Ix (gY)], .slice sp58 (SP.length) sc59, .int .i64 (0)]) rfl rfl rfl (e_move) ?_
   refine l_val (v := .agg #[.slice p54 (TP.length) c55, .slice q56 (Q.length) d57, Ix (gX), Ix (gY)]) rfl rfl rfl (e_extract (vs := #[.agg #[.slice p54 (TP.length) c55, .slice q56 (Q.length) d57, Ix (gX), Ix (gY)], .slice sp58 (SP.length) sc59, .int .i64 (0)]) rfl rfl) ?_
   refine l_val (v := .slice sp58 (SP.length) sc59) rfl rfl rfl (e_extract (vs := #[.agg #[.slice p54 (TP.length) c55, .slice q56 (Q.length) d57, Ix (gX), Ix (gY)], .slice sp58 (SP.length) sc59, .int .i64 (0)]) rfl rfl) ?_
   refine l_val (v := .int .i64 (0)) rfl rfl rfl (e_extract (vs := #[.agg #[.slice p54 (TP.length) c55, .slice q56 (Q.length) d57, Ix (gX), Ix (gY)], .slice sp58 (SP.length) sc59, .int .i64 (0)]) rfl rfl) ?_
   refine l_mv rfl rfl rfl (m_alloc ty2) ?_
   rintro _ _ ⟨b60, rfl, rfl⟩
   refine l_mu rfl rfl (m_store 0 ty3 (b := b60) (o := 0) (T := 30) (cs := #[.slice none 0 0, .slice none 0 0, .int .i64 (0), .int .i64 (0)]) (cs' := #[.slice p54 (TP.length) c55, .slice q56 (Q.length) d57, Ix (gX), Ix (gY)]) (v := .agg #[.slice p54 (TP.length) c55, .slice q56 (Q.length) d57, Ix (gX), Ix (gY)]) rfl rfl rfl rfl rfl rfl rfl) ?_
   refine l_val (v := .slice sp58 (SP.length) sc59) rfl rfl rfl (e_assign) ?_
   refine l_val (v := .int .i64 (0)) rfl rfl rfl (e_assign) ?_
   refine l_nil ?_
   refine f_then ?_
   refine c_seq ?_
   refine c_seq ?_
   refine c_region ?_
   refine l_val (v := .int .i64 (0)) rfl rfl rfl (e_move) ?_
   refine l_val (v := .int .i64 (0)) rfl rfl rfl (e_move) ?_
   refine l_val (v := .int .i64 (0)) rfl rfl rfl (e_add (a := (0 : Int)) (b := (0 : Int)) rfl rfl (by decide)) ?_
   refine l_val (v := .int .i64 (0)) rfl rfl rfl (e_move) ?_
   refine l_val (v := .int .i64 (0)) rfl rfl rfl (e_add (a := (0 : Int)) (b := (0 : Int)) rfl rfl (by decide)) ?_
   refine l_val (v := .bool false) rfl rfl rfl (e_neq (a := (0 : Int)) (b := (0 : Int)) rfl rfl) ?_
   refine l_val (v := .bool false) rfl rfl rfl (e_move) ?_
   refine g_val (v := .agg #[.slice p47 (TP.length) c48, .slice q49 (Q.length) d50, Ix (gX), Ix (gY)]) rfl rfl rfl rfl rfl (e_load ty3 (cs := [.slice p47 (TP.length) c48, .slice q49 (Q.length) d50, Ix (gX), Ix (gY)]) rfl (k_pt 4 (cs := #[.slice p47 (TP.length) c48, .slice q49 (Q.length) d50, Ix (gX), Ix (gY)]) (vs := [.slice p47 (TP.length) c48, .slice q49 (Q.length) d50, Ix (gX), Ix (gY)]) rfl rfl) rfl) ?_
   refine g_val (v := .agg #[.slice p54 (TP.length) c55, .slice q56 (Q.length) d57, Ix (gX), Ix (gY)]) rfl rfl rfl rfl rfl (e_load ty3 (cs := [.slice p54 (TP.length) c55, .slice q56 (Q.length) d57, Ix (gX), Ix (gY)]) rfl (k_pt 0 (cs := #[.slice p54 (TP.length) c55, .slice q56 (Q.length) d57, Ix (gX), Ix (gY)]) (vs := [.slice p54 (TP.length) c55, .slice q56 (Q.length) d57, Ix (gX), Ix (gY)]) rfl rfl) rfl) ?_
   refine g_call rfl rfl rfl rfl rfl (cl_value (fst := []) (cap := []) (vs := [.agg #[.slice p47 (TP.length) c48, .slice q49 (Q.length) d50, Ix (gX), Ix (gY)], .agg #[.slice p54 (TP.length) c55, .slice q56 (Q.length) d57, Ix (gX), Ix (gY)]]) (all := [.agg #[.slice p47 (TP.length) c48, .slice q49 (Q.length) d50, Ix (gX), Ix (gY)], .agg #[.slice p54 (TP.length) c55, .slice q56 (Q.length) d57, Ix (gX), Ix (gY)]]) ty16 rfl rfl rfl) ?_
   intro w hw
   obtain ⟨β1, sb, kn, hw1, back⟩ := St.frame_all hw
   refine (eqScene_ok β1 w hw1 _ _ _ _ gX gY TP Q (kn _ (k_flN 5 (F := BodyF) (m := TP.length) rfl rfl)) (kn _ (k_flN 6 (F := RopeF) (m := Q.length) rfl rfl)) (kn _ (k_flN 1 (F := BodyF) (m := TP.length) rfl rfl)) (kn _ (k_flN 2 (F := RopeF) (m := Q.length) rfl rfl))).mono ?_
   rintro e w' ⟨rfl, hw'⟩
   refine ⟨_, rfl, _, back _ _ hw', ?_⟩
   clear hw hw1 hw' back kn sb
   refine g_val (v := .bool false) rfl rfl rfl rfl rfl (e_not (a := true) rfl) ?_
   refine l_val (v := .bool false) rfl rfl rfl (e_pick_f rfl) ?_
   refine l_val (v := .bool false) rfl rfl rfl (e_move) ?_
   refine g_val (v := .slice sp51 (SP.length) sc52) rfl rfl rfl rfl rfl (e_move) ?_
   refine g_val (v := .slice sp58 (SP.length) sc59) rfl rfl rfl rfl rfl (e_move) ?_
   refine g_call rfl rfl rfl rfl rfl (cl_value (fst := []) (cap := []) (vs := [.slice sp51 (SP.length) sc52, .slice sp58 (SP.length) sc59]) (all := [.slice sp51 (SP.length) sc52, .slice sp58 (SP.length) sc59]) ty17 rfl rfl rfl) ?_
   intro w hw
   obtain ⟨β1, sb, kn, hw1, back⟩ := St.frame_all hw
   refine (eqS_ok β1 w hw1 _ _ SP (kn _ (k_flN 7 (F := StopF) (m := SP.length) rfl rfl)) (kn _ (k_flN 3 (F := StopF) (m := SP.length) rfl rfl))).mono ?_
   rintro e w' ⟨rfl, hw'⟩
   refine ⟨_, rfl, _, back _ _ hw', ?_⟩
   clear hw hw1 hw' back kn sb
   refine g_val (v := .bool false) rfl rfl rfl rfl rfl (e_not (a := true) rfl) ?_
   refine l_val (v := .bool false) rfl rfl rfl (e_pick_f rfl) ?_
   refine l_nil ?_
   refine f_then ?_
   refine c_no rfl ?_
   refine c_skip ?_
   refine f_then ?_
   refine c_seq ?_
   refine c_region ?_
   refine l_val (v := Nx ((seenI S xl tn.toNat k))) rfl rfl rfl (e_move) ?_
   refine l_val (v := .slice sp51 (SP.length) sc52) rfl rfl rfl (e_move) ?_
   refine l_val (v := Nx (SP.length)) rfl rfl rfl (e_len (a := sp51) (n := SP.length) (c := sc52) rfl ty18) ?_
   refine l_val (v := Nx ((seenI S xl tn.toNat k) + SP.length)) rfl rfl rfl (e_add (a := (((seenI S xl tn.toNat k) : Nat) : Int)) (b := ((SP.length : Nat) : Int)) rfl rfl (i64n (by omega) (by omega))) ?_
   refine l_val (v := Nx ((seenI S xl tn.toNat k) + SP.length)) rfl rfl rfl (e_assign) ?_
   refine l_nil ?_
   refine f_then ?_
   refine c_seq ?_
   refine c_seq ?_
   refine c_region ?_
   refine l_val (v := .pointer (some ⟨b53, 0, none⟩)) rfl rfl rfl (e_fieldPt (b := b53) (o := 0) rfl ty6) ?_
   refine l_val (v := .slice p47 (TP.length) c48) rfl rfl rfl (e_load1 ty7 (v := .slice p47 (TP.length) c48) rfl (k_pt 4 (cs := #[.slice p47 (TP.length) c48, .slice q49 (Q.length) d50, Ix (gX), Ix (gY)]) (vs := [.slice p47 (TP.length) c48]) rfl rfl)) ?_
   refine l_val (v := Nx (TP.length)) rfl rfl rfl (e_len (a := p47) (n := TP.length) (c := c48) rfl ty8) ?_
   refine l_val (v := .int .i64 (0)) rfl rfl rfl (e_move) ?_
   refine l_nil ?_
   refine f_then ?_
   refine c_block ?_
   refine c_loop (fun (x_ : Nat × List KB) (f : Fm) (L : List Res) => match x_ with | (k2, ob2) => (f 4 = Bx (tn) ∧ f 11 = .pointer (some ⟨b5, 0, none⟩) ∧ f 12 = .pointer (some ⟨b12, 0, none⟩) ∧ f 13 = .slice sp10 (S.length) (sc11) ∧ f 15 = .slice p13 (xl.length) (c14) ∧ f 17 = .pointer (some ⟨b22, 0, none⟩) ∧ f 18 = Nx ((seenI S xl tn.toNat k) + SP.length) ∧ f 20 = .slice a32 (x24.length) (c33) ∧ f 26 = .slice sp51 (SP.length) sc52 ∧ f 74 = Nx (xl.length) ∧ f 75 = Nx (k) ∧ f 135 = .slice p47 (TP.length) c48 ∧ f 136 = Nx (TP.length) ∧ f 137 = Nx (k2)) ∧ L = [pt b60 (.cells #[.slice p54 (TP.length) c55, .slice q56 (Q.length) d57, Ix (gX), Ix (gY)] 30), rowF BodyF 52 p54 c55 TP, rowF RopeF 78 q56 d57 Q, rowF StopF 55 sp58 sc59 SP, pt b53 (.cells #[.slice p47 (TP.length) c48, .slice q49 (Q.length) d50, Ix (gX), Ix (gY)] 30), rowF BodyF 52 p47 c48 TP, rowF RopeF 78 q49 d50 Q, rowF StopF 55 sp51 sc52 SP, pt b46 (.cells #[.slice p42 (P.length) c43, .slice q44 (Q.length) d45, Ix (gX), Ix (gY)] 30), rowF BodyF 52 p42 c43 P, rowF RopeF 78 q44 d45 Q, pt b41 (.cells #[.slice p37 (P.length) c38, .slice q39 (Q.length) d40, Ix (gX), Ix (gY)] 30), rowF BodyF 52 p37 c38 P, rowF RopeF 78 q39 d40 Q, pt b22 (.cells #[.slice p18 (bs.length) c19, .slice q20 (R.length) d21, Ix (gX), Ix (gY)] 30), rowF BodyF 52 p18 c19 ob2, rowF RopeF 78 q20 d21 R, pt b12 (.cells #[.slice p6 (T.length) (c7), .slice q8 (R.length) (d9), Ix (gX), Ix (gY)] 30), pt b5 (.cells #[.slice p1 (bs.length) (c2), .slice q3 (R.length) (d4), Ix (gX), Ix (gY)] 30)] ∧ (k2 ≤ TP.length ∧ ob2 = mixB (d ++ (TP.take k2).map (·.id)) bs T)) (fun (x_ : Nat × List KB) => match x_ with | (k2, ob2) => TP.length - k2) (0, ob) ?_ ?_
   ·exact ⟨⟨rfl, rfl, rfl, rfl, rfl, rfl, rfl, rfl, rfl, rfl, rfl, rfl, rfl, rfl⟩, rfl, ⟨by omega, by rw [hob]; simp⟩⟩
   rintro ⟨k2, ob2⟩ f0 L0 ⟨⟨hs4, hs11, hs12, hs13, hs15, hs17, hs18, hs20, hs26, hs74, hs75, hs135, hs136, hs137⟩, hL, ⟨hk2, hob2⟩⟩
   subst L0
   refine rebase (d := 4) hs4 ?_
   refine rebase (d := 11) hs11 ?_
   refine rebase (d := 12) hs12 ?_
   refine rebase (d := 13) hs13 ?_
   refine rebase (d := 15) hs15 ?_
   refine rebase (d := 17) hs17 ?_
   refine rebase (d := 18) hs18 ?_
   refine rebase (d := 20) hs20 ?_
   refine rebase (d := 26) hs26 ?_
   refine rebase (d := 74) hs74 ?_
   refine rebase (d := 75) hs75 ?_
   refine rebase (d := 135) hs135 ?_
   refine rebase (d := 136) hs136 ?_
   refine rebase (d := 137) hs137 ?_
   clear hs4 hs11 hs12 hs13 hs15 hs17 hs18 hs20 hs26 hs74 hs75 hs135 hs136 hs137
   have hobl2 : ob2.length = bs.length := by rw [hob2]; exact mix_len hI.twin
   refine c_seq ?_
   refine c_region ?_
   refine l_val (v := .bool (decide (((k2 : Nat) : Int) < ((TP.length : Nat) : Int)))) rfl rfl rfl (e_lss (a := ((k2 : Nat) : Int)) (b := ((TP.length : Nat) : Int)) rfl rfl) ?_
   refine l_nil ?_
   refine f_then ?_
   refine c_seq ?_
   refine c_if (((k2 : Nat) : Int) < ((TP.length : Nat) : Int)) rfl (fun hc61 => ?_) (fun hc61 => ?_)
   ·
    refine c_skip ?_
    refine f_then ?_
    refine c_seq ?_
    refine c_block ?_
    refine c_seq ?_
    refine c_region ?_
    refine l_val (v := .pointer (some ((ba p47).add (k2 * 9)))) rfl rfl rfl (e_indexFlN 5 (F := BodyF) (j := k2) (m := TP.length) (xs := TP) rfl rfl rfl ty19 (by omega) rfl) ?_
    obtain ⟨x62, hx63⟩ : ∃ x_, TP[k2]? = some x_ := ⟨_, List.getElem?_eq_getElem (by omega)⟩
    refine l_val (v := .agg (bC x62)) rfl rfl rfl (e_load ty20 (cs := (bodyE x62)) rfl (k_flAt 5 (F := BodyF) rfl hx63) rfl) ?_
    refine l_mv rfl rfl rfl (m_alloc ty21) ?_
    rintro _ _ ⟨b64, rfl, rfl⟩
    refine l_mu rfl rfl (m_store 0 ty20 (b := b64) (o := 0) (T := 52) (cs := #[.int .i64 (0), .int .i64 (0), .int .i64 (0), .int .i64 (0), .int .i64 (0), .int .i64 (0), .int .i64 (0), .bool false, .bool false]) (cs' := (bC x62)) (v := .agg (bC x62)) rfl rfl rfl rfl rfl rfl rfl) ?_
    refine l_nil ?_
    refine f_then ?_
    refine c_seq ?_
    refine c_region ?_
    refine l_val (v := .agg #[.slice p1 (bs.length) (c2), .slice q3 (R.length) (d4), Ix (gX), Ix (gY)]) rfl rfl rfl (e_load ty3 (cs := [.slice p1 (bs.length) (c2), .slice q3 (R.length) (d4), Ix (gX), Ix (gY)]) rfl (k_pt 19 (cs := #[.slice p1 (bs.length) (c2), .slice q3 (R.length) (d4), Ix (gX), Ix (gY)]) (vs := [.slice p1 (bs.length) (c2), .slice q3 (R.length) (d4), Ix (gX), Ix (gY)]) rfl rfl) rfl) ?_
    refine l_val (v := .pointer (some ⟨b64, 0, none⟩)) rfl rfl rfl (e_fieldPt (b := b64) (o := 0) rfl ty22) ?_
    refine l_val (v := Ix (x62.id)) rfl rfl rfl (e_load1 ty23 (v := Ix (x62.id)) rfl (k_pt 0 (cs := (bC x62)) (vs := [Ix (x62.id)]) rfl rfl)) ?_
    have hb' := hx63
    rw [hTP] at hb'
    obtain ⟨m, z, em, hml, hzm, htm, ezm⟩ := hI.at_ hb'
    have hmT : m < T.length := by omega
    refine l_call rfl rfl rfl (cl_value (fst := []) (cap := []) (vs := [.agg #[.slice p1 (bs.length) (c2), .slice q3 (R.length) (d4), Ix (gX), Ix (gY)], Ix (x62.id)]) (all := [.agg #[.slice p1 (bs.length) (c2), .slice q3 (R.length) (d4), Ix (gX), Ix (gY)], Ix (x62.id)]) ty24 rfl rfl rfl) ?_
    intro w hw
    obtain ⟨β1, sb, kn, hw1, back⟩ := St.frame_all hw
    refine (findN_ok β1 w hw1 _ _ gX gY bs (Sl.mono _ _ _ _ _ sb hslB) _ m em).mono ?_
    rintro e w' ⟨rfl, hw'⟩
    refine ⟨_, rfl, _, back _ _ hw', ?_⟩
    clear hw hw1 hw' back kn sb
    refine l_val (v := Nx (m)) rfl rfl rfl (e_assign) ?_
    refine l_nil ?_
    refine f_then ?_
    refine c_seq ?_
    refine c_seq ?_
    refine c_quiet (by kernel_rfl) (by kernel_rfl) ?_
    refine q_val (v := Nx (m)) rfl rfl rfl (e_move) ?_
    refine q_val (v := .bool (decide (((m : Nat) : Int) < (0 : Int)))) rfl rfl rfl (e_lss (a := ((m : Nat) : Int)) (b := (0 : Int)) rfl rfl) ?_
    refine q_val (v := .bool (decide (((m : Nat) : Int) < (0 : Int)))) rfl rfl rfl (e_move) ?_
    refine q_split (s := 147) (p := ((m : Nat) : Int) < (0 : Int)) rfl (fun h => ?_) (fun h => ?_)
    exact absurd h (by omega)
    refine qg_val (v := .pointer (some ⟨b12, 0, none⟩)) rfl rfl rfl rfl rfl (e_fieldPt (b := b12) (o := 0) rfl ty6) ?_
    refine qg_val (v := .slice p6 (T.length) (c7)) rfl rfl rfl rfl rfl (e_load1 ty7 (v := .slice p6 (T.length) (c7)) rfl (k_pt 18 (cs := #[.slice p6 (T.length) (c7), .slice q8 (R.length) (d9), Ix (gX), Ix (gY)]) (vs := [.slice p6 (T.length) (c7)]) rfl rfl)) ?_
    refine qg_val (v := Nx (m)) rfl rfl rfl rfl rfl (e_move) ?_
    obtain ⟨x65, hx66⟩ : ∃ x_, (T)[m]? = some x_ := ⟨_, List.getElem?_eq_getElem (by omega)⟩
    obtain ⟨ha67, cs68, hc69, rfl⟩ := heWT _ _ hx66
    refine qg_val (v := .pointer (some ((ba p6).add (m * 9)))) rfl rfl rfl rfl rfl (e_indexAddr (k := m) (len := T.length) (cap := c7) (a := p6) rfl rfl ty19 (by omega) ha67) ?_
    refine qg_val (v := .agg (bC x65)) rfl rfl rfl rfl rfl (e_load ty20 (cs := (bodyE x65)) rfl (Knows.of_base (Cs.mono _ _) hc69) rfl) ?_
    refine qg_val (v := .agg (bC x62)) rfl rfl rfl rfl rfl (e_load ty20 (cs := (bodyE x62)) rfl (k_pt 0 (cs := (bC x62)) (vs := (bodyE x62)) rfl rfl) rfl) ?_
    refine qg_val (v := .bool (decide (¬ (x65 = x62)))) rfl rfl rfl rfl rfl (e_neq_t (xs := (bodyE x65)) (ys := (bodyE x62)) ty25 ty26 ty27 rfl rfl rfl rfl (not_congr body_eq)) ?_
    refine q_val (v := .bool (decide (¬ (x65 = x62)))) rfl rfl rfl (e_pick_f rfl) ?_
    refine q_nil ?_
    refine f_then ?_
    refine c_if (¬ (x65 = x62)) rfl (fun hc71 => ?_) (fun hc71 => ?_)
    ·
     exact absurd hc71 (fun q => q (Option.some.inj (hx66.symm.trans htm)))
    ·
     refine c_skip ?_
     refine f_then ?_
     refine c_region ?_
     refine l_val (v := .pointer (some ⟨b22, 0, none⟩)) rfl rfl rfl (e_fieldPt (b := b22) (o := 0) rfl ty6) ?_
     refine l_val (v := .slice p18 (bs.length) c19) rfl rfl rfl (e_load1 ty7 (v := .slice p18 (bs.length) c19) rfl (k_pt 15 (cs := #[.slice p18 (bs.length) c19, .slice q20 (R.length) d21, Ix (gX), Ix (gY)]) (vs := [.slice p18 (bs.length) c19]) rfl rfl)) ?_
     refine l_val (v := Nx (m)) rfl rfl rfl (e_move) ?_
     refine l_val (v := .agg (bC x62)) rfl rfl rfl (e_load ty20 (cs := (bodyE x62)) rfl (k_pt 0 (cs := (bC x62)) (vs := (bodyE x62)) rfl rfl) rfl) ?_
     refine l_val (v := .pointer (some ((ba p18).add (m * 9)))) rfl rfl rfl (e_indexFlN 16 (F := BodyF) (j := m) (m := bs.length) (xs := ob2) rfl (by omega) rfl ty19 (by omega) rfl) ?_
     refine l_mu rfl rfl (m_storeFl 16 (F := BodyF) (p := p18) (k := m) (xs := ob2) (z := x62) ty20 rfl rfl rfl rfl (by omega)) ?_
     refine l_nil ?_
     refine f_block ?_
     refine f_then ?_
     refine c_region ?_
     refine l_val (v := Nx (k2 + 1)) rfl rfl rfl (e_add (a := ((k2 : Nat) : Int)) (b := (1 : Int)) rfl rfl (i64n (by omega) (by omega))) ?_
     refine l_val (v := Nx (k2 + 1)) rfl rfl rfl (e_move) ?_
     refine l_nil ?_
     refine f_mask (L' := [pt b60 (.cells #[.slice p54 (TP.length) c55, .slice q56 (Q.length) d57, Ix (gX), Ix (gY)] 30), rowF BodyF 52 p54 c55 TP, rowF RopeF 78 q56 d57 Q, rowF StopF 55 sp58 sc59 SP, pt b53 (.cells #[.slice p47 (TP.length) c48, .slice q49 (Q.length) d50, Ix (gX), Ix (gY)] 30), rowF BodyF 52 p47 c48 TP, rowF RopeF 78 q49 d50 Q, rowF StopF 55 sp51 sc52 SP, pt b46 (.cells #[.slice p42 (P.length) c43, .slice q44 (Q.length) d45, Ix (gX), Ix (gY)] 30), rowF BodyF 52 p42 c43 P, rowF RopeF 78 q44 d45 Q, pt b41 (.cells #[.slice p37 (P.length) c38, .slice q39 (Q.length) d40, Ix (gX), Ix (gY)] 30), rowF BodyF 52 p37 c38 P, rowF RopeF 78 q39 d40 Q, pt b22 (.cells #[.slice p18 (bs.length) c19, .slice q20 (R.length) d21, Ix (gX), Ix (gY)] 30), rowF BodyF 52 p18 c19 (ob2.set m x62), rowF RopeF 78 q20 d21 R, pt b12 (.cells #[.slice p6 (T.length) (c7), .slice q8 (R.length) (d9), Ix (gX), Ix (gY)] 30), pt b5 (.cells #[.slice p1 (bs.length) (c2), .slice q3 (R.length) (d4), Ix (gX), Ix (gY)] 30)]) [false, true, true, true, true, true, true, true, true, true, true, true, true, true, true, true, true, true, true, true] rfl ?_
     exact f_cut ⟨(k2 + 1, (ob2.set m x62)), ⟨⟨rfl, rfl, rfl, rfl, rfl, rfl, rfl, rfl, rfl, rfl, rfl, rfl, rfl, rfl⟩, rfl, ⟨by omega, by rw [hob2, hTP]; exact hI.put hb' hzm htm ezm⟩⟩, (show TP.length - (k2 + 1) < TP.length - k2 from by omega)⟩
   ·
    refine c_exit ?_
    refine f_then_exit ?_
    refine f_then_exit ?_
    refine f_exit ?_
    refine f_then ?_
    refine c_seq ?_
    have htk : TP.take k2 = TP := List.take_of_length_le (by omega)
    rw [htk] at hob2
    obtain ⟨d2, hd2⟩ : ∃ z, z = d ++ TP.map (·.id) := ⟨_, rfl⟩
    rw [← hd2] at hob2
    have hdn : DoneI bs xl tn.toNat (k + 1) d2 := by rw [hd2, hTP]; exact hI.next hd hx25
    refine c_region ?_
    refine l_val (v := .int .i64 (0)) rfl rfl rfl (e_assign) ?_
    refine l_nil ?_
    refine f_then ?_
    refine c_seq ?_
    refine c_seq ?_
    refine c_region ?_
    refine l_val (v := .slice sp10 (S.length) (sc11)) rfl rfl rfl (e_move) ?_
    refine l_val (v := Nx (S.length)) rfl rfl rfl (e_len (a := sp10) (n := S.length) (c := sc11) rfl ty18) ?_
    refine l_val (v := .int .i64 (0)) rfl rfl rfl (e_move) ?_
    refine l_nil ?_
    refine f_then ?_
    refine c_block ?_
    refine c_loop (fun (k4 : Nat) (f : Fm) (L : List Res) => (f 4 = Bx (tn) ∧ f 11 = .pointer (some ⟨b5, 0, none⟩) ∧ f 12 = .pointer (some ⟨b12, 0, none⟩) ∧ f 13 = .slice sp10 (S.length) (sc11) ∧ f 15 = .slice p13 (xl.length) (c14) ∧ f 17 = .pointer (some ⟨b22, 0, none⟩) ∧ f 18 = Nx ((seenI S xl tn.toNat k) + SP.length) ∧ f 20 = .slice a32 (x24.length) (c33) ∧ f 26 = .slice sp51 (SP.length) sc52 ∧ f 34 = Nx (((S.take k4).filter fun s => decide (s.id ∈ x24)).length) ∧ f 74 = Nx (xl.length) ∧ f 75 = Nx (k) ∧ f 162 = .slice sp10 (S.length) (sc11) ∧ f 163 = Nx (S.length) ∧ f 164 = Nx (k4)) ∧ L = [pt b60 (.cells #[.slice p54 (TP.length) c55, .slice q56 (Q.length) d57, Ix (gX), Ix (gY)] 30), rowF BodyF 52 p54 c55 TP, rowF RopeF 78 q56 d57 Q, rowF StopF 55 sp58 sc59 SP, pt b53 (.cells #[.slice p47 (TP.length) c48, .slice q49 (Q.length) d50, Ix (gX), Ix (gY)] 30), rowF BodyF 52 p47 c48 TP, rowF RopeF 78 q49 d50 Q, rowF StopF 55 sp51 sc52 SP, pt b46 (.cells #[.slice p42 (P.length) c43, .slice q44 (Q.length) d45, Ix (gX), Ix (gY)] 30), rowF BodyF 52 p42 c43 P, rowF RopeF 78 q44 d45 Q, pt b41 (.cells #[.slice p37 (P.length) c38, .slice q39 (Q.length) d40, Ix (gX), Ix (gY)] 30), rowF BodyF 52 p37 c38 P, rowF RopeF 78 q39 d40 Q, pt b22 (.cells #[.slice p18 (bs.length) c19, .slice q20 (R.length) d21, Ix (gX), Ix (gY)] 30), rowF BodyF 52 p18 c19 ob2, rowF RopeF 78 q20 d21 R, pt b12 (.cells #[.slice p6 (T.length) (c7), .slice q8 (R.length) (d9), Ix (gX), Ix (gY)] 30), pt b5 (.cells #[.slice p1 (bs.length) (c2), .slice q3 (R.length) (d4), Ix (gX), Ix (gY)] 30)] ∧ (k4 ≤ S.length)) (fun (k4 : Nat) => S.length - k4) 0 ?_ ?_
    ·exact ⟨⟨rfl, rfl, rfl, rfl, rfl, rfl, rfl, rfl, rfl, rfl, rfl, rfl, rfl, rfl, rfl⟩, rfl, by omega⟩
    rintro k4 f0 L0 ⟨⟨hs4, hs11, hs12, hs13, hs15, hs17, hs18, hs20, hs26, hs34, hs74, hs75, hs162, hs163, hs164⟩, hL, hk4⟩
    subst L0
    refine rebase (d := 4) hs4 ?_
    refine rebase (d := 11) hs11 ?_
    refine rebase (d := 12) hs12 ?_
    refine rebase (d := 13) hs13 ?_
    refine rebase (d := 15) hs15 ?_
    refine rebase (d := 17) hs17 ?_
    refine rebase (d := 18) hs18 ?_
    refine rebase (d := 20) hs20 ?_
    refine rebase (d := 26) hs26 ?_
    refine rebase (d := 34) hs34 ?_
    refine rebase (d := 74) hs74 ?_
    refine rebase (d := 75) hs75 ?_
    refine rebase (d := 162) hs162 ?_
    refine rebase (d := 163) hs163 ?_
    refine rebase (d := 164) hs164 ?_
    clear hs4 hs11 hs12 hs13 hs15 hs17 hs18 hs20 hs26 hs34 hs74 hs75 hs162 hs163 hs164
    refine c_seq ?_
    refine c_region ?_
    refine l_val (v := .bool (decide (((k4 : Nat) : Int) < ((S.length : Nat) : Int)))) rfl rfl rfl (e_lss (a := ((k4 : Nat) : Int)) (b := ((S.length : Nat) : Int)) rfl rfl) ?_
    refine l_nil ?_
    refine f_then ?_
    refine c_seq ?_
    refine c_if (((k4 : Nat) : Int) < ((S.length : Nat) : Int)) rfl (fun hc72 => ?_) (fun hc72 => ?_)
    ·
     refine c_skip ?_
     refine f_then ?_
     refine c_seq ?_
     refine c_block ?_
     refine c_seq ?_
     refine c_region ?_
     obtain ⟨x73, hx74⟩ : ∃ x_, (S)[k4]? = some x_ := ⟨_, List.getElem?_eq_getElem (by omega)⟩
     obtain ⟨ha75, cs76, hc77, rfl⟩ := heWS _ _ hx74
     refine l_val (v := .pointer (some ((ba sp10).add (k4 * 3)))) rfl rfl rfl (e_indexAddr (k := k4) (len := S.length) (cap := sc11) (a := sp10) rfl rfl ty28 (by omega) ha75) ?_
     refine l_val (v := .agg #[Ix (x73.id), Bx (x73.along), Ix (x73.by_)]) rfl rfl rfl (e_load ty29 (cs := [Ix (x73.id), Bx (x73.along), Ix (x73.by_)]) rfl (Knows.of_base (Cs.mono _ _) hc77) rfl) ?_
     refine l_mv rfl rfl rfl (m_alloc ty30) ?_
     rintro _ _ ⟨b79, rfl, rfl⟩
     refine l_mu rfl rfl (m_store 0 ty29 (b := b79) (o := 0) (T := 55) (cs := #[.int .i64 (0), .int .u8 (0), .int .i64 (0)]) (cs' := #[Ix (x73.id), Bx (x73.along), Ix (x73.by_)]) (v := .agg #[Ix (x73.id), Bx (x73.along), Ix (x73.by_)]) rfl rfl rfl rfl rfl rfl rfl) ?_
     refine l_nil ?_
     refine f_then ?_
     refine c_seq ?_
     refine c_region ?_
     refine l_val (v := .bool false) rfl rfl rfl (e_assign) ?_
     refine l_nil ?_
     refine f_then ?_
     refine c_seq ?_
     refine c_seq ?_
     refine c_region ?_
     refine l_val (v := .slice a32 (x24.length) (c33)) rfl rfl rfl (e_move) ?_
     refine l_val (v := Nx (x24.length)) rfl rfl rfl (e_len (a := a32) (n := x24.length) (c := c33) rfl ty31) ?_
     refine l_val (v := .int .i64 (0)) rfl rfl rfl (e_move) ?_
     refine l_nil ?_
     refine f_then ?_
     refine c_block ?_
     refine c_loop (fun (k6 : Nat) (f : Fm) (L : List Res) => (f 4 = Bx (tn) ∧ f 11 = .pointer (some ⟨b5, 0, none⟩) ∧ f 12 = .pointer (some ⟨b12, 0, none⟩) ∧ f 13 = .slice sp10 (S.length) (sc11) ∧ f 15 = .slice p13 (xl.length) (c14) ∧ f 17 = .pointer (some ⟨b22, 0, none⟩) ∧ f 18 = Nx ((seenI S xl tn.toNat k) + SP.length) ∧ f 20 = .slice a32 (x24.length) (c33) ∧ f 26 = .slice sp51 (SP.length) sc52 ∧ f 34 = Nx (((S.take k4).filter fun s => decide (s.id ∈ x24)).length) ∧ f 36 = .pointer (some ⟨b79, 0, none⟩) ∧ f 37 = .bool (decide (x73.id ∈ x24.take k6)) ∧ f 74 = Nx (xl.length) ∧ f 75 = Nx (k) ∧ f 162 = .slice sp10 (S.length) (sc11) ∧ f 163 = Nx (S.length) ∧ f 164 = Nx (k4) ∧ f 168 = .slice a32 (x24.length) (c33) ∧ f 169 = Nx (x24.length) ∧ f 170 = Nx (k6)) ∧ L = [pt b79 (.cells #[Ix (x73.id), Bx (x73.along), Ix (x73.by_)] 55), pt b60 (.cells #[.slice p54 (TP.length) c55, .slice q56 (Q.length) d57, Ix (gX), Ix (gY)] 30), rowF BodyF 52 p54 c55 TP, rowF RopeF 78 q56 d57 Q, rowF StopF 55 sp58 sc59 SP, pt b53 (.cells #[.slice p47 (TP.length) c48, .slice q49 (Q.length) d50, Ix (gX), Ix (gY)] 30), rowF BodyF 52 p47 c48 TP, rowF RopeF 78 q49 d50 Q, rowF StopF 55 sp51 sc52 SP, pt b46 (.cells #[.slice p42 (P.length) c43, .slice q44 (Q.length) d45, Ix (gX), Ix (gY)] 30), rowF BodyF 52 p42 c43 P, rowF RopeF 78 q44 d45 Q, pt b41 (.cells #[.slice p37 (P.length) c38, .slice q39 (Q.length) d40, Ix (gX), Ix (gY)] 30), rowF BodyF 52 p37 c38 P, rowF RopeF 78 q39 d40 Q, pt b22 (.cells #[.slice p18 (bs.length) c19, .slice q20 (R.length) d21, Ix (gX), Ix (gY)] 30), rowF BodyF 52 p18 c19 ob2, rowF RopeF 78 q20 d21 R, pt b12 (.cells #[.slice p6 (T.length) (c7), .slice q8 (R.length) (d9), Ix (gX), Ix (gY)] 30), pt b5 (.cells #[.slice p1 (bs.length) (c2), .slice q3 (R.length) (d4), Ix (gX), Ix (gY)] 30)] ∧ (k6 ≤ x24.length)) (fun (k6 : Nat) => x24.length - k6) 0 ?_ ?_
     ·exact ⟨⟨rfl, rfl, rfl, rfl, rfl, rfl, rfl, rfl, rfl, rfl, rfl, (by show Value.bool false = _; simp), rfl, rfl, rfl, rfl, rfl, rfl, rfl, rfl⟩, rfl, by omega⟩
     rintro k6 f0 L0 ⟨⟨hs4, hs11, hs12, hs13, hs15, hs17, hs18, hs20, hs26, hs34, hs36, hs37, hs74, hs75, hs162, hs163, hs164, hs168, hs169, hs170⟩, hL, hk6⟩
     subst L0
     refine rebase (d := 4) hs4 ?_
     refine rebase (d := 11) hs11 ?_
     refine rebase (d := 12) hs12 ?_
     refine rebase (d := 13) hs13 ?_
     refine rebase (d := 15) hs15 ?_
     refine rebase (d := 17) hs17 ?_
     refine rebase (d := 18) hs18 ?_
     refine rebase (d := 20) hs20 ?_
     refine rebase (d := 26) hs26 ?_
     refine rebase (d := 34) hs34 ?_
     refine rebase (d := 36) hs36 ?_
     refine rebase (d := 37) hs37 ?_
     refine rebase (d := 74) hs74 ?_
     refine rebase (d := 75) hs75 ?_
     refine rebase (d := 162) hs162 ?_
     refine rebase (d := 163) hs163 ?_
     refine rebase (d := 164) hs164 ?_
     refine rebase (d := 168) hs168 ?_
     refine rebase (d := 169) hs169 ?_
     refine rebase (d := 170) hs170 ?_
     clear hs4 hs11 hs12 hs13 hs15 hs17 hs18 hs20 hs26 hs34 hs36 hs37 hs74 hs75 hs162 hs163 hs164 hs168 hs169 hs170
     refine c_seq ?_
     refine c_region ?_
     refine l_val (v := .bool (decide (((k6 : Nat) : Int) < ((x24.length : Nat) : Int)))) rfl rfl rfl (e_lss (a := ((k6 : Nat) : Int)) (b := ((x24.length : Nat) : Int)) rfl rfl) ?_
     refine l_nil ?_
     refine f_then ?_
     refine c_seq ?_
     refine c_if (((k6 : Nat) : Int) < ((x24.length : Nat) : Int)) rfl (fun hc80 => ?_) (fun hc80 => ?_)
     ·
      refine c_skip ?_
      refine f_then ?_
      refine c_seq ?_
      refine c_block ?_
      refine c_seq ?_
      refine c_region ?_
      obtain ⟨x81, hx82⟩ : ∃ x_, (x24)[k6]? = some x_ := ⟨_, List.getElem?_eq_getElem (by omega)⟩
      obtain ⟨ha83, cs84, hc85, rfl⟩ := he36 _ _ hx82
      refine l_val (v := .pointer (some ((ba a32).add (k6 * 1)))) rfl rfl rfl (e_indexAddr (k := k6) (len := x24.length) (cap := c33) (a := a32) rfl rfl ty32 (by omega) ha83) ?_
      refine l_val (v := Ix (x81)) rfl rfl rfl (e_load1 ty23 (v := Ix (x81)) rfl (Knows.of_base (Cs.mono _ _) hc85)) ?_
      refine l_val (v := Ix (x81)) rfl rfl rfl (e_assign) ?_
      refine l_nil ?_
      refine f_then ?_
      refine c_region ?_
      refine l_val (v := .bool (decide (x73.id ∈ x24.take k6))) rfl rfl rfl (e_move) ?_
      refine l_val (v := .bool (decide (x73.id ∈ x24.take k6))) rfl rfl rfl (e_move) ?_
      refine l_split (s := 175) (p := x73.id ∈ x24.take k6) rfl (fun hg87 => ?_) (fun hg87 => ?_)
      ·
       refine l_skip rfl rfl rfl rfl rfl rfl ?_
       refine l_skip rfl rfl rfl rfl rfl rfl ?_
       refine l_skip rfl rfl rfl rfl rfl rfl ?_
       refine l_skip rfl rfl rfl rfl rfl rfl ?_
       refine l_val (v := .bool true) rfl rfl rfl (e_pick_t rfl) ?_
       refine l_val (v := .bool true) rfl rfl rfl (e_assign) ?_
       refine l_nil ?_
       refine f_block ?_
       refine f_then ?_
       refine c_region ?_
       refine l_val (v := Nx (k6 + 1)) rfl rfl rfl (e_add (a := ((k6 : Nat) : Int)) (b := (1 : Int)) rfl rfl (i64n (by omega) (by omega))) ?_
       refine l_val (v := Nx (k6 + 1)) rfl rfl rfl (e_move) ?_
       refine l_nil ?_
       exact f_cut ⟨k6 + 1, ⟨⟨rfl, rfl, rfl, rfl, rfl, rfl, rfl, rfl, rfl, rfl, rfl, (congrArg Value.bool (mine_old hx82 hg87)), rfl, rfl, rfl, rfl, rfl, rfl, rfl, rfl⟩, rfl, by omega⟩, (show x24.length - (k6 + 1) < x24.length - k6 from by omega)⟩
      ·
       refine g_val (v := .pointer (some ⟨b79, 0, none⟩)) rfl rfl rfl rfl rfl (e_fieldPt (b := b79) (o := 0) rfl ty33) ?_
       refine g_val (v := Ix (x73.id)) rfl rfl rfl rfl rfl (e_load1 ty23 (v := Ix (x73.id)) rfl (k_pt 0 (cs := #[Ix (x73.id), Bx (x73.along), Ix (x73.by_)]) (vs := [Ix (x73.id)]) rfl rfl)) ?_
       refine g_val (v := Ix (x81)) rfl rfl rfl rfl rfl (e_move) ?_
       refine g_val (v := .bool (decide ((x73.id) = (x81)))) rfl rfl rfl rfl rfl (e_eql (a := (x73.id)) (b := (x81)) rfl rfl) ?_
       refine l_val (v := .bool (decide ((x73.id) = (x81)))) rfl rfl rfl (e_pick_f rfl) ?_
       refine l_val (v := .bool (decide ((x73.id) = (x81)))) rfl rfl rfl (e_assign) ?_
       refine l_nil ?_
       refine f_block ?_
       refine f_then ?_
       refine c_region ?_
       refine l_val (v := Nx (k6 + 1)) rfl rfl rfl (e_add (a := ((k6 : Nat) : Int)) (b := (1 : Int)) rfl rfl (i64n (by omega) (by omega))) ?_
       refine l_val (v := Nx (k6 + 1)) rfl rfl rfl (e_move) ?_
       refine l_nil ?_
       exact f_cut ⟨k6 + 1, ⟨⟨rfl, rfl, rfl, rfl, rfl, rfl, rfl, rfl, rfl, rfl, rfl, (congrArg Value.bool (mine_new hx82 hg87)), rfl, rfl, rfl, rfl, rfl, rfl, rfl, rfl⟩, rfl, by omega⟩, (show x24.length - (k6 + 1) < x24.length - k6 from by omega)⟩
     ·
      refine c_exit ?_
      refine f_then_exit ?_
      refine f_then_exit ?_
      refine f_exit ?_
      refine f_then ?_
      refine c_seq ?_
      have hxk : x24.take k6 = x24 := List.take_of_length_le (by omega)
      rw [hxk]
      refine c_region ?_
      refine l_val (v := .bool (decide (x73.id ∈ x24))) rfl rfl rfl (e_move) ?_
      refine l_nil ?_
      refine f_then ?_
      refine c_if (x73.id ∈ x24) rfl (fun hc88 => ?_) (fun hc88 => ?_)
      ·
       refine c_seq ?_
       refine c_seq ?_
       have hat := (filt_pre (p := fun s => decide (s.id ∈ x24)) hx74 (decide_eq_true hc88)).1
       rw [← hSP] at hat
       have hatl := (List.getElem?_eq_some_iff.1 hat).1
       refine c_quiet (by kernel_rfl) (by kernel_rfl) ?_
       refine q_val (v := Nx (((S.take k4).filter fun s => decide (s.id ∈ x24)).length)) rfl rfl rfl (e_move) ?_
       refine q_val (v := .slice sp51 (SP.length) sc52) rfl rfl rfl (e_move) ?_
       refine q_val (v := Nx (SP.length)) rfl rfl rfl (e_len (a := sp51) (n := SP.length) (c := sc52) rfl ty18) ?_
       refine q_val (v := .bool (decide (((SP.length : Nat) : Int) ≤ ((((S.take k4).filter fun s => decide (s.id ∈ x24)).length : Nat) : Int)))) rfl rfl rfl (e_geq (a := ((((S.take k4).filter fun s => decide (s.id ∈ x24)).length : Nat) : Int)) (b := ((SP.length : Nat) : Int)) rfl rfl) ?_
       refine q_val (v := .bool (decide (((SP.length : Nat) : Int) ≤ ((((S.take k4).filter fun s => decide (s.id ∈ x24)).length : Nat) : Int)))) rfl rfl rfl (e_move) ?_
       refine q_split (s := 187) (p := ((SP.length : Nat) : Int) ≤ ((((S.take k4).filter fun s => decide (s.id ∈ x24)).length : Nat) : Int)) rfl (fun h => ?_) (fun h => ?_)
       exact absurd h (by omega)
       refine qg_val (v := .slice sp51 (SP.length) sc52) rfl rfl rfl rfl rfl (e_move) ?_
       refine qg_val (v := Nx (((S.take k4).filter fun s => decide (s.id ∈ x24)).length)) rfl rfl rfl rfl rfl (e_move) ?_
       refine qg_val (v := .pointer (some ((ba sp51).add ((((S.take k4).filter fun s => decide (s.id ∈ x24)).length) * 3)))) rfl rfl rfl rfl rfl (e_indexFlN 8 (F := StopF) (j := ((S.take k4).filter fun s => decide (s.id ∈ x24)).length) (m := SP.length) (xs := SP) rfl rfl rfl ty28 (by omega) rfl) ?_
       obtain ⟨x89, hx90⟩ : ∃ x_, SP[((S.take k4).filter fun s => decide (s.id ∈ x24)).length]? = some x_ := ⟨_, List.getElem?_eq_getElem (by omega)⟩
       refine qg_val (v := .agg #[Ix (x89.id), Bx (x89.along), Ix (x89.by_)]) rfl rfl rfl rfl rfl (e_load ty29 (cs := [Ix (x89.id), Bx (x89.along), Ix (x89.by_)]) rfl (k_flAt 8 (F := StopF) rfl hx90) rfl) ?_
       refine qg_val (v := .agg #[Ix (x73.id), Bx (x73.along), Ix (x73.by_)]) rfl rfl rfl rfl rfl (e_load ty29 (cs := [Ix (x73.id), Bx (x73.along), Ix (x73.by_)]) rfl (k_pt 0 (cs := #[Ix (x73.id), Bx (x73.along), Ix (x73.by_)]) (vs := [Ix (x73.id), Bx (x73.along), Ix (x73.by_)]) rfl rfl) rfl) ?_
       refine qg_val (v := .bool (decide (¬ (x89 = x73)))) rfl rfl rfl rfl rfl (e_neq_t (xs := [Ix (x89.id), Bx (x89.along), Ix (x89.by_)]) (ys := [Ix (x73.id), Bx (x73.along), Ix (x73.by_)]) ty34 ty35 ty36 rfl rfl rfl rfl (not_congr (stop_eq (x := x89) (y := x73)))) ?_
       refine q_val (v := .bool (decide (¬ (x89 = x73)))) rfl rfl rfl (e_pick_f rfl) ?_
       refine q_nil ?_
       refine f_then ?_
       refine c_if (¬ (x89 = x73)) rfl (fun hc91 => ?_) (fun hc91 => ?_)
       ·
        exact absurd hc91 (fun q => q (Option.some.inj (hx90.symm.trans hat)))
       ·
        refine c_skip ?_
        refine f_then ?_
        refine c_region ?_
        refine l_val (v := Nx (((S.take k4).filter fun s => decide (s.id ∈ x24)).length)) rfl rfl rfl (e_move) ?_
        refine l_val (v := Nx ((((S.take k4).filter fun s => decide (s.id ∈ x24)).length) + 1)) rfl rfl rfl (e_add (a := ((((S.take k4).filter fun s => decide (s.id ∈ x24)).length : Nat) : Int)) (b := (1 : Int)) rfl rfl (i64n (by omega) (by omega))) ?_
        refine l_val (v := Nx ((((S.take k4).filter fun s => decide (s.id ∈ x24)).length) + 1)) rfl rfl rfl (e_assign) ?_
        refine l_nil ?_
        refine f_block ?_
        refine f_then ?_
        refine c_region ?_
        refine l_val (v := Nx (k4 + 1)) rfl rfl rfl (e_add (a := ((k4 : Nat) : Int)) (b := (1 : Int)) rfl rfl (i64n (by omega) (by omega))) ?_
        refine l_val (v := Nx (k4 + 1)) rfl rfl rfl (e_move) ?_
        refine l_nil ?_
        refine f_mask (L' := [pt b60 (.cells #[.slice p54 (TP.length) c55, .slice q56 (Q.length) d57, Ix (gX), Ix (gY)] 30), rowF BodyF 52 p54 c55 TP, rowF RopeF 78 q56 d57 Q, rowF StopF 55 sp58 sc59 SP, pt b53 (.cells #[.slice p47 (TP.length) c48, .slice q49 (Q.length) d50, Ix (gX), Ix (gY)] 30), rowF BodyF 52 p47 c48 TP, rowF RopeF 78 q49 d50 Q, rowF StopF 55 sp51 sc52 SP, pt b46 (.cells #[.slice p42 (P.length) c43, .slice q44 (Q.length) d45, Ix (gX), Ix (gY)] 30), rowF BodyF 52 p42 c43 P, rowF RopeF 78 q44 d45 Q, pt b41 (.cells #[.slice p37 (P.length) c38, .slice q39 (Q.length) d40, Ix (gX), Ix (gY)] 30), rowF BodyF 52 p37 c38 P, rowF RopeF 78 q39 d40 Q, pt b22 (.cells #[.slice p18 (bs.length) c19, .slice q20 (R.length) d21, Ix (gX), Ix (gY)] 30), rowF BodyF 52 p18 c19 ob2, rowF RopeF 78 q20 d21 R, pt b12 (.cells #[.slice p6 (T.length) (c7), .slice q8 (R.length) (d9), Ix (gX), Ix (gY)] 30), pt b5 (.cells #[.slice p1 (bs.length) (c2), .slice q3 (R.length) (d4), Ix (gX), Ix (gY)] 30)]) [false, true, true, true, true, true, true, true, true, true, true, true, true, true, true, true, true, true, true, true] rfl ?_
        exact f_cut ⟨k4 + 1, ⟨⟨rfl, rfl, rfl, rfl, rfl, rfl, rfl, rfl, rfl, congrArg (fun z : Nat => Nx z) (filt_pre (p := fun s => decide (s.id ∈ x24)) hx74 (decide_eq_true hc88)).2.symm, rfl, rfl, rfl, rfl, rfl⟩, rfl, by omega⟩, (show S.length - (k4 + 1) < S.length - k4 from by omega)⟩
      ·
       refine c_skip ?_
       refine f_block ?_
       refine f_then ?_
       refine c_region ?_
       refine l_val (v := Nx (k4 + 1)) rfl rfl rfl (e_add (a := ((k4 : Nat) : Int)) (b := (1 : Int)) rfl rfl (i64n (by omega) (by omega))) ?_
       refine l_val (v := Nx (k4 + 1)) rfl rfl rfl (e_move) ?_
       refine l_nil ?_
       refine f_mask (L' := [pt b60 (.cells #[.slice p54 (TP.length) c55, .slice q56 (Q.length) d57, Ix (gX), Ix (gY)] 30), rowF BodyF 52 p54 c55 TP, rowF RopeF 78 q56 d57 Q, rowF StopF 55 sp58 sc59 SP, pt b53 (.cells #[.slice p47 (TP.length) c48, .slice q49 (Q.length) d50, Ix (gX), Ix (gY)] 30), rowF BodyF 52 p47 c48 TP, rowF RopeF 78 q49 d50 Q, rowF StopF 55 sp51 sc52 SP, pt b46 (.cells #[.slice p42 (P.length) c43, .slice q44 (Q.length) d45, Ix (gX), Ix (gY)] 30), rowF BodyF 52 p42 c43 P, rowF RopeF 78 q44 d45 Q, pt b41 (.cells #[.slice p37 (P.length) c38, .slice q39 (Q.length) d40, Ix (gX), Ix (gY)] 30), rowF BodyF 52 p37 c38 P, rowF RopeF 78 q39 d40 Q, pt b22 (.cells #[.slice p18 (bs.length) c19, .slice q20 (R.length) d21, Ix (gX), Ix (gY)] 30), rowF BodyF 52 p18 c19 ob2, rowF RopeF 78 q20 d21 R, pt b12 (.cells #[.slice p6 (T.length) (c7), .slice q8 (R.length) (d9), Ix (gX), Ix (gY)] 30), pt b5 (.cells #[.slice p1 (bs.length) (c2), .slice q3 (R.length) (d4), Ix (gX), Ix (gY)] 30)]) [false, true, true, true, true, true, true, true, true, true, true, true, true, true, true, true, true, true, true, true] rfl ?_
       exact f_cut ⟨k4 + 1, ⟨⟨rfl, rfl, rfl, rfl, rfl, rfl, rfl, rfl, rfl, congrArg (fun z : Nat => Nx z) (filt_skip (p := fun s => decide (s.id ∈ x24)) hx74 (decide_eq_false hc88)).symm, rfl, rfl, rfl, rfl, rfl⟩, rfl, by omega⟩, (show S.length - (k4 + 1) < S.length - k4 from by omega)⟩
    ·
     refine c_exit ?_
     refine f_then_exit ?_
     refine f_then_exit ?_
     refine f_exit ?_
     refine f_then ?_
     refine c_seq ?_
     have hsk : S.take k4 = S := List.take_of_length_le (by omega)
     rw [hsk]
     rw [← hSP]
     refine c_region ?_
     refine l_val (v := Nx (SP.length)) rfl rfl rfl (e_move) ?_
     refine l_val (v := .slice sp51 (SP.length) sc52) rfl rfl rfl (e_move) ?_
     refine l_val (v := Nx (SP.length)) rfl rfl rfl (e_len (a := sp51) (n := SP.length) (c := sc52) rfl ty18) ?_
     refine l_val (v := .bool (decide (((SP.length : Nat) : Int) ≠ ((SP.length : Nat) : Int)))) rfl rfl rfl (e_neq (a := ((SP.length : Nat) : Int)) (b := ((SP.length : Nat) : Int)) rfl rfl) ?_
     refine l_nil ?_
     refine f_then ?_
     refine c_if (((SP.length : Nat) : Int) ≠ ((SP.length : Nat) : Int)) rfl (fun hc92 => ?_) (fun hc92 => ?_)
     ·
      exact absurd hc92 (fun q => q rfl)
     ·
      refine c_skip ?_
      refine f_block ?_
      refine f_then ?_
      refine c_region ?_
      refine l_val (v := Nx (k + 1)) rfl rfl rfl (e_add (a := ((k : Nat) : Int)) (b := (1 : Int)) rfl rfl (i64n (by omega) (by omega))) ?_
      refine l_val (v := Nx (k + 1)) rfl rfl rfl (e_move) ?_
      refine l_nil ?_
      refine f_mask (L' := [pt b22 (.cells #[.slice p18 (bs.length) c19, .slice q20 (R.length) d21, Ix (gX), Ix (gY)] 30), rowF BodyF 52 p18 c19 ob2, rowF RopeF 78 q20 d21 R, pt b12 (.cells #[.slice p6 (T.length) (c7), .slice q8 (R.length) (d9), Ix (gX), Ix (gY)] 30), pt b5 (.cells #[.slice p1 (bs.length) (c2), .slice q3 (R.length) (d4), Ix (gX), Ix (gY)] 30)]) [false, false, false, false, false, false, false, false, false, false, false, false, false, false, true, true, true, true, true] rfl ?_
      exact f_cut ⟨(k + 1, d2, ob2), ⟨⟨rfl, rfl, rfl, rfl, rfl, rfl, congrArg (fun z : Nat => Nx z) hsn.symm, rfl, rfl⟩, rfl, ⟨by omega, hdn, hob2⟩⟩, (show xl.length - (k + 1) < xl.length - k from by omega)⟩
  ·
   refine c_exit ?_
   refine f_then_exit ?_
   refine f_then_exit ?_
   refine f_exit ?_
   refine f_then ?_
   refine c_seq ?_
   obtain ⟨hend1, hend2⟩ := hI.ends hd (by omega) (by omega)
   rw [hend1] at hob
   rw [hend2, hob]
   refine c_region ?_
   refine l_val (v := Nx (S.length)) rfl rfl rfl (e_move) ?_
   refine l_val (v := .slice sp10 (S.length) (sc11)) rfl rfl rfl (e_move) ?_
   refine l_val (v := Nx (S.length)) rfl rfl rfl (e_len (a := sp10) (n := S.length) (c := sc11) rfl ty18) ?_
   refine l_val (v := .bool (decide (((S.length : Nat) : Int) = ((S.length : Nat) : Int)))) rfl rfl rfl (e_eql (a := ((S.length : Nat) : Int)) (b := ((S.length : Nat) : Int)) rfl rfl) ?_
   refine l_val (v := .bool (decide (((S.length : Nat) : Int) = ((S.length : Nat) : Int)))) rfl rfl rfl (e_move) ?_
   refine l_split (s := 207) (p := ((S.length : Nat) : Int) = ((S.length : Nat) : Int)) rfl (fun h => ?_) (fun h => ?_)
   rotate_left; exact absurd rfl h
   refine g_val (v := .agg #[.slice p18 (bs.length) c19, .slice q20 (R.length) d21, Ix (gX), Ix (gY)]) rfl rfl rfl rfl rfl (e_load ty3 (cs := [.slice p18 (bs.length) c19, .slice q20 (R.length) d21, Ix (gX), Ix (gY)]) rfl (k_pt 0 (cs := #[.slice p18 (bs.length) c19, .slice q20 (R.length) d21, Ix (gX), Ix (gY)]) (vs := [.slice p18 (bs.length) c19, .slice q20 (R.length) d21, Ix (gX), Ix (gY)]) rfl rfl) rfl) ?_
   refine g_val (v := .agg #[.slice p6 (T.length) (c7), .slice q8 (R.length) (d9), Ix (gX), Ix (gY)]) rfl rfl rfl rfl rfl (e_load ty3 (cs := [.slice p6 (T.length) (c7), .slice q8 (R.length) (d9), Ix (gX), Ix (gY)]) rfl (k_pt 3 (cs := #[.slice p6 (T.length) (c7), .slice q8 (R.length) (d9), Ix (gX), Ix (gY)]) (vs := [.slice p6 (T.length) (c7), .slice q8 (R.length) (d9), Ix (gX), Ix (gY)]) rfl rfl) rfl) ?_
   refine g_call rfl rfl rfl rfl rfl (cl_value (fst := []) (cap := []) (vs := [.agg #[.slice p18 (bs.length) c19, .slice q20 (R.length) d21, Ix (gX), Ix (gY)], .agg #[.slice p6 (T.length) (c7), .slice q8 (R.length) (d9), Ix (gX), Ix (gY)]]) (all := [.agg #[.slice p18 (bs.length) c19, .slice q20 (R.length) d21, Ix (gX), Ix (gY)], .agg #[.slice p6 (T.length) (c7), .slice q8 (R.length) (d9), Ix (gX), Ix (gY)]]) ty16 rfl rfl rfl) ?_
   intro w hw
   obtain ⟨β1, sb, kn, hw1, back⟩ := St.frame_all hw
   refine (eqScene_ok β1 w hw1 _ _ _ _ gX gY T R (kn _ (k_flN 1 (F := BodyF) (m := bs.length) rfl (by omega))) (kn _ (k_flN 2 (F := RopeF) (m := R.length) rfl rfl)) (Sl.mono _ _ _ _ _ sb hslWT) (Sl.mono _ _ _ _ _ sb hslWQ)).mono ?_
   rintro e w' ⟨rfl, hw'⟩
   refine ⟨_, rfl, _, back _ _ hw', ?_⟩
   clear hw hw1 hw' back kn sb
   refine l_val (v := .bool true) rfl rfl rfl (e_pick_t rfl) ?_
   refine l_val (v := .bool true) rfl rfl rfl (e_assign) ?_
   refine l_nil ?_
   refine f_then ?_
   refine c_ret ?_
   refine ret1 Tryz.results4 (v := .bool true) rfl ?_
   intro w hw
   exact ⟨rfl, (st_mask [false, false] rfl (bk1 _ _ (st_mask [false, false, false] rfl (bkW _ _ (st_mask [false] rfl (bkX _ _ (st_mask [false, false, false, false, false] rfl hw)))))))⟩
end Go.Proofs
