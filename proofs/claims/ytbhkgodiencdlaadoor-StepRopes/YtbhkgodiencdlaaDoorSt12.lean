/-
 StepRopes, walked. Printed by a program of my own.
-/
import Derived.Test.YtbhkgodiencdlaaDoorSt11
namespace Go.Proofs
open Go Go.Sl Go.Stp
theorem findB_id {bs : List KB} {i : Int} {o : KB} (h : findB bs i = some o) : o.id = i := by simpa using List.find?_some h
theorem tf132 : cfB Tryd.prog 14 = true := by kernel_rfl
theorem tf133 : cfB Tryd.prog 21 = true := by kernel_rfl
theorem tf134 : cfB Tryd.prog 22 = true := by kernel_rfl
theorem tf135 : lay Tryd.prog 10000 35 = some [.int .i64, .int .i64, .int .i64] := by kernel_rfl
theorem tf136 : isAggT Tryd.prog 35 = true := by kernel_rfl
theorem tf137 : Tryd.prog.eqGuardType Tryd.prog.depth 35 = false := by kernel_rfl
theorem tf138 : cfB Tryd.prog 23 = true := by kernel_rfl
theorem findK_ok (β : Base) (w : World) (hw : St β [] w) (v rv : Value) (gx gy : Int) (xs : List KB) (hs : Sl KBR β.heap v xs) (i : Int) (k : Nat) (hk : idxI (fun y : KB => decide (y.id = i)) xs = k) : Calls Tryd.prog 22 #[.agg #[v, rv, Ix gx, Ix gy], Ix i] w fun r w' => r = .returned (Nx k) ∧ St β [] w' := by
 refine (findS_ok β w hw v rv gx gy xs hs i).mono ?_
 rintro r w' ⟨rfl, hw'⟩
 exact ⟨by rw [hk], hw'⟩
set_option maxHeartbeats 4000000 in
theorem ropes_ok (β : Base) (w : World) (hw : St β [] w) (v u : Value) (fs : List KF) (us : List UInt8) (hs : Sl FormR β.heap v fs) (hu : Sl U8R β.heap u us) (gx gy : Int) (hgx8 : -128 ≤ gx ∧ gx ≤ 127) (hgy8 : -128 ≤ gy ∧ gy ≤ 127) (hG : GR β) : Calls Tryd.prog 6 #[v, u, .int .i8 gx, .int .i8 gy] w fun r w' => r = .returned (.bool true) ∧ St β [] w' := by
 refine enter (n := 111) Tryd.func6 rfl Tryd.ntmps6 rfl ?_ hw
 refine c_seq ?_
 refine c_region ?_
 refine l_val (v := .bool false) rfl rfl rfl (e_assign) ?_
 refine l_nil ?_
 refine f_then ?_
 refine c_seq ?_
 refine c_seq ?_
 refine c_region ?_
 refine l_call rfl rfl rfl (cl_value (fst := []) (cap := []) (vs := []) (all := []) tf132 rfl rfl rfl) ?_
 intro w hw
 obtain ⟨β1, sb, kn, hw1, back⟩ := St.frame_all hw
 have hG1 := GR.mono sb hG
 refine (awake_ok β1 w hw1 hG1).mono ?_
 rintro e w' ⟨rfl, hw'⟩
 refine ⟨_, rfl, _, back _ _ hw', ?_⟩
 clear hw hw1 hw' back kn sb
 refine l_val (v := .bool false) rfl rfl rfl (e_not (a := true) rfl) ?_
 refine l_nil ?_
 refine f_then ?_
 refine c_no rfl ?_
 refine c_skip ?_
 refine f_then ?_
 refine c_seq ?_
 refine c_region ?_
 refine l_val (v := v) rfl rfl rfl (e_move) ?_
 refine l_val (v := u) rfl rfl rfl (e_move) ?_
 refine l_val (v := .int .i8 (gx)) rfl rfl rfl (e_move) ?_
 refine l_val (v := .int .i8 (gy)) rfl rfl rfl (e_move) ?_
 refine l_call rfl rfl rfl (cl_value (fst := []) (cap := []) (vs := [v, u, .int .i8 (gx), .int .i8 (gy)]) (all := [v, u, .int .i8 (gx), .int .i8 (gy)]) tf133 rfl rfl rfl) ?_
 intro w hw
 obtain ⟨β1, sb, kn, hw1, back⟩ := St.frame_all hw
 refine (made8_ok β1 w hw1 _ _ fs us (Sl.mono _ _ _ _ _ sb hs) (Sl.mono _ _ _ _ _ sb hu) gx gy hgx8 hgy8).mono ?_
 rintro e w' ⟨bs, R, p1, c2, p3, c4, rfl, hmP, hw'⟩
 refine ⟨_, rfl, _, back _ _ hw', ?_⟩
 clear hw hw1 hw' back kn sb
 refine l_mv rfl rfl rfl (m_alloc tf85) ?_
 rintro _ _ ⟨b5, rfl, rfl⟩
 refine l_mu rfl rfl (m_store 0 tf86 (b := b5) (o := 0) (T := 27) (cs := #[.slice none 0 0, .slice none 0 0, .int .i64 (0), .int .i64 (0)]) (cs' := #[.slice p1 (bs.length) c2, .slice p3 (R.length) c4, Ix (Int.tmod gx 32), Ix (Int.tmod gy 32)]) (v := .agg #[.slice p1 (bs.length) c2, .slice p3 (R.length) c4, Ix (Int.tmod gx 32), Ix (Int.tmod gy 32)]) rfl rfl rfl rfl rfl rfl rfl) ?_
 refine l_nil ?_
 refine f_then ?_
 refine c_seq ?_
 refine c_seq ?_
 have hgX := tmod_bd gx
 have hgY := tmod_bd gy
 obtain ⟨gX, hgx1⟩ : ∃ z, z = Int.tmod gx 32 := ⟨_, rfl⟩
 obtain ⟨gY, hgy1⟩ : ∃ z, z = Int.tmod gy 32 := ⟨_, rfl⟩
 rw [← hgx1] at hgX hmP
 rw [← hgy1] at hgY hmP
 rw [← hgx1, ← hgy1]
 refine c_region ?_
 refine l_val (v := .int .i64 (0)) rfl rfl rfl (e_assign) ?_
 refine l_nil ?_
 refine f_then ?_
 refine c_block ?_
 refine c_mask [true, true, true] rfl ?_
 refine c_loop (fun (x_ : Nat × List KB × Option Addr × Nat × Option Addr × Nat) (f : Fm) (L : List Res) => match x_ with | (i, B0, p, c, p2, c2) => (f 9 = .pointer (some ⟨b5, 0, none⟩) ∧ f 10 = Nx (i)) ∧ L = [pt b5 (.cells #[.slice p (B0.length) c, .slice p2 (R.length) c2, Ix (gX), Ix (gY)] 27), rowF BodyF 31 p c B0, rowF RopeF 35 p2 c2 R] ∧ (i ≤ 3 ∧ okS B0 R gX gY)) (fun (x_ : Nat × List KB × Option Addr × Nat × Option Addr × Nat) => match x_ with | (i, B0, p, c, p2, c2) => 3 - i) (0, bs, p1, c2, p3, c4) ?_ ?_
 ·exact ⟨⟨rfl, rfl⟩, rfl, ⟨by omega, hmP.ok⟩⟩
 rintro ⟨i, B0, p, c, p2, c2⟩ f0 L0 ⟨⟨hs9, hs10⟩, hL, ⟨hi, hokS⟩⟩
 subst L0
 refine rebase (d := 9) hs9 ?_
 refine rebase (d := 10) hs10 ?_
 clear hs9 hs10
 obtain ⟨o1, o2, o3, o4, o5, o6⟩ := id hokS
 refine c_seq ?_
 refine c_seq ?_
 refine c_region ?_
 refine l_val (v := Nx (i)) rfl rfl rfl (e_move) ?_
 refine l_val (v := .bool (decide (((i : Nat) : Int) < (3 : Int)))) rfl rfl rfl (e_lss (a := ((i : Nat) : Int)) (b := (3 : Int)) rfl rfl) ?_
 refine l_nil ?_
 refine f_then ?_
 refine c_if (((i : Nat) : Int) < (3 : Int)) rfl (fun hc6 => ?_) (fun hc6 => ?_)
 ·
  refine c_skip ?_
  refine f_then ?_
  refine c_seq ?_
  refine c_block ?_
  refine c_seq ?_
  refine c_region ?_
  refine l_val (v := .agg #[.slice p (B0.length) c, .slice p2 (R.length) c2, Ix (gX), Ix (gY)]) rfl rfl rfl (e_load tf86 (cs := [.slice p (B0.length) c, .slice p2 (R.length) c2, Ix (gX), Ix (gY)]) rfl (k_pt 0 (cs := #[.slice p (B0.length) c, .slice p2 (R.length) c2, Ix (gX), Ix (gY)]) (vs := [.slice p (B0.length) c, .slice p2 (R.length) c2, Ix (gX), Ix (gY)]) rfl rfl) rfl) ?_
  refine l_call rfl rfl rfl (cl_value (fst := []) (cap := []) (vs := [.agg #[.slice p (B0.length) c, .slice p2 (R.length) c2, Ix (gX), Ix (gY)]]) (all := [.agg #[.slice p (B0.length) c, .slice p2 (R.length) c2, Ix (gX), Ix (gY)]]) tf104 rfl rfl rfl) ?_
  intro w hw
  obtain ⟨β1, sb, kn, hw1, back⟩ := St.frame_all hw
  obtain ⟨T, S, hTS⟩ : ∃ T S, stepsTo R (gX) (gY) B0 B0.length = (T, S) := ⟨_, _, rfl⟩
  refine (stepY_ok β1 w hw1 _ _ (gX) (gY) B0 R (kn _ (k_flN 1 (F := BodyF) (m := B0.length) (xs := B0) rfl rfl)) (kn _ (k_flN 2 (F := RopeF) (m := R.length) (xs := R) rfl rfl)) (by omega) (by omega) (GR.mono sb hG) hokS T S hTS).mono ?_
  rintro e w' ⟨p7, c8, p9, c10, p11, c12, rfl, hw'⟩
  refine ⟨_, rfl, _, back _ _ hw', ?_⟩
  clear hw hw1 hw' back kn sb
  have hT1 : (stepsTo R gX gY B0 B0.length).1 = T := by rw [hTS]
  have hokT : okS T R gX gY := by rw [← hT1]; exact okS_step hokS _
  have hTl : T.length = B0.length := by rw [← hT1]; exact (step_keeps hokS.2.2.2.1 _).1.len
  refine l_val (v := .tuple #[.agg #[.slice p7 (B0.length) c8, .slice p9 (R.length) c10, Ix (gX), Ix (gY)], .slice p11 (S.length) c12, .int .i64 (0)]) rfl rfl rfl (e_move) ?_
  refine l_val (v := .agg #[.slice p7 (B0.length) c8, .slice p9 (R.length) c10, Ix (gX), Ix (gY)]) rfl rfl rfl (e_extract (vs := #[.agg #[.slice p7 (B0.length) c8, .slice p9 (R.length) c10, Ix (gX), Ix (gY)], .slice p11 (S.length) c12, .int .i64 (0)]) rfl rfl) ?_
  refine l_val (v := .slice p11 (S.length) c12) rfl rfl rfl (e_extract (vs := #[.agg #[.slice p7 (B0.length) c8, .slice p9 (R.length) c10, Ix (gX), Ix (gY)], .slice p11 (S.length) c12, .int .i64 (0)]) rfl rfl) ?_
  refine l_val (v := .int .i64 (0)) rfl rfl rfl (e_extract (vs := #[.agg #[.slice p7 (B0.length) c8, .slice p9 (R.length) c10, Ix (gX), Ix (gY)], .slice p11 (S.length) c12, .int .i64 (0)]) rfl rfl) ?_
  refine l_mv rfl rfl rfl (m_alloc tf85) ?_
  rintro _ _ ⟨b13, rfl, rfl⟩
  refine l_mu rfl rfl (m_store 0 tf86 (b := b13) (o := 0) (T := 27) (cs := #[.slice none 0 0, .slice none 0 0, .int .i64 (0), .int .i64 (0)]) (cs' := #[.slice p7 (B0.length) c8, .slice p9 (R.length) c10, Ix (gX), Ix (gY)]) (v := .agg #[.slice p7 (B0.length) c8, .slice p9 (R.length) c10, Ix (gX), Ix (gY)]) rfl rfl rfl rfl rfl rfl rfl) ?_
  refine l_val (v := .slice p11 (S.length) c12) rfl rfl rfl (e_assign) ?_
  refine l_val (v := .int .i64 (0)) rfl rfl rfl (e_assign) ?_
  refine l_nil ?_
  refine f_then ?_
  refine c_seq ?_
  refine c_seq ?_
  refine c_region ?_
  refine l_val (v := .int .i64 (0)) rfl rfl rfl (e_move) ?_
  refine l_val (v := .bool false) rfl rfl rfl (e_neq (a := (0 : Int)) (b := (0 : Int)) rfl rfl) ?_
  refine l_val (v := .bool false) rfl rfl rfl (e_move) ?_
  refine g_val (v := .pointer (some ⟨b13, 0, none⟩)) rfl rfl rfl rfl rfl (e_fieldPt (b := b13) (o := 0) rfl tf49) ?_
  refine g_val (v := .slice p7 (B0.length) c8) rfl rfl rfl rfl rfl (e_load1 tf50 (v := .slice p7 (B0.length) c8) rfl (k_pt 0 (cs := #[.slice p7 (B0.length) c8, .slice p9 (R.length) c10, Ix (gX), Ix (gY)]) (vs := [.slice p7 (B0.length) c8]) rfl rfl)) ?_
  refine g_val (v := Nx (B0.length)) rfl rfl rfl rfl rfl (e_len (a := p7) (n := B0.length) (c := c8) rfl tf40) ?_
  refine g_val (v := .pointer (some ⟨b5, 0, none⟩)) rfl rfl rfl rfl rfl (e_fieldPt (b := b5) (o := 0) rfl tf49) ?_
  refine g_val (v := .slice p (B0.length) c) rfl rfl rfl rfl rfl (e_load1 tf50 (v := .slice p (B0.length) c) rfl (k_pt 4 (cs := #[.slice p (B0.length) c, .slice p2 (R.length) c2, Ix (gX), Ix (gY)]) (vs := [.slice p (B0.length) c]) rfl rfl)) ?_
  refine g_val (v := Nx (B0.length)) rfl rfl rfl rfl rfl (e_len (a := p) (n := B0.length) (c := c) rfl tf40) ?_
  refine g_val (v := .bool (decide (((B0.length : Nat) : Int) ≠ ((B0.length : Nat) : Int)))) rfl rfl rfl rfl rfl (e_neq (a := ((B0.length : Nat) : Int)) (b := ((B0.length : Nat) : Int)) rfl rfl) ?_
  refine l_val (v := .bool (decide (((B0.length : Nat) : Int) ≠ ((B0.length : Nat) : Int)))) rfl rfl rfl (e_pick_f rfl) ?_
  refine l_val (v := .bool (decide (((B0.length : Nat) : Int) ≠ ((B0.length : Nat) : Int)))) rfl rfl rfl (e_move) ?_
  refine l_split (s := 46) (p := ((B0.length : Nat) : Int) ≠ ((B0.length : Nat) : Int)) rfl (fun h => ?_) (fun h => ?_)
  exact absurd h (by omega)
  refine g_val (v := .pointer (some ⟨b13, 1, none⟩)) rfl rfl rfl rfl rfl (e_fieldPt (b := b13) (o := 0) rfl tf55) ?_
  refine g_val (v := .slice p9 (R.length) c10) rfl rfl rfl rfl rfl (e_load1 tf56 (v := .slice p9 (R.length) c10) rfl (k_pt 0 (cs := #[.slice p7 (B0.length) c8, .slice p9 (R.length) c10, Ix (gX), Ix (gY)]) (vs := [.slice p9 (R.length) c10]) rfl rfl)) ?_
  refine g_val (v := Nx (R.length)) rfl rfl rfl rfl rfl (e_len (a := p9) (n := R.length) (c := c10) rfl tf45) ?_
  refine g_val (v := .pointer (some ⟨b5, 1, none⟩)) rfl rfl rfl rfl rfl (e_fieldPt (b := b5) (o := 0) rfl tf55) ?_
  refine g_val (v := .slice p2 (R.length) c2) rfl rfl rfl rfl rfl (e_load1 tf56 (v := .slice p2 (R.length) c2) rfl (k_pt 4 (cs := #[.slice p (B0.length) c, .slice p2 (R.length) c2, Ix (gX), Ix (gY)]) (vs := [.slice p2 (R.length) c2]) rfl rfl)) ?_
  refine g_val (v := Nx (R.length)) rfl rfl rfl rfl rfl (e_len (a := p2) (n := R.length) (c := c2) rfl tf45) ?_
  refine g_val (v := .bool (decide (((R.length : Nat) : Int) ≠ ((R.length : Nat) : Int)))) rfl rfl rfl rfl rfl (e_neq (a := ((R.length : Nat) : Int)) (b := ((R.length : Nat) : Int)) rfl rfl) ?_
  refine l_val (v := .bool (decide (((R.length : Nat) : Int) ≠ ((R.length : Nat) : Int)))) rfl rfl rfl (e_pick_f rfl) ?_
  refine l_nil ?_
  refine f_then ?_
  refine c_if (((R.length : Nat) : Int) ≠ ((R.length : Nat) : Int)) rfl (fun hc14 => ?_) (fun hc14 => ?_)
  ·
   exact absurd hc14 (by omega)
  ·
   refine c_skip ?_
   refine f_then ?_
   refine c_seq ?_
   refine c_seq ?_
   refine c_region ?_
   refine l_val (v := .pointer (some ⟨b5, 1, none⟩)) rfl rfl rfl (e_fieldPt (b := b5) (o := 0) rfl tf55) ?_
   refine l_val (v := .slice p2 (R.length) c2) rfl rfl rfl (e_load1 tf56 (v := .slice p2 (R.length) c2) rfl (k_pt 4 (cs := #[.slice p (B0.length) c, .slice p2 (R.length) c2, Ix (gX), Ix (gY)]) (vs := [.slice p2 (R.length) c2]) rfl rfl)) ?_
   refine l_val (v := Nx (R.length)) rfl rfl rfl (e_len (a := p2) (n := R.length) (c := c2) rfl tf45) ?_
   refine l_val (v := .int .i64 (0)) rfl rfl rfl (e_move) ?_
   refine l_nil ?_
   refine f_then ?_
   refine c_block ?_
   refine c_mask [true, true, true, true, true, true, true] rfl ?_
   refine c_loop (fun (k : Nat) (f : Fm) (L : List Res) => (f 9 = .pointer (some ⟨b5, 0, none⟩) ∧ f 10 = Nx (i) ∧ f 11 = .pointer (some ⟨b13, 0, none⟩) ∧ f 56 = .slice p2 (R.length) c2 ∧ f 57 = Nx (R.length) ∧ f 58 = Nx (k)) ∧ L = [pt b13 (.cells #[.slice p7 (B0.length) c8, .slice p9 (R.length) c10, Ix (gX), Ix (gY)] 27), rowF BodyF 31 p7 c8 T, rowF RopeF 35 p9 c10 R, rowF StopF 45 p11 c12 S, pt b5 (.cells #[.slice p (B0.length) c, .slice p2 (R.length) c2, Ix (gX), Ix (gY)] 27), rowF BodyF 31 p c B0, rowF RopeF 35 p2 c2 R] ∧ (k ≤ R.length)) (fun (k : Nat) => R.length - k) 0 ?_ ?_
   ·exact ⟨⟨rfl, rfl, rfl, rfl, rfl, rfl⟩, rfl, (by omega)⟩
   rintro k f0 L0 ⟨⟨hs9, hs10, hs11, hs56, hs57, hs58⟩, hL, hk⟩
   subst L0
   refine rebase (d := 9) hs9 ?_
   refine rebase (d := 10) hs10 ?_
   refine rebase (d := 11) hs11 ?_
   refine rebase (d := 56) hs56 ?_
   refine rebase (d := 57) hs57 ?_
   refine rebase (d := 58) hs58 ?_
   clear hs9 hs10 hs11 hs56 hs57 hs58
   refine c_seq ?_
   refine c_region ?_
   refine l_val (v := .bool (decide (((k : Nat) : Int) < ((R.length : Nat) : Int)))) rfl rfl rfl (e_lss (a := ((k : Nat) : Int)) (b := ((R.length : Nat) : Int)) rfl rfl) ?_
   refine l_nil ?_
   refine f_then ?_
   refine c_seq ?_
   refine c_if (((k : Nat) : Int) < ((R.length : Nat) : Int)) rfl (fun hc15 => ?_) (fun hc15 => ?_)
   ·
    refine c_skip ?_
    refine f_then ?_
    refine c_seq ?_
    refine c_block ?_
    refine c_seq ?_
    refine c_region ?_
    refine l_val (v := Nx (k)) rfl rfl rfl (e_move) ?_
    refine l_val (v := .pointer (some ((ba p2).add (k * 3)))) rfl rfl rfl (e_indexFlN 6 (F := RopeF) (j := k) (m := R.length) (xs := R) rfl rfl rfl tf46 (by omega) rfl) ?_
    obtain ⟨r, hr⟩ : ∃ x_, R[k]? = some x_ := ⟨_, List.getElem?_eq_getElem (by omega)⟩
    refine l_val (v := .agg #[Ix (r.a), Ix (r.b), Ix (r.len)]) rfl rfl rfl (e_load tf47 (cs := [Ix (r.a), Ix (r.b), Ix (r.len)]) rfl (k_flAt 6 (F := RopeF) rfl hr) rfl) ?_
    refine l_mv rfl rfl rfl (m_alloc tf77) ?_
    rintro _ _ ⟨b16, rfl, rfl⟩
    refine l_val (v := Nx (k)) rfl rfl rfl (e_assign) ?_
    refine l_mu rfl rfl (m_store 0 tf47 (b := b16) (o := 0) (T := 35) (cs := #[.int .i64 (0), .int .i64 (0), .int .i64 (0)]) (cs' := #[Ix (r.a), Ix (r.b), Ix (r.len)]) (v := .agg #[Ix (r.a), Ix (r.b), Ix (r.len)]) rfl rfl rfl rfl rfl rfl rfl) ?_
    refine l_nil ?_
    refine f_then ?_
    refine c_seq ?_
    have hrm := List.mem_of_getElem? hr
    have hrk := o6 r hrm
    obtain ⟨a0, qa⟩ := Option.isSome_iff_exists.1 hrk.1
    obtain ⟨b0, qb⟩ := Option.isSome_iff_exists.1 hrk.2.1
    obtain ⟨i1, hi1, ha0⟩ := idx_body qa
    obtain ⟨i2, hi2, hb0⟩ := idx_body qb
    have ea := findB_id qa
    have eb := findB_id qb
    have hij : i1 ≠ i2 := by rintro rfl; rw [ha0] at hb0; injection hb0 with hb0; rw [hb0] at ea; have := hrk.2.2.1; omega
    obtain ⟨a, b, ha, hb, -, -, hd⟩ := ropes_keep hokS hrm hij ha0 hb0 ea eb B0.length
    rw [hT1] at ha hb
    have ok_a0 := o4 a0 (List.mem_of_getElem? ha0)
    have ok_b0 := o4 b0 (List.mem_of_getElem? hb0)
    have ok_a := hokT.2.2.2.1 a (List.mem_of_getElem? ha)
    have ok_b := hokT.2.2.2.1 b (List.mem_of_getElem? hb)
    have hq := sq_bd (x := r.len) (B := 2097152) (by have := hrk.2.2.2.1; omega) hrk.2.2.2.2
    have hl1 := (List.getElem?_eq_some_iff.1 ha0).1
    have hl2 := (List.getElem?_eq_some_iff.1 hb0).1
    refine c_quiet (by kernel_rfl) (by kernel_rfl) ?_
    refine q_val (v := .agg #[.slice p (B0.length) c, .slice p2 (R.length) c2, Ix (gX), Ix (gY)]) rfl rfl rfl (e_load tf86 (cs := [.slice p (B0.length) c, .slice p2 (R.length) c2, Ix (gX), Ix (gY)]) rfl (k_pt 5 (cs := #[.slice p (B0.length) c, .slice p2 (R.length) c2, Ix (gX), Ix (gY)]) (vs := [.slice p (B0.length) c, .slice p2 (R.length) c2, Ix (gX), Ix (gY)]) rfl rfl) rfl) ?_
    refine q_val (v := .pointer (some ⟨b16, 0, none⟩)) rfl rfl rfl (e_fieldPt (b := b16) (o := 0) rfl tf51) ?_
    refine q_val (v := Ix (r.a)) rfl rfl rfl (e_load1 tf2 (v := Ix (r.a)) rfl (k_pt 0 (cs := #[Ix (r.a), Ix (r.b), Ix (r.len)]) (vs := [Ix (r.a)]) rfl rfl)) ?_
    refine q_call (v := Nx (i1)) rfl rfl rfl (cl_value (fst := []) (cap := []) (vs := [.agg #[.slice p (B0.length) c, .slice p2 (R.length) c2, Ix (gX), Ix (gY)], Ix (r.a)]) (all := [.agg #[.slice p (B0.length) c, .slice p2 (R.length) c2, Ix (gX), Ix (gY)], Ix (r.a)]) tf134 rfl rfl rfl) (fun w hw => ?_) ?_
    ·obtain ⟨β1, sb, kn, hw1, back⟩ := St.frame_all hw
     exact (findK_ok β1 w hw1 _ _ _ _ B0 (kn _ (k_flN 6 (F := BodyF) (m := B0.length) (xs := B0) rfl rfl)) (r.a) i1 hi1).mono (fun e w' ⟨he, hw'⟩ => ⟨he, st_mask [true, true, true, true, true, true, true, true] rfl (back _ _ hw')⟩)
    refine q_val (v := .agg #[.slice p (B0.length) c, .slice p2 (R.length) c2, Ix (gX), Ix (gY)]) rfl rfl rfl (e_load tf86 (cs := [.slice p (B0.length) c, .slice p2 (R.length) c2, Ix (gX), Ix (gY)]) rfl (k_pt 5 (cs := #[.slice p (B0.length) c, .slice p2 (R.length) c2, Ix (gX), Ix (gY)]) (vs := [.slice p (B0.length) c, .slice p2 (R.length) c2, Ix (gX), Ix (gY)]) rfl rfl) rfl) ?_
    refine q_val (v := .pointer (some ⟨b16, 1, none⟩)) rfl rfl rfl (e_fieldPt (b := b16) (o := 0) rfl tf53) ?_
    refine q_val (v := Ix (r.b)) rfl rfl rfl (e_load1 tf2 (v := Ix (r.b)) rfl (k_pt 0 (cs := #[Ix (r.a), Ix (r.b), Ix (r.len)]) (vs := [Ix (r.b)]) rfl rfl)) ?_
    refine q_call (v := Nx (i2)) rfl rfl rfl (cl_value (fst := []) (cap := []) (vs := [.agg #[.slice p (B0.length) c, .slice p2 (R.length) c2, Ix (gX), Ix (gY)], Ix (r.b)]) (all := [.agg #[.slice p (B0.length) c, .slice p2 (R.length) c2, Ix (gX), Ix (gY)], Ix (r.b)]) tf134 rfl rfl rfl) (fun w hw => ?_) ?_
    ·obtain ⟨β1, sb, kn, hw1, back⟩ := St.frame_all hw
     exact (findK_ok β1 w hw1 _ _ _ _ B0 (kn _ (k_flN 6 (F := BodyF) (m := B0.length) (xs := B0) rfl rfl)) (r.b) i2 hi2).mono (fun e w' ⟨he, hw'⟩ => ⟨he, st_mask [true, true, true, true, true, true, true, true] rfl (back _ _ hw')⟩)
    refine q_val (v := Nx (i1)) rfl rfl rfl (e_assign) ?_
    refine q_val (v := Nx (i2)) rfl rfl rfl (e_assign) ?_
    refine q_nil ?_
    refine f_then ?_
    refine c_seq ?_
    refine c_quiet (by kernel_rfl) (by kernel_rfl) ?_
    refine q_val (v := .pointer (some ⟨b13, 1, none⟩)) rfl rfl rfl (e_fieldPt (b := b13) (o := 0) rfl tf55) ?_
    refine q_val (v := .slice p9 (R.length) c10) rfl rfl rfl (e_load1 tf56 (v := .slice p9 (R.length) c10) rfl (k_pt 1 (cs := #[.slice p7 (B0.length) c8, .slice p9 (R.length) c10, Ix (gX), Ix (gY)]) (vs := [.slice p9 (R.length) c10]) rfl rfl)) ?_
    refine q_val (v := Nx (k)) rfl rfl rfl (e_move) ?_
    refine q_val (v := .pointer (some ((ba p9).add (k * 3)))) rfl rfl rfl (e_indexFlN 3 (F := RopeF) (j := k) (m := R.length) (xs := R) rfl rfl rfl tf46 (by omega) rfl) ?_
    refine q_val (v := .agg #[Ix (r.a), Ix (r.b), Ix (r.len)]) rfl rfl rfl (e_load tf47 (cs := [Ix (r.a), Ix (r.b), Ix (r.len)]) rfl (k_flAt 3 (F := RopeF) rfl hr) rfl) ?_
    refine q_val (v := .agg #[Ix (r.a), Ix (r.b), Ix (r.len)]) rfl rfl rfl (e_load tf47 (cs := [Ix (r.a), Ix (r.b), Ix (r.len)]) rfl (k_pt 0 (cs := #[Ix (r.a), Ix (r.b), Ix (r.len)]) (vs := [Ix (r.a), Ix (r.b), Ix (r.len)]) rfl rfl) rfl) ?_
    refine q_val (v := .bool (decide (¬ (r = r)))) rfl rfl rfl (e_neq_t (xs := [Ix (r.a), Ix (r.b), Ix (r.len)]) (ys := [Ix (r.a), Ix (r.b), Ix (r.len)]) tf135 tf136 tf137 rfl rfl rfl rfl (not_congr rope_eq)) ?_
    refine q_val (v := .bool (decide (¬ (r = r)))) rfl rfl rfl (e_move) ?_
    refine q_split (s := 78) (p := ¬ (r = r)) rfl (fun h => ?_) (fun h => ?_)
    exact absurd h (fun h => h rfl)
    refine qg_val (v := .pointer (some ⟨b13, 0, none⟩)) rfl rfl rfl rfl rfl (e_fieldPt (b := b13) (o := 0) rfl tf49) ?_
    refine qg_val (v := .slice p7 (B0.length) c8) rfl rfl rfl rfl rfl (e_load1 tf50 (v := .slice p7 (B0.length) c8) rfl (k_pt 1 (cs := #[.slice p7 (B0.length) c8, .slice p9 (R.length) c10, Ix (gX), Ix (gY)]) (vs := [.slice p7 (B0.length) c8]) rfl rfl)) ?_
    refine qg_val (v := Nx (i1)) rfl rfl rfl rfl rfl (e_move) ?_
    refine qg_val (v := .pointer (some ((ba p7).add (i1 * 9)))) rfl rfl rfl rfl rfl (e_indexFlN 2 (F := BodyF) (j := i1) (m := B0.length) (xs := T) rfl (by omega) rfl tf43 (by omega) rfl) ?_
    refine qg_val (v := .agg (bC a)) rfl rfl rfl rfl rfl (e_load tf22 (cs := (bodyE a)) rfl (k_flAt 2 (F := BodyF) rfl ha) rfl) ?_
    refine qg_val (v := .pointer (some ⟨b13, 0, none⟩)) rfl rfl rfl rfl rfl (e_fieldPt (b := b13) (o := 0) rfl tf49) ?_
    refine qg_val (v := .slice p7 (B0.length) c8) rfl rfl rfl rfl rfl (e_load1 tf50 (v := .slice p7 (B0.length) c8) rfl (k_pt 1 (cs := #[.slice p7 (B0.length) c8, .slice p9 (R.length) c10, Ix (gX), Ix (gY)]) (vs := [.slice p7 (B0.length) c8]) rfl rfl)) ?_
    refine qg_val (v := Nx (i2)) rfl rfl rfl rfl rfl (e_move) ?_
    refine qg_val (v := .pointer (some ((ba p7).add (i2 * 9)))) rfl rfl rfl rfl rfl (e_indexFlN 2 (F := BodyF) (j := i2) (m := B0.length) (xs := T) rfl (by omega) rfl tf43 (by omega) rfl) ?_
    refine qg_val (v := .agg (bC b)) rfl rfl rfl rfl rfl (e_load tf22 (cs := (bodyE b)) rfl (k_flAt 2 (F := BodyF) rfl hb) rfl) ?_
    refine qg_call (v := Ix (Stp.dist a b)) rfl rfl rfl rfl rfl (cl_value (fst := []) (cap := []) (vs := [.agg (bC a), .agg (bC b)]) (all := [.agg (bC a), .agg (bC b)]) tf138 rfl rfl rfl) (fun w hw => ?_) ?_
    ·obtain ⟨β1, sb, kn, hw1, back⟩ := St.frame_all hw
     exact (farL_ok β1 w hw1 a b (ok_a).mid (ok_b).mid).mono (fun e w' ⟨he, hw'⟩ => ⟨he, st_mask [true, true, true, true, true, true, true, true] rfl (back _ _ hw')⟩)
    refine qg_val (v := .pointer (some ⟨b16, 2, none⟩)) rfl rfl rfl rfl rfl (e_fieldPt (b := b16) (o := 0) rfl tf54) ?_
    refine qg_val (v := Ix (r.len)) rfl rfl rfl rfl rfl (e_load1 tf2 (v := Ix (r.len)) rfl (k_pt 0 (cs := #[Ix (r.a), Ix (r.b), Ix (r.len)]) (vs := [Ix (r.len)]) rfl rfl)) ?_
    refine qg_val (v := .pointer (some ⟨b16, 2, none⟩)) rfl rfl rfl rfl rfl (e_fieldPt (b := b16) (o := 0) rfl tf54) ?_
    refine qg_val (v := Ix (r.len)) rfl rfl rfl rfl rfl (e_load1 tf2 (v := Ix (r.len)) rfl (k_pt 0 (cs := #[Ix (r.a), Ix (r.b), Ix (r.len)]) (vs := [Ix (r.len)]) rfl rfl)) ?_
    refine qg_val (v := Ix ((r.len) * (r.len))) rfl rfl rfl rfl rfl (e_mul (a := (r.len)) (b := (r.len)) rfl rfl (i64w (by omega))) ?_
    refine qg_val (v := .pointer (some ⟨b5, 0, none⟩)) rfl rfl rfl rfl rfl (e_fieldPt (b := b5) (o := 0) rfl tf49) ?_
    refine qg_val (v := .slice p (B0.length) c) rfl rfl rfl rfl rfl (e_load1 tf50 (v := .slice p (B0.length) c) rfl (k_pt 5 (cs := #[.slice p (B0.length) c, .slice p2 (R.length) c2, Ix (gX), Ix (gY)]) (vs := [.slice p (B0.length) c]) rfl rfl)) ?_
    refine qg_val (v := Nx (i1)) rfl rfl rfl rfl rfl (e_move) ?_
    refine qg_val (v := .pointer (some ((ba p).add (i1 * 9)))) rfl rfl rfl rfl rfl (e_indexFlN 6 (F := BodyF) (j := i1) (m := B0.length) (xs := B0) rfl rfl rfl tf43 (by omega) rfl) ?_
    refine qg_val (v := .agg (bC a0)) rfl rfl rfl rfl rfl (e_load tf22 (cs := (bodyE a0)) rfl (k_flAt 6 (F := BodyF) rfl ha0) rfl) ?_
    refine qg_val (v := .pointer (some ⟨b5, 0, none⟩)) rfl rfl rfl rfl rfl (e_fieldPt (b := b5) (o := 0) rfl tf49) ?_
    refine qg_val (v := .slice p (B0.length) c) rfl rfl rfl rfl rfl (e_load1 tf50 (v := .slice p (B0.length) c) rfl (k_pt 5 (cs := #[.slice p (B0.length) c, .slice p2 (R.length) c2, Ix (gX), Ix (gY)]) (vs := [.slice p (B0.length) c]) rfl rfl)) ?_
    refine qg_val (v := Nx (i2)) rfl rfl rfl rfl rfl (e_move) ?_
    refine qg_val (v := .pointer (some ((ba p).add (i2 * 9)))) rfl rfl rfl rfl rfl (e_indexFlN 6 (F := BodyF) (j := i2) (m := B0.length) (xs := B0) rfl rfl rfl tf43 (by omega) rfl) ?_
    refine qg_val (v := .agg (bC b0)) rfl rfl rfl rfl rfl (e_load tf22 (cs := (bodyE b0)) rfl (k_flAt 6 (F := BodyF) rfl hb0) rfl) ?_
    refine qg_call (v := Ix (Stp.dist a0 b0)) rfl rfl rfl rfl rfl (cl_value (fst := []) (cap := []) (vs := [.agg (bC a0), .agg (bC b0)]) (all := [.agg (bC a0), .agg (bC b0)]) tf138 rfl rfl rfl) (fun w hw => ?_) ?_
    ·obtain ⟨β1, sb, kn, hw1, back⟩ := St.frame_all hw
     exact (farL_ok β1 w hw1 a0 b0 (ok_a0).mid (ok_b0).mid).mono (fun e w' ⟨he, hw'⟩ => ⟨he, st_mask [true, true, true, true, true, true, true, true] rfl (back _ _ hw')⟩)
    refine qg_val (v := Ix (max ((r.len) * (r.len)) (Stp.dist a0 b0))) rfl rfl rfl rfl rfl (e_max (a := ((r.len) * (r.len))) (b := (Stp.dist a0 b0)) rfl rfl) ?_
    refine qg_val (v := .bool (decide ((max ((r.len) * (r.len)) (Stp.dist a0 b0)) < (Stp.dist a b)))) rfl rfl rfl rfl rfl (e_gtr (a := (Stp.dist a b)) (b := (max ((r.len) * (r.len)) (Stp.dist a0 b0))) rfl rfl) ?_
    refine q_val (v := .bool (decide ((max ((r.len) * (r.len)) (Stp.dist a0 b0)) < (Stp.dist a b)))) rfl rfl rfl (e_pick_f rfl) ?_
    refine q_nil ?_
    refine f_then ?_
    refine c_if ((max ((r.len) * (r.len)) (Stp.dist a0 b0)) < (Stp.dist a b)) rfl (fun hc17 => ?_) (fun hc17 => ?_)
    ·
     exact absurd hc17 (by omega)
    ·
     refine c_skip ?_
     refine f_block ?_
     refine f_then ?_
     refine c_region ?_
     refine l_val (v := Nx (k + 1)) rfl rfl rfl (e_add (a := ((k : Nat) : Int)) (b := (1 : Int)) rfl rfl (i64n (by omega) (by omega))) ?_
     refine l_val (v := Nx (k + 1)) rfl rfl rfl (e_move) ?_
     refine l_nil ?_
     refine f_mask (L' := [pt b13 (.cells #[.slice p7 (B0.length) c8, .slice p9 (R.length) c10, Ix (gX), Ix (gY)] 27), rowF BodyF 31 p7 c8 T, rowF RopeF 35 p9 c10 R, rowF StopF 45 p11 c12 S, pt b5 (.cells #[.slice p (B0.length) c, .slice p2 (R.length) c2, Ix (gX), Ix (gY)] 27), rowF BodyF 31 p c B0, rowF RopeF 35 p2 c2 R]) [false, true, true, true, true, true, true, true] rfl ?_
     exact f_cut ⟨k + 1, ⟨⟨rfl, rfl, rfl, rfl, rfl, rfl⟩, rfl, (by omega)⟩, (show R.length - (k + 1) < R.length - k from by omega)⟩
   ·
    refine c_exit ?_
    refine f_then_exit ?_
    refine f_then_exit ?_
    refine f_exit ?_
    refine f_then ?_
    refine c_region ?_
    refine l_val (v := .agg #[.slice p7 (B0.length) c8, .slice p9 (R.length) c10, Ix (gX), Ix (gY)]) rfl rfl rfl (e_load tf86 (cs := [.slice p7 (B0.length) c8, .slice p9 (R.length) c10, Ix (gX), Ix (gY)]) rfl (k_pt 0 (cs := #[.slice p7 (B0.length) c8, .slice p9 (R.length) c10, Ix (gX), Ix (gY)]) (vs := [.slice p7 (B0.length) c8, .slice p9 (R.length) c10, Ix (gX), Ix (gY)]) rfl rfl) rfl) ?_
    refine l_mu rfl rfl (m_store 4 tf86 (b := b5) (o := 0) (T := 27) (cs := #[.slice p (B0.length) c, .slice p2 (R.length) c2, Ix (gX), Ix (gY)]) (cs' := #[.slice p7 (B0.length) c8, .slice p9 (R.length) c10, Ix (gX), Ix (gY)]) (v := .agg #[.slice p7 (B0.length) c8, .slice p9 (R.length) c10, Ix (gX), Ix (gY)]) rfl rfl rfl rfl rfl rfl rfl) ?_
    refine l_nil ?_
    refine f_block ?_
    refine f_then ?_
    refine c_region ?_
    refine l_val (v := Nx (i)) rfl rfl rfl (e_move) ?_
    refine l_val (v := Nx (i + 1)) rfl rfl rfl (e_add (a := ((i : Nat) : Int)) (b := (1 : Int)) rfl rfl (i64n (by omega) (by omega))) ?_
    refine l_val (v := Nx (i + 1)) rfl rfl rfl (e_assign) ?_
    refine l_nil ?_
    refine f_perm (L' := [pt b5 (.cells #[.slice p7 (B0.length) c8, .slice p9 (R.length) c10, Ix (gX), Ix (gY)] 27), rowF BodyF 31 p7 c8 T, rowF RopeF 35 p9 c10 R, pt b13 (.cells #[.slice p7 (B0.length) c8, .slice p9 (R.length) c10, Ix (gX), Ix (gY)] 27), rowF StopF 45 p11 c12 S, rowF BodyF 31 p c B0, rowF RopeF 35 p2 c2 R]) (perm_ix [4, 1, 2, 0, 3, 5, 6] 7 rfl (by kernel_rfl) (by kernel_rfl)) ?_
    refine f_mask (L' := [pt b5 (.cells #[.slice p7 (B0.length) c8, .slice p9 (R.length) c10, Ix (gX), Ix (gY)] 27), rowF BodyF 31 p7 c8 T, rowF RopeF 35 p9 c10 R]) [true, true, true, false, false, false, false] rfl ?_
    exact f_cut ⟨(i + 1, T, p7, c8, p9, c10), ⟨⟨rfl, rfl⟩, (by rw [hTl]), ⟨by omega, hokT⟩⟩, (show 3 - (i + 1) < 3 - i from by omega)⟩
 ·
  refine c_exit ?_
  refine f_then_exit ?_
  refine f_then_exit ?_
  refine f_exit ?_
  refine f_then ?_
  refine c_seq ?_
  refine c_region ?_
  refine l_val (v := .bool true) rfl rfl rfl (e_assign) ?_
  refine l_nil ?_
  refine f_then ?_
  refine c_ret ?_
  refine ret1 Tryd.results6 (v := .bool true) rfl ?_
  intro w hw
  exact ⟨rfl, st_mask [false, false, false] rfl hw⟩
end Go.Proofs
