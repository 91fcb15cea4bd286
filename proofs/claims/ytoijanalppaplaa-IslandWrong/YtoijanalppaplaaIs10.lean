/-
  IslandWrong: walked. Printed by a program of my own.
-/
import Derived.Test.YtoijanalppaplaaIs10c
namespace Go.Proofs
open Go Go.Sl Go.Brd Go.Stp Go.Isl
set_option maxHeartbeats 4000000 in
theorem wrong_ok (β : Base) (w : World) (hw : St β [] w) (v u : Value) (fs : List KF) (us : List UInt8) (hs : Sl FormR β.heap v fs) (hu : Sl U8R β.heap u us) (way : UInt8) (low high : Int) (hlw : -9223372036854775808 ≤ low ∧ low ≤ 9223372036854775807) (hhg : -9223372036854775808 ≤ high ∧ high ≤ 9223372036854775807) : Calls Try.prog 8 #[v, u, Bx way, Ix low, Ix high] w fun r w' => r = .returned (.bool true) ∧ St β [] w' := by
  refine enter (n := 214) Try.func8 rfl Try.ntmps8 rfl ?_ hw
  refine c_seq ?_
  refine c_region ?_
  refine l_val (v := .bool false) rfl rfl rfl (e_assign) ?_
  refine l_nil ?_
  refine f_then ?_
  refine c_seq ?_
  refine c_seq ?_
  refine c_region ?_
  refine l_call rfl rfl rfl (cl_value (fst := []) (cap := []) (vs := []) (all := []) tf81 rfl rfl rfl) ?_
  intro w hw
  obtain ⟨β1, sb, kn, hw1, back⟩ := St.frame_all hw
  refine (awake_ok β1 w hw1).mono ?_
  rintro e w' ⟨rfl, hw'⟩
  refine ⟨_, rfl, _, back _ _ hw', ?_⟩
  clear hw hw1 hw' back kn sb
  refine l_val (v := .bool false) rfl rfl rfl (e_not (a := true) rfl) ?_
  refine l_nil ?_
  refine f_then ?_
  refine c_no rfl ?_
  refine c_skip ?_
  refine f_then ?_
  refine c_seq ?_
  refine c_region ?_
  refine l_val (v := v) rfl rfl rfl (e_move) ?_
  refine l_val (v := u) rfl rfl rfl (e_move) ?_
  refine l_call rfl rfl rfl (cl_value (fst := []) (cap := []) (vs := [v, u, .int .i8 (0), .int .i8 (0)]) (all := [v, u, .int .i8 (0), .int .i8 (0)]) tf82 rfl rfl rfl) ?_
  intro w hw
  obtain ⟨β1, sb, kn, hw1, back⟩ := St.frame_all hw
  refine (made7_ok β1 w hw1 _ _ fs us (Sl.mono _ _ _ _ _ sb hs) (Sl.mono _ _ _ _ _ sb hu) 0 0 (by decide) (by decide)).mono ?_
  rintro e w' ⟨bs, R, p1, c2, q3, d4, rfl, hmP, hbl, hrl, hw'⟩
  refine ⟨_, rfl, _, back _ _ hw', ?_⟩
  clear hw hw1 hw' back kn sb
  refine l_mv rfl rfl rfl (m_alloc tf67) ?_
  rintro _ _ ⟨b5, rfl, rfl⟩
  refine l_mu rfl rfl (m_store 0 tf31 (b := b5) (o := 0) (T := 32) (cs := #[.slice none 0 0, .slice none 0 0, .int .i64 (0), .int .i64 (0)]) (cs' := #[.slice p1 (bs.length) c2, .slice q3 (R.length) d4, .int .i64 (0), .int .i64 (0)]) (v := .agg #[.slice p1 (bs.length) c2, .slice q3 (R.length) d4, .int .i64 (0), .int .i64 (0)]) rfl rfl rfl rfl rfl rfl rfl) ?_
  refine l_nil ?_
  refine f_then ?_
  refine c_seq ?_
  have hmP : MadeP bs R 0 0 := hmP
  have hb16 := hmP.few
  have hr6 := hmP.ropes
  have hL := hmP.bodies
  refine c_region ?_
  refine l_val (v := Ix (low)) rfl rfl rfl (e_move) ?_
  refine l_val (v := Ix (min (low) (-4097 : Int))) rfl rfl rfl (e_min (a := (low)) (b := (-4097 : Int)) rfl rfl) ?_
  refine l_val (v := Ix (high)) rfl rfl rfl (e_move) ?_
  refine l_val (v := Ix (max (high) (2097153 : Int))) rfl rfl rfl (e_max (a := (high)) (b := (2097153 : Int)) rfl rfl) ?_
  refine l_val (v := Ix (min (low) (-4097 : Int))) rfl rfl rfl (e_assign) ?_
  refine l_val (v := Ix (max (high) (2097153 : Int))) rfl rfl rfl (e_assign) ?_
  refine l_nil ?_
  refine f_then ?_
  refine c_seq ?_
  obtain ⟨lo, hlo⟩ : ∃ z, z = min low (-4097) := ⟨_, rfl⟩
  obtain ⟨hi, hhi⟩ : ∃ z, z = max high 2097153 := ⟨_, rfl⟩
  rw [← hlo, ← hhi]
  refine c_region ?_
  refine l_val (v := .agg #[.slice p1 (bs.length) c2, .slice q3 (R.length) d4, .int .i64 (0), .int .i64 (0)]) rfl rfl rfl (e_load tf31 (cs := [.slice p1 (bs.length) c2, .slice q3 (R.length) d4, .int .i64 (0), .int .i64 (0)]) rfl (k_pt 0 (cs := #[.slice p1 (bs.length) c2, .slice q3 (R.length) d4, .int .i64 (0), .int .i64 (0)]) (vs := [.slice p1 (bs.length) c2, .slice q3 (R.length) d4, .int .i64 (0), .int .i64 (0)]) rfl rfl) rfl) ?_
  refine l_call rfl rfl rfl (cl_value (fst := []) (cap := []) (vs := [.agg #[.slice p1 (bs.length) c2, .slice q3 (R.length) d4, .int .i64 (0), .int .i64 (0)]]) (all := [.agg #[.slice p1 (bs.length) c2, .slice q3 (R.length) d4, .int .i64 (0), .int .i64 (0)]]) tf97 rfl rfl rfl) ?_
  intro w hw
  obtain ⟨β1, sb, kn, hw1, back⟩ := St.frame_all hw
  refine (copyS_ok β1 w hw1 _ _ 0 0 bs R (kn _ (k_flN 1 (F := BodyF) (m := bs.length) rfl rfl)) (kn _ (k_flN 2 (F := RopeF) (m := R.length) rfl rfl)) (by omega) (by omega)).mono ?_
  rintro e w' ⟨p6, c7, q8, d9, rfl, hw'⟩
  refine ⟨_, rfl, _, back _ _ hw', ?_⟩
  clear hw hw1 hw' back kn sb
  refine l_mv rfl rfl rfl (m_alloc tf67) ?_
  rintro _ _ ⟨b10, rfl, rfl⟩
  refine l_mu rfl rfl (m_store 0 tf31 (b := b10) (o := 0) (T := 32) (cs := #[.slice none 0 0, .slice none 0 0, .int .i64 (0), .int .i64 (0)]) (cs' := #[.slice p6 (bs.length) c7, .slice q8 (R.length) d9, .int .i64 (0), .int .i64 (0)]) (v := .agg #[.slice p6 (bs.length) c7, .slice q8 (R.length) d9, .int .i64 (0), .int .i64 (0)]) rfl rfl rfl rfl rfl rfl rfl) ?_
  refine l_nil ?_
  refine f_then ?_
  refine c_seq ?_
  refine c_mask [true, true, true, false, false, false] rfl ?_
  refine c_region ?_
  refine l_call rfl rfl rfl (cl_value (fst := []) (cap := []) (vs := [.int .i64 (40), .int .i64 (0), .int .i64 (0), .int .i64 (0), .int .i64 (0)]) (all := [.int .i64 (40), .int .i64 (0), .int .i64 (0), .int .i64 (0), .int .i64 (0)]) tf68 rfl rfl rfl) ?_
  intro w hw
  obtain ⟨β1, sb, kn, hw1, back⟩ := St.frame_all hw
  refine (box_ok β1 w hw1 40 0 0 0 0).mono ?_
  rintro e w' ⟨rfl, hw'⟩
  refine ⟨_, rfl, _, back _ _ hw', ?_⟩
  clear hw hw1 hw' back kn sb
  refine l_call rfl rfl rfl (cl_value (fst := []) (cap := []) (vs := [.int .i64 (41), .int .i64 (90), .int .i64 (0), .int .i64 (0), .int .i64 (0)]) (all := [.int .i64 (41), .int .i64 (90), .int .i64 (0), .int .i64 (0), .int .i64 (0)]) tf68 rfl rfl rfl) ?_
  intro w hw
  obtain ⟨β1, sb, kn, hw1, back⟩ := St.frame_all hw
  refine (box_ok β1 w hw1 41 90 0 0 0).mono ?_
  rintro e w' ⟨rfl, hw'⟩
  refine ⟨_, rfl, _, back _ _ hw', ?_⟩
  clear hw hw1 hw' back kn sb
  refine l_mv rfl rfl rfl (m_alloc tf17) ?_
  rintro _ _ ⟨b11, rfl, rfl⟩
  refine l_mv rfl rfl rfl (m_alloc tf17) ?_
  rintro _ _ ⟨b12, rfl, rfl⟩
  refine l_mu rfl rfl (m_store 1 tf1 (b := b11) (o := 0) (T := 39) (cs := #[.int .i64 (0), .int .i64 (0), .int .i64 (0), .int .i64 (0), .int .i64 (0), .int .i64 (0), .int .i64 (0), .bool false, .bool false]) (cs' := #[.int .i64 (40), .int .i64 (0), .int .i64 (0), .int .i64 (0), .int .i64 (0), .int .i64 (10), .int .i64 (10), .bool false, .bool false]) (v := .agg #[.int .i64 (40), .int .i64 (0), .int .i64 (0), .int .i64 (0), .int .i64 (0), .int .i64 (10), .int .i64 (10), .bool false, .bool false]) rfl rfl rfl rfl rfl rfl rfl) ?_
  refine l_mu rfl rfl (m_store 0 tf1 (b := b12) (o := 0) (T := 39) (cs := #[.int .i64 (0), .int .i64 (0), .int .i64 (0), .int .i64 (0), .int .i64 (0), .int .i64 (0), .int .i64 (0), .bool false, .bool false]) (cs' := #[.int .i64 (41), .int .i64 (90), .int .i64 (0), .int .i64 (0), .int .i64 (0), .int .i64 (10), .int .i64 (10), .bool false, .bool false]) (v := .agg #[.int .i64 (41), .int .i64 (90), .int .i64 (0), .int .i64 (0), .int .i64 (0), .int .i64 (10), .int .i64 (10), .bool false, .bool false]) rfl rfl rfl rfl rfl rfl rfl) ?_
  refine l_nil ?_
  refine f_then ?_
  refine c_seq ?_
  refine c_region ?_
  refine l_val (v := .pointer (some ⟨b12, 8, none⟩)) rfl rfl rfl (e_fieldPt (b := b12) (o := 0) rfl tf18) ?_
  refine l_mu rfl rfl (m_store 0 tf19 (b := b12) (o := 8) (T := 39) (cs := #[.int .i64 (41), .int .i64 (90), .int .i64 (0), .int .i64 (0), .int .i64 (0), .int .i64 (10), .int .i64 (10), .bool false, .bool false]) (cs' := #[.int .i64 (41), .int .i64 (90), .int .i64 (0), .int .i64 (0), .int .i64 (0), .int .i64 (10), .int .i64 (10), .bool false, .bool true]) (v := .bool true) rfl rfl rfl rfl rfl rfl rfl) ?_
  refine l_nil ?_
  refine f_then ?_
  refine c_seq ?_
  refine c_region ?_
  refine l_val (v := .pointer (some ⟨b10, 0, none⟩)) rfl rfl rfl (e_fieldPt (b := b10) (o := 0) rfl tf33) ?_
  refine l_val (v := .slice p6 (bs.length) c7) rfl rfl rfl (e_load1 tf26 (v := .slice p6 (bs.length) c7) rfl (k_pt 2 (cs := #[.slice p6 (bs.length) c7, .slice q8 (R.length) d9, .int .i64 (0), .int .i64 (0)]) (vs := [.slice p6 (bs.length) c7]) rfl rfl)) ?_
  refine l_val (v := .agg #[.int .i64 (40), .int .i64 (0), .int .i64 (0), .int .i64 (0), .int .i64 (0), .int .i64 (10), .int .i64 (10), .bool false, .bool false]) rfl rfl rfl (e_load tf1 (cs := [.int .i64 (40), .int .i64 (0), .int .i64 (0), .int .i64 (0), .int .i64 (0), .int .i64 (10), .int .i64 (10), .bool false, .bool false]) rfl (k_pt 1 (cs := #[.int .i64 (40), .int .i64 (0), .int .i64 (0), .int .i64 (0), .int .i64 (0), .int .i64 (10), .int .i64 (10), .bool false, .bool false]) (vs := [.int .i64 (40), .int .i64 (0), .int .i64 (0), .int .i64 (0), .int .i64 (0), .int .i64 (10), .int .i64 (10), .bool false, .bool false]) rfl rfl) rfl) ?_
  refine l_val (v := .agg #[.int .i64 (41), .int .i64 (90), .int .i64 (0), .int .i64 (0), .int .i64 (0), .int .i64 (10), .int .i64 (10), .bool false, .bool true]) rfl rfl rfl (e_load tf1 (cs := [.int .i64 (41), .int .i64 (90), .int .i64 (0), .int .i64 (0), .int .i64 (0), .int .i64 (10), .int .i64 (10), .bool false, .bool true]) rfl (k_pt 0 (cs := #[.int .i64 (41), .int .i64 (90), .int .i64 (0), .int .i64 (0), .int .i64 (0), .int .i64 (10), .int .i64 (10), .bool false, .bool true]) (vs := [.int .i64 (41), .int .i64 (90), .int .i64 (0), .int .i64 (0), .int .i64 (0), .int .i64 (10), .int .i64 (10), .bool false, .bool true]) rfl rfl) rfl) ?_
  refine l_mv rfl rfl rfl (m_slices tf16 tf17 (vs := [(0, .agg #[.int .i64 (40), .int .i64 (0), .int .i64 (0), .int .i64 (0), .int .i64 (0), .int .i64 (10), .int .i64 (10), .bool false, .bool false]), (1, .agg #[.int .i64 (41), .int .i64 (90), .int .i64 (0), .int .i64 (0), .int .i64 (0), .int .i64 (10), .int .i64 (10), .bool false, .bool true])]) (cells := #[.int .i64 (40), .int .i64 (0), .int .i64 (0), .int .i64 (0), .int .i64 (0), .int .i64 (10), .int .i64 (10), .bool false, .bool false, .int .i64 (41), .int .i64 (90), .int .i64 (0), .int .i64 (0), .int .i64 (0), .int .i64 (10), .int .i64 (10), .bool false, .bool true]) rfl rfl rfl (by kernel_rfl)) ?_
  rintro _ _ ⟨b13, rfl, rfl⟩
  refine l_mv rfl rfl rfl (m_appendFlN (F := BodyF) 4 tf16 tf70 (p := p6) (m := bs.length) (xs := bs) (ys := [ib0, ib1]) (ao := (some ⟨b13, 0, none⟩)) (k := 2) (c := 2) rfl rfl rfl rfl rfl (Knows.imp (k_ptFls (F := BodyF) 0 (m := 2) (xs := [ib0, ib1]) rfl rfl rfl (by decide)) fun _ h => (Sl.parts h).2.2.2) (by first | omega | simp only [List.length_nil, List.length_cons, List.length_append, List.length_set]; omega) (by first | omega | simp only [List.length_nil, List.length_cons, List.length_append, List.length_set]; omega)) ?_
  rintro _ _ ⟨rp14, rc15, rfl, rfl⟩
  refine l_val (v := .pointer (some ⟨b10, 0, none⟩)) rfl rfl rfl (e_fieldPt (b := b10) (o := 0) rfl tf33) ?_
  refine l_mu rfl rfl (m_store 3 tf26 (b := b10) (o := 0) (T := 32) (cs := #[.slice p6 (bs.length) c7, .slice q8 (R.length) d9, .int .i64 (0), .int .i64 (0)]) (cs' := #[.slice rp14 ((bs ++ [ib0, ib1]).length) rc15, .slice q8 (R.length) d9, .int .i64 (0), .int .i64 (0)]) (v := .slice rp14 ((bs ++ [ib0, ib1]).length) rc15) rfl rfl rfl rfl rfl rfl rfl) ?_
  refine l_nil ?_
  refine f_then ?_
  refine c_seq ?_
  refine c_seq ?_
  obtain ⟨B0, hB0⟩ : ∃ z, z = bs ++ [ib0, ib1] := ⟨_, rfl⟩
  obtain ⟨hl1, hl2, hl3⟩ := bad_last hB0
  rw [← hB0]
  have hok : okS B0 R 0 0 := bad_ok hB0 hmP
  obtain ⟨hk1, hk2, hk3, hk4, hk5, hk6⟩ := id hok
  refine c_region ?_
  refine l_val (v := .agg #[.slice rp14 (B0.length) rc15, .slice q8 (R.length) d9, .int .i64 (0), .int .i64 (0)]) rfl rfl rfl (e_load tf31 (cs := [.slice rp14 (B0.length) rc15, .slice q8 (R.length) d9, .int .i64 (0), .int .i64 (0)]) rfl (k_pt 3 (cs := #[.slice rp14 (B0.length) rc15, .slice q8 (R.length) d9, .int .i64 (0), .int .i64 (0)]) (vs := [.slice rp14 (B0.length) rc15, .slice q8 (R.length) d9, .int .i64 (0), .int .i64 (0)]) rfl rfl) rfl) ?_
  refine l_call rfl rfl rfl (cl_value (fst := []) (cap := []) (vs := [.agg #[.slice rp14 (B0.length) rc15, .slice q8 (R.length) d9, .int .i64 (0), .int .i64 (0)]]) (all := [.agg #[.slice rp14 (B0.length) rc15, .slice q8 (R.length) d9, .int .i64 (0), .int .i64 (0)]]) tf32 rfl rfl rfl) ?_
  intro w hw
  obtain ⟨β1, sb, kn, hw1, back⟩ := St.frame_all hw
  refine (ivalid_ok β1 w hw1 _ _ 0 0 B0 R (kn _ (k_flN 4 (F := BodyF) (m := B0.length) rfl rfl)) (kn _ (k_flN 5 (F := RopeF) (m := R.length) rfl rfl)) (by omega) (by omega)).mono ?_
  rintro e w' ⟨rfl, hw'⟩
  refine ⟨_, rfl, _, back _ _ hw', ?_⟩
  clear hw hw1 hw' back kn sb
  refine l_val (v := .bool (decide (¬ (okS B0 R 0 0)))) rfl rfl rfl (e_not_p (p := okS B0 R 0 0) rfl) ?_
  refine l_nil ?_
  refine f_then ?_
  refine c_if (¬ (okS B0 R 0 0)) rfl (fun hc16 => ?_) (fun hc16 => ?_)
  ·
    exact absurd hc16 (fun q => q hok)
  refine c_skip ?_
  refine f_then ?_
  refine c_seq ?_
  refine c_region ?_
  refine l_val (v := .pointer (some ⟨b10, 0, none⟩)) rfl rfl rfl (e_fieldPt (b := b10) (o := 0) rfl tf33) ?_
  refine l_val (v := .slice rp14 (B0.length) rc15) rfl rfl rfl (e_load1 tf26 (v := .slice rp14 (B0.length) rc15) rfl (k_pt 3 (cs := #[.slice rp14 (B0.length) rc15, .slice q8 (R.length) d9, .int .i64 (0), .int .i64 (0)]) (vs := [.slice rp14 (B0.length) rc15]) rfl rfl)) ?_
  refine l_val (v := Nx (B0.length)) rfl rfl rfl (e_len (a := rp14) (n := B0.length) (c := rc15) rfl tf15) ?_
  refine l_val (v := Ix (((B0.length : Nat) : Int) - (1 : Int))) rfl rfl rfl (e_sub (a := ((B0.length : Nat) : Int)) (b := (1 : Int)) rfl rfl (i64w (by omega))) ?_
  refine l_val (v := Ix (((B0.length : Nat) : Int) - (1 : Int))) rfl rfl rfl (e_assign) ?_
  refine l_nil ?_
  refine f_then ?_
  refine c_seq ?_
  have he41 : errPt B0 R 0 0 [41] = 6 := errPt_free hok (x := 41) (by simp) (bad_free hB0 hL hb16 (by omega))
  have he42 : errPt B0 R 0 0 [40, 42] = 6 := errPt_free hok (x := 42) (by simp) (bad_free hB0 hL hb16 (by omega))
  have helo : errPt B0 R 0 0 [lo] = 6 := errPt_free hok (x := lo) (by simp) (bad_free hB0 hL hb16 (by omega))
  refine c_mask [false, false, true, true, true, true] rfl ?_
  refine c_region ?_
  refine l_val (v := .agg #[.slice rp14 (B0.length) rc15, .slice q8 (R.length) d9, .int .i64 (0), .int .i64 (0)]) rfl rfl rfl (e_load tf31 (cs := [.slice rp14 (B0.length) rc15, .slice q8 (R.length) d9, .int .i64 (0), .int .i64 (0)]) rfl (k_pt 1 (cs := #[.slice rp14 (B0.length) rc15, .slice q8 (R.length) d9, .int .i64 (0), .int .i64 (0)]) (vs := [.slice rp14 (B0.length) rc15, .slice q8 (R.length) d9, .int .i64 (0), .int .i64 (0)]) rfl rfl) rfl) ?_
  refine l_mv rfl rfl rfl (m_slices tf23 tf24 (vs := [(0, .int .i64 (41))]) (cells := #[.int .i64 (41)]) rfl rfl rfl rfl) ?_
  rintro _ _ ⟨b17, rfl, rfl⟩
  refine l_call rfl rfl rfl (cl_value (fst := []) (cap := []) (vs := [.agg #[.slice rp14 (B0.length) rc15, .slice q8 (R.length) d9, .int .i64 (0), .int .i64 (0)], .slice (some ⟨b17, 0, none⟩) 1 1]) (all := [.agg #[.slice rp14 (B0.length) rc15, .slice q8 (R.length) d9, .int .i64 (0), .int .i64 (0)], .slice (some ⟨b17, 0, none⟩) 1 1]) tf76 rfl rfl rfl) ?_
  intro w hw
  obtain ⟨β1, sb, kn, hw1, back⟩ := St.frame_all hw
  refine (partE_ok β1 w hw1 _ _ _ 0 0 B0 R [41] (kn _ (k_flN 3 (F := BodyF) (m := B0.length) rfl rfl)) (kn _ (k_flN 4 (F := RopeF) (m := R.length) rfl rfl)) (kn _ (k_ptFls (F := IntF) 0 (m := 1) (xs := [41]) rfl rfl rfl (by decide))) (by omega) (by omega) 6 (by decide) he41).mono ?_
  rintro e w' ⟨p18, c19, q20, d21, rfl, hw'⟩
  refine ⟨_, rfl, _, back _ _ hw', ?_⟩
  clear hw hw1 hw' back kn sb
  refine l_val (v := .tuple #[.agg #[.slice p18 (0) c19, .slice q20 (0) d21, .int .i64 (0), .int .i64 (0)], .int .i64 (6)]) rfl rfl rfl (e_move) ?_
  refine l_val (v := .agg #[.slice p18 (0) c19, .slice q20 (0) d21, .int .i64 (0), .int .i64 (0)]) rfl rfl rfl (e_extract (vs := #[.agg #[.slice p18 (0) c19, .slice q20 (0) d21, .int .i64 (0), .int .i64 (0)], .int .i64 (6)]) rfl rfl) ?_
  refine l_val (v := .int .i64 (6)) rfl rfl rfl (e_extract (vs := #[.agg #[.slice p18 (0) c19, .slice q20 (0) d21, .int .i64 (0), .int .i64 (0)], .int .i64 (6)]) rfl rfl) ?_
  refine l_mv rfl rfl rfl (m_alloc tf67) ?_
  rintro _ _ ⟨b22, rfl, rfl⟩
  refine l_mu rfl rfl (m_store 0 tf31 (b := b22) (o := 0) (T := 32) (cs := #[.slice none 0 0, .slice none 0 0, .int .i64 (0), .int .i64 (0)]) (cs' := #[.slice p18 (0) c19, .slice q20 (0) d21, .int .i64 (0), .int .i64 (0)]) (v := .agg #[.slice p18 (0) c19, .slice q20 (0) d21, .int .i64 (0), .int .i64 (0)]) rfl rfl rfl rfl rfl rfl rfl) ?_
  refine l_val (v := .int .i64 (6)) rfl rfl rfl (e_assign) ?_
  refine l_nil ?_
  refine f_then ?_
  refine c_seq ?_
  refine c_mask [false, false, true, true, true, true] rfl ?_
  refine c_region ?_
  refine l_val (v := .agg #[.slice rp14 (B0.length) rc15, .slice q8 (R.length) d9, .int .i64 (0), .int .i64 (0)]) rfl rfl rfl (e_load tf31 (cs := [.slice rp14 (B0.length) rc15, .slice q8 (R.length) d9, .int .i64 (0), .int .i64 (0)]) rfl (k_pt 1 (cs := #[.slice rp14 (B0.length) rc15, .slice q8 (R.length) d9, .int .i64 (0), .int .i64 (0)]) (vs := [.slice rp14 (B0.length) rc15, .slice q8 (R.length) d9, .int .i64 (0), .int .i64 (0)]) rfl rfl) rfl) ?_
  refine l_mv rfl rfl rfl (m_slices tf23 tf24 (vs := [(0, .int .i64 (40)), (1, .int .i64 (42))]) (cells := #[.int .i64 (40), .int .i64 (42)]) rfl rfl rfl rfl) ?_
  rintro _ _ ⟨b23, rfl, rfl⟩
  refine l_call rfl rfl rfl (cl_value (fst := []) (cap := []) (vs := [.agg #[.slice rp14 (B0.length) rc15, .slice q8 (R.length) d9, .int .i64 (0), .int .i64 (0)], .slice (some ⟨b23, 0, none⟩) 2 2]) (all := [.agg #[.slice rp14 (B0.length) rc15, .slice q8 (R.length) d9, .int .i64 (0), .int .i64 (0)], .slice (some ⟨b23, 0, none⟩) 2 2]) tf76 rfl rfl rfl) ?_
  intro w hw
  obtain ⟨β1, sb, kn, hw1, back⟩ := St.frame_all hw
  refine (partE_ok β1 w hw1 _ _ _ 0 0 B0 R [40, 42] (kn _ (k_flN 3 (F := BodyF) (m := B0.length) rfl rfl)) (kn _ (k_flN 4 (F := RopeF) (m := R.length) rfl rfl)) (kn _ (k_ptFls (F := IntF) 0 (m := 2) (xs := [40, 42]) rfl rfl rfl (by decide))) (by omega) (by omega) 6 (by decide) he42).mono ?_
  rintro e w' ⟨p24, c25, q26, d27, rfl, hw'⟩
  refine ⟨_, rfl, _, back _ _ hw', ?_⟩
  clear hw hw1 hw' back kn sb
  refine l_val (v := .tuple #[.agg #[.slice p24 (0) c25, .slice q26 (0) d27, .int .i64 (0), .int .i64 (0)], .int .i64 (6)]) rfl rfl rfl (e_move) ?_
  refine l_val (v := .agg #[.slice p24 (0) c25, .slice q26 (0) d27, .int .i64 (0), .int .i64 (0)]) rfl rfl rfl (e_extract (vs := #[.agg #[.slice p24 (0) c25, .slice q26 (0) d27, .int .i64 (0), .int .i64 (0)], .int .i64 (6)]) rfl rfl) ?_
  refine l_val (v := .int .i64 (6)) rfl rfl rfl (e_extract (vs := #[.agg #[.slice p24 (0) c25, .slice q26 (0) d27, .int .i64 (0), .int .i64 (0)], .int .i64 (6)]) rfl rfl) ?_
  refine l_mv rfl rfl rfl (m_alloc tf67) ?_
  rintro _ _ ⟨b28, rfl, rfl⟩
  refine l_mu rfl rfl (m_store 0 tf31 (b := b28) (o := 0) (T := 32) (cs := #[.slice none 0 0, .slice none 0 0, .int .i64 (0), .int .i64 (0)]) (cs' := #[.slice p24 (0) c25, .slice q26 (0) d27, .int .i64 (0), .int .i64 (0)]) (v := .agg #[.slice p24 (0) c25, .slice q26 (0) d27, .int .i64 (0), .int .i64 (0)]) rfl rfl rfl rfl rfl rfl rfl) ?_
  refine l_val (v := .int .i64 (6)) rfl rfl rfl (e_assign) ?_
  refine l_nil ?_
  refine f_then ?_
  refine c_seq ?_
  refine c_mask [false, false, true, true, true, true] rfl ?_
  refine c_region ?_
  refine l_val (v := .agg #[.slice rp14 (B0.length) rc15, .slice q8 (R.length) d9, .int .i64 (0), .int .i64 (0)]) rfl rfl rfl (e_load tf31 (cs := [.slice rp14 (B0.length) rc15, .slice q8 (R.length) d9, .int .i64 (0), .int .i64 (0)]) rfl (k_pt 1 (cs := #[.slice rp14 (B0.length) rc15, .slice q8 (R.length) d9, .int .i64 (0), .int .i64 (0)]) (vs := [.slice rp14 (B0.length) rc15, .slice q8 (R.length) d9, .int .i64 (0), .int .i64 (0)]) rfl rfl) rfl) ?_
  refine l_val (v := Ix (lo)) rfl rfl rfl (e_move) ?_
  refine l_mv rfl rfl rfl (m_slices tf23 tf24 (vs := [(0, Ix (lo))]) (cells := #[Ix (lo)]) rfl rfl rfl rfl) ?_
  rintro _ _ ⟨b29, rfl, rfl⟩
  refine l_call rfl rfl rfl (cl_value (fst := []) (cap := []) (vs := [.agg #[.slice rp14 (B0.length) rc15, .slice q8 (R.length) d9, .int .i64 (0), .int .i64 (0)], .slice (some ⟨b29, 0, none⟩) 1 1]) (all := [.agg #[.slice rp14 (B0.length) rc15, .slice q8 (R.length) d9, .int .i64 (0), .int .i64 (0)], .slice (some ⟨b29, 0, none⟩) 1 1]) tf76 rfl rfl rfl) ?_
  intro w hw
  obtain ⟨β1, sb, kn, hw1, back⟩ := St.frame_all hw
  refine (partE_ok β1 w hw1 _ _ _ 0 0 B0 R [lo] (kn _ (k_flN 3 (F := BodyF) (m := B0.length) rfl rfl)) (kn _ (k_flN 4 (F := RopeF) (m := R.length) rfl rfl)) (kn _ (k_ptFls (F := IntF) 0 (m := 1) (xs := [lo]) rfl rfl rfl (Nat.le_of_ble_eq_true rfl))) (by omega) (by omega) 6 (by decide) helo).mono ?_
  rintro e w' ⟨p30, c31, q32, d33, rfl, hw'⟩
  refine ⟨_, rfl, _, back _ _ hw', ?_⟩
  clear hw hw1 hw' back kn sb
  refine l_val (v := .tuple #[.agg #[.slice p30 (0) c31, .slice q32 (0) d33, .int .i64 (0), .int .i64 (0)], .int .i64 (6)]) rfl rfl rfl (e_move) ?_
  refine l_val (v := .agg #[.slice p30 (0) c31, .slice q32 (0) d33, .int .i64 (0), .int .i64 (0)]) rfl rfl rfl (e_extract (vs := #[.agg #[.slice p30 (0) c31, .slice q32 (0) d33, .int .i64 (0), .int .i64 (0)], .int .i64 (6)]) rfl rfl) ?_
  refine l_val (v := .int .i64 (6)) rfl rfl rfl (e_extract (vs := #[.agg #[.slice p30 (0) c31, .slice q32 (0) d33, .int .i64 (0), .int .i64 (0)], .int .i64 (6)]) rfl rfl) ?_
  refine l_mv rfl rfl rfl (m_alloc tf67) ?_
  rintro _ _ ⟨b34, rfl, rfl⟩
  refine l_mu rfl rfl (m_store 0 tf31 (b := b34) (o := 0) (T := 32) (cs := #[.slice none 0 0, .slice none 0 0, .int .i64 (0), .int .i64 (0)]) (cs' := #[.slice p30 (0) c31, .slice q32 (0) d33, .int .i64 (0), .int .i64 (0)]) (v := .agg #[.slice p30 (0) c31, .slice q32 (0) d33, .int .i64 (0), .int .i64 (0)]) rfl rfl rfl rfl rfl rfl rfl) ?_
  refine l_val (v := .int .i64 (6)) rfl rfl rfl (e_assign) ?_
  refine l_nil ?_
  refine f_then ?_
  refine c_seq ?_
  refine c_seq ?_
  refine c_mask [false, false, true, true, true, true] rfl ?_
  refine rebase (d := 15) (v := Nx (B0.length - 1)) (congrArg (fun z : Int => Ix z) (show ((B0.length : Nat) : Int) - 1 = ((B0.length - 1 : Nat) : Int) from by omega)) ?_
  have hw10 := Nat.mod_lt way.toNat (show 0 < 10 by decide)
  refine c_region ?_
  refine l_val (v := Bx (way)) rfl rfl rfl (e_move) ?_
  refine l_val (v := .int .u8 (((way.toNat % 10 : Nat)) : Int)) rfl rfl rfl (e_rem (a := ((way).toNat : Int)) (b := ((10 : Nat) : Int)) rfl rfl (by decide) (nat_tmod _ _)) ?_
  refine l_nil ?_
  refine f_then ?_
  refine c_block ?_
  refine c_seq ?_
  refine c_region ?_
  refine l_val (v := .bool (decide (((way.toNat % 10 : Nat) : Int) = (0 : Int)))) rfl rfl rfl (e_eql (a := ((way.toNat % 10 : Nat) : Int)) (b := (0 : Int)) rfl rfl) ?_
  refine l_val (v := .bool (decide (((way.toNat % 10 : Nat) : Int) = (0 : Int)))) rfl rfl rfl (e_assign) ?_
  refine l_nil ?_
  refine f_then ?_
  refine c_if (((way.toNat % 10 : Nat) : Int) = (0 : Int)) rfl (fun hc35 => ?_) (fun hc35 => ?_)
  ·
    refine c_region ?_
    refine l_val (v := .pointer (some ⟨b10, 0, none⟩)) rfl rfl rfl (e_fieldPt (b := b10) (o := 0) rfl tf33) ?_
    refine l_val (v := .slice rp14 (B0.length) rc15) rfl rfl rfl (e_load1 tf26 (v := .slice rp14 (B0.length) rc15) rfl (k_pt 1 (cs := #[.slice rp14 (B0.length) rc15, .slice q8 (R.length) d9, .int .i64 (0), .int .i64 (0)]) (vs := [.slice rp14 (B0.length) rc15]) rfl rfl)) ?_
    refine l_val (v := Nx (B0.length - 1)) rfl rfl rfl (e_move) ?_
    refine l_val (v := .pointer (some ((ba rp14).add ((B0.length - 1) * 9)))) rfl rfl rfl (e_indexFlN 2 (F := BodyF) (j := B0.length - 1) (m := B0.length) (xs := B0) rfl rfl rfl tf16 (by omega) rfl) ?_
    refine l_val (v := .pointer (some ((ba rp14).add ((B0.length - 1) * 9)))) rfl rfl rfl (ev_eq (congrArg (fun z => Value.pointer (some z)) (show ((ba rp14).add ((B0.length - 1) * 9) : Addr).add 0 = (ba rp14).add ((B0.length - 1) * 9) by rw [Addr.add_add'] <;> rfl)) (e_fieldAddr (a := (ba rp14).add ((B0.length - 1) * 9)) rfl tf27)) ?_
    refine l_mu rfl rfl (m_storeFlPart 2 (F := BodyF) (p := rp14) (k := B0.length - 1) (o := 0) (xs := B0) (z0 := ib1) (z := ibI) tf11 rfl rfl rfl rfl rfl hl2 (by decide) rfl) ?_
    refine l_nil ?_
    refine f_block ?_
    refine f_then ?_
    refine c_seq ?_
    have hno : ¬ okS (B0.set (B0.length - 1) ibI) R 0 0 := no_id hB0 (by decide)
    have hBl : (B0.set (B0.length - 1) ibI).length = B0.length := List.length_set
    obtain ⟨Bq, hBq⟩ : ∃ z, z = (B0.set (B0.length - 1) ibI) := ⟨_, rfl⟩
    rw [← hBq] at hno hBl
    rw [← hBq]
    refine c_re (L' := [pt b11 (.cells #[.int .i64 (40), .int .i64 (0), .int .i64 (0), .int .i64 (0), .int .i64 (0), .int .i64 (10), .int .i64 (10), .bool false, .bool false] 39), pt b10 (.cells #[.slice rp14 (Bq.length) rc15, .slice q8 (R.length) d9, .int .i64 (0), .int .i64 (0)] 32), rowF BodyF 39 rp14 rc15 Bq, rowF RopeF 49 q8 d9 R]) (by rw [hBl]; rfl) ?_
    refine c_region ?_
    refine l_val (v := .agg #[.slice rp14 (Bq.length) rc15, .slice q8 (R.length) d9, .int .i64 (0), .int .i64 (0)]) rfl rfl rfl (e_load tf31 (cs := [.slice rp14 (Bq.length) rc15, .slice q8 (R.length) d9, .int .i64 (0), .int .i64 (0)]) rfl (k_pt 1 (cs := #[.slice rp14 (Bq.length) rc15, .slice q8 (R.length) d9, .int .i64 (0), .int .i64 (0)]) (vs := [.slice rp14 (Bq.length) rc15, .slice q8 (R.length) d9, .int .i64 (0), .int .i64 (0)]) rfl rfl) rfl) ?_
    refine l_call rfl rfl rfl (cl_value (fst := []) (cap := []) (vs := [.agg #[.slice rp14 (Bq.length) rc15, .slice q8 (R.length) d9, .int .i64 (0), .int .i64 (0)]]) (all := [.agg #[.slice rp14 (Bq.length) rc15, .slice q8 (R.length) d9, .int .i64 (0), .int .i64 (0)]]) tf75 rfl rfl rfl) ?_
    intro w hw
    obtain ⟨β1, sb, kn, hw1, back⟩ := St.frame_all hw
    refine (islE_ok β1 w hw1 _ _ 0 0 Bq R (kn _ (k_flN 2 (F := BodyF) (m := Bq.length) rfl rfl)) (kn _ (k_flN 3 (F := RopeF) (m := R.length) rfl rfl)) (by omega) (by omega) hno).mono ?_
    rintro e w' ⟨p36, c37, rfl, hw'⟩
    refine ⟨_, rfl, _, back _ _ hw', ?_⟩
    clear hw hw1 hw' back kn sb
    refine l_val (v := .tuple #[.slice p36 (0) c37, .int .i64 (2)]) rfl rfl rfl (e_move) ?_
    refine l_val (v := .slice p36 (0) c37) rfl rfl rfl (e_extract (vs := #[.slice p36 (0) c37, .int .i64 (2)]) rfl rfl) ?_
    refine l_val (v := .int .i64 (2)) rfl rfl rfl (e_extract (vs := #[.slice p36 (0) c37, .int .i64 (2)]) rfl rfl) ?_
    refine l_val (v := .slice p36 (0) c37) rfl rfl rfl (e_assign) ?_
    refine l_val (v := .int .i64 (2)) rfl rfl rfl (e_assign) ?_
    refine l_nil ?_
    refine f_then ?_
    refine c_seq ?_
    refine c_region ?_
    refine l_val (v := .agg #[.slice rp14 (Bq.length) rc15, .slice q8 (R.length) d9, .int .i64 (0), .int .i64 (0)]) rfl rfl rfl (e_load tf31 (cs := [.slice rp14 (Bq.length) rc15, .slice q8 (R.length) d9, .int .i64 (0), .int .i64 (0)]) rfl (k_pt 1 (cs := #[.slice rp14 (Bq.length) rc15, .slice q8 (R.length) d9, .int .i64 (0), .int .i64 (0)]) (vs := [.slice rp14 (Bq.length) rc15, .slice q8 (R.length) d9, .int .i64 (0), .int .i64 (0)]) rfl rfl) rfl) ?_
    refine l_mv rfl rfl rfl (m_slices tf23 tf24 (vs := [(0, .int .i64 (40))]) (cells := #[.int .i64 (40)]) rfl rfl rfl rfl) ?_
    rintro _ _ ⟨b38, rfl, rfl⟩
    refine l_call rfl rfl rfl (cl_value (fst := []) (cap := []) (vs := [.agg #[.slice rp14 (Bq.length) rc15, .slice q8 (R.length) d9, .int .i64 (0), .int .i64 (0)], .slice (some ⟨b38, 0, none⟩) 1 1]) (all := [.agg #[.slice rp14 (Bq.length) rc15, .slice q8 (R.length) d9, .int .i64 (0), .int .i64 (0)], .slice (some ⟨b38, 0, none⟩) 1 1]) tf76 rfl rfl rfl) ?_
    intro w hw
    obtain ⟨β1, sb, kn, hw1, back⟩ := St.frame_all hw
    refine (partE_ok β1 w hw1 _ _ _ 0 0 Bq R [40] (kn _ (k_flN 3 (F := BodyF) (m := Bq.length) rfl rfl)) (kn _ (k_flN 4 (F := RopeF) (m := R.length) rfl rfl)) (kn _ (k_ptFls (F := IntF) 0 (m := 1) (xs := [40]) rfl rfl rfl (by decide))) (by omega) (by omega) 2 (by decide) (errPt_bad hno [40])).mono ?_
    rintro e w' ⟨p39, c40, q41, d42, rfl, hw'⟩
    refine ⟨_, rfl, _, back _ _ hw', ?_⟩
    clear hw hw1 hw' back kn sb
    refine l_val (v := .tuple #[.agg #[.slice p39 (0) c40, .slice q41 (0) d42, .int .i64 (0), .int .i64 (0)], .int .i64 (2)]) rfl rfl rfl (e_move) ?_
    refine l_val (v := .agg #[.slice p39 (0) c40, .slice q41 (0) d42, .int .i64 (0), .int .i64 (0)]) rfl rfl rfl (e_extract (vs := #[.agg #[.slice p39 (0) c40, .slice q41 (0) d42, .int .i64 (0), .int .i64 (0)], .int .i64 (2)]) rfl rfl) ?_
    refine l_val (v := .int .i64 (2)) rfl rfl rfl (e_extract (vs := #[.agg #[.slice p39 (0) c40, .slice q41 (0) d42, .int .i64 (0), .int .i64 (0)], .int .i64 (2)]) rfl rfl) ?_
    refine l_mv rfl rfl rfl (m_alloc tf67) ?_
    rintro _ _ ⟨b43, rfl, rfl⟩
    refine l_mu rfl rfl (m_store 0 tf31 (b := b43) (o := 0) (T := 32) (cs := #[.slice none 0 0, .slice none 0 0, .int .i64 (0), .int .i64 (0)]) (cs' := #[.slice p39 (0) c40, .slice q41 (0) d42, .int .i64 (0), .int .i64 (0)]) (v := .agg #[.slice p39 (0) c40, .slice q41 (0) d42, .int .i64 (0), .int .i64 (0)]) rfl rfl rfl rfl rfl rfl rfl) ?_
    refine l_val (v := .int .i64 (2)) rfl rfl rfl (e_assign) ?_
    refine l_nil ?_
    refine f_then ?_
    refine c_seq ?_
    have hvx : ¬ okV hi 0 := fun q => by have := q.2.1; omega
    have hvy : ¬ okV 0 lo := fun q => by have := q.2.2.1; omega
    refine c_any [⟨[], [], [0], [160], fun f => f 160 = .agg #[.int .i64 (40), .int .i64 (0), .int .i64 (0), .int .i64 (0), .int .i64 (0), .int .i64 (10), .int .i64 (10), .bool false, .bool false]⟩, ⟨[], [], [1], [161], fun f => f 161 = Ix (hi)⟩, ⟨[1], [1], [], [162], fun f => f 162 = .agg #[Ix (hi), .int .i64 (0)]⟩, ⟨[0, 1, 2], [0, 2], [], [163], fun f => f 163 = .agg #[.int .i64 (0), .int .i64 (0)]⟩, ⟨[], [], [0], [164], fun f => f 164 = .agg #[.int .i64 (40), .int .i64 (0), .int .i64 (0), .int .i64 (0), .int .i64 (0), .int .i64 (10), .int .i64 (10), .bool false, .bool false]⟩, ⟨[], [], [2], [165], fun f => f 165 = Ix (lo)⟩, ⟨[5], [5], [], [166], fun f => f 166 = .agg #[.int .i64 (0), Ix (lo)]⟩, ⟨[0, 1, 2, 3, 4, 5, 6], [4, 6], [], [167], fun f => f 167 = .agg #[.int .i64 (0), .int .i64 (0), .int .i64 (0), .int .i64 (0)]⟩, ⟨[], [], [], [26], fun f => f 26 = .pointer (some ⟨(blk (f 26)), 0, none⟩)⟩, ⟨[], [], [], [27], fun f => f 27 = .pointer (some ⟨(blk (f 27)), 0, none⟩)⟩, ⟨[0, 1, 2, 3, 4, 5, 6, 7, 8, 9], [8, 3], [], [], fun _ => True⟩, ⟨[0, 1, 2, 3, 4, 5, 6, 7, 8, 9, 10], [9, 7], [], [], fun _ => True⟩] [⟨none, none, [], [], fun _ => pt b43 (.cells #[.slice p39 (0) c40, .slice q41 (0) d42, .int .i64 (0), .int .i64 (0)] 32)⟩, ⟨none, none, [], [], fun _ => pt b38 (.cells #[.int .i64 (40)] 3)⟩, ⟨none, none, [0, 4], [], fun _ => pt b11 (.cells #[.int .i64 (40), .int .i64 (0), .int .i64 (0), .int .i64 (0), .int .i64 (0), .int .i64 (10), .int .i64 (10), .bool false, .bool false] 39)⟩, ⟨none, none, [], [], fun _ => pt b10 (.cells #[.slice rp14 (Bq.length) rc15, .slice q8 (R.length) d9, .int .i64 (0), .int .i64 (0)] 32)⟩, ⟨none, none, [], [], fun _ => rowF BodyF 39 rp14 rc15 Bq⟩, ⟨none, none, [], [], fun _ => rowF RopeF 49 q8 d9 R⟩, ⟨(some 8), (some 10), [10], [26], fun f => pt (blk (f 26)) (.cells #[.int .i64 (0), .int .i64 (0)] 30)⟩, ⟨(some 9), (some 11), [11], [27], fun f => pt (blk (f 27)) (.cells #[.int .i64 (0), .int .i64 (0), .int .i64 (0), .int .i64 (0)] 46)⟩, ⟨(some 10), none, [], [26], fun f => pt (blk (f 26)) (.cells #[.int .i64 (0), .int .i64 (0)] 30)⟩, ⟨(some 11), none, [], [27], fun f => pt (blk (f 27)) (.cells #[.int .i64 (0), .int .i64 (0), .int .i64 (0), .int .i64 (0)] 46)⟩] [(13, .pointer (some ⟨b11, 0, none⟩)), (4, Ix (hi)), (3, Ix (lo)), (12, .pointer (some ⟨b10, 0, none⟩)), (17, .int .i64 (6)), (19, .int .i64 (6)), (21, .int .i64 (6)), (22, .slice p36 (0) c37), (23, .int .i64 (2)), (24, .pointer (some ⟨b43, 0, none⟩)), (25, .int .i64 (2))] [3, 4, 5, 6, 7, 8, 9, 10] [] (by kernel_rfl) (by kernel_rfl) (by kernel_rfl) (by kernel_rfl) rfl ⟨rfl, rfl, rfl, rfl, rfl, rfl, rfl, rfl, rfl, rfl, rfl, trivial⟩ ⟨?_, ?_, ?_, ?_, ?_, ?_, ?_, ?_, ?_, ?_, ?_, ?_, trivial⟩ ?_
    · rintro f M - ⟨i0, -⟩
      have hs13 : f 13 = .pointer (some ⟨b11, 0, none⟩) := i0
      refine ob_start (L' := pt b11 (.cells #[.int .i64 (40), .int .i64 (0), .int .i64 (0), .int .i64 (0), .int .i64 (0), .int .i64 (10), .int .i64 (10), .bool false, .bool false] 39) :: M) (by rfl) (up_cons rfl hs13) ?_
      refine l_val (v := .agg #[.int .i64 (40), .int .i64 (0), .int .i64 (0), .int .i64 (0), .int .i64 (0), .int .i64 (10), .int .i64 (10), .bool false, .bool false]) rfl rfl rfl (e_load tf1 (cs := [.int .i64 (40), .int .i64 (0), .int .i64 (0), .int .i64 (0), .int .i64 (0), .int .i64 (10), .int .i64 (10), .bool false, .bool false]) rfl (k_pt 0 (cs := #[.int .i64 (40), .int .i64 (0), .int .i64 (0), .int .i64 (0), .int .i64 (0), .int .i64 (10), .int .i64 (10), .bool false, .bool false]) (vs := [.int .i64 (40), .int .i64 (0), .int .i64 (0), .int .i64 (0), .int .i64 (0), .int .i64 (10), .int .i64 (10), .bool false, .bool false]) rfl rfl) rfl) ?_
      refine l_nil ?_
      exact f_owes_d (up_cons rfl hs13) rfl (perm_front 0 rfl)
    · rintro f M - ⟨i0, -⟩
      have hs4 : f 4 = Ix (hi) := i0
      refine ob_start (L' := M) (by rfl) (up_cons rfl hs4) ?_
      refine l_val (v := Ix (hi)) rfl rfl rfl (e_move) ?_
      refine l_nil ?_
      exact f_owes_d (up_cons rfl hs4) rfl (List.Perm.refl _)
    · rintro f M ⟨k0, -⟩ -
      have hs161 : f 161 = Ix (hi) := k0
      refine ob_start (L' := M) (by rfl) (up_cons rfl hs161) ?_
      refine l_val (v := .agg #[Ix (hi), .int .i64 (0)]) rfl rfl rfl (e_build tf8 tf13 (vs := [(0, Ix (hi))]) (cells := #[Ix (hi), .int .i64 (0)]) rfl rfl) ?_
      refine l_nil ?_
      exact f_owes_d (up_cons rfl hs161) rfl (List.Perm.refl _)
    · rintro f M ⟨k0, k1, -⟩ -
      have hs160 : f 160 = .agg #[.int .i64 (40), .int .i64 (0), .int .i64 (0), .int .i64 (0), .int .i64 (0), .int .i64 (10), .int .i64 (10), .bool false, .bool false] := k0
      have hs162 : f 162 = .agg #[Ix (hi), .int .i64 (0)] := k1
      refine ob_start (L' := M) (by rfl) (up_cons (up_cons rfl hs160) hs162) ?_
      refine l_call rfl rfl rfl (cl_value (fst := []) (cap := []) (vs := [.agg #[.int .i64 (40), .int .i64 (0), .int .i64 (0), .int .i64 (0), .int .i64 (0), .int .i64 (10), .int .i64 (10), .bool false, .bool false], .agg #[Ix (hi), .int .i64 (0)]]) (all := [.agg #[.int .i64 (40), .int .i64 (0), .int .i64 (0), .int .i64 (0), .int .i64 (0), .int .i64 (10), .int .i64 (10), .bool false, .bool false], .agg #[Ix (hi), .int .i64 (0)]]) tf9 rfl rfl rfl) ?_
      intro w hw
      obtain ⟨β1, sb, kn, hw1, back⟩ := St.frame_all hw
      refine (speedE_ok β1 w hw1 ib0 hi 0 (by omega) (by omega) hvx).mono ?_
      rintro e w' ⟨rfl, hw'⟩
      refine ⟨_, rfl, _, back _ _ hw', ?_⟩
      clear hw hw1 hw' back kn sb
      refine l_nil ?_
      exact f_owes_d (up_cons (up_cons rfl hs160) hs162) rfl (List.Perm.refl _)
    · rintro f M - ⟨i0, -⟩
      have hs13 : f 13 = .pointer (some ⟨b11, 0, none⟩) := i0
      refine ob_start (L' := pt b11 (.cells #[.int .i64 (40), .int .i64 (0), .int .i64 (0), .int .i64 (0), .int .i64 (0), .int .i64 (10), .int .i64 (10), .bool false, .bool false] 39) :: M) (by rfl) (up_cons rfl hs13) ?_
      refine l_val (v := .agg #[.int .i64 (40), .int .i64 (0), .int .i64 (0), .int .i64 (0), .int .i64 (0), .int .i64 (10), .int .i64 (10), .bool false, .bool false]) rfl rfl rfl (e_load tf1 (cs := [.int .i64 (40), .int .i64 (0), .int .i64 (0), .int .i64 (0), .int .i64 (0), .int .i64 (10), .int .i64 (10), .bool false, .bool false]) rfl (k_pt 0 (cs := #[.int .i64 (40), .int .i64 (0), .int .i64 (0), .int .i64 (0), .int .i64 (0), .int .i64 (10), .int .i64 (10), .bool false, .bool false]) (vs := [.int .i64 (40), .int .i64 (0), .int .i64 (0), .int .i64 (0), .int .i64 (0), .int .i64 (10), .int .i64 (10), .bool false, .bool false]) rfl rfl) rfl) ?_
      refine l_nil ?_
      exact f_owes_d (up_cons rfl hs13) rfl (perm_front 0 rfl)
    · rintro f M - ⟨i0, -⟩
      have hs3 : f 3 = Ix (lo) := i0
      refine ob_start (L' := M) (by rfl) (up_cons rfl hs3) ?_
      refine l_val (v := Ix (lo)) rfl rfl rfl (e_move) ?_
      refine l_nil ?_
      exact f_owes_d (up_cons rfl hs3) rfl (List.Perm.refl _)
    · rintro f M ⟨k0, -⟩ -
      have hs165 : f 165 = Ix (lo) := k0
      refine ob_start (L' := M) (by rfl) (up_cons rfl hs165) ?_
      refine l_val (v := .agg #[.int .i64 (0), Ix (lo)]) rfl rfl rfl (e_build tf8 tf13 (vs := [(1, Ix (lo))]) (cells := #[.int .i64 (0), Ix (lo)]) rfl rfl) ?_
      refine l_nil ?_
      exact f_owes_d (up_cons rfl hs165) rfl (List.Perm.refl _)
    · rintro f M ⟨k0, k1, -⟩ -
      have hs164 : f 164 = .agg #[.int .i64 (40), .int .i64 (0), .int .i64 (0), .int .i64 (0), .int .i64 (0), .int .i64 (10), .int .i64 (10), .bool false, .bool false] := k0
      have hs166 : f 166 = .agg #[.int .i64 (0), Ix (lo)] := k1
      refine ob_start (L' := M) (by rfl) (up_cons (up_cons rfl hs164) hs166) ?_
      refine l_call rfl rfl rfl (cl_value (fst := []) (cap := []) (vs := [.agg #[.int .i64 (40), .int .i64 (0), .int .i64 (0), .int .i64 (0), .int .i64 (0), .int .i64 (10), .int .i64 (10), .bool false, .bool false], .agg #[.int .i64 (0), Ix (lo)]]) (all := [.agg #[.int .i64 (40), .int .i64 (0), .int .i64 (0), .int .i64 (0), .int .i64 (0), .int .i64 (10), .int .i64 (10), .bool false, .bool false], .agg #[.int .i64 (0), Ix (lo)]]) tf41 rfl rfl rfl) ?_
      intro w hw
      obtain ⟨β1, sb, kn, hw1, back⟩ := St.frame_all hw
      refine (reachE_ok β1 w hw1 ib0 0 lo (by omega) (by omega) hvy).mono ?_
      rintro e w' ⟨rfl, hw'⟩
      refine ⟨_, rfl, _, back _ _ hw', ?_⟩
      clear hw hw1 hw' back kn sb
      refine l_nil ?_
      exact f_owes_d (up_cons (up_cons rfl hs164) hs166) rfl (List.Perm.refl _)
    · rintro f M - -
      refine ob_start (L' := M) (by rfl) rfl ?_
      refine l_mv rfl rfl rfl (m_alloc tf8) ?_
      rintro _ _ ⟨b45, rfl, rfl⟩
      refine l_nil ?_
      exact f_owes_d rfl rfl (perm_front 0 rfl)
    · rintro f M - -
      refine ob_start (L' := M) (by rfl) rfl ?_
      refine l_mv rfl rfl rfl (m_alloc tf0) ?_
      rintro _ _ ⟨b47, rfl, rfl⟩
      refine l_nil ?_
      exact f_owes_d rfl rfl (perm_front 0 rfl)
    · rintro f M ⟨k0, k1, -⟩ -
      have hs26 : f 26 = .pointer (some ⟨(blk (f 26)), 0, none⟩) := k0
      have hs163 : f 163 = .agg #[.int .i64 (0), .int .i64 (0)] := k1
      refine ob_start (L' := pt (blk (f 26)) (.cells #[.int .i64 (0), .int .i64 (0)] 30) :: M) (by rfl) (up_cons (up_cons rfl hs26) hs163) ?_
      refine l_mu rfl rfl (m_store 0 tf5 (b := (blk (f 26))) (o := 0) (T := 30) (cs := #[.int .i64 (0), .int .i64 (0)]) (cs' := #[.int .i64 (0), .int .i64 (0)]) (v := .agg #[.int .i64 (0), .int .i64 (0)]) rfl rfl rfl rfl rfl rfl rfl) ?_
      refine l_nil ?_
      exact f_owes_n (up_cons (up_cons rfl hs26) hs163) trivial (perm_front 0 rfl)
    · rintro f M ⟨k0, k1, -⟩ -
      have hs27 : f 27 = .pointer (some ⟨(blk (f 27)), 0, none⟩) := k0
      have hs167 : f 167 = .agg #[.int .i64 (0), .int .i64 (0), .int .i64 (0), .int .i64 (0)] := k1
      refine ob_start (L' := pt (blk (f 27)) (.cells #[.int .i64 (0), .int .i64 (0), .int .i64 (0), .int .i64 (0)] 46) :: M) (by rfl) (up_cons (up_cons rfl hs27) hs167) ?_
      refine l_mu rfl rfl (m_store 0 tf4 (b := (blk (f 27))) (o := 0) (T := 46) (cs := #[.int .i64 (0), .int .i64 (0), .int .i64 (0), .int .i64 (0)]) (cs' := #[.int .i64 (0), .int .i64 (0), .int .i64 (0), .int .i64 (0)]) (v := .agg #[.int .i64 (0), .int .i64 (0), .int .i64 (0), .int .i64 (0)]) rfl rfl rfl rfl rfl rfl rfl) ?_
      refine l_nil ?_
      exact f_owes_n (up_cons (up_cons rfl hs27) hs167) trivial (perm_front 0 rfl)
    rintro fa48 ⟨-, -, -, -, -, -, -, -, k8, k9, -, -, -⟩ ⟨j0, j1, j2, j3, j4, j5, j6, j7, -⟩
    refine f_re (L' := [pt b43 (.cells #[.slice p39 (0) c40, .slice q41 (0) d42, .int .i64 (0), .int .i64 (0)] 32), pt b38 (.cells #[.int .i64 (40)] 3), pt b11 (.cells #[.int .i64 (40), .int .i64 (0), .int .i64 (0), .int .i64 (0), .int .i64 (0), .int .i64 (10), .int .i64 (10), .bool false, .bool false] 39), pt b10 (.cells #[.slice rp14 (Bq.length) rc15, .slice q8 (R.length) d9, .int .i64 (0), .int .i64 (0)] 32), rowF BodyF 39 rp14 rc15 Bq, rowF RopeF 49 q8 d9 R, pt (blk (fa48 26)) (.cells #[.int .i64 (0), .int .i64 (0)] 30), pt (blk (fa48 27)) (.cells #[.int .i64 (0), .int .i64 (0), .int .i64 (0), .int .i64 (0)] 46)]) (by rfl) ?_
    refine f_rebase (d := 12) (v := .pointer (some ⟨b10, 0, none⟩)) j0 ?_
    refine f_rebase (d := 17) (v := .int .i64 (6)) j1 ?_
    refine f_rebase (d := 19) (v := .int .i64 (6)) j2 ?_
    refine f_rebase (d := 21) (v := .int .i64 (6)) j3 ?_
    refine f_rebase (d := 22) (v := .slice p36 (0) c37) j4 ?_
    refine f_rebase (d := 23) (v := .int .i64 (2)) j5 ?_
    refine f_rebase (d := 24) (v := .pointer (some ⟨b43, 0, none⟩)) j6 ?_
    refine f_rebase (d := 25) (v := .int .i64 (2)) j7 ?_
    refine f_rebase (d := 26) (v := .pointer (some ⟨(blk (fa48 26)), 0, none⟩)) k8 ?_
    refine f_rebase (d := 27) (v := .pointer (some ⟨(blk (fa48 27)), 0, none⟩)) k9 ?_
    refine f_then ?_
    refine c_seq ?_
    refine c_region ?_
    refine l_val (v := .int .i64 (6)) rfl rfl rfl (e_move) ?_
    refine l_val (v := .bool true) rfl rfl rfl (e_eql (a := (6 : Int)) (b := (6 : Int)) rfl rfl) ?_
    refine l_val (v := .bool true) rfl rfl rfl (e_move) ?_
    refine g_val (v := .int .i64 (6)) rfl rfl rfl rfl rfl (e_move) ?_
    refine g_val (v := .bool true) rfl rfl rfl rfl rfl (e_eql (a := (6 : Int)) (b := (6 : Int)) rfl rfl) ?_
    refine l_val (v := .bool true) rfl rfl rfl (e_pick_t rfl) ?_
    refine l_val (v := .bool true) rfl rfl rfl (e_move) ?_
    refine g_val (v := .int .i64 (6)) rfl rfl rfl rfl rfl (e_move) ?_
    refine g_val (v := .bool true) rfl rfl rfl rfl rfl (e_eql (a := (6 : Int)) (b := (6 : Int)) rfl rfl) ?_
    refine l_val (v := .bool true) rfl rfl rfl (e_pick_t rfl) ?_
    refine l_val (v := .bool true) rfl rfl rfl (e_move) ?_
    refine g_val (v := .int .i64 (2)) rfl rfl rfl rfl rfl (e_move) ?_
    refine g_val (v := .bool true) rfl rfl rfl rfl rfl (e_eql (a := (2 : Int)) (b := (2 : Int)) rfl rfl) ?_
    refine l_val (v := .bool true) rfl rfl rfl (e_pick_t rfl) ?_
    refine l_val (v := .bool true) rfl rfl rfl (e_move) ?_
    refine g_val (v := .int .i64 (2)) rfl rfl rfl rfl rfl (e_move) ?_
    refine g_val (v := .bool true) rfl rfl rfl rfl rfl (e_eql (a := (2 : Int)) (b := (2 : Int)) rfl rfl) ?_
    refine l_val (v := .bool true) rfl rfl rfl (e_pick_t rfl) ?_
    refine l_val (v := .bool true) rfl rfl rfl (e_move) ?_
    refine g_val (v := .slice p36 (0) c37) rfl rfl rfl rfl rfl (e_move) ?_
    refine g_val (v := Nx (0)) rfl rfl rfl rfl rfl (e_len (a := p36) (n := 0) (c := c37) rfl tf64) ?_
    refine g_val (v := .pointer (some ⟨b43, 0, none⟩)) rfl rfl rfl rfl rfl (e_fieldPt (b := b43) (o := 0) rfl tf33) ?_
    refine g_val (v := .slice p39 (0) c40) rfl rfl rfl rfl rfl (e_load1 tf26 (v := .slice p39 (0) c40) rfl (k_pt 0 (cs := #[.slice p39 (0) c40, .slice q41 (0) d42, .int .i64 (0), .int .i64 (0)]) (vs := [.slice p39 (0) c40]) rfl rfl)) ?_
    refine g_val (v := Nx (0)) rfl rfl rfl rfl rfl (e_len (a := p39) (n := 0) (c := c40) rfl tf15) ?_
    refine g_val (v := Nx (0 + 0)) rfl rfl rfl rfl rfl (e_add (a := ((0 : Nat) : Int)) (b := ((0 : Nat) : Int)) rfl rfl (i64n (by omega) (by omega))) ?_
    refine g_val (v := .pointer (some ⟨b43, 1, none⟩)) rfl rfl rfl rfl rfl (e_fieldPt (b := b43) (o := 0) rfl tf52) ?_
    refine g_val (v := .slice q41 (0) d42) rfl rfl rfl rfl rfl (e_load1 tf53 (v := .slice q41 (0) d42) rfl (k_pt 0 (cs := #[.slice p39 (0) c40, .slice q41 (0) d42, .int .i64 (0), .int .i64 (0)]) (vs := [.slice q41 (0) d42]) rfl rfl)) ?_
    refine g_val (v := Nx (0)) rfl rfl rfl rfl rfl (e_len (a := q41) (n := 0) (c := d42) rfl tf54) ?_
    refine g_val (v := Nx ((0 + 0) + 0)) rfl rfl rfl rfl rfl (e_add (a := ((0 + 0 : Nat) : Int)) (b := ((0 : Nat) : Int)) rfl rfl (i64n (by omega) (by omega))) ?_
    refine g_val (v := .bool (decide ((((0 + 0) + 0 : Nat) : Int) = (0 : Int)))) rfl rfl rfl rfl rfl (e_eql (a := (((0 + 0) + 0 : Nat) : Int)) (b := (0 : Int)) rfl rfl) ?_
    refine l_val (v := .bool (decide ((((0 + 0) + 0 : Nat) : Int) = (0 : Int)))) rfl rfl rfl (e_pick_t rfl) ?_
    refine l_val (v := .bool (decide ((((0 + 0) + 0 : Nat) : Int) = (0 : Int)))) rfl rfl rfl (e_move) ?_
    refine l_split (s := 199) (p := (((0 + 0) + 0 : Nat) : Int) = (0 : Int)) rfl (fun h => ?_) (fun h => ?_)
    rotate_left; exact absurd (by decide) h
    refine g_val (v := .agg #[.int .i64 (0), .int .i64 (0)]) rfl rfl rfl rfl rfl (e_load tf5 (cs := [.int .i64 (0), .int .i64 (0)]) rfl (k_pt 6 (cs := #[.int .i64 (0), .int .i64 (0)]) (vs := [.int .i64 (0), .int .i64 (0)]) rfl rfl) rfl) ?_
    refine g_val (v := .agg #[.int .i64 (0), .int .i64 (0)]) rfl rfl rfl rfl rfl (e_build tf8 tf13 (vs := []) (cells := #[.int .i64 (0), .int .i64 (0)]) rfl rfl) ?_
    refine g_val (v := .bool true) rfl rfl rfl rfl rfl ((ev_t (by decide) (e_eql_t (p := (0 : Int) = (0 : Int) ∧ (0 : Int) = (0 : Int)) (xs := [.int .i64 (0), .int .i64 (0)]) (ys := [.int .i64 (0), .int .i64 (0)]) tf92 tf93 tf94 rfl rfl rfl rfl vec_eq))) ?_
    refine l_val (v := .bool true) rfl rfl rfl (e_pick_t rfl) ?_
    refine l_val (v := .bool true) rfl rfl rfl (e_move) ?_
    refine g_val (v := .agg #[.int .i64 (0), .int .i64 (0), .int .i64 (0), .int .i64 (0)]) rfl rfl rfl rfl rfl (e_load tf4 (cs := [.int .i64 (0), .int .i64 (0), .int .i64 (0), .int .i64 (0)]) rfl (k_pt 7 (cs := #[.int .i64 (0), .int .i64 (0), .int .i64 (0), .int .i64 (0)]) (vs := [.int .i64 (0), .int .i64 (0), .int .i64 (0), .int .i64 (0)]) rfl rfl) rfl) ?_
    refine g_val (v := .agg #[.int .i64 (0), .int .i64 (0), .int .i64 (0), .int .i64 (0)]) rfl rfl rfl rfl rfl (e_build tf0 tf3 (vs := []) (cells := #[.int .i64 (0), .int .i64 (0), .int .i64 (0), .int .i64 (0)]) rfl rfl) ?_
    refine g_val (v := .bool true) rfl rfl rfl rfl rfl ((ev_t (by decide) (e_eql_t (p := (0 : Int) = (0 : Int) ∧ (0 : Int) = (0 : Int) ∧ (0 : Int) = (0 : Int) ∧ (0 : Int) = (0 : Int)) (xs := [.int .i64 (0), .int .i64 (0), .int .i64 (0), .int .i64 (0)]) (ys := [.int .i64 (0), .int .i64 (0), .int .i64 (0), .int .i64 (0)]) tf78 tf79 tf80 rfl rfl rfl rfl arr4_eq))) ?_
    refine l_val (v := .bool true) rfl rfl rfl (e_pick_t rfl) ?_
    refine l_val (v := .bool true) rfl rfl rfl (e_move) ?_
    refine g_val (v := .agg #[.slice rp14 (Bq.length) rc15, .slice q8 (R.length) d9, .int .i64 (0), .int .i64 (0)]) rfl rfl rfl rfl rfl (e_load tf31 (cs := [.slice rp14 (Bq.length) rc15, .slice q8 (R.length) d9, .int .i64 (0), .int .i64 (0)]) rfl (k_pt 3 (cs := #[.slice rp14 (Bq.length) rc15, .slice q8 (R.length) d9, .int .i64 (0), .int .i64 (0)]) (vs := [.slice rp14 (Bq.length) rc15, .slice q8 (R.length) d9, .int .i64 (0), .int .i64 (0)]) rfl rfl) rfl) ?_
    refine g_call rfl rfl rfl rfl rfl (cl_value (fst := []) (cap := []) (vs := [.agg #[.slice rp14 (Bq.length) rc15, .slice q8 (R.length) d9, .int .i64 (0), .int .i64 (0)]]) (all := [.agg #[.slice rp14 (Bq.length) rc15, .slice q8 (R.length) d9, .int .i64 (0), .int .i64 (0)]]) tf32 rfl rfl rfl) ?_
    intro w hw
    obtain ⟨β1, sb, kn, hw1, back⟩ := St.frame_all hw
    refine (validE_ok β1 w hw1 _ _ 0 0 Bq R (kn _ (k_flN 4 (F := BodyF) (m := Bq.length) rfl rfl)) (kn _ (k_flN 5 (F := RopeF) (m := R.length) rfl rfl)) (by omega) (by omega) hno).mono ?_
    rintro e w' ⟨rfl, hw'⟩
    refine ⟨_, rfl, _, back _ _ hw', ?_⟩
    clear hw hw1 hw' back kn sb
    refine g_val (v := .bool true) rfl rfl rfl rfl rfl (e_not (a := false) rfl) ?_
    refine l_val (v := .bool true) rfl rfl rfl (e_pick_t rfl) ?_
    refine l_val (v := .bool true) rfl rfl rfl (e_assign) ?_
    refine l_nil ?_
    refine f_then ?_
    refine c_ret ?_
    refine ret1 Try.results8 (v := .bool true) rfl ?_
    intro w hw
    exact ⟨rfl, st_mask [false, false, false, false, false, false, false, false] rfl hw⟩
  refine c_seq ?_
  refine c_region ?_
  refine l_val (v := .bool (decide (((way.toNat % 10 : Nat) : Int) = (1 : Int)))) rfl rfl rfl (e_eql (a := ((way.toNat % 10 : Nat) : Int)) (b := (1 : Int)) rfl rfl) ?_
  refine l_val (v := .bool (decide (((way.toNat % 10 : Nat) : Int) = (1 : Int)))) rfl rfl rfl (e_assign) ?_
  refine l_nil ?_
  refine f_then ?_
  refine c_if (((way.toNat % 10 : Nat) : Int) = (1 : Int)) rfl (fun hc49 => ?_) (fun hc49 => ?_)
  ·
    refine c_region ?_
    refine l_val (v := .pointer (some ⟨b10, 0, none⟩)) rfl rfl rfl (e_fieldPt (b := b10) (o := 0) rfl tf33) ?_
    refine l_val (v := .slice rp14 (B0.length) rc15) rfl rfl rfl (e_load1 tf26 (v := .slice rp14 (B0.length) rc15) rfl (k_pt 1 (cs := #[.slice rp14 (B0.length) rc15, .slice q8 (R.length) d9, .int .i64 (0), .int .i64 (0)]) (vs := [.slice rp14 (B0.length) rc15]) rfl rfl)) ?_
    refine l_val (v := Nx (B0.length - 1)) rfl rfl rfl (e_move) ?_
    refine l_val (v := .pointer (some ((ba rp14).add ((B0.length - 1) * 9)))) rfl rfl rfl (e_indexFlN 2 (F := BodyF) (j := B0.length - 1) (m := B0.length) (xs := B0) rfl rfl rfl tf16 (by omega) rfl) ?_
    refine l_val (v := .pointer (some ((ba rp14).add ((B0.length - 1) * 9)))) rfl rfl rfl (ev_eq (congrArg (fun z => Value.pointer (some z)) (show ((ba rp14).add ((B0.length - 1) * 9) : Addr).add 0 = (ba rp14).add ((B0.length - 1) * 9) by rw [Addr.add_add'] <;> rfl)) (e_fieldAddr (a := (ba rp14).add ((B0.length - 1) * 9)) rfl tf27)) ?_
    refine l_mu rfl rfl (m_storeFlPart 2 (F := BodyF) (p := rp14) (k := B0.length - 1) (o := 0) (xs := B0) (z0 := ib1) (z := ibJ) tf11 rfl rfl rfl rfl rfl hl2 (by decide) rfl) ?_
    refine l_nil ?_
    refine f_block ?_
    refine f_then ?_
    refine c_seq ?_
    have hno : ¬ okS (B0.set (B0.length - 1) ibJ) R 0 0 := no_id hB0 (by decide)
    have hBl : (B0.set (B0.length - 1) ibJ).length = B0.length := List.length_set
    obtain ⟨Bq, hBq⟩ : ∃ z, z = (B0.set (B0.length - 1) ibJ) := ⟨_, rfl⟩
    rw [← hBq] at hno hBl
    rw [← hBq]
    refine c_re (L' := [pt b11 (.cells #[.int .i64 (40), .int .i64 (0), .int .i64 (0), .int .i64 (0), .int .i64 (0), .int .i64 (10), .int .i64 (10), .bool false, .bool false] 39), pt b10 (.cells #[.slice rp14 (Bq.length) rc15, .slice q8 (R.length) d9, .int .i64 (0), .int .i64 (0)] 32), rowF BodyF 39 rp14 rc15 Bq, rowF RopeF 49 q8 d9 R]) (by rw [hBl]; rfl) ?_
    refine c_region ?_
    refine l_val (v := .agg #[.slice rp14 (Bq.length) rc15, .slice q8 (R.length) d9, .int .i64 (0), .int .i64 (0)]) rfl rfl rfl (e_load tf31 (cs := [.slice rp14 (Bq.length) rc15, .slice q8 (R.length) d9, .int .i64 (0), .int .i64 (0)]) rfl (k_pt 1 (cs := #[.slice rp14 (Bq.length) rc15, .slice q8 (R.length) d9, .int .i64 (0), .int .i64 (0)]) (vs := [.slice rp14 (Bq.length) rc15, .slice q8 (R.length) d9, .int .i64 (0), .int .i64 (0)]) rfl rfl) rfl) ?_
    refine l_call rfl rfl rfl (cl_value (fst := []) (cap := []) (vs := [.agg #[.slice rp14 (Bq.length) rc15, .slice q8 (R.length) d9, .int .i64 (0), .int .i64 (0)]]) (all := [.agg #[.slice rp14 (Bq.length) rc15, .slice q8 (R.length) d9, .int .i64 (0), .int .i64 (0)]]) tf75 rfl rfl rfl) ?_
    intro w hw
    obtain ⟨β1, sb, kn, hw1, back⟩ := St.frame_all hw
    refine (islE_ok β1 w hw1 _ _ 0 0 Bq R (kn _ (k_flN 2 (F := BodyF) (m := Bq.length) rfl rfl)) (kn _ (k_flN 3 (F := RopeF) (m := R.length) rfl rfl)) (by omega) (by omega) hno).mono ?_
    rintro e w' ⟨p50, c51, rfl, hw'⟩
    refine ⟨_, rfl, _, back _ _ hw', ?_⟩
    clear hw hw1 hw' back kn sb
    refine l_val (v := .tuple #[.slice p50 (0) c51, .int .i64 (2)]) rfl rfl rfl (e_move) ?_
    refine l_val (v := .slice p50 (0) c51) rfl rfl rfl (e_extract (vs := #[.slice p50 (0) c51, .int .i64 (2)]) rfl rfl) ?_
    refine l_val (v := .int .i64 (2)) rfl rfl rfl (e_extract (vs := #[.slice p50 (0) c51, .int .i64 (2)]) rfl rfl) ?_
    refine l_val (v := .slice p50 (0) c51) rfl rfl rfl (e_assign) ?_
    refine l_val (v := .int .i64 (2)) rfl rfl rfl (e_assign) ?_
    refine l_nil ?_
    refine f_then ?_
    refine c_seq ?_
    refine c_region ?_
    refine l_val (v := .agg #[.slice rp14 (Bq.length) rc15, .slice q8 (R.length) d9, .int .i64 (0), .int .i64 (0)]) rfl rfl rfl (e_load tf31 (cs := [.slice rp14 (Bq.length) rc15, .slice q8 (R.length) d9, .int .i64 (0), .int .i64 (0)]) rfl (k_pt 1 (cs := #[.slice rp14 (Bq.length) rc15, .slice q8 (R.length) d9, .int .i64 (0), .int .i64 (0)]) (vs := [.slice rp14 (Bq.length) rc15, .slice q8 (R.length) d9, .int .i64 (0), .int .i64 (0)]) rfl rfl) rfl) ?_
    refine l_mv rfl rfl rfl (m_slices tf23 tf24 (vs := [(0, .int .i64 (40))]) (cells := #[.int .i64 (40)]) rfl rfl rfl rfl) ?_
    rintro _ _ ⟨b52, rfl, rfl⟩
    refine l_call rfl rfl rfl (cl_value (fst := []) (cap := []) (vs := [.agg #[.slice rp14 (Bq.length) rc15, .slice q8 (R.length) d9, .int .i64 (0), .int .i64 (0)], .slice (some ⟨b52, 0, none⟩) 1 1]) (all := [.agg #[.slice rp14 (Bq.length) rc15, .slice q8 (R.length) d9, .int .i64 (0), .int .i64 (0)], .slice (some ⟨b52, 0, none⟩) 1 1]) tf76 rfl rfl rfl) ?_
    intro w hw
    obtain ⟨β1, sb, kn, hw1, back⟩ := St.frame_all hw
    refine (partE_ok β1 w hw1 _ _ _ 0 0 Bq R [40] (kn _ (k_flN 3 (F := BodyF) (m := Bq.length) rfl rfl)) (kn _ (k_flN 4 (F := RopeF) (m := R.length) rfl rfl)) (kn _ (k_ptFls (F := IntF) 0 (m := 1) (xs := [40]) rfl rfl rfl (by decide))) (by omega) (by omega) 2 (by decide) (errPt_bad hno [40])).mono ?_
    rintro e w' ⟨p53, c54, q55, d56, rfl, hw'⟩
    refine ⟨_, rfl, _, back _ _ hw', ?_⟩
    clear hw hw1 hw' back kn sb
    refine l_val (v := .tuple #[.agg #[.slice p53 (0) c54, .slice q55 (0) d56, .int .i64 (0), .int .i64 (0)], .int .i64 (2)]) rfl rfl rfl (e_move) ?_
    refine l_val (v := .agg #[.slice p53 (0) c54, .slice q55 (0) d56, .int .i64 (0), .int .i64 (0)]) rfl rfl rfl (e_extract (vs := #[.agg #[.slice p53 (0) c54, .slice q55 (0) d56, .int .i64 (0), .int .i64 (0)], .int .i64 (2)]) rfl rfl) ?_
    refine l_val (v := .int .i64 (2)) rfl rfl rfl (e_extract (vs := #[.agg #[.slice p53 (0) c54, .slice q55 (0) d56, .int .i64 (0), .int .i64 (0)], .int .i64 (2)]) rfl rfl) ?_
    refine l_mv rfl rfl rfl (m_alloc tf67) ?_
    rintro _ _ ⟨b57, rfl, rfl⟩
    refine l_mu rfl rfl (m_store 0 tf31 (b := b57) (o := 0) (T := 32) (cs := #[.slice none 0 0, .slice none 0 0, .int .i64 (0), .int .i64 (0)]) (cs' := #[.slice p53 (0) c54, .slice q55 (0) d56, .int .i64 (0), .int .i64 (0)]) (v := .agg #[.slice p53 (0) c54, .slice q55 (0) d56, .int .i64 (0), .int .i64 (0)]) rfl rfl rfl rfl rfl rfl rfl) ?_
    refine l_val (v := .int .i64 (2)) rfl rfl rfl (e_assign) ?_
    refine l_nil ?_
    refine f_then ?_
    refine c_seq ?_
    have hvx : ¬ okV hi 0 := fun q => by have := q.2.1; omega
    have hvy : ¬ okV 0 lo := fun q => by have := q.2.2.1; omega
    refine c_any [⟨[], [], [0], [160], fun f => f 160 = .agg #[.int .i64 (40), .int .i64 (0), .int .i64 (0), .int .i64 (0), .int .i64 (0), .int .i64 (10), .int .i64 (10), .bool false, .bool false]⟩, ⟨[], [], [1], [161], fun f => f 161 = Ix (hi)⟩, ⟨[1], [1], [], [162], fun f => f 162 = .agg #[Ix (hi), .int .i64 (0)]⟩, ⟨[0, 1, 2], [0, 2], [], [163], fun f => f 163 = .agg #[.int .i64 (0), .int .i64 (0)]⟩, ⟨[], [], [0], [164], fun f => f 164 = .agg #[.int .i64 (40), .int .i64 (0), .int .i64 (0), .int .i64 (0), .int .i64 (0), .int .i64 (10), .int .i64 (10), .bool false, .bool false]⟩, ⟨[], [], [2], [165], fun f => f 165 = Ix (lo)⟩, ⟨[5], [5], [], [166], fun f => f 166 = .agg #[.int .i64 (0), Ix (lo)]⟩, ⟨[0, 1, 2, 3, 4, 5, 6], [4, 6], [], [167], fun f => f 167 = .agg #[.int .i64 (0), .int .i64 (0), .int .i64 (0), .int .i64 (0)]⟩, ⟨[], [], [], [26], fun f => f 26 = .pointer (some ⟨(blk (f 26)), 0, none⟩)⟩, ⟨[], [], [], [27], fun f => f 27 = .pointer (some ⟨(blk (f 27)), 0, none⟩)⟩, ⟨[0, 1, 2, 3, 4, 5, 6, 7, 8, 9], [8, 3], [], [], fun _ => True⟩, ⟨[0, 1, 2, 3, 4, 5, 6, 7, 8, 9, 10], [9, 7], [], [], fun _ => True⟩] [⟨none, none, [], [], fun _ => pt b57 (.cells #[.slice p53 (0) c54, .slice q55 (0) d56, .int .i64 (0), .int .i64 (0)] 32)⟩, ⟨none, none, [], [], fun _ => pt b52 (.cells #[.int .i64 (40)] 3)⟩, ⟨none, none, [0, 4], [], fun _ => pt b11 (.cells #[.int .i64 (40), .int .i64 (0), .int .i64 (0), .int .i64 (0), .int .i64 (0), .int .i64 (10), .int .i64 (10), .bool false, .bool false] 39)⟩, ⟨none, none, [], [], fun _ => pt b10 (.cells #[.slice rp14 (Bq.length) rc15, .slice q8 (R.length) d9, .int .i64 (0), .int .i64 (0)] 32)⟩, ⟨none, none, [], [], fun _ => rowF BodyF 39 rp14 rc15 Bq⟩, ⟨none, none, [], [], fun _ => rowF RopeF 49 q8 d9 R⟩, ⟨(some 8), (some 10), [10], [26], fun f => pt (blk (f 26)) (.cells #[.int .i64 (0), .int .i64 (0)] 30)⟩, ⟨(some 9), (some 11), [11], [27], fun f => pt (blk (f 27)) (.cells #[.int .i64 (0), .int .i64 (0), .int .i64 (0), .int .i64 (0)] 46)⟩, ⟨(some 10), none, [], [26], fun f => pt (blk (f 26)) (.cells #[.int .i64 (0), .int .i64 (0)] 30)⟩, ⟨(some 11), none, [], [27], fun f => pt (blk (f 27)) (.cells #[.int .i64 (0), .int .i64 (0), .int .i64 (0), .int .i64 (0)] 46)⟩] [(13, .pointer (some ⟨b11, 0, none⟩)), (4, Ix (hi)), (3, Ix (lo)), (12, .pointer (some ⟨b10, 0, none⟩)), (17, .int .i64 (6)), (19, .int .i64 (6)), (21, .int .i64 (6)), (22, .slice p50 (0) c51), (23, .int .i64 (2)), (24, .pointer (some ⟨b57, 0, none⟩)), (25, .int .i64 (2))] [3, 4, 5, 6, 7, 8, 9, 10] [] (by kernel_rfl) (by kernel_rfl) (by kernel_rfl) (by kernel_rfl) rfl ⟨rfl, rfl, rfl, rfl, rfl, rfl, rfl, rfl, rfl, rfl, rfl, trivial⟩ ⟨?_, ?_, ?_, ?_, ?_, ?_, ?_, ?_, ?_, ?_, ?_, ?_, trivial⟩ ?_
    · rintro f M - ⟨i0, -⟩
      have hs13 : f 13 = .pointer (some ⟨b11, 0, none⟩) := i0
      refine ob_start (L' := pt b11 (.cells #[.int .i64 (40), .int .i64 (0), .int .i64 (0), .int .i64 (0), .int .i64 (0), .int .i64 (10), .int .i64 (10), .bool false, .bool false] 39) :: M) (by rfl) (up_cons rfl hs13) ?_
      refine l_val (v := .agg #[.int .i64 (40), .int .i64 (0), .int .i64 (0), .int .i64 (0), .int .i64 (0), .int .i64 (10), .int .i64 (10), .bool false, .bool false]) rfl rfl rfl (e_load tf1 (cs := [.int .i64 (40), .int .i64 (0), .int .i64 (0), .int .i64 (0), .int .i64 (0), .int .i64 (10), .int .i64 (10), .bool false, .bool false]) rfl (k_pt 0 (cs := #[.int .i64 (40), .int .i64 (0), .int .i64 (0), .int .i64 (0), .int .i64 (0), .int .i64 (10), .int .i64 (10), .bool false, .bool false]) (vs := [.int .i64 (40), .int .i64 (0), .int .i64 (0), .int .i64 (0), .int .i64 (0), .int .i64 (10), .int .i64 (10), .bool false, .bool false]) rfl rfl) rfl) ?_
      refine l_nil ?_
      exact f_owes_d (up_cons rfl hs13) rfl (perm_front 0 rfl)
    · rintro f M - ⟨i0, -⟩
      have hs4 : f 4 = Ix (hi) := i0
      refine ob_start (L' := M) (by rfl) (up_cons rfl hs4) ?_
      refine l_val (v := Ix (hi)) rfl rfl rfl (e_move) ?_
      refine l_nil ?_
      exact f_owes_d (up_cons rfl hs4) rfl (List.Perm.refl _)
    · rintro f M ⟨k0, -⟩ -
      have hs161 : f 161 = Ix (hi) := k0
      refine ob_start (L' := M) (by rfl) (up_cons rfl hs161) ?_
      refine l_val (v := .agg #[Ix (hi), .int .i64 (0)]) rfl rfl rfl (e_build tf8 tf13 (vs := [(0, Ix (hi))]) (cells := #[Ix (hi), .int .i64 (0)]) rfl rfl) ?_
      refine l_nil ?_
      exact f_owes_d (up_cons rfl hs161) rfl (List.Perm.refl _)
    · rintro f M ⟨k0, k1, -⟩ -
      have hs160 : f 160 = .agg #[.int .i64 (40), .int .i64 (0), .int .i64 (0), .int .i64 (0), .int .i64 (0), .int .i64 (10), .int .i64 (10), .bool false, .bool false] := k0
      have hs162 : f 162 = .agg #[Ix (hi), .int .i64 (0)] := k1
      refine ob_start (L' := M) (by rfl) (up_cons (up_cons rfl hs160) hs162) ?_
      refine l_call rfl rfl rfl (cl_value (fst := []) (cap := []) (vs := [.agg #[.int .i64 (40), .int .i64 (0), .int .i64 (0), .int .i64 (0), .int .i64 (0), .int .i64 (10), .int .i64 (10), .bool false, .bool false], .agg #[Ix (hi), .int .i64 (0)]]) (all := [.agg #[.int .i64 (40), .int .i64 (0), .int .i64 (0), .int .i64 (0), .int .i64 (0), .int .i64 (10), .int .i64 (10), .bool false, .bool false], .agg #[Ix (hi), .int .i64 (0)]]) tf9 rfl rfl rfl) ?_
      intro w hw
      obtain ⟨β1, sb, kn, hw1, back⟩ := St.frame_all hw
      refine (speedE_ok β1 w hw1 ib0 hi 0 (by omega) (by omega) hvx).mono ?_
      rintro e w' ⟨rfl, hw'⟩
      refine ⟨_, rfl, _, back _ _ hw', ?_⟩
      clear hw hw1 hw' back kn sb
      refine l_nil ?_
      exact f_owes_d (up_cons (up_cons rfl hs160) hs162) rfl (List.Perm.refl _)
    · rintro f M - ⟨i0, -⟩
      have hs13 : f 13 = .pointer (some ⟨b11, 0, none⟩) := i0
      refine ob_start (L' := pt b11 (.cells #[.int .i64 (40), .int .i64 (0), .int .i64 (0), .int .i64 (0), .int .i64 (0), .int .i64 (10), .int .i64 (10), .bool false, .bool false] 39) :: M) (by rfl) (up_cons rfl hs13) ?_
      refine l_val (v := .agg #[.int .i64 (40), .int .i64 (0), .int .i64 (0), .int .i64 (0), .int .i64 (0), .int .i64 (10), .int .i64 (10), .bool false, .bool false]) rfl rfl rfl (e_load tf1 (cs := [.int .i64 (40), .int .i64 (0), .int .i64 (0), .int .i64 (0), .int .i64 (0), .int .i64 (10), .int .i64 (10), .bool false, .bool false]) rfl (k_pt 0 (cs := #[.int .i64 (40), .int .i64 (0), .int .i64 (0), .int .i64 (0), .int .i64 (0), .int .i64 (10), .int .i64 (10), .bool false, .bool false]) (vs := [.int .i64 (40), .int .i64 (0), .int .i64 (0), .int .i64 (0), .int .i64 (0), .int .i64 (10), .int .i64 (10), .bool false, .bool false]) rfl rfl) rfl) ?_
      refine l_nil ?_
      exact f_owes_d (up_cons rfl hs13) rfl (perm_front 0 rfl)
    · rintro f M - ⟨i0, -⟩
      have hs3 : f 3 = Ix (lo) := i0
      refine ob_start (L' := M) (by rfl) (up_cons rfl hs3) ?_
      refine l_val (v := Ix (lo)) rfl rfl rfl (e_move) ?_
      refine l_nil ?_
      exact f_owes_d (up_cons rfl hs3) rfl (List.Perm.refl _)
    · rintro f M ⟨k0, -⟩ -
      have hs165 : f 165 = Ix (lo) := k0
      refine ob_start (L' := M) (by rfl) (up_cons rfl hs165) ?_
      refine l_val (v := .agg #[.int .i64 (0), Ix (lo)]) rfl rfl rfl (e_build tf8 tf13 (vs := [(1, Ix (lo))]) (cells := #[.int .i64 (0), Ix (lo)]) rfl rfl) ?_
      refine l_nil ?_
      exact f_owes_d (up_cons rfl hs165) rfl (List.Perm.refl _)
    · rintro f M ⟨k0, k1, -⟩ -
      have hs164 : f 164 = .agg #[.int .i64 (40), .int .i64 (0), .int .i64 (0), .int .i64 (0), .int .i64 (0), .int .i64 (10), .int .i64 (10), .bool false, .bool false] := k0
      have hs166 : f 166 = .agg #[.int .i64 (0), Ix (lo)] := k1
      refine ob_start (L' := M) (by rfl) (up_cons (up_cons rfl hs164) hs166) ?_
      refine l_call rfl rfl rfl (cl_value (fst := []) (cap := []) (vs := [.agg #[.int .i64 (40), .int .i64 (0), .int .i64 (0), .int .i64 (0), .int .i64 (0), .int .i64 (10), .int .i64 (10), .bool false, .bool false], .agg #[.int .i64 (0), Ix (lo)]]) (all := [.agg #[.int .i64 (40), .int .i64 (0), .int .i64 (0), .int .i64 (0), .int .i64 (0), .int .i64 (10), .int .i64 (10), .bool false, .bool false], .agg #[.int .i64 (0), Ix (lo)]]) tf41 rfl rfl rfl) ?_
      intro w hw
      obtain ⟨β1, sb, kn, hw1, back⟩ := St.frame_all hw
      refine (reachE_ok β1 w hw1 ib0 0 lo (by omega) (by omega) hvy).mono ?_
      rintro e w' ⟨rfl, hw'⟩
      refine ⟨_, rfl, _, back _ _ hw', ?_⟩
      clear hw hw1 hw' back kn sb
      refine l_nil ?_
      exact f_owes_d (up_cons (up_cons rfl hs164) hs166) rfl (List.Perm.refl _)
    · rintro f M - -
      refine ob_start (L' := M) (by rfl) rfl ?_
      refine l_mv rfl rfl rfl (m_alloc tf8) ?_
      rintro _ _ ⟨b59, rfl, rfl⟩
      refine l_nil ?_
      exact f_owes_d rfl rfl (perm_front 0 rfl)
    · rintro f M - -
      refine ob_start (L' := M) (by rfl) rfl ?_
      refine l_mv rfl rfl rfl (m_alloc tf0) ?_
      rintro _ _ ⟨b61, rfl, rfl⟩
      refine l_nil ?_
      exact f_owes_d rfl rfl (perm_front 0 rfl)
    · rintro f M ⟨k0, k1, -⟩ -
      have hs26 : f 26 = .pointer (some ⟨(blk (f 26)), 0, none⟩) := k0
      have hs163 : f 163 = .agg #[.int .i64 (0), .int .i64 (0)] := k1
      refine ob_start (L' := pt (blk (f 26)) (.cells #[.int .i64 (0), .int .i64 (0)] 30) :: M) (by rfl) (up_cons (up_cons rfl hs26) hs163) ?_
      refine l_mu rfl rfl (m_store 0 tf5 (b := (blk (f 26))) (o := 0) (T := 30) (cs := #[.int .i64 (0), .int .i64 (0)]) (cs' := #[.int .i64 (0), .int .i64 (0)]) (v := .agg #[.int .i64 (0), .int .i64 (0)]) rfl rfl rfl rfl rfl rfl rfl) ?_
      refine l_nil ?_
      exact f_owes_n (up_cons (up_cons rfl hs26) hs163) trivial (perm_front 0 rfl)
    · rintro f M ⟨k0, k1, -⟩ -
      have hs27 : f 27 = .pointer (some ⟨(blk (f 27)), 0, none⟩) := k0
      have hs167 : f 167 = .agg #[.int .i64 (0), .int .i64 (0), .int .i64 (0), .int .i64 (0)] := k1
      refine ob_start (L' := pt (blk (f 27)) (.cells #[.int .i64 (0), .int .i64 (0), .int .i64 (0), .int .i64 (0)] 46) :: M) (by rfl) (up_cons (up_cons rfl hs27) hs167) ?_
      refine l_mu rfl rfl (m_store 0 tf4 (b := (blk (f 27))) (o := 0) (T := 46) (cs := #[.int .i64 (0), .int .i64 (0), .int .i64 (0), .int .i64 (0)]) (cs' := #[.int .i64 (0), .int .i64 (0), .int .i64 (0), .int .i64 (0)]) (v := .agg #[.int .i64 (0), .int .i64 (0), .int .i64 (0), .int .i64 (0)]) rfl rfl rfl rfl rfl rfl rfl) ?_
      refine l_nil ?_
      exact f_owes_n (up_cons (up_cons rfl hs27) hs167) trivial (perm_front 0 rfl)
    rintro fa62 ⟨-, -, -, -, -, -, -, -, k8, k9, -, -, -⟩ ⟨j0, j1, j2, j3, j4, j5, j6, j7, -⟩
    refine f_re (L' := [pt b57 (.cells #[.slice p53 (0) c54, .slice q55 (0) d56, .int .i64 (0), .int .i64 (0)] 32), pt b52 (.cells #[.int .i64 (40)] 3), pt b11 (.cells #[.int .i64 (40), .int .i64 (0), .int .i64 (0), .int .i64 (0), .int .i64 (0), .int .i64 (10), .int .i64 (10), .bool false, .bool false] 39), pt b10 (.cells #[.slice rp14 (Bq.length) rc15, .slice q8 (R.length) d9, .int .i64 (0), .int .i64 (0)] 32), rowF BodyF 39 rp14 rc15 Bq, rowF RopeF 49 q8 d9 R, pt (blk (fa62 26)) (.cells #[.int .i64 (0), .int .i64 (0)] 30), pt (blk (fa62 27)) (.cells #[.int .i64 (0), .int .i64 (0), .int .i64 (0), .int .i64 (0)] 46)]) (by rfl) ?_
    refine f_rebase (d := 12) (v := .pointer (some ⟨b10, 0, none⟩)) j0 ?_
    refine f_rebase (d := 17) (v := .int .i64 (6)) j1 ?_
    refine f_rebase (d := 19) (v := .int .i64 (6)) j2 ?_
    refine f_rebase (d := 21) (v := .int .i64 (6)) j3 ?_
    refine f_rebase (d := 22) (v := .slice p50 (0) c51) j4 ?_
    refine f_rebase (d := 23) (v := .int .i64 (2)) j5 ?_
    refine f_rebase (d := 24) (v := .pointer (some ⟨b57, 0, none⟩)) j6 ?_
    refine f_rebase (d := 25) (v := .int .i64 (2)) j7 ?_
    refine f_rebase (d := 26) (v := .pointer (some ⟨(blk (fa62 26)), 0, none⟩)) k8 ?_
    refine f_rebase (d := 27) (v := .pointer (some ⟨(blk (fa62 27)), 0, none⟩)) k9 ?_
    refine f_then ?_
    refine c_seq ?_
    refine c_region ?_
    refine l_val (v := .int .i64 (6)) rfl rfl rfl (e_move) ?_
    refine l_val (v := .bool true) rfl rfl rfl (e_eql (a := (6 : Int)) (b := (6 : Int)) rfl rfl) ?_
    refine l_val (v := .bool true) rfl rfl rfl (e_move) ?_
    refine g_val (v := .int .i64 (6)) rfl rfl rfl rfl rfl (e_move) ?_
    refine g_val (v := .bool true) rfl rfl rfl rfl rfl (e_eql (a := (6 : Int)) (b := (6 : Int)) rfl rfl) ?_
    refine l_val (v := .bool true) rfl rfl rfl (e_pick_t rfl) ?_
    refine l_val (v := .bool true) rfl rfl rfl (e_move) ?_
    refine g_val (v := .int .i64 (6)) rfl rfl rfl rfl rfl (e_move) ?_
    refine g_val (v := .bool true) rfl rfl rfl rfl rfl (e_eql (a := (6 : Int)) (b := (6 : Int)) rfl rfl) ?_
    refine l_val (v := .bool true) rfl rfl rfl (e_pick_t rfl) ?_
    refine l_val (v := .bool true) rfl rfl rfl (e_move) ?_
    refine g_val (v := .int .i64 (2)) rfl rfl rfl rfl rfl (e_move) ?_
    refine g_val (v := .bool true) rfl rfl rfl rfl rfl (e_eql (a := (2 : Int)) (b := (2 : Int)) rfl rfl) ?_
    refine l_val (v := .bool true) rfl rfl rfl (e_pick_t rfl) ?_
    refine l_val (v := .bool true) rfl rfl rfl (e_move) ?_
    refine g_val (v := .int .i64 (2)) rfl rfl rfl rfl rfl (e_move) ?_
    refine g_val (v := .bool true) rfl rfl rfl rfl rfl (e_eql (a := (2 : Int)) (b := (2 : Int)) rfl rfl) ?_
    refine l_val (v := .bool true) rfl rfl rfl (e_pick_t rfl) ?_
    refine l_val (v := .bool true) rfl rfl rfl (e_move) ?_
    refine g_val (v := .slice p50 (0) c51) rfl rfl rfl rfl rfl (e_move) ?_
    refine g_val (v := Nx (0)) rfl rfl rfl rfl rfl (e_len (a := p50) (n := 0) (c := c51) rfl tf64) ?_
    refine g_val (v := .pointer (some ⟨b57, 0, none⟩)) rfl rfl rfl rfl rfl (e_fieldPt (b := b57) (o := 0) rfl tf33) ?_
    refine g_val (v := .slice p53 (0) c54) rfl rfl rfl rfl rfl (e_load1 tf26 (v := .slice p53 (0) c54) rfl (k_pt 0 (cs := #[.slice p53 (0) c54, .slice q55 (0) d56, .int .i64 (0), .int .i64 (0)]) (vs := [.slice p53 (0) c54]) rfl rfl)) ?_
    refine g_val (v := Nx (0)) rfl rfl rfl rfl rfl (e_len (a := p53) (n := 0) (c := c54) rfl tf15) ?_
    refine g_val (v := Nx (0 + 0)) rfl rfl rfl rfl rfl (e_add (a := ((0 : Nat) : Int)) (b := ((0 : Nat) : Int)) rfl rfl (i64n (by omega) (by omega))) ?_
    refine g_val (v := .pointer (some ⟨b57, 1, none⟩)) rfl rfl rfl rfl rfl (e_fieldPt (b := b57) (o := 0) rfl tf52) ?_
    refine g_val (v := .slice q55 (0) d56) rfl rfl rfl rfl rfl (e_load1 tf53 (v := .slice q55 (0) d56) rfl (k_pt 0 (cs := #[.slice p53 (0) c54, .slice q55 (0) d56, .int .i64 (0), .int .i64 (0)]) (vs := [.slice q55 (0) d56]) rfl rfl)) ?_
    refine g_val (v := Nx (0)) rfl rfl rfl rfl rfl (e_len (a := q55) (n := 0) (c := d56) rfl tf54) ?_
    refine g_val (v := Nx ((0 + 0) + 0)) rfl rfl rfl rfl rfl (e_add (a := ((0 + 0 : Nat) : Int)) (b := ((0 : Nat) : Int)) rfl rfl (i64n (by omega) (by omega))) ?_
    refine g_val (v := .bool (decide ((((0 + 0) + 0 : Nat) : Int) = (0 : Int)))) rfl rfl rfl rfl rfl (e_eql (a := (((0 + 0) + 0 : Nat) : Int)) (b := (0 : Int)) rfl rfl) ?_
    refine l_val (v := .bool (decide ((((0 + 0) + 0 : Nat) : Int) = (0 : Int)))) rfl rfl rfl (e_pick_t rfl) ?_
    refine l_val (v := .bool (decide ((((0 + 0) + 0 : Nat) : Int) = (0 : Int)))) rfl rfl rfl (e_move) ?_
    refine l_split (s := 199) (p := (((0 + 0) + 0 : Nat) : Int) = (0 : Int)) rfl (fun h => ?_) (fun h => ?_)
    rotate_left; exact absurd (by decide) h
    refine g_val (v := .agg #[.int .i64 (0), .int .i64 (0)]) rfl rfl rfl rfl rfl (e_load tf5 (cs := [.int .i64 (0), .int .i64 (0)]) rfl (k_pt 6 (cs := #[.int .i64 (0), .int .i64 (0)]) (vs := [.int .i64 (0), .int .i64 (0)]) rfl rfl) rfl) ?_
    refine g_val (v := .agg #[.int .i64 (0), .int .i64 (0)]) rfl rfl rfl rfl rfl (e_build tf8 tf13 (vs := []) (cells := #[.int .i64 (0), .int .i64 (0)]) rfl rfl) ?_
    refine g_val (v := .bool true) rfl rfl rfl rfl rfl ((ev_t (by decide) (e_eql_t (p := (0 : Int) = (0 : Int) ∧ (0 : Int) = (0 : Int)) (xs := [.int .i64 (0), .int .i64 (0)]) (ys := [.int .i64 (0), .int .i64 (0)]) tf92 tf93 tf94 rfl rfl rfl rfl vec_eq))) ?_
    refine l_val (v := .bool true) rfl rfl rfl (e_pick_t rfl) ?_
    refine l_val (v := .bool true) rfl rfl rfl (e_move) ?_
    refine g_val (v := .agg #[.int .i64 (0), .int .i64 (0), .int .i64 (0), .int .i64 (0)]) rfl rfl rfl rfl rfl (e_load tf4 (cs := [.int .i64 (0), .int .i64 (0), .int .i64 (0), .int .i64 (0)]) rfl (k_pt 7 (cs := #[.int .i64 (0), .int .i64 (0), .int .i64 (0), .int .i64 (0)]) (vs := [.int .i64 (0), .int .i64 (0), .int .i64 (0), .int .i64 (0)]) rfl rfl) rfl) ?_
    refine g_val (v := .agg #[.int .i64 (0), .int .i64 (0), .int .i64 (0), .int .i64 (0)]) rfl rfl rfl rfl rfl (e_build tf0 tf3 (vs := []) (cells := #[.int .i64 (0), .int .i64 (0), .int .i64 (0), .int .i64 (0)]) rfl rfl) ?_
    refine g_val (v := .bool true) rfl rfl rfl rfl rfl ((ev_t (by decide) (e_eql_t (p := (0 : Int) = (0 : Int) ∧ (0 : Int) = (0 : Int) ∧ (0 : Int) = (0 : Int) ∧ (0 : Int) = (0 : Int)) (xs := [.int .i64 (0), .int .i64 (0), .int .i64 (0), .int .i64 (0)]) (ys := [.int .i64 (0), .int .i64 (0), .int .i64 (0), .int .i64 (0)]) tf78 tf79 tf80 rfl rfl rfl rfl arr4_eq))) ?_
    refine l_val (v := .bool true) rfl rfl rfl (e_pick_t rfl) ?_
    refine l_val (v := .bool true) rfl rfl rfl (e_move) ?_
    refine g_val (v := .agg #[.slice rp14 (Bq.length) rc15, .slice q8 (R.length) d9, .int .i64 (0), .int .i64 (0)]) rfl rfl rfl rfl rfl (e_load tf31 (cs := [.slice rp14 (Bq.length) rc15, .slice q8 (R.length) d9, .int .i64 (0), .int .i64 (0)]) rfl (k_pt 3 (cs := #[.slice rp14 (Bq.length) rc15, .slice q8 (R.length) d9, .int .i64 (0), .int .i64 (0)]) (vs := [.slice rp14 (Bq.length) rc15, .slice q8 (R.length) d9, .int .i64 (0), .int .i64 (0)]) rfl rfl) rfl) ?_
    refine g_call rfl rfl rfl rfl rfl (cl_value (fst := []) (cap := []) (vs := [.agg #[.slice rp14 (Bq.length) rc15, .slice q8 (R.length) d9, .int .i64 (0), .int .i64 (0)]]) (all := [.agg #[.slice rp14 (Bq.length) rc15, .slice q8 (R.length) d9, .int .i64 (0), .int .i64 (0)]]) tf32 rfl rfl rfl) ?_
    intro w hw
    obtain ⟨β1, sb, kn, hw1, back⟩ := St.frame_all hw
    refine (validE_ok β1 w hw1 _ _ 0 0 Bq R (kn _ (k_flN 4 (F := BodyF) (m := Bq.length) rfl rfl)) (kn _ (k_flN 5 (F := RopeF) (m := R.length) rfl rfl)) (by omega) (by omega) hno).mono ?_
    rintro e w' ⟨rfl, hw'⟩
    refine ⟨_, rfl, _, back _ _ hw', ?_⟩
    clear hw hw1 hw' back kn sb
    refine g_val (v := .bool true) rfl rfl rfl rfl rfl (e_not (a := false) rfl) ?_
    refine l_val (v := .bool true) rfl rfl rfl (e_pick_t rfl) ?_
    refine l_val (v := .bool true) rfl rfl rfl (e_assign) ?_
    refine l_nil ?_
    refine f_then ?_
    refine c_ret ?_
    refine ret1 Try.results8 (v := .bool true) rfl ?_
    intro w hw
    exact ⟨rfl, st_mask [false, false, false, false, false, false, false, false] rfl hw⟩
  refine c_seq ?_
  refine c_region ?_
  refine l_val (v := .bool (decide (((way.toNat % 10 : Nat) : Int) = (2 : Int)))) rfl rfl rfl (e_eql (a := ((way.toNat % 10 : Nat) : Int)) (b := (2 : Int)) rfl rfl) ?_
  refine l_val (v := .bool (decide (((way.toNat % 10 : Nat) : Int) = (2 : Int)))) rfl rfl rfl (e_assign) ?_
  refine l_nil ?_
  refine f_then ?_
  refine c_if (((way.toNat % 10 : Nat) : Int) = (2 : Int)) rfl (fun hc63 => ?_) (fun hc63 => ?_)
  ·
    refine c_region ?_
    refine l_val (v := .pointer (some ⟨b10, 0, none⟩)) rfl rfl rfl (e_fieldPt (b := b10) (o := 0) rfl tf33) ?_
    refine l_val (v := .slice rp14 (B0.length) rc15) rfl rfl rfl (e_load1 tf26 (v := .slice rp14 (B0.length) rc15) rfl (k_pt 1 (cs := #[.slice rp14 (B0.length) rc15, .slice q8 (R.length) d9, .int .i64 (0), .int .i64 (0)]) (vs := [.slice rp14 (B0.length) rc15]) rfl rfl)) ?_
    refine l_val (v := Nx (B0.length - 1)) rfl rfl rfl (e_move) ?_
    refine l_val (v := .pointer (some ((ba rp14).add ((B0.length - 1) * 9)))) rfl rfl rfl (e_indexFlN 2 (F := BodyF) (j := B0.length - 1) (m := B0.length) (xs := B0) rfl rfl rfl tf16 (by omega) rfl) ?_
    refine l_val (v := .pointer (some ((ba rp14).add ((B0.length - 1) * 9 + 5)))) rfl rfl rfl (ev_eq (congrArg (fun z => Value.pointer (some z)) (show ((ba rp14).add ((B0.length - 1) * 9) : Addr).add 5 = (ba rp14).add ((B0.length - 1) * 9 + 5) by rw [Addr.add_add'])) (e_fieldAddr (a := (ba rp14).add ((B0.length - 1) * 9)) rfl tf98)) ?_
    refine l_mu rfl rfl (m_storeFlPart 2 (F := BodyF) (p := rp14) (k := B0.length - 1) (o := 5) (xs := B0) (z0 := ib1) (z := ibW) tf11 rfl rfl rfl rfl rfl hl2 (by decide) rfl) ?_
    refine l_nil ?_
    refine f_block ?_
    refine f_then ?_
    refine c_seq ?_
    have hno : ¬ okS (B0.set (B0.length - 1) ibW) R 0 0 := no_body (by omega) (by decide)
    have hBl : (B0.set (B0.length - 1) ibW).length = B0.length := List.length_set
    obtain ⟨Bq, hBq⟩ : ∃ z, z = (B0.set (B0.length - 1) ibW) := ⟨_, rfl⟩
    rw [← hBq] at hno hBl
    rw [← hBq]
    refine c_re (L' := [pt b11 (.cells #[.int .i64 (40), .int .i64 (0), .int .i64 (0), .int .i64 (0), .int .i64 (0), .int .i64 (10), .int .i64 (10), .bool false, .bool false] 39), pt b10 (.cells #[.slice rp14 (Bq.length) rc15, .slice q8 (R.length) d9, .int .i64 (0), .int .i64 (0)] 32), rowF BodyF 39 rp14 rc15 Bq, rowF RopeF 49 q8 d9 R]) (by rw [hBl]; rfl) ?_
    refine c_region ?_
    refine l_val (v := .agg #[.slice rp14 (Bq.length) rc15, .slice q8 (R.length) d9, .int .i64 (0), .int .i64 (0)]) rfl rfl rfl (e_load tf31 (cs := [.slice rp14 (Bq.length) rc15, .slice q8 (R.length) d9, .int .i64 (0), .int .i64 (0)]) rfl (k_pt 1 (cs := #[.slice rp14 (Bq.length) rc15, .slice q8 (R.length) d9, .int .i64 (0), .int .i64 (0)]) (vs := [.slice rp14 (Bq.length) rc15, .slice q8 (R.length) d9, .int .i64 (0), .int .i64 (0)]) rfl rfl) rfl) ?_
    refine l_call rfl rfl rfl (cl_value (fst := []) (cap := []) (vs := [.agg #[.slice rp14 (Bq.length) rc15, .slice q8 (R.length) d9, .int .i64 (0), .int .i64 (0)]]) (all := [.agg #[.slice rp14 (Bq.length) rc15, .slice q8 (R.length) d9, .int .i64 (0), .int .i64 (0)]]) tf75 rfl rfl rfl) ?_
    intro w hw
    obtain ⟨β1, sb, kn, hw1, back⟩ := St.frame_all hw
    refine (islE_ok β1 w hw1 _ _ 0 0 Bq R (kn _ (k_flN 2 (F := BodyF) (m := Bq.length) rfl rfl)) (kn _ (k_flN 3 (F := RopeF) (m := R.length) rfl rfl)) (by omega) (by omega) hno).mono ?_
    rintro e w' ⟨p64, c65, rfl, hw'⟩
    refine ⟨_, rfl, _, back _ _ hw', ?_⟩
    clear hw hw1 hw' back kn sb
    refine l_val (v := .tuple #[.slice p64 (0) c65, .int .i64 (2)]) rfl rfl rfl (e_move) ?_
    refine l_val (v := .slice p64 (0) c65) rfl rfl rfl (e_extract (vs := #[.slice p64 (0) c65, .int .i64 (2)]) rfl rfl) ?_
    refine l_val (v := .int .i64 (2)) rfl rfl rfl (e_extract (vs := #[.slice p64 (0) c65, .int .i64 (2)]) rfl rfl) ?_
    refine l_val (v := .slice p64 (0) c65) rfl rfl rfl (e_assign) ?_
    refine l_val (v := .int .i64 (2)) rfl rfl rfl (e_assign) ?_
    refine l_nil ?_
    refine f_then ?_
    refine c_seq ?_
    refine c_region ?_
    refine l_val (v := .agg #[.slice rp14 (Bq.length) rc15, .slice q8 (R.length) d9, .int .i64 (0), .int .i64 (0)]) rfl rfl rfl (e_load tf31 (cs := [.slice rp14 (Bq.length) rc15, .slice q8 (R.length) d9, .int .i64 (0), .int .i64 (0)]) rfl (k_pt 1 (cs := #[.slice rp14 (Bq.length) rc15, .slice q8 (R.length) d9, .int .i64 (0), .int .i64 (0)]) (vs := [.slice rp14 (Bq.length) rc15, .slice q8 (R.length) d9, .int .i64 (0), .int .i64 (0)]) rfl rfl) rfl) ?_
    refine l_mv rfl rfl rfl (m_slices tf23 tf24 (vs := [(0, .int .i64 (40))]) (cells := #[.int .i64 (40)]) rfl rfl rfl rfl) ?_
    rintro _ _ ⟨b66, rfl, rfl⟩
    refine l_call rfl rfl rfl (cl_value (fst := []) (cap := []) (vs := [.agg #[.slice rp14 (Bq.length) rc15, .slice q8 (R.length) d9, .int .i64 (0), .int .i64 (0)], .slice (some ⟨b66, 0, none⟩) 1 1]) (all := [.agg #[.slice rp14 (Bq.length) rc15, .slice q8 (R.length) d9, .int .i64 (0), .int .i64 (0)], .slice (some ⟨b66, 0, none⟩) 1 1]) tf76 rfl rfl rfl) ?_
    intro w hw
    obtain ⟨β1, sb, kn, hw1, back⟩ := St.frame_all hw
    refine (partE_ok β1 w hw1 _ _ _ 0 0 Bq R [40] (kn _ (k_flN 3 (F := BodyF) (m := Bq.length) rfl rfl)) (kn _ (k_flN 4 (F := RopeF) (m := R.length) rfl rfl)) (kn _ (k_ptFls (F := IntF) 0 (m := 1) (xs := [40]) rfl rfl rfl (by decide))) (by omega) (by omega) 2 (by decide) (errPt_bad hno [40])).mono ?_
    rintro e w' ⟨p67, c68, q69, d70, rfl, hw'⟩
    refine ⟨_, rfl, _, back _ _ hw', ?_⟩
    clear hw hw1 hw' back kn sb
    refine l_val (v := .tuple #[.agg #[.slice p67 (0) c68, .slice q69 (0) d70, .int .i64 (0), .int .i64 (0)], .int .i64 (2)]) rfl rfl rfl (e_move) ?_
    refine l_val (v := .agg #[.slice p67 (0) c68, .slice q69 (0) d70, .int .i64 (0), .int .i64 (0)]) rfl rfl rfl (e_extract (vs := #[.agg #[.slice p67 (0) c68, .slice q69 (0) d70, .int .i64 (0), .int .i64 (0)], .int .i64 (2)]) rfl rfl) ?_
    refine l_val (v := .int .i64 (2)) rfl rfl rfl (e_extract (vs := #[.agg #[.slice p67 (0) c68, .slice q69 (0) d70, .int .i64 (0), .int .i64 (0)], .int .i64 (2)]) rfl rfl) ?_
    refine l_mv rfl rfl rfl (m_alloc tf67) ?_
    rintro _ _ ⟨b71, rfl, rfl⟩
    refine l_mu rfl rfl (m_store 0 tf31 (b := b71) (o := 0) (T := 32) (cs := #[.slice none 0 0, .slice none 0 0, .int .i64 (0), .int .i64 (0)]) (cs' := #[.slice p67 (0) c68, .slice q69 (0) d70, .int .i64 (0), .int .i64 (0)]) (v := .agg #[.slice p67 (0) c68, .slice q69 (0) d70, .int .i64 (0), .int .i64 (0)]) rfl rfl rfl rfl rfl rfl rfl) ?_
    refine l_val (v := .int .i64 (2)) rfl rfl rfl (e_assign) ?_
    refine l_nil ?_
    refine f_then ?_
    refine c_seq ?_
    have hvx : ¬ okV hi 0 := fun q => by have := q.2.1; omega
    have hvy : ¬ okV 0 lo := fun q => by have := q.2.2.1; omega
    refine c_any [⟨[], [], [0], [160], fun f => f 160 = .agg #[.int .i64 (40), .int .i64 (0), .int .i64 (0), .int .i64 (0), .int .i64 (0), .int .i64 (10), .int .i64 (10), .bool false, .bool false]⟩, ⟨[], [], [1], [161], fun f => f 161 = Ix (hi)⟩, ⟨[1], [1], [], [162], fun f => f 162 = .agg #[Ix (hi), .int .i64 (0)]⟩, ⟨[0, 1, 2], [0, 2], [], [163], fun f => f 163 = .agg #[.int .i64 (0), .int .i64 (0)]⟩, ⟨[], [], [0], [164], fun f => f 164 = .agg #[.int .i64 (40), .int .i64 (0), .int .i64 (0), .int .i64 (0), .int .i64 (0), .int .i64 (10), .int .i64 (10), .bool false, .bool false]⟩, ⟨[], [], [2], [165], fun f => f 165 = Ix (lo)⟩, ⟨[5], [5], [], [166], fun f => f 166 = .agg #[.int .i64 (0), Ix (lo)]⟩, ⟨[0, 1, 2, 3, 4, 5, 6], [4, 6], [], [167], fun f => f 167 = .agg #[.int .i64 (0), .int .i64 (0), .int .i64 (0), .int .i64 (0)]⟩, ⟨[], [], [], [26], fun f => f 26 = .pointer (some ⟨(blk (f 26)), 0, none⟩)⟩, ⟨[], [], [], [27], fun f => f 27 = .pointer (some ⟨(blk (f 27)), 0, none⟩)⟩, ⟨[0, 1, 2, 3, 4, 5, 6, 7, 8, 9], [8, 3], [], [], fun _ => True⟩, ⟨[0, 1, 2, 3, 4, 5, 6, 7, 8, 9, 10], [9, 7], [], [], fun _ => True⟩] [⟨none, none, [], [], fun _ => pt b71 (.cells #[.slice p67 (0) c68, .slice q69 (0) d70, .int .i64 (0), .int .i64 (0)] 32)⟩, ⟨none, none, [], [], fun _ => pt b66 (.cells #[.int .i64 (40)] 3)⟩, ⟨none, none, [0, 4], [], fun _ => pt b11 (.cells #[.int .i64 (40), .int .i64 (0), .int .i64 (0), .int .i64 (0), .int .i64 (0), .int .i64 (10), .int .i64 (10), .bool false, .bool false] 39)⟩, ⟨none, none, [], [], fun _ => pt b10 (.cells #[.slice rp14 (Bq.length) rc15, .slice q8 (R.length) d9, .int .i64 (0), .int .i64 (0)] 32)⟩, ⟨none, none, [], [], fun _ => rowF BodyF 39 rp14 rc15 Bq⟩, ⟨none, none, [], [], fun _ => rowF RopeF 49 q8 d9 R⟩, ⟨(some 8), (some 10), [10], [26], fun f => pt (blk (f 26)) (.cells #[.int .i64 (0), .int .i64 (0)] 30)⟩, ⟨(some 9), (some 11), [11], [27], fun f => pt (blk (f 27)) (.cells #[.int .i64 (0), .int .i64 (0), .int .i64 (0), .int .i64 (0)] 46)⟩, ⟨(some 10), none, [], [26], fun f => pt (blk (f 26)) (.cells #[.int .i64 (0), .int .i64 (0)] 30)⟩, ⟨(some 11), none, [], [27], fun f => pt (blk (f 27)) (.cells #[.int .i64 (0), .int .i64 (0), .int .i64 (0), .int .i64 (0)] 46)⟩] [(13, .pointer (some ⟨b11, 0, none⟩)), (4, Ix (hi)), (3, Ix (lo)), (12, .pointer (some ⟨b10, 0, none⟩)), (17, .int .i64 (6)), (19, .int .i64 (6)), (21, .int .i64 (6)), (22, .slice p64 (0) c65), (23, .int .i64 (2)), (24, .pointer (some ⟨b71, 0, none⟩)), (25, .int .i64 (2))] [3, 4, 5, 6, 7, 8, 9, 10] [] (by kernel_rfl) (by kernel_rfl) (by kernel_rfl) (by kernel_rfl) rfl ⟨rfl, rfl, rfl, rfl, rfl, rfl, rfl, rfl, rfl, rfl, rfl, trivial⟩ ⟨?_, ?_, ?_, ?_, ?_, ?_, ?_, ?_, ?_, ?_, ?_, ?_, trivial⟩ ?_
    · rintro f M - ⟨i0, -⟩
      have hs13 : f 13 = .pointer (some ⟨b11, 0, none⟩) := i0
      refine ob_start (L' := pt b11 (.cells #[.int .i64 (40), .int .i64 (0), .int .i64 (0), .int .i64 (0), .int .i64 (0), .int .i64 (10), .int .i64 (10), .bool false, .bool false] 39) :: M) (by rfl) (up_cons rfl hs13) ?_
      refine l_val (v := .agg #[.int .i64 (40), .int .i64 (0), .int .i64 (0), .int .i64 (0), .int .i64 (0), .int .i64 (10), .int .i64 (10), .bool false, .bool false]) rfl rfl rfl (e_load tf1 (cs := [.int .i64 (40), .int .i64 (0), .int .i64 (0), .int .i64 (0), .int .i64 (0), .int .i64 (10), .int .i64 (10), .bool false, .bool false]) rfl (k_pt 0 (cs := #[.int .i64 (40), .int .i64 (0), .int .i64 (0), .int .i64 (0), .int .i64 (0), .int .i64 (10), .int .i64 (10), .bool false, .bool false]) (vs := [.int .i64 (40), .int .i64 (0), .int .i64 (0), .int .i64 (0), .int .i64 (0), .int .i64 (10), .int .i64 (10), .bool false, .bool false]) rfl rfl) rfl) ?_
      refine l_nil ?_
      exact f_owes_d (up_cons rfl hs13) rfl (perm_front 0 rfl)
    · rintro f M - ⟨i0, -⟩
      have hs4 : f 4 = Ix (hi) := i0
      refine ob_start (L' := M) (by rfl) (up_cons rfl hs4) ?_
      refine l_val (v := Ix (hi)) rfl rfl rfl (e_move) ?_
      refine l_nil ?_
      exact f_owes_d (up_cons rfl hs4) rfl (List.Perm.refl _)
    · rintro f M ⟨k0, -⟩ -
      have hs161 : f 161 = Ix (hi) := k0
      refine ob_start (L' := M) (by rfl) (up_cons rfl hs161) ?_
      refine l_val (v := .agg #[Ix (hi), .int .i64 (0)]) rfl rfl rfl (e_build tf8 tf13 (vs := [(0, Ix (hi))]) (cells := #[Ix (hi), .int .i64 (0)]) rfl rfl) ?_
      refine l_nil ?_
      exact f_owes_d (up_cons rfl hs161) rfl (List.Perm.refl _)
    · rintro f M ⟨k0, k1, -⟩ -
      have hs160 : f 160 = .agg #[.int .i64 (40), .int .i64 (0), .int .i64 (0), .int .i64 (0), .int .i64 (0), .int .i64 (10), .int .i64 (10), .bool false, .bool false] := k0
      have hs162 : f 162 = .agg #[Ix (hi), .int .i64 (0)] := k1
      refine ob_start (L' := M) (by rfl) (up_cons (up_cons rfl hs160) hs162) ?_
      refine l_call rfl rfl rfl (cl_value (fst := []) (cap := []) (vs := [.agg #[.int .i64 (40), .int .i64 (0), .int .i64 (0), .int .i64 (0), .int .i64 (0), .int .i64 (10), .int .i64 (10), .bool false, .bool false], .agg #[Ix (hi), .int .i64 (0)]]) (all := [.agg #[.int .i64 (40), .int .i64 (0), .int .i64 (0), .int .i64 (0), .int .i64 (0), .int .i64 (10), .int .i64 (10), .bool false, .bool false], .agg #[Ix (hi), .int .i64 (0)]]) tf9 rfl rfl rfl) ?_
      intro w hw
      obtain ⟨β1, sb, kn, hw1, back⟩ := St.frame_all hw
      refine (speedE_ok β1 w hw1 ib0 hi 0 (by omega) (by omega) hvx).mono ?_
      rintro e w' ⟨rfl, hw'⟩
      refine ⟨_, rfl, _, back _ _ hw', ?_⟩
      clear hw hw1 hw' back kn sb
      refine l_nil ?_
      exact f_owes_d (up_cons (up_cons rfl hs160) hs162) rfl (List.Perm.refl _)
    · rintro f M - ⟨i0, -⟩
      have hs13 : f 13 = .pointer (some ⟨b11, 0, none⟩) := i0
      refine ob_start (L' := pt b11 (.cells #[.int .i64 (40), .int .i64 (0), .int .i64 (0), .int .i64 (0), .int .i64 (0), .int .i64 (10), .int .i64 (10), .bool false, .bool false] 39) :: M) (by rfl) (up_cons rfl hs13) ?_
      refine l_val (v := .agg #[.int .i64 (40), .int .i64 (0), .int .i64 (0), .int .i64 (0), .int .i64 (0), .int .i64 (10), .int .i64 (10), .bool false, .bool false]) rfl rfl rfl (e_load tf1 (cs := [.int .i64 (40), .int .i64 (0), .int .i64 (0), .int .i64 (0), .int .i64 (0), .int .i64 (10), .int .i64 (10), .bool false, .bool false]) rfl (k_pt 0 (cs := #[.int .i64 (40), .int .i64 (0), .int .i64 (0), .int .i64 (0), .int .i64 (0), .int .i64 (10), .int .i64 (10), .bool false, .bool false]) (vs := [.int .i64 (40), .int .i64 (0), .int .i64 (0), .int .i64 (0), .int .i64 (0), .int .i64 (10), .int .i64 (10), .bool false, .bool false]) rfl rfl) rfl) ?_
      refine l_nil ?_
      exact f_owes_d (up_cons rfl hs13) rfl (perm_front 0 rfl)
    · rintro f M - ⟨i0, -⟩
      have hs3 : f 3 = Ix (lo) := i0
      refine ob_start (L' := M) (by rfl) (up_cons rfl hs3) ?_
      refine l_val (v := Ix (lo)) rfl rfl rfl (e_move) ?_
      refine l_nil ?_
      exact f_owes_d (up_cons rfl hs3) rfl (List.Perm.refl _)
    · rintro f M ⟨k0, -⟩ -
      have hs165 : f 165 = Ix (lo) := k0
      refine ob_start (L' := M) (by rfl) (up_cons rfl hs165) ?_
      refine l_val (v := .agg #[.int .i64 (0), Ix (lo)]) rfl rfl rfl (e_build tf8 tf13 (vs := [(1, Ix (lo))]) (cells := #[.int .i64 (0), Ix (lo)]) rfl rfl) ?_
      refine l_nil ?_
      exact f_owes_d (up_cons rfl hs165) rfl (List.Perm.refl _)
    · rintro f M ⟨k0, k1, -⟩ -
      have hs164 : f 164 = .agg #[.int .i64 (40), .int .i64 (0), .int .i64 (0), .int .i64 (0), .int .i64 (0), .int .i64 (10), .int .i64 (10), .bool false, .bool false] := k0
      have hs166 : f 166 = .agg #[.int .i64 (0), Ix (lo)] := k1
      refine ob_start (L' := M) (by rfl) (up_cons (up_cons rfl hs164) hs166) ?_
      refine l_call rfl rfl rfl (cl_value (fst := []) (cap := []) (vs := [.agg #[.int .i64 (40), .int .i64 (0), .int .i64 (0), .int .i64 (0), .int .i64 (0), .int .i64 (10), .int .i64 (10), .bool false, .bool false], .agg #[.int .i64 (0), Ix (lo)]]) (all := [.agg #[.int .i64 (40), .int .i64 (0), .int .i64 (0), .int .i64 (0), .int .i64 (0), .int .i64 (10), .int .i64 (10), .bool false, .bool false], .agg #[.int .i64 (0), Ix (lo)]]) tf41 rfl rfl rfl) ?_
      intro w hw
      obtain ⟨β1, sb, kn, hw1, back⟩ := St.frame_all hw
      refine (reachE_ok β1 w hw1 ib0 0 lo (by omega) (by omega) hvy).mono ?_
      rintro e w' ⟨rfl, hw'⟩
      refine ⟨_, rfl, _, back _ _ hw', ?_⟩
      clear hw hw1 hw' back kn sb
      refine l_nil ?_
      exact f_owes_d (up_cons (up_cons rfl hs164) hs166) rfl (List.Perm.refl _)
    · rintro f M - -
      refine ob_start (L' := M) (by rfl) rfl ?_
      refine l_mv rfl rfl rfl (m_alloc tf8) ?_
      rintro _ _ ⟨b73, rfl, rfl⟩
      refine l_nil ?_
      exact f_owes_d rfl rfl (perm_front 0 rfl)
    · rintro f M - -
      refine ob_start (L' := M) (by rfl) rfl ?_
      refine l_mv rfl rfl rfl (m_alloc tf0) ?_
      rintro _ _ ⟨b75, rfl, rfl⟩
      refine l_nil ?_
      exact f_owes_d rfl rfl (perm_front 0 rfl)
    · rintro f M ⟨k0, k1, -⟩ -
      have hs26 : f 26 = .pointer (some ⟨(blk (f 26)), 0, none⟩) := k0
      have hs163 : f 163 = .agg #[.int .i64 (0), .int .i64 (0)] := k1
      refine ob_start (L' := pt (blk (f 26)) (.cells #[.int .i64 (0), .int .i64 (0)] 30) :: M) (by rfl) (up_cons (up_cons rfl hs26) hs163) ?_
      refine l_mu rfl rfl (m_store 0 tf5 (b := (blk (f 26))) (o := 0) (T := 30) (cs := #[.int .i64 (0), .int .i64 (0)]) (cs' := #[.int .i64 (0), .int .i64 (0)]) (v := .agg #[.int .i64 (0), .int .i64 (0)]) rfl rfl rfl rfl rfl rfl rfl) ?_
      refine l_nil ?_
      exact f_owes_n (up_cons (up_cons rfl hs26) hs163) trivial (perm_front 0 rfl)
    · rintro f M ⟨k0, k1, -⟩ -
      have hs27 : f 27 = .pointer (some ⟨(blk (f 27)), 0, none⟩) := k0
      have hs167 : f 167 = .agg #[.int .i64 (0), .int .i64 (0), .int .i64 (0), .int .i64 (0)] := k1
      refine ob_start (L' := pt (blk (f 27)) (.cells #[.int .i64 (0), .int .i64 (0), .int .i64 (0), .int .i64 (0)] 46) :: M) (by rfl) (up_cons (up_cons rfl hs27) hs167) ?_
      refine l_mu rfl rfl (m_store 0 tf4 (b := (blk (f 27))) (o := 0) (T := 46) (cs := #[.int .i64 (0), .int .i64 (0), .int .i64 (0), .int .i64 (0)]) (cs' := #[.int .i64 (0), .int .i64 (0), .int .i64 (0), .int .i64 (0)]) (v := .agg #[.int .i64 (0), .int .i64 (0), .int .i64 (0), .int .i64 (0)]) rfl rfl rfl rfl rfl rfl rfl) ?_
      refine l_nil ?_
      exact f_owes_n (up_cons (up_cons rfl hs27) hs167) trivial (perm_front 0 rfl)
    rintro fa76 ⟨-, -, -, -, -, -, -, -, k8, k9, -, -, -⟩ ⟨j0, j1, j2, j3, j4, j5, j6, j7, -⟩
    refine f_re (L' := [pt b71 (.cells #[.slice p67 (0) c68, .slice q69 (0) d70, .int .i64 (0), .int .i64 (0)] 32), pt b66 (.cells #[.int .i64 (40)] 3), pt b11 (.cells #[.int .i64 (40), .int .i64 (0), .int .i64 (0), .int .i64 (0), .int .i64 (0), .int .i64 (10), .int .i64 (10), .bool false, .bool false] 39), pt b10 (.cells #[.slice rp14 (Bq.length) rc15, .slice q8 (R.length) d9, .int .i64 (0), .int .i64 (0)] 32), rowF BodyF 39 rp14 rc15 Bq, rowF RopeF 49 q8 d9 R, pt (blk (fa76 26)) (.cells #[.int .i64 (0), .int .i64 (0)] 30), pt (blk (fa76 27)) (.cells #[.int .i64 (0), .int .i64 (0), .int .i64 (0), .int .i64 (0)] 46)]) (by rfl) ?_
    refine f_rebase (d := 12) (v := .pointer (some ⟨b10, 0, none⟩)) j0 ?_
    refine f_rebase (d := 17) (v := .int .i64 (6)) j1 ?_
    refine f_rebase (d := 19) (v := .int .i64 (6)) j2 ?_
    refine f_rebase (d := 21) (v := .int .i64 (6)) j3 ?_
    refine f_rebase (d := 22) (v := .slice p64 (0) c65) j4 ?_
    refine f_rebase (d := 23) (v := .int .i64 (2)) j5 ?_
    refine f_rebase (d := 24) (v := .pointer (some ⟨b71, 0, none⟩)) j6 ?_
    refine f_rebase (d := 25) (v := .int .i64 (2)) j7 ?_
    refine f_rebase (d := 26) (v := .pointer (some ⟨(blk (fa76 26)), 0, none⟩)) k8 ?_
    refine f_rebase (d := 27) (v := .pointer (some ⟨(blk (fa76 27)), 0, none⟩)) k9 ?_
    refine f_then ?_
    refine c_seq ?_
    refine c_region ?_
    refine l_val (v := .int .i64 (6)) rfl rfl rfl (e_move) ?_
    refine l_val (v := .bool true) rfl rfl rfl (e_eql (a := (6 : Int)) (b := (6 : Int)) rfl rfl) ?_
    refine l_val (v := .bool true) rfl rfl rfl (e_move) ?_
    refine g_val (v := .int .i64 (6)) rfl rfl rfl rfl rfl (e_move) ?_
    refine g_val (v := .bool true) rfl rfl rfl rfl rfl (e_eql (a := (6 : Int)) (b := (6 : Int)) rfl rfl) ?_
    refine l_val (v := .bool true) rfl rfl rfl (e_pick_t rfl) ?_
    refine l_val (v := .bool true) rfl rfl rfl (e_move) ?_
    refine g_val (v := .int .i64 (6)) rfl rfl rfl rfl rfl (e_move) ?_
    refine g_val (v := .bool true) rfl rfl rfl rfl rfl (e_eql (a := (6 : Int)) (b := (6 : Int)) rfl rfl) ?_
    refine l_val (v := .bool true) rfl rfl rfl (e_pick_t rfl) ?_
    refine l_val (v := .bool true) rfl rfl rfl (e_move) ?_
    refine g_val (v := .int .i64 (2)) rfl rfl rfl rfl rfl (e_move) ?_
    refine g_val (v := .bool true) rfl rfl rfl rfl rfl (e_eql (a := (2 : Int)) (b := (2 : Int)) rfl rfl) ?_
    refine l_val (v := .bool true) rfl rfl rfl (e_pick_t rfl) ?_
    refine l_val (v := .bool true) rfl rfl rfl (e_move) ?_
    refine g_val (v := .int .i64 (2)) rfl rfl rfl rfl rfl (e_move) ?_
    refine g_val (v := .bool true) rfl rfl rfl rfl rfl (e_eql (a := (2 : Int)) (b := (2 : Int)) rfl rfl) ?_
    refine l_val (v := .bool true) rfl rfl rfl (e_pick_t rfl) ?_
    refine l_val (v := .bool true) rfl rfl rfl (e_move) ?_
    refine g_val (v := .slice p64 (0) c65) rfl rfl rfl rfl rfl (e_move) ?_
    refine g_val (v := Nx (0)) rfl rfl rfl rfl rfl (e_len (a := p64) (n := 0) (c := c65) rfl tf64) ?_
    refine g_val (v := .pointer (some ⟨b71, 0, none⟩)) rfl rfl rfl rfl rfl (e_fieldPt (b := b71) (o := 0) rfl tf33) ?_
    refine g_val (v := .slice p67 (0) c68) rfl rfl rfl rfl rfl (e_load1 tf26 (v := .slice p67 (0) c68) rfl (k_pt 0 (cs := #[.slice p67 (0) c68, .slice q69 (0) d70, .int .i64 (0), .int .i64 (0)]) (vs := [.slice p67 (0) c68]) rfl rfl)) ?_
    refine g_val (v := Nx (0)) rfl rfl rfl rfl rfl (e_len (a := p67) (n := 0) (c := c68) rfl tf15) ?_
    refine g_val (v := Nx (0 + 0)) rfl rfl rfl rfl rfl (e_add (a := ((0 : Nat) : Int)) (b := ((0 : Nat) : Int)) rfl rfl (i64n (by omega) (by omega))) ?_
    refine g_val (v := .pointer (some ⟨b71, 1, none⟩)) rfl rfl rfl rfl rfl (e_fieldPt (b := b71) (o := 0) rfl tf52) ?_
    refine g_val (v := .slice q69 (0) d70) rfl rfl rfl rfl rfl (e_load1 tf53 (v := .slice q69 (0) d70) rfl (k_pt 0 (cs := #[.slice p67 (0) c68, .slice q69 (0) d70, .int .i64 (0), .int .i64 (0)]) (vs := [.slice q69 (0) d70]) rfl rfl)) ?_
    refine g_val (v := Nx (0)) rfl rfl rfl rfl rfl (e_len (a := q69) (n := 0) (c := d70) rfl tf54) ?_
    refine g_val (v := Nx ((0 + 0) + 0)) rfl rfl rfl rfl rfl (e_add (a := ((0 + 0 : Nat) : Int)) (b := ((0 : Nat) : Int)) rfl rfl (i64n (by omega) (by omega))) ?_
    refine g_val (v := .bool (decide ((((0 + 0) + 0 : Nat) : Int) = (0 : Int)))) rfl rfl rfl rfl rfl (e_eql (a := (((0 + 0) + 0 : Nat) : Int)) (b := (0 : Int)) rfl rfl) ?_
    refine l_val (v := .bool (decide ((((0 + 0) + 0 : Nat) : Int) = (0 : Int)))) rfl rfl rfl (e_pick_t rfl) ?_
    refine l_val (v := .bool (decide ((((0 + 0) + 0 : Nat) : Int) = (0 : Int)))) rfl rfl rfl (e_move) ?_
    refine l_split (s := 199) (p := (((0 + 0) + 0 : Nat) : Int) = (0 : Int)) rfl (fun h => ?_) (fun h => ?_)
    rotate_left; exact absurd (by decide) h
    refine g_val (v := .agg #[.int .i64 (0), .int .i64 (0)]) rfl rfl rfl rfl rfl (e_load tf5 (cs := [.int .i64 (0), .int .i64 (0)]) rfl (k_pt 6 (cs := #[.int .i64 (0), .int .i64 (0)]) (vs := [.int .i64 (0), .int .i64 (0)]) rfl rfl) rfl) ?_
    refine g_val (v := .agg #[.int .i64 (0), .int .i64 (0)]) rfl rfl rfl rfl rfl (e_build tf8 tf13 (vs := []) (cells := #[.int .i64 (0), .int .i64 (0)]) rfl rfl) ?_
    refine g_val (v := .bool true) rfl rfl rfl rfl rfl ((ev_t (by decide) (e_eql_t (p := (0 : Int) = (0 : Int) ∧ (0 : Int) = (0 : Int)) (xs := [.int .i64 (0), .int .i64 (0)]) (ys := [.int .i64 (0), .int .i64 (0)]) tf92 tf93 tf94 rfl rfl rfl rfl vec_eq))) ?_
    refine l_val (v := .bool true) rfl rfl rfl (e_pick_t rfl) ?_
    refine l_val (v := .bool true) rfl rfl rfl (e_move) ?_
    refine g_val (v := .agg #[.int .i64 (0), .int .i64 (0), .int .i64 (0), .int .i64 (0)]) rfl rfl rfl rfl rfl (e_load tf4 (cs := [.int .i64 (0), .int .i64 (0), .int .i64 (0), .int .i64 (0)]) rfl (k_pt 7 (cs := #[.int .i64 (0), .int .i64 (0), .int .i64 (0), .int .i64 (0)]) (vs := [.int .i64 (0), .int .i64 (0), .int .i64 (0), .int .i64 (0)]) rfl rfl) rfl) ?_
    refine g_val (v := .agg #[.int .i64 (0), .int .i64 (0), .int .i64 (0), .int .i64 (0)]) rfl rfl rfl rfl rfl (e_build tf0 tf3 (vs := []) (cells := #[.int .i64 (0), .int .i64 (0), .int .i64 (0), .int .i64 (0)]) rfl rfl) ?_
    refine g_val (v := .bool true) rfl rfl rfl rfl rfl ((ev_t (by decide) (e_eql_t (p := (0 : Int) = (0 : Int) ∧ (0 : Int) = (0 : Int) ∧ (0 : Int) = (0 : Int) ∧ (0 : Int) = (0 : Int)) (xs := [.int .i64 (0), .int .i64 (0), .int .i64 (0), .int .i64 (0)]) (ys := [.int .i64 (0), .int .i64 (0), .int .i64 (0), .int .i64 (0)]) tf78 tf79 tf80 rfl rfl rfl rfl arr4_eq))) ?_
    refine l_val (v := .bool true) rfl rfl rfl (e_pick_t rfl) ?_
    refine l_val (v := .bool true) rfl rfl rfl (e_move) ?_
    refine g_val (v := .agg #[.slice rp14 (Bq.length) rc15, .slice q8 (R.length) d9, .int .i64 (0), .int .i64 (0)]) rfl rfl rfl rfl rfl (e_load tf31 (cs := [.slice rp14 (Bq.length) rc15, .slice q8 (R.length) d9, .int .i64 (0), .int .i64 (0)]) rfl (k_pt 3 (cs := #[.slice rp14 (Bq.length) rc15, .slice q8 (R.length) d9, .int .i64 (0), .int .i64 (0)]) (vs := [.slice rp14 (Bq.length) rc15, .slice q8 (R.length) d9, .int .i64 (0), .int .i64 (0)]) rfl rfl) rfl) ?_
    refine g_call rfl rfl rfl rfl rfl (cl_value (fst := []) (cap := []) (vs := [.agg #[.slice rp14 (Bq.length) rc15, .slice q8 (R.length) d9, .int .i64 (0), .int .i64 (0)]]) (all := [.agg #[.slice rp14 (Bq.length) rc15, .slice q8 (R.length) d9, .int .i64 (0), .int .i64 (0)]]) tf32 rfl rfl rfl) ?_
    intro w hw
    obtain ⟨β1, sb, kn, hw1, back⟩ := St.frame_all hw
    refine (validE_ok β1 w hw1 _ _ 0 0 Bq R (kn _ (k_flN 4 (F := BodyF) (m := Bq.length) rfl rfl)) (kn _ (k_flN 5 (F := RopeF) (m := R.length) rfl rfl)) (by omega) (by omega) hno).mono ?_
    rintro e w' ⟨rfl, hw'⟩
    refine ⟨_, rfl, _, back _ _ hw', ?_⟩
    clear hw hw1 hw' back kn sb
    refine g_val (v := .bool true) rfl rfl rfl rfl rfl (e_not (a := false) rfl) ?_
    refine l_val (v := .bool true) rfl rfl rfl (e_pick_t rfl) ?_
    refine l_val (v := .bool true) rfl rfl rfl (e_assign) ?_
    refine l_nil ?_
    refine f_then ?_
    refine c_ret ?_
    refine ret1 Try.results8 (v := .bool true) rfl ?_
    intro w hw
    exact ⟨rfl, st_mask [false, false, false, false, false, false, false, false] rfl hw⟩
  refine c_seq ?_
  refine c_region ?_
  refine l_val (v := .bool (decide (((way.toNat % 10 : Nat) : Int) = (3 : Int)))) rfl rfl rfl (e_eql (a := ((way.toNat % 10 : Nat) : Int)) (b := (3 : Int)) rfl rfl) ?_
  refine l_val (v := .bool (decide (((way.toNat % 10 : Nat) : Int) = (3 : Int)))) rfl rfl rfl (e_assign) ?_
  refine l_nil ?_
  refine f_then ?_
  refine c_if (((way.toNat % 10 : Nat) : Int) = (3 : Int)) rfl (fun hc77 => ?_) (fun hc77 => ?_)
  ·
    refine c_region ?_
    refine l_val (v := .pointer (some ⟨b10, 0, none⟩)) rfl rfl rfl (e_fieldPt (b := b10) (o := 0) rfl tf33) ?_
    refine l_val (v := .slice rp14 (B0.length) rc15) rfl rfl rfl (e_load1 tf26 (v := .slice rp14 (B0.length) rc15) rfl (k_pt 1 (cs := #[.slice rp14 (B0.length) rc15, .slice q8 (R.length) d9, .int .i64 (0), .int .i64 (0)]) (vs := [.slice rp14 (B0.length) rc15]) rfl rfl)) ?_
    refine l_val (v := Nx (B0.length - 1)) rfl rfl rfl (e_move) ?_
    refine l_val (v := .pointer (some ((ba rp14).add ((B0.length - 1) * 9)))) rfl rfl rfl (e_indexFlN 2 (F := BodyF) (j := B0.length - 1) (m := B0.length) (xs := B0) rfl rfl rfl tf16 (by omega) rfl) ?_
    refine l_val (v := .pointer (some ((ba rp14).add ((B0.length - 1) * 9 + 3)))) rfl rfl rfl (ev_eq (congrArg (fun z => Value.pointer (some z)) (show ((ba rp14).add ((B0.length - 1) * 9) : Addr).add 3 = (ba rp14).add ((B0.length - 1) * 9 + 3) by rw [Addr.add_add'])) (e_fieldAddr (a := (ba rp14).add ((B0.length - 1) * 9)) rfl tf87)) ?_
    refine l_val (v := .pointer (some ((ba rp14).add ((B0.length - 1) * 9 + 3)))) rfl rfl rfl (ev_eq (congrArg (fun z => Value.pointer (some z)) (show ((ba rp14).add ((B0.length - 1) * 9 + 3) : Addr).add 0 = (ba rp14).add ((B0.length - 1) * 9 + 3) by rw [Addr.add_add'])) (e_fieldAddr (a := (ba rp14).add ((B0.length - 1) * 9 + 3)) rfl tf10)) ?_
    refine l_mu rfl rfl (m_storeFlPart 2 (F := BodyF) (p := rp14) (k := B0.length - 1) (o := 3) (xs := B0) (z0 := ib1) (z := ibV) tf11 rfl rfl rfl rfl rfl hl2 (by decide) rfl) ?_
    refine l_nil ?_
    refine f_block ?_
    refine f_then ?_
    refine c_seq ?_
    have hno : ¬ okS (B0.set (B0.length - 1) ibV) R 0 0 := no_body (by omega) (by decide)
    have hBl : (B0.set (B0.length - 1) ibV).length = B0.length := List.length_set
    obtain ⟨Bq, hBq⟩ : ∃ z, z = (B0.set (B0.length - 1) ibV) := ⟨_, rfl⟩
    rw [← hBq] at hno hBl
    rw [← hBq]
    refine c_re (L' := [pt b11 (.cells #[.int .i64 (40), .int .i64 (0), .int .i64 (0), .int .i64 (0), .int .i64 (0), .int .i64 (10), .int .i64 (10), .bool false, .bool false] 39), pt b10 (.cells #[.slice rp14 (Bq.length) rc15, .slice q8 (R.length) d9, .int .i64 (0), .int .i64 (0)] 32), rowF BodyF 39 rp14 rc15 Bq, rowF RopeF 49 q8 d9 R]) (by rw [hBl]; rfl) ?_
    refine c_region ?_
    refine l_val (v := .agg #[.slice rp14 (Bq.length) rc15, .slice q8 (R.length) d9, .int .i64 (0), .int .i64 (0)]) rfl rfl rfl (e_load tf31 (cs := [.slice rp14 (Bq.length) rc15, .slice q8 (R.length) d9, .int .i64 (0), .int .i64 (0)]) rfl (k_pt 1 (cs := #[.slice rp14 (Bq.length) rc15, .slice q8 (R.length) d9, .int .i64 (0), .int .i64 (0)]) (vs := [.slice rp14 (Bq.length) rc15, .slice q8 (R.length) d9, .int .i64 (0), .int .i64 (0)]) rfl rfl) rfl) ?_
    refine l_call rfl rfl rfl (cl_value (fst := []) (cap := []) (vs := [.agg #[.slice rp14 (Bq.length) rc15, .slice q8 (R.length) d9, .int .i64 (0), .int .i64 (0)]]) (all := [.agg #[.slice rp14 (Bq.length) rc15, .slice q8 (R.length) d9, .int .i64 (0), .int .i64 (0)]]) tf75 rfl rfl rfl) ?_
    intro w hw
    obtain ⟨β1, sb, kn, hw1, back⟩ := St.frame_all hw
    refine (islE_ok β1 w hw1 _ _ 0 0 Bq R (kn _ (k_flN 2 (F := BodyF) (m := Bq.length) rfl rfl)) (kn _ (k_flN 3 (F := RopeF) (m := R.length) rfl rfl)) (by omega) (by omega) hno).mono ?_
    rintro e w' ⟨p78, c79, rfl, hw'⟩
    refine ⟨_, rfl, _, back _ _ hw', ?_⟩
    clear hw hw1 hw' back kn sb
    refine l_val (v := .tuple #[.slice p78 (0) c79, .int .i64 (2)]) rfl rfl rfl (e_move) ?_
    refine l_val (v := .slice p78 (0) c79) rfl rfl rfl (e_extract (vs := #[.slice p78 (0) c79, .int .i64 (2)]) rfl rfl) ?_
    refine l_val (v := .int .i64 (2)) rfl rfl rfl (e_extract (vs := #[.slice p78 (0) c79, .int .i64 (2)]) rfl rfl) ?_
    refine l_val (v := .slice p78 (0) c79) rfl rfl rfl (e_assign) ?_
    refine l_val (v := .int .i64 (2)) rfl rfl rfl (e_assign) ?_
    refine l_nil ?_
    refine f_then ?_
    refine c_seq ?_
    refine c_region ?_
    refine l_val (v := .agg #[.slice rp14 (Bq.length) rc15, .slice q8 (R.length) d9, .int .i64 (0), .int .i64 (0)]) rfl rfl rfl (e_load tf31 (cs := [.slice rp14 (Bq.length) rc15, .slice q8 (R.length) d9, .int .i64 (0), .int .i64 (0)]) rfl (k_pt 1 (cs := #[.slice rp14 (Bq.length) rc15, .slice q8 (R.length) d9, .int .i64 (0), .int .i64 (0)]) (vs := [.slice rp14 (Bq.length) rc15, .slice q8 (R.length) d9, .int .i64 (0), .int .i64 (0)]) rfl rfl) rfl) ?_
    refine l_mv rfl rfl rfl (m_slices tf23 tf24 (vs := [(0, .int .i64 (40))]) (cells := #[.int .i64 (40)]) rfl rfl rfl rfl) ?_
    rintro _ _ ⟨b80, rfl, rfl⟩
    refine l_call rfl rfl rfl (cl_value (fst := []) (cap := []) (vs := [.agg #[.slice rp14 (Bq.length) rc15, .slice q8 (R.length) d9, .int .i64 (0), .int .i64 (0)], .slice (some ⟨b80, 0, none⟩) 1 1]) (all := [.agg #[.slice rp14 (Bq.length) rc15, .slice q8 (R.length) d9, .int .i64 (0), .int .i64 (0)], .slice (some ⟨b80, 0, none⟩) 1 1]) tf76 rfl rfl rfl) ?_
    intro w hw
    obtain ⟨β1, sb, kn, hw1, back⟩ := St.frame_all hw
    refine (partE_ok β1 w hw1 _ _ _ 0 0 Bq R [40] (kn _ (k_flN 3 (F := BodyF) (m := Bq.length) rfl rfl)) (kn _ (k_flN 4 (F := RopeF) (m := R.length) rfl rfl)) (kn _ (k_ptFls (F := IntF) 0 (m := 1) (xs := [40]) rfl rfl rfl (by decide))) (by omega) (by omega) 2 (by decide) (errPt_bad hno [40])).mono ?_
    rintro e w' ⟨p81, c82, q83, d84, rfl, hw'⟩
    refine ⟨_, rfl, _, back _ _ hw', ?_⟩
    clear hw hw1 hw' back kn sb
    refine l_val (v := .tuple #[.agg #[.slice p81 (0) c82, .slice q83 (0) d84, .int .i64 (0), .int .i64 (0)], .int .i64 (2)]) rfl rfl rfl (e_move) ?_
    refine l_val (v := .agg #[.slice p81 (0) c82, .slice q83 (0) d84, .int .i64 (0), .int .i64 (0)]) rfl rfl rfl (e_extract (vs := #[.agg #[.slice p81 (0) c82, .slice q83 (0) d84, .int .i64 (0), .int .i64 (0)], .int .i64 (2)]) rfl rfl) ?_
    refine l_val (v := .int .i64 (2)) rfl rfl rfl (e_extract (vs := #[.agg #[.slice p81 (0) c82, .slice q83 (0) d84, .int .i64 (0), .int .i64 (0)], .int .i64 (2)]) rfl rfl) ?_
    refine l_mv rfl rfl rfl (m_alloc tf67) ?_
    rintro _ _ ⟨b85, rfl, rfl⟩
    refine l_mu rfl rfl (m_store 0 tf31 (b := b85) (o := 0) (T := 32) (cs := #[.slice none 0 0, .slice none 0 0, .int .i64 (0), .int .i64 (0)]) (cs' := #[.slice p81 (0) c82, .slice q83 (0) d84, .int .i64 (0), .int .i64 (0)]) (v := .agg #[.slice p81 (0) c82, .slice q83 (0) d84, .int .i64 (0), .int .i64 (0)]) rfl rfl rfl rfl rfl rfl rfl) ?_
    refine l_val (v := .int .i64 (2)) rfl rfl rfl (e_assign) ?_
    refine l_nil ?_
    refine f_then ?_
    refine c_seq ?_
    have hvx : ¬ okV hi 0 := fun q => by have := q.2.1; omega
    have hvy : ¬ okV 0 lo := fun q => by have := q.2.2.1; omega
    refine c_any [⟨[], [], [0], [160], fun f => f 160 = .agg #[.int .i64 (40), .int .i64 (0), .int .i64 (0), .int .i64 (0), .int .i64 (0), .int .i64 (10), .int .i64 (10), .bool false, .bool false]⟩, ⟨[], [], [1], [161], fun f => f 161 = Ix (hi)⟩, ⟨[1], [1], [], [162], fun f => f 162 = .agg #[Ix (hi), .int .i64 (0)]⟩, ⟨[0, 1, 2], [0, 2], [], [163], fun f => f 163 = .agg #[.int .i64 (0), .int .i64 (0)]⟩, ⟨[], [], [0], [164], fun f => f 164 = .agg #[.int .i64 (40), .int .i64 (0), .int .i64 (0), .int .i64 (0), .int .i64 (0), .int .i64 (10), .int .i64 (10), .bool false, .bool false]⟩, ⟨[], [], [2], [165], fun f => f 165 = Ix (lo)⟩, ⟨[5], [5], [], [166], fun f => f 166 = .agg #[.int .i64 (0), Ix (lo)]⟩, ⟨[0, 1, 2, 3, 4, 5, 6], [4, 6], [], [167], fun f => f 167 = .agg #[.int .i64 (0), .int .i64 (0), .int .i64 (0), .int .i64 (0)]⟩, ⟨[], [], [], [26], fun f => f 26 = .pointer (some ⟨(blk (f 26)), 0, none⟩)⟩, ⟨[], [], [], [27], fun f => f 27 = .pointer (some ⟨(blk (f 27)), 0, none⟩)⟩, ⟨[0, 1, 2, 3, 4, 5, 6, 7, 8, 9], [8, 3], [], [], fun _ => True⟩, ⟨[0, 1, 2, 3, 4, 5, 6, 7, 8, 9, 10], [9, 7], [], [], fun _ => True⟩] [⟨none, none, [], [], fun _ => pt b85 (.cells #[.slice p81 (0) c82, .slice q83 (0) d84, .int .i64 (0), .int .i64 (0)] 32)⟩, ⟨none, none, [], [], fun _ => pt b80 (.cells #[.int .i64 (40)] 3)⟩, ⟨none, none, [0, 4], [], fun _ => pt b11 (.cells #[.int .i64 (40), .int .i64 (0), .int .i64 (0), .int .i64 (0), .int .i64 (0), .int .i64 (10), .int .i64 (10), .bool false, .bool false] 39)⟩, ⟨none, none, [], [], fun _ => pt b10 (.cells #[.slice rp14 (Bq.length) rc15, .slice q8 (R.length) d9, .int .i64 (0), .int .i64 (0)] 32)⟩, ⟨none, none, [], [], fun _ => rowF BodyF 39 rp14 rc15 Bq⟩, ⟨none, none, [], [], fun _ => rowF RopeF 49 q8 d9 R⟩, ⟨(some 8), (some 10), [10], [26], fun f => pt (blk (f 26)) (.cells #[.int .i64 (0), .int .i64 (0)] 30)⟩, ⟨(some 9), (some 11), [11], [27], fun f => pt (blk (f 27)) (.cells #[.int .i64 (0), .int .i64 (0), .int .i64 (0), .int .i64 (0)] 46)⟩, ⟨(some 10), none, [], [26], fun f => pt (blk (f 26)) (.cells #[.int .i64 (0), .int .i64 (0)] 30)⟩, ⟨(some 11), none, [], [27], fun f => pt (blk (f 27)) (.cells #[.int .i64 (0), .int .i64 (0), .int .i64 (0), .int .i64 (0)] 46)⟩] [(13, .pointer (some ⟨b11, 0, none⟩)), (4, Ix (hi)), (3, Ix (lo)), (12, .pointer (some ⟨b10, 0, none⟩)), (17, .int .i64 (6)), (19, .int .i64 (6)), (21, .int .i64 (6)), (22, .slice p78 (0) c79), (23, .int .i64 (2)), (24, .pointer (some ⟨b85, 0, none⟩)), (25, .int .i64 (2))] [3, 4, 5, 6, 7, 8, 9, 10] [] (by kernel_rfl) (by kernel_rfl) (by kernel_rfl) (by kernel_rfl) rfl ⟨rfl, rfl, rfl, rfl, rfl, rfl, rfl, rfl, rfl, rfl, rfl, trivial⟩ ⟨?_, ?_, ?_, ?_, ?_, ?_, ?_, ?_, ?_, ?_, ?_, ?_, trivial⟩ ?_
    · rintro f M - ⟨i0, -⟩
      have hs13 : f 13 = .pointer (some ⟨b11, 0, none⟩) := i0
      refine ob_start (L' := pt b11 (.cells #[.int .i64 (40), .int .i64 (0), .int .i64 (0), .int .i64 (0), .int .i64 (0), .int .i64 (10), .int .i64 (10), .bool false, .bool false] 39) :: M) (by rfl) (up_cons rfl hs13) ?_
      refine l_val (v := .agg #[.int .i64 (40), .int .i64 (0), .int .i64 (0), .int .i64 (0), .int .i64 (0), .int .i64 (10), .int .i64 (10), .bool false, .bool false]) rfl rfl rfl (e_load tf1 (cs := [.int .i64 (40), .int .i64 (0), .int .i64 (0), .int .i64 (0), .int .i64 (0), .int .i64 (10), .int .i64 (10), .bool false, .bool false]) rfl (k_pt 0 (cs := #[.int .i64 (40), .int .i64 (0), .int .i64 (0), .int .i64 (0), .int .i64 (0), .int .i64 (10), .int .i64 (10), .bool false, .bool false]) (vs := [.int .i64 (40), .int .i64 (0), .int .i64 (0), .int .i64 (0), .int .i64 (0), .int .i64 (10), .int .i64 (10), .bool false, .bool false]) rfl rfl) rfl) ?_
      refine l_nil ?_
      exact f_owes_d (up_cons rfl hs13) rfl (perm_front 0 rfl)
    · rintro f M - ⟨i0, -⟩
      have hs4 : f 4 = Ix (hi) := i0
      refine ob_start (L' := M) (by rfl) (up_cons rfl hs4) ?_
      refine l_val (v := Ix (hi)) rfl rfl rfl (e_move) ?_
      refine l_nil ?_
      exact f_owes_d (up_cons rfl hs4) rfl (List.Perm.refl _)
    · rintro f M ⟨k0, -⟩ -
      have hs161 : f 161 = Ix (hi) := k0
      refine ob_start (L' := M) (by rfl) (up_cons rfl hs161) ?_
      refine l_val (v := .agg #[Ix (hi), .int .i64 (0)]) rfl rfl rfl (e_build tf8 tf13 (vs := [(0, Ix (hi))]) (cells := #[Ix (hi), .int .i64 (0)]) rfl rfl) ?_
      refine l_nil ?_
      exact f_owes_d (up_cons rfl hs161) rfl (List.Perm.refl _)
    · rintro f M ⟨k0, k1, -⟩ -
      have hs160 : f 160 = .agg #[.int .i64 (40), .int .i64 (0), .int .i64 (0), .int .i64 (0), .int .i64 (0), .int .i64 (10), .int .i64 (10), .bool false, .bool false] := k0
      have hs162 : f 162 = .agg #[Ix (hi), .int .i64 (0)] := k1
      refine ob_start (L' := M) (by rfl) (up_cons (up_cons rfl hs160) hs162) ?_
      refine l_call rfl rfl rfl (cl_value (fst := []) (cap := []) (vs := [.agg #[.int .i64 (40), .int .i64 (0), .int .i64 (0), .int .i64 (0), .int .i64 (0), .int .i64 (10), .int .i64 (10), .bool false, .bool false], .agg #[Ix (hi), .int .i64 (0)]]) (all := [.agg #[.int .i64 (40), .int .i64 (0), .int .i64 (0), .int .i64 (0), .int .i64 (0), .int .i64 (10), .int .i64 (10), .bool false, .bool false], .agg #[Ix (hi), .int .i64 (0)]]) tf9 rfl rfl rfl) ?_
      intro w hw
      obtain ⟨β1, sb, kn, hw1, back⟩ := St.frame_all hw
      refine (speedE_ok β1 w hw1 ib0 hi 0 (by omega) (by omega) hvx).mono ?_
      rintro e w' ⟨rfl, hw'⟩
      refine ⟨_, rfl, _, back _ _ hw', ?_⟩
      clear hw hw1 hw' back kn sb
      refine l_nil ?_
      exact f_owes_d (up_cons (up_cons rfl hs160) hs162) rfl (List.Perm.refl _)
    · rintro f M - ⟨i0, -⟩
      have hs13 : f 13 = .pointer (some ⟨b11, 0, none⟩) := i0
      refine ob_start (L' := pt b11 (.cells #[.int .i64 (40), .int .i64 (0), .int .i64 (0), .int .i64 (0), .int .i64 (0), .int .i64 (10), .int .i64 (10), .bool false, .bool false] 39) :: M) (by rfl) (up_cons rfl hs13) ?_
      refine l_val (v := .agg #[.int .i64 (40), .int .i64 (0), .int .i64 (0), .int .i64 (0), .int .i64 (0), .int .i64 (10), .int .i64 (10), .bool false, .bool false]) rfl rfl rfl (e_load tf1 (cs := [.int .i64 (40), .int .i64 (0), .int .i64 (0), .int .i64 (0), .int .i64 (0), .int .i64 (10), .int .i64 (10), .bool false, .bool false]) rfl (k_pt 0 (cs := #[.int .i64 (40), .int .i64 (0), .int .i64 (0), .int .i64 (0), .int .i64 (0), .int .i64 (10), .int .i64 (10), .bool false, .bool false]) (vs := [.int .i64 (40), .int .i64 (0), .int .i64 (0), .int .i64 (0), .int .i64 (0), .int .i64 (10), .int .i64 (10), .bool false, .bool false]) rfl rfl) rfl) ?_
      refine l_nil ?_
      exact f_owes_d (up_cons rfl hs13) rfl (perm_front 0 rfl)
    · rintro f M - ⟨i0, -⟩
      have hs3 : f 3 = Ix (lo) := i0
      refine ob_start (L' := M) (by rfl) (up_cons rfl hs3) ?_
      refine l_val (v := Ix (lo)) rfl rfl rfl (e_move) ?_
      refine l_nil ?_
      exact f_owes_d (up_cons rfl hs3) rfl (List.Perm.refl _)
    · rintro f M ⟨k0, -⟩ -
      have hs165 : f 165 = Ix (lo) := k0
      refine ob_start (L' := M) (by rfl) (up_cons rfl hs165) ?_
      refine l_val (v := .agg #[.int .i64 (0), Ix (lo)]) rfl rfl rfl (e_build tf8 tf13 (vs := [(1, Ix (lo))]) (cells := #[.int .i64 (0), Ix (lo)]) rfl rfl) ?_
      refine l_nil ?_
      exact f_owes_d (up_cons rfl hs165) rfl (List.Perm.refl _)
    · rintro f M ⟨k0, k1, -⟩ -
      have hs164 : f 164 = .agg #[.int .i64 (40), .int .i64 (0), .int .i64 (0), .int .i64 (0), .int .i64 (0), .int .i64 (10), .int .i64 (10), .bool false, .bool false] := k0
      have hs166 : f 166 = .agg #[.int .i64 (0), Ix (lo)] := k1
      refine ob_start (L' := M) (by rfl) (up_cons (up_cons rfl hs164) hs166) ?_
      refine l_call rfl rfl rfl (cl_value (fst := []) (cap := []) (vs := [.agg #[.int .i64 (40), .int .i64 (0), .int .i64 (0), .int .i64 (0), .int .i64 (0), .int .i64 (10), .int .i64 (10), .bool false, .bool false], .agg #[.int .i64 (0), Ix (lo)]]) (all := [.agg #[.int .i64 (40), .int .i64 (0), .int .i64 (0), .int .i64 (0), .int .i64 (0), .int .i64 (10), .int .i64 (10), .bool false, .bool false], .agg #[.int .i64 (0), Ix (lo)]]) tf41 rfl rfl rfl) ?_
      intro w hw
      obtain ⟨β1, sb, kn, hw1, back⟩ := St.frame_all hw
      refine (reachE_ok β1 w hw1 ib0 0 lo (by omega) (by omega) hvy).mono ?_
      rintro e w' ⟨rfl, hw'⟩
      refine ⟨_, rfl, _, back _ _ hw', ?_⟩
      clear hw hw1 hw' back kn sb
      refine l_nil ?_
      exact f_owes_d (up_cons (up_cons rfl hs164) hs166) rfl (List.Perm.refl _)
    · rintro f M - -
      refine ob_start (L' := M) (by rfl) rfl ?_
      refine l_mv rfl rfl rfl (m_alloc tf8) ?_
      rintro _ _ ⟨b87, rfl, rfl⟩
      refine l_nil ?_
      exact f_owes_d rfl rfl (perm_front 0 rfl)
    · rintro f M - -
      refine ob_start (L' := M) (by rfl) rfl ?_
      refine l_mv rfl rfl rfl (m_alloc tf0) ?_
      rintro _ _ ⟨b89, rfl, rfl⟩
      refine l_nil ?_
      exact f_owes_d rfl rfl (perm_front 0 rfl)
    · rintro f M ⟨k0, k1, -⟩ -
      have hs26 : f 26 = .pointer (some ⟨(blk (f 26)), 0, none⟩) := k0
      have hs163 : f 163 = .agg #[.int .i64 (0), .int .i64 (0)] := k1
      refine ob_start (L' := pt (blk (f 26)) (.cells #[.int .i64 (0), .int .i64 (0)] 30) :: M) (by rfl) (up_cons (up_cons rfl hs26) hs163) ?_
      refine l_mu rfl rfl (m_store 0 tf5 (b := (blk (f 26))) (o := 0) (T := 30) (cs := #[.int .i64 (0), .int .i64 (0)]) (cs' := #[.int .i64 (0), .int .i64 (0)]) (v := .agg #[.int .i64 (0), .int .i64 (0)]) rfl rfl rfl rfl rfl rfl rfl) ?_
      refine l_nil ?_
      exact f_owes_n (up_cons (up_cons rfl hs26) hs163) trivial (perm_front 0 rfl)
    · rintro f M ⟨k0, k1, -⟩ -
      have hs27 : f 27 = .pointer (some ⟨(blk (f 27)), 0, none⟩) := k0
      have hs167 : f 167 = .agg #[.int .i64 (0), .int .i64 (0), .int .i64 (0), .int .i64 (0)] := k1
      refine ob_start (L' := pt (blk (f 27)) (.cells #[.int .i64 (0), .int .i64 (0), .int .i64 (0), .int .i64 (0)] 46) :: M) (by rfl) (up_cons (up_cons rfl hs27) hs167) ?_
      refine l_mu rfl rfl (m_store 0 tf4 (b := (blk (f 27))) (o := 0) (T := 46) (cs := #[.int .i64 (0), .int .i64 (0), .int .i64 (0), .int .i64 (0)]) (cs' := #[.int .i64 (0), .int .i64 (0), .int .i64 (0), .int .i64 (0)]) (v := .agg #[.int .i64 (0), .int .i64 (0), .int .i64 (0), .int .i64 (0)]) rfl rfl rfl rfl rfl rfl rfl) ?_
      refine l_nil ?_
      exact f_owes_n (up_cons (up_cons rfl hs27) hs167) trivial (perm_front 0 rfl)
    rintro fa90 ⟨-, -, -, -, -, -, -, -, k8, k9, -, -, -⟩ ⟨j0, j1, j2, j3, j4, j5, j6, j7, -⟩
    refine f_re (L' := [pt b85 (.cells #[.slice p81 (0) c82, .slice q83 (0) d84, .int .i64 (0), .int .i64 (0)] 32), pt b80 (.cells #[.int .i64 (40)] 3), pt b11 (.cells #[.int .i64 (40), .int .i64 (0), .int .i64 (0), .int .i64 (0), .int .i64 (0), .int .i64 (10), .int .i64 (10), .bool false, .bool false] 39), pt b10 (.cells #[.slice rp14 (Bq.length) rc15, .slice q8 (R.length) d9, .int .i64 (0), .int .i64 (0)] 32), rowF BodyF 39 rp14 rc15 Bq, rowF RopeF 49 q8 d9 R, pt (blk (fa90 26)) (.cells #[.int .i64 (0), .int .i64 (0)] 30), pt (blk (fa90 27)) (.cells #[.int .i64 (0), .int .i64 (0), .int .i64 (0), .int .i64 (0)] 46)]) (by rfl) ?_
    refine f_rebase (d := 12) (v := .pointer (some ⟨b10, 0, none⟩)) j0 ?_
    refine f_rebase (d := 17) (v := .int .i64 (6)) j1 ?_
    refine f_rebase (d := 19) (v := .int .i64 (6)) j2 ?_
    refine f_rebase (d := 21) (v := .int .i64 (6)) j3 ?_
    refine f_rebase (d := 22) (v := .slice p78 (0) c79) j4 ?_
    refine f_rebase (d := 23) (v := .int .i64 (2)) j5 ?_
    refine f_rebase (d := 24) (v := .pointer (some ⟨b85, 0, none⟩)) j6 ?_
    refine f_rebase (d := 25) (v := .int .i64 (2)) j7 ?_
    refine f_rebase (d := 26) (v := .pointer (some ⟨(blk (fa90 26)), 0, none⟩)) k8 ?_
    refine f_rebase (d := 27) (v := .pointer (some ⟨(blk (fa90 27)), 0, none⟩)) k9 ?_
    refine f_then ?_
    refine c_seq ?_
    refine c_region ?_
    refine l_val (v := .int .i64 (6)) rfl rfl rfl (e_move) ?_
    refine l_val (v := .bool true) rfl rfl rfl (e_eql (a := (6 : Int)) (b := (6 : Int)) rfl rfl) ?_
    refine l_val (v := .bool true) rfl rfl rfl (e_move) ?_
    refine g_val (v := .int .i64 (6)) rfl rfl rfl rfl rfl (e_move) ?_
    refine g_val (v := .bool true) rfl rfl rfl rfl rfl (e_eql (a := (6 : Int)) (b := (6 : Int)) rfl rfl) ?_
    refine l_val (v := .bool true) rfl rfl rfl (e_pick_t rfl) ?_
    refine l_val (v := .bool true) rfl rfl rfl (e_move) ?_
    refine g_val (v := .int .i64 (6)) rfl rfl rfl rfl rfl (e_move) ?_
    refine g_val (v := .bool true) rfl rfl rfl rfl rfl (e_eql (a := (6 : Int)) (b := (6 : Int)) rfl rfl) ?_
    refine l_val (v := .bool true) rfl rfl rfl (e_pick_t rfl) ?_
    refine l_val (v := .bool true) rfl rfl rfl (e_move) ?_
    refine g_val (v := .int .i64 (2)) rfl rfl rfl rfl rfl (e_move) ?_
    refine g_val (v := .bool true) rfl rfl rfl rfl rfl (e_eql (a := (2 : Int)) (b := (2 : Int)) rfl rfl) ?_
    refine l_val (v := .bool true) rfl rfl rfl (e_pick_t rfl) ?_
    refine l_val (v := .bool true) rfl rfl rfl (e_move) ?_
    refine g_val (v := .int .i64 (2)) rfl rfl rfl rfl rfl (e_move) ?_
    refine g_val (v := .bool true) rfl rfl rfl rfl rfl (e_eql (a := (2 : Int)) (b := (2 : Int)) rfl rfl) ?_
    refine l_val (v := .bool true) rfl rfl rfl (e_pick_t rfl) ?_
    refine l_val (v := .bool true) rfl rfl rfl (e_move) ?_
    refine g_val (v := .slice p78 (0) c79) rfl rfl rfl rfl rfl (e_move) ?_
    refine g_val (v := Nx (0)) rfl rfl rfl rfl rfl (e_len (a := p78) (n := 0) (c := c79) rfl tf64) ?_
    refine g_val (v := .pointer (some ⟨b85, 0, none⟩)) rfl rfl rfl rfl rfl (e_fieldPt (b := b85) (o := 0) rfl tf33) ?_
    refine g_val (v := .slice p81 (0) c82) rfl rfl rfl rfl rfl (e_load1 tf26 (v := .slice p81 (0) c82) rfl (k_pt 0 (cs := #[.slice p81 (0) c82, .slice q83 (0) d84, .int .i64 (0), .int .i64 (0)]) (vs := [.slice p81 (0) c82]) rfl rfl)) ?_
    refine g_val (v := Nx (0)) rfl rfl rfl rfl rfl (e_len (a := p81) (n := 0) (c := c82) rfl tf15) ?_
    refine g_val (v := Nx (0 + 0)) rfl rfl rfl rfl rfl (e_add (a := ((0 : Nat) : Int)) (b := ((0 : Nat) : Int)) rfl rfl (i64n (by omega) (by omega))) ?_
    refine g_val (v := .pointer (some ⟨b85, 1, none⟩)) rfl rfl rfl rfl rfl (e_fieldPt (b := b85) (o := 0) rfl tf52) ?_
    refine g_val (v := .slice q83 (0) d84) rfl rfl rfl rfl rfl (e_load1 tf53 (v := .slice q83 (0) d84) rfl (k_pt 0 (cs := #[.slice p81 (0) c82, .slice q83 (0) d84, .int .i64 (0), .int .i64 (0)]) (vs := [.slice q83 (0) d84]) rfl rfl)) ?_
    refine g_val (v := Nx (0)) rfl rfl rfl rfl rfl (e_len (a := q83) (n := 0) (c := d84) rfl tf54) ?_
    refine g_val (v := Nx ((0 + 0) + 0)) rfl rfl rfl rfl rfl (e_add (a := ((0 + 0 : Nat) : Int)) (b := ((0 : Nat) : Int)) rfl rfl (i64n (by omega) (by omega))) ?_
    refine g_val (v := .bool (decide ((((0 + 0) + 0 : Nat) : Int) = (0 : Int)))) rfl rfl rfl rfl rfl (e_eql (a := (((0 + 0) + 0 : Nat) : Int)) (b := (0 : Int)) rfl rfl) ?_
    refine l_val (v := .bool (decide ((((0 + 0) + 0 : Nat) : Int) = (0 : Int)))) rfl rfl rfl (e_pick_t rfl) ?_
    refine l_val (v := .bool (decide ((((0 + 0) + 0 : Nat) : Int) = (0 : Int)))) rfl rfl rfl (e_move) ?_
    refine l_split (s := 199) (p := (((0 + 0) + 0 : Nat) : Int) = (0 : Int)) rfl (fun h => ?_) (fun h => ?_)
    rotate_left; exact absurd (by decide) h
    refine g_val (v := .agg #[.int .i64 (0), .int .i64 (0)]) rfl rfl rfl rfl rfl (e_load tf5 (cs := [.int .i64 (0), .int .i64 (0)]) rfl (k_pt 6 (cs := #[.int .i64 (0), .int .i64 (0)]) (vs := [.int .i64 (0), .int .i64 (0)]) rfl rfl) rfl) ?_
    refine g_val (v := .agg #[.int .i64 (0), .int .i64 (0)]) rfl rfl rfl rfl rfl (e_build tf8 tf13 (vs := []) (cells := #[.int .i64 (0), .int .i64 (0)]) rfl rfl) ?_
    refine g_val (v := .bool true) rfl rfl rfl rfl rfl ((ev_t (by decide) (e_eql_t (p := (0 : Int) = (0 : Int) ∧ (0 : Int) = (0 : Int)) (xs := [.int .i64 (0), .int .i64 (0)]) (ys := [.int .i64 (0), .int .i64 (0)]) tf92 tf93 tf94 rfl rfl rfl rfl vec_eq))) ?_
    refine l_val (v := .bool true) rfl rfl rfl (e_pick_t rfl) ?_
    refine l_val (v := .bool true) rfl rfl rfl (e_move) ?_
    refine g_val (v := .agg #[.int .i64 (0), .int .i64 (0), .int .i64 (0), .int .i64 (0)]) rfl rfl rfl rfl rfl (e_load tf4 (cs := [.int .i64 (0), .int .i64 (0), .int .i64 (0), .int .i64 (0)]) rfl (k_pt 7 (cs := #[.int .i64 (0), .int .i64 (0), .int .i64 (0), .int .i64 (0)]) (vs := [.int .i64 (0), .int .i64 (0), .int .i64 (0), .int .i64 (0)]) rfl rfl) rfl) ?_
    refine g_val (v := .agg #[.int .i64 (0), .int .i64 (0), .int .i64 (0), .int .i64 (0)]) rfl rfl rfl rfl rfl (e_build tf0 tf3 (vs := []) (cells := #[.int .i64 (0), .int .i64 (0), .int .i64 (0), .int .i64 (0)]) rfl rfl) ?_
    refine g_val (v := .bool true) rfl rfl rfl rfl rfl ((ev_t (by decide) (e_eql_t (p := (0 : Int) = (0 : Int) ∧ (0 : Int) = (0 : Int) ∧ (0 : Int) = (0 : Int) ∧ (0 : Int) = (0 : Int)) (xs := [.int .i64 (0), .int .i64 (0), .int .i64 (0), .int .i64 (0)]) (ys := [.int .i64 (0), .int .i64 (0), .int .i64 (0), .int .i64 (0)]) tf78 tf79 tf80 rfl rfl rfl rfl arr4_eq))) ?_
    refine l_val (v := .bool true) rfl rfl rfl (e_pick_t rfl) ?_
    refine l_val (v := .bool true) rfl rfl rfl (e_move) ?_
    refine g_val (v := .agg #[.slice rp14 (Bq.length) rc15, .slice q8 (R.length) d9, .int .i64 (0), .int .i64 (0)]) rfl rfl rfl rfl rfl (e_load tf31 (cs := [.slice rp14 (Bq.length) rc15, .slice q8 (R.length) d9, .int .i64 (0), .int .i64 (0)]) rfl (k_pt 3 (cs := #[.slice rp14 (Bq.length) rc15, .slice q8 (R.length) d9, .int .i64 (0), .int .i64 (0)]) (vs := [.slice rp14 (Bq.length) rc15, .slice q8 (R.length) d9, .int .i64 (0), .int .i64 (0)]) rfl rfl) rfl) ?_
    refine g_call rfl rfl rfl rfl rfl (cl_value (fst := []) (cap := []) (vs := [.agg #[.slice rp14 (Bq.length) rc15, .slice q8 (R.length) d9, .int .i64 (0), .int .i64 (0)]]) (all := [.agg #[.slice rp14 (Bq.length) rc15, .slice q8 (R.length) d9, .int .i64 (0), .int .i64 (0)]]) tf32 rfl rfl rfl) ?_
    intro w hw
    obtain ⟨β1, sb, kn, hw1, back⟩ := St.frame_all hw
    refine (validE_ok β1 w hw1 _ _ 0 0 Bq R (kn _ (k_flN 4 (F := BodyF) (m := Bq.length) rfl rfl)) (kn _ (k_flN 5 (F := RopeF) (m := R.length) rfl rfl)) (by omega) (by omega) hno).mono ?_
    rintro e w' ⟨rfl, hw'⟩
    refine ⟨_, rfl, _, back _ _ hw', ?_⟩
    clear hw hw1 hw' back kn sb
    refine g_val (v := .bool true) rfl rfl rfl rfl rfl (e_not (a := false) rfl) ?_
    refine l_val (v := .bool true) rfl rfl rfl (e_pick_t rfl) ?_
    refine l_val (v := .bool true) rfl rfl rfl (e_assign) ?_
    refine l_nil ?_
    refine f_then ?_
    refine c_ret ?_
    refine ret1 Try.results8 (v := .bool true) rfl ?_
    intro w hw
    exact ⟨rfl, st_mask [false, false, false, false, false, false, false, false] rfl hw⟩
  refine c_seq ?_
  refine c_region ?_
  refine l_val (v := .bool (decide (((way.toNat % 10 : Nat) : Int) = (4 : Int)))) rfl rfl rfl (e_eql (a := ((way.toNat % 10 : Nat) : Int)) (b := (4 : Int)) rfl rfl) ?_
  refine l_val (v := .bool (decide (((way.toNat % 10 : Nat) : Int) = (4 : Int)))) rfl rfl rfl (e_assign) ?_
  refine l_nil ?_
  refine f_then ?_
  refine c_if (((way.toNat % 10 : Nat) : Int) = (4 : Int)) rfl (fun hc91 => ?_) (fun hc91 => ?_)
  ·
    refine c_region ?_
    refine l_val (v := Ix (lo)) rfl rfl rfl (e_move) ?_
    refine l_val (v := .pointer (some ⟨b10, 2, none⟩)) rfl rfl rfl (e_fieldPt (b := b10) (o := 0) rfl tf40) ?_
    refine l_val (v := .pointer (some ⟨b10, 2, none⟩)) rfl rfl rfl (e_fieldPt (b := b10) (o := 2) rfl tf10) ?_
    refine l_mu rfl rfl (m_store 1 tf11 (b := b10) (o := 2) (T := 32) (cs := #[.slice rp14 (B0.length) rc15, .slice q8 (R.length) d9, .int .i64 (0), .int .i64 (0)]) (cs' := #[.slice rp14 (B0.length) rc15, .slice q8 (R.length) d9, Ix (lo), .int .i64 (0)]) (v := Ix (lo)) rfl rfl rfl rfl rfl rfl rfl) ?_
    refine l_nil ?_
    refine f_block ?_
    refine f_then ?_
    refine c_seq ?_
    have hno : ¬ okS B0 R lo 0 := no_pull (fun q => by have := q.1; omega)
    refine c_region ?_
    refine l_val (v := .agg #[.slice rp14 (B0.length) rc15, .slice q8 (R.length) d9, Ix (lo), .int .i64 (0)]) rfl rfl rfl (e_load tf31 (cs := [.slice rp14 (B0.length) rc15, .slice q8 (R.length) d9, Ix (lo), .int .i64 (0)]) rfl (k_pt 1 (cs := #[.slice rp14 (B0.length) rc15, .slice q8 (R.length) d9, Ix (lo), .int .i64 (0)]) (vs := [.slice rp14 (B0.length) rc15, .slice q8 (R.length) d9, Ix (lo), .int .i64 (0)]) rfl rfl) rfl) ?_
    refine l_call rfl rfl rfl (cl_value (fst := []) (cap := []) (vs := [.agg #[.slice rp14 (B0.length) rc15, .slice q8 (R.length) d9, Ix (lo), .int .i64 (0)]]) (all := [.agg #[.slice rp14 (B0.length) rc15, .slice q8 (R.length) d9, Ix (lo), .int .i64 (0)]]) tf75 rfl rfl rfl) ?_
    intro w hw
    obtain ⟨β1, sb, kn, hw1, back⟩ := St.frame_all hw
    refine (islE_ok β1 w hw1 _ _ lo 0 B0 R (kn _ (k_flN 2 (F := BodyF) (m := B0.length) rfl rfl)) (kn _ (k_flN 3 (F := RopeF) (m := R.length) rfl rfl)) (by omega) (by omega) hno).mono ?_
    rintro e w' ⟨p92, c93, rfl, hw'⟩
    refine ⟨_, rfl, _, back _ _ hw', ?_⟩
    clear hw hw1 hw' back kn sb
    refine l_val (v := .tuple #[.slice p92 (0) c93, .int .i64 (2)]) rfl rfl rfl (e_move) ?_
    refine l_val (v := .slice p92 (0) c93) rfl rfl rfl (e_extract (vs := #[.slice p92 (0) c93, .int .i64 (2)]) rfl rfl) ?_
    refine l_val (v := .int .i64 (2)) rfl rfl rfl (e_extract (vs := #[.slice p92 (0) c93, .int .i64 (2)]) rfl rfl) ?_
    refine l_val (v := .slice p92 (0) c93) rfl rfl rfl (e_assign) ?_
    refine l_val (v := .int .i64 (2)) rfl rfl rfl (e_assign) ?_
    refine l_nil ?_
    refine f_then ?_
    refine c_seq ?_
    refine c_region ?_
    refine l_val (v := .agg #[.slice rp14 (B0.length) rc15, .slice q8 (R.length) d9, Ix (lo), .int .i64 (0)]) rfl rfl rfl (e_load tf31 (cs := [.slice rp14 (B0.length) rc15, .slice q8 (R.length) d9, Ix (lo), .int .i64 (0)]) rfl (k_pt 1 (cs := #[.slice rp14 (B0.length) rc15, .slice q8 (R.length) d9, Ix (lo), .int .i64 (0)]) (vs := [.slice rp14 (B0.length) rc15, .slice q8 (R.length) d9, Ix (lo), .int .i64 (0)]) rfl rfl) rfl) ?_
    refine l_mv rfl rfl rfl (m_slices tf23 tf24 (vs := [(0, .int .i64 (40))]) (cells := #[.int .i64 (40)]) rfl rfl rfl rfl) ?_
    rintro _ _ ⟨b94, rfl, rfl⟩
    refine l_call rfl rfl rfl (cl_value (fst := []) (cap := []) (vs := [.agg #[.slice rp14 (B0.length) rc15, .slice q8 (R.length) d9, Ix (lo), .int .i64 (0)], .slice (some ⟨b94, 0, none⟩) 1 1]) (all := [.agg #[.slice rp14 (B0.length) rc15, .slice q8 (R.length) d9, Ix (lo), .int .i64 (0)], .slice (some ⟨b94, 0, none⟩) 1 1]) tf76 rfl rfl rfl) ?_
    intro w hw
    obtain ⟨β1, sb, kn, hw1, back⟩ := St.frame_all hw
    refine (partE_ok β1 w hw1 _ _ _ lo 0 B0 R [40] (kn _ (k_flN 3 (F := BodyF) (m := B0.length) rfl rfl)) (kn _ (k_flN 4 (F := RopeF) (m := R.length) rfl rfl)) (kn _ (k_ptFls (F := IntF) 0 (m := 1) (xs := [40]) rfl rfl rfl (by decide))) (by omega) (by omega) 2 (by decide) (errPt_bad hno [40])).mono ?_
    rintro e w' ⟨p95, c96, q97, d98, rfl, hw'⟩
    refine ⟨_, rfl, _, back _ _ hw', ?_⟩
    clear hw hw1 hw' back kn sb
    refine l_val (v := .tuple #[.agg #[.slice p95 (0) c96, .slice q97 (0) d98, .int .i64 (0), .int .i64 (0)], .int .i64 (2)]) rfl rfl rfl (e_move) ?_
    refine l_val (v := .agg #[.slice p95 (0) c96, .slice q97 (0) d98, .int .i64 (0), .int .i64 (0)]) rfl rfl rfl (e_extract (vs := #[.agg #[.slice p95 (0) c96, .slice q97 (0) d98, .int .i64 (0), .int .i64 (0)], .int .i64 (2)]) rfl rfl) ?_
    refine l_val (v := .int .i64 (2)) rfl rfl rfl (e_extract (vs := #[.agg #[.slice p95 (0) c96, .slice q97 (0) d98, .int .i64 (0), .int .i64 (0)], .int .i64 (2)]) rfl rfl) ?_
    refine l_mv rfl rfl rfl (m_alloc tf67) ?_
    rintro _ _ ⟨b99, rfl, rfl⟩
    refine l_mu rfl rfl (m_store 0 tf31 (b := b99) (o := 0) (T := 32) (cs := #[.slice none 0 0, .slice none 0 0, .int .i64 (0), .int .i64 (0)]) (cs' := #[.slice p95 (0) c96, .slice q97 (0) d98, .int .i64 (0), .int .i64 (0)]) (v := .agg #[.slice p95 (0) c96, .slice q97 (0) d98, .int .i64 (0), .int .i64 (0)]) rfl rfl rfl rfl rfl rfl rfl) ?_
    refine l_val (v := .int .i64 (2)) rfl rfl rfl (e_assign) ?_
    refine l_nil ?_
    refine f_then ?_
    refine c_seq ?_
    have hvx : ¬ okV hi 0 := fun q => by have := q.2.1; omega
    have hvy : ¬ okV 0 lo := fun q => by have := q.2.2.1; omega
    refine c_any [⟨[], [], [0], [160], fun f => f 160 = .agg #[.int .i64 (40), .int .i64 (0), .int .i64 (0), .int .i64 (0), .int .i64 (0), .int .i64 (10), .int .i64 (10), .bool false, .bool false]⟩, ⟨[], [], [1], [161], fun f => f 161 = Ix (hi)⟩, ⟨[1], [1], [], [162], fun f => f 162 = .agg #[Ix (hi), .int .i64 (0)]⟩, ⟨[0, 1, 2], [0, 2], [], [163], fun f => f 163 = .agg #[.int .i64 (0), .int .i64 (0)]⟩, ⟨[], [], [0], [164], fun f => f 164 = .agg #[.int .i64 (40), .int .i64 (0), .int .i64 (0), .int .i64 (0), .int .i64 (0), .int .i64 (10), .int .i64 (10), .bool false, .bool false]⟩, ⟨[], [], [2], [165], fun f => f 165 = Ix (lo)⟩, ⟨[5], [5], [], [166], fun f => f 166 = .agg #[.int .i64 (0), Ix (lo)]⟩, ⟨[0, 1, 2, 3, 4, 5, 6], [4, 6], [], [167], fun f => f 167 = .agg #[.int .i64 (0), .int .i64 (0), .int .i64 (0), .int .i64 (0)]⟩, ⟨[], [], [], [26], fun f => f 26 = .pointer (some ⟨(blk (f 26)), 0, none⟩)⟩, ⟨[], [], [], [27], fun f => f 27 = .pointer (some ⟨(blk (f 27)), 0, none⟩)⟩, ⟨[0, 1, 2, 3, 4, 5, 6, 7, 8, 9], [8, 3], [], [], fun _ => True⟩, ⟨[0, 1, 2, 3, 4, 5, 6, 7, 8, 9, 10], [9, 7], [], [], fun _ => True⟩] [⟨none, none, [], [], fun _ => pt b99 (.cells #[.slice p95 (0) c96, .slice q97 (0) d98, .int .i64 (0), .int .i64 (0)] 32)⟩, ⟨none, none, [], [], fun _ => pt b94 (.cells #[.int .i64 (40)] 3)⟩, ⟨none, none, [0, 4], [], fun _ => pt b11 (.cells #[.int .i64 (40), .int .i64 (0), .int .i64 (0), .int .i64 (0), .int .i64 (0), .int .i64 (10), .int .i64 (10), .bool false, .bool false] 39)⟩, ⟨none, none, [], [], fun _ => pt b10 (.cells #[.slice rp14 (B0.length) rc15, .slice q8 (R.length) d9, Ix (lo), .int .i64 (0)] 32)⟩, ⟨none, none, [], [], fun _ => rowF BodyF 39 rp14 rc15 B0⟩, ⟨none, none, [], [], fun _ => rowF RopeF 49 q8 d9 R⟩, ⟨(some 8), (some 10), [10], [26], fun f => pt (blk (f 26)) (.cells #[.int .i64 (0), .int .i64 (0)] 30)⟩, ⟨(some 9), (some 11), [11], [27], fun f => pt (blk (f 27)) (.cells #[.int .i64 (0), .int .i64 (0), .int .i64 (0), .int .i64 (0)] 46)⟩, ⟨(some 10), none, [], [26], fun f => pt (blk (f 26)) (.cells #[.int .i64 (0), .int .i64 (0)] 30)⟩, ⟨(some 11), none, [], [27], fun f => pt (blk (f 27)) (.cells #[.int .i64 (0), .int .i64 (0), .int .i64 (0), .int .i64 (0)] 46)⟩] [(13, .pointer (some ⟨b11, 0, none⟩)), (4, Ix (hi)), (3, Ix (lo)), (12, .pointer (some ⟨b10, 0, none⟩)), (17, .int .i64 (6)), (19, .int .i64 (6)), (21, .int .i64 (6)), (22, .slice p92 (0) c93), (23, .int .i64 (2)), (24, .pointer (some ⟨b99, 0, none⟩)), (25, .int .i64 (2))] [3, 4, 5, 6, 7, 8, 9, 10] [] (by kernel_rfl) (by kernel_rfl) (by kernel_rfl) (by kernel_rfl) rfl ⟨rfl, rfl, rfl, rfl, rfl, rfl, rfl, rfl, rfl, rfl, rfl, trivial⟩ ⟨?_, ?_, ?_, ?_, ?_, ?_, ?_, ?_, ?_, ?_, ?_, ?_, trivial⟩ ?_
    · rintro f M - ⟨i0, -⟩
      have hs13 : f 13 = .pointer (some ⟨b11, 0, none⟩) := i0
      refine ob_start (L' := pt b11 (.cells #[.int .i64 (40), .int .i64 (0), .int .i64 (0), .int .i64 (0), .int .i64 (0), .int .i64 (10), .int .i64 (10), .bool false, .bool false] 39) :: M) (by rfl) (up_cons rfl hs13) ?_
      refine l_val (v := .agg #[.int .i64 (40), .int .i64 (0), .int .i64 (0), .int .i64 (0), .int .i64 (0), .int .i64 (10), .int .i64 (10), .bool false, .bool false]) rfl rfl rfl (e_load tf1 (cs := [.int .i64 (40), .int .i64 (0), .int .i64 (0), .int .i64 (0), .int .i64 (0), .int .i64 (10), .int .i64 (10), .bool false, .bool false]) rfl (k_pt 0 (cs := #[.int .i64 (40), .int .i64 (0), .int .i64 (0), .int .i64 (0), .int .i64 (0), .int .i64 (10), .int .i64 (10), .bool false, .bool false]) (vs := [.int .i64 (40), .int .i64 (0), .int .i64 (0), .int .i64 (0), .int .i64 (0), .int .i64 (10), .int .i64 (10), .bool false, .bool false]) rfl rfl) rfl) ?_
      refine l_nil ?_
      exact f_owes_d (up_cons rfl hs13) rfl (perm_front 0 rfl)
    · rintro f M - ⟨i0, -⟩
      have hs4 : f 4 = Ix (hi) := i0
      refine ob_start (L' := M) (by rfl) (up_cons rfl hs4) ?_
      refine l_val (v := Ix (hi)) rfl rfl rfl (e_move) ?_
      refine l_nil ?_
      exact f_owes_d (up_cons rfl hs4) rfl (List.Perm.refl _)
    · rintro f M ⟨k0, -⟩ -
      have hs161 : f 161 = Ix (hi) := k0
      refine ob_start (L' := M) (by rfl) (up_cons rfl hs161) ?_
      refine l_val (v := .agg #[Ix (hi), .int .i64 (0)]) rfl rfl rfl (e_build tf8 tf13 (vs := [(0, Ix (hi))]) (cells := #[Ix (hi), .int .i64 (0)]) rfl rfl) ?_
      refine l_nil ?_
      exact f_owes_d (up_cons rfl hs161) rfl (List.Perm.refl _)
    · rintro f M ⟨k0, k1, -⟩ -
      have hs160 : f 160 = .agg #[.int .i64 (40), .int .i64 (0), .int .i64 (0), .int .i64 (0), .int .i64 (0), .int .i64 (10), .int .i64 (10), .bool false, .bool false] := k0
      have hs162 : f 162 = .agg #[Ix (hi), .int .i64 (0)] := k1
      refine ob_start (L' := M) (by rfl) (up_cons (up_cons rfl hs160) hs162) ?_
      refine l_call rfl rfl rfl (cl_value (fst := []) (cap := []) (vs := [.agg #[.int .i64 (40), .int .i64 (0), .int .i64 (0), .int .i64 (0), .int .i64 (0), .int .i64 (10), .int .i64 (10), .bool false, .bool false], .agg #[Ix (hi), .int .i64 (0)]]) (all := [.agg #[.int .i64 (40), .int .i64 (0), .int .i64 (0), .int .i64 (0), .int .i64 (0), .int .i64 (10), .int .i64 (10), .bool false, .bool false], .agg #[Ix (hi), .int .i64 (0)]]) tf9 rfl rfl rfl) ?_
      intro w hw
      obtain ⟨β1, sb, kn, hw1, back⟩ := St.frame_all hw
      refine (speedE_ok β1 w hw1 ib0 hi 0 (by omega) (by omega) hvx).mono ?_
      rintro e w' ⟨rfl, hw'⟩
      refine ⟨_, rfl, _, back _ _ hw', ?_⟩
      clear hw hw1 hw' back kn sb
      refine l_nil ?_
      exact f_owes_d (up_cons (up_cons rfl hs160) hs162) rfl (List.Perm.refl _)
    · rintro f M - ⟨i0, -⟩
      have hs13 : f 13 = .pointer (some ⟨b11, 0, none⟩) := i0
      refine ob_start (L' := pt b11 (.cells #[.int .i64 (40), .int .i64 (0), .int .i64 (0), .int .i64 (0), .int .i64 (0), .int .i64 (10), .int .i64 (10), .bool false, .bool false] 39) :: M) (by rfl) (up_cons rfl hs13) ?_
      refine l_val (v := .agg #[.int .i64 (40), .int .i64 (0), .int .i64 (0), .int .i64 (0), .int .i64 (0), .int .i64 (10), .int .i64 (10), .bool false, .bool false]) rfl rfl rfl (e_load tf1 (cs := [.int .i64 (40), .int .i64 (0), .int .i64 (0), .int .i64 (0), .int .i64 (0), .int .i64 (10), .int .i64 (10), .bool false, .bool false]) rfl (k_pt 0 (cs := #[.int .i64 (40), .int .i64 (0), .int .i64 (0), .int .i64 (0), .int .i64 (0), .int .i64 (10), .int .i64 (10), .bool false, .bool false]) (vs := [.int .i64 (40), .int .i64 (0), .int .i64 (0), .int .i64 (0), .int .i64 (0), .int .i64 (10), .int .i64 (10), .bool false, .bool false]) rfl rfl) rfl) ?_
      refine l_nil ?_
      exact f_owes_d (up_cons rfl hs13) rfl (perm_front 0 rfl)
    · rintro f M - ⟨i0, -⟩
      have hs3 : f 3 = Ix (lo) := i0
      refine ob_start (L' := M) (by rfl) (up_cons rfl hs3) ?_
      refine l_val (v := Ix (lo)) rfl rfl rfl (e_move) ?_
      refine l_nil ?_
      exact f_owes_d (up_cons rfl hs3) rfl (List.Perm.refl _)
    · rintro f M ⟨k0, -⟩ -
      have hs165 : f 165 = Ix (lo) := k0
      refine ob_start (L' := M) (by rfl) (up_cons rfl hs165) ?_
      refine l_val (v := .agg #[.int .i64 (0), Ix (lo)]) rfl rfl rfl (e_build tf8 tf13 (vs := [(1, Ix (lo))]) (cells := #[.int .i64 (0), Ix (lo)]) rfl rfl) ?_
      refine l_nil ?_
      exact f_owes_d (up_cons rfl hs165) rfl (List.Perm.refl _)
    · rintro f M ⟨k0, k1, -⟩ -
      have hs164 : f 164 = .agg #[.int .i64 (40), .int .i64 (0), .int .i64 (0), .int .i64 (0), .int .i64 (0), .int .i64 (10), .int .i64 (10), .bool false, .bool false] := k0
      have hs166 : f 166 = .agg #[.int .i64 (0), Ix (lo)] := k1
      refine ob_start (L' := M) (by rfl) (up_cons (up_cons rfl hs164) hs166) ?_
      refine l_call rfl rfl rfl (cl_value (fst := []) (cap := []) (vs := [.agg #[.int .i64 (40), .int .i64 (0), .int .i64 (0), .int .i64 (0), .int .i64 (0), .int .i64 (10), .int .i64 (10), .bool false, .bool false], .agg #[.int .i64 (0), Ix (lo)]]) (all := [.agg #[.int .i64 (40), .int .i64 (0), .int .i64 (0), .int .i64 (0), .int .i64 (0), .int .i64 (10), .int .i64 (10), .bool false, .bool false], .agg #[.int .i64 (0), Ix (lo)]]) tf41 rfl rfl rfl) ?_
      intro w hw
      obtain ⟨β1, sb, kn, hw1, back⟩ := St.frame_all hw
      refine (reachE_ok β1 w hw1 ib0 0 lo (by omega) (by omega) hvy).mono ?_
      rintro e w' ⟨rfl, hw'⟩
      refine ⟨_, rfl, _, back _ _ hw', ?_⟩
      clear hw hw1 hw' back kn sb
      refine l_nil ?_
      exact f_owes_d (up_cons (up_cons rfl hs164) hs166) rfl (List.Perm.refl _)
    · rintro f M - -
      refine ob_start (L' := M) (by rfl) rfl ?_
      refine l_mv rfl rfl rfl (m_alloc tf8) ?_
      rintro _ _ ⟨b101, rfl, rfl⟩
      refine l_nil ?_
      exact f_owes_d rfl rfl (perm_front 0 rfl)
    · rintro f M - -
      refine ob_start (L' := M) (by rfl) rfl ?_
      refine l_mv rfl rfl rfl (m_alloc tf0) ?_
      rintro _ _ ⟨b103, rfl, rfl⟩
      refine l_nil ?_
      exact f_owes_d rfl rfl (perm_front 0 rfl)
    · rintro f M ⟨k0, k1, -⟩ -
      have hs26 : f 26 = .pointer (some ⟨(blk (f 26)), 0, none⟩) := k0
      have hs163 : f 163 = .agg #[.int .i64 (0), .int .i64 (0)] := k1
      refine ob_start (L' := pt (blk (f 26)) (.cells #[.int .i64 (0), .int .i64 (0)] 30) :: M) (by rfl) (up_cons (up_cons rfl hs26) hs163) ?_
      refine l_mu rfl rfl (m_store 0 tf5 (b := (blk (f 26))) (o := 0) (T := 30) (cs := #[.int .i64 (0), .int .i64 (0)]) (cs' := #[.int .i64 (0), .int .i64 (0)]) (v := .agg #[.int .i64 (0), .int .i64 (0)]) rfl rfl rfl rfl rfl rfl rfl) ?_
      refine l_nil ?_
      exact f_owes_n (up_cons (up_cons rfl hs26) hs163) trivial (perm_front 0 rfl)
    · rintro f M ⟨k0, k1, -⟩ -
      have hs27 : f 27 = .pointer (some ⟨(blk (f 27)), 0, none⟩) := k0
      have hs167 : f 167 = .agg #[.int .i64 (0), .int .i64 (0), .int .i64 (0), .int .i64 (0)] := k1
      refine ob_start (L' := pt (blk (f 27)) (.cells #[.int .i64 (0), .int .i64 (0), .int .i64 (0), .int .i64 (0)] 46) :: M) (by rfl) (up_cons (up_cons rfl hs27) hs167) ?_
      refine l_mu rfl rfl (m_store 0 tf4 (b := (blk (f 27))) (o := 0) (T := 46) (cs := #[.int .i64 (0), .int .i64 (0), .int .i64 (0), .int .i64 (0)]) (cs' := #[.int .i64 (0), .int .i64 (0), .int .i64 (0), .int .i64 (0)]) (v := .agg #[.int .i64 (0), .int .i64 (0), .int .i64 (0), .int .i64 (0)]) rfl rfl rfl rfl rfl rfl rfl) ?_
      refine l_nil ?_
      exact f_owes_n (up_cons (up_cons rfl hs27) hs167) trivial (perm_front 0 rfl)
    rintro fa104 ⟨-, -, -, -, -, -, -, -, k8, k9, -, -, -⟩ ⟨j0, j1, j2, j3, j4, j5, j6, j7, -⟩
    refine f_re (L' := [pt b99 (.cells #[.slice p95 (0) c96, .slice q97 (0) d98, .int .i64 (0), .int .i64 (0)] 32), pt b94 (.cells #[.int .i64 (40)] 3), pt b11 (.cells #[.int .i64 (40), .int .i64 (0), .int .i64 (0), .int .i64 (0), .int .i64 (0), .int .i64 (10), .int .i64 (10), .bool false, .bool false] 39), pt b10 (.cells #[.slice rp14 (B0.length) rc15, .slice q8 (R.length) d9, Ix (lo), .int .i64 (0)] 32), rowF BodyF 39 rp14 rc15 B0, rowF RopeF 49 q8 d9 R, pt (blk (fa104 26)) (.cells #[.int .i64 (0), .int .i64 (0)] 30), pt (blk (fa104 27)) (.cells #[.int .i64 (0), .int .i64 (0), .int .i64 (0), .int .i64 (0)] 46)]) (by rfl) ?_
    refine f_rebase (d := 12) (v := .pointer (some ⟨b10, 0, none⟩)) j0 ?_
    refine f_rebase (d := 17) (v := .int .i64 (6)) j1 ?_
    refine f_rebase (d := 19) (v := .int .i64 (6)) j2 ?_
    refine f_rebase (d := 21) (v := .int .i64 (6)) j3 ?_
    refine f_rebase (d := 22) (v := .slice p92 (0) c93) j4 ?_
    refine f_rebase (d := 23) (v := .int .i64 (2)) j5 ?_
    refine f_rebase (d := 24) (v := .pointer (some ⟨b99, 0, none⟩)) j6 ?_
    refine f_rebase (d := 25) (v := .int .i64 (2)) j7 ?_
    refine f_rebase (d := 26) (v := .pointer (some ⟨(blk (fa104 26)), 0, none⟩)) k8 ?_
    refine f_rebase (d := 27) (v := .pointer (some ⟨(blk (fa104 27)), 0, none⟩)) k9 ?_
    refine f_then ?_
    refine c_seq ?_
    refine c_region ?_
    refine l_val (v := .int .i64 (6)) rfl rfl rfl (e_move) ?_
    refine l_val (v := .bool true) rfl rfl rfl (e_eql (a := (6 : Int)) (b := (6 : Int)) rfl rfl) ?_
    refine l_val (v := .bool true) rfl rfl rfl (e_move) ?_
    refine g_val (v := .int .i64 (6)) rfl rfl rfl rfl rfl (e_move) ?_
    refine g_val (v := .bool true) rfl rfl rfl rfl rfl (e_eql (a := (6 : Int)) (b := (6 : Int)) rfl rfl) ?_
    refine l_val (v := .bool true) rfl rfl rfl (e_pick_t rfl) ?_
    refine l_val (v := .bool true) rfl rfl rfl (e_move) ?_
    refine g_val (v := .int .i64 (6)) rfl rfl rfl rfl rfl (e_move) ?_
    refine g_val (v := .bool true) rfl rfl rfl rfl rfl (e_eql (a := (6 : Int)) (b := (6 : Int)) rfl rfl) ?_
    refine l_val (v := .bool true) rfl rfl rfl (e_pick_t rfl) ?_
    refine l_val (v := .bool true) rfl rfl rfl (e_move) ?_
    refine g_val (v := .int .i64 (2)) rfl rfl rfl rfl rfl (e_move) ?_
    refine g_val (v := .bool true) rfl rfl rfl rfl rfl (e_eql (a := (2 : Int)) (b := (2 : Int)) rfl rfl) ?_
    refine l_val (v := .bool true) rfl rfl rfl (e_pick_t rfl) ?_
    refine l_val (v := .bool true) rfl rfl rfl (e_move) ?_
    refine g_val (v := .int .i64 (2)) rfl rfl rfl rfl rfl (e_move) ?_
    refine g_val (v := .bool true) rfl rfl rfl rfl rfl (e_eql (a := (2 : Int)) (b := (2 : Int)) rfl rfl) ?_
    refine l_val (v := .bool true) rfl rfl rfl (e_pick_t rfl) ?_
    refine l_val (v := .bool true) rfl rfl rfl (e_move) ?_
    refine g_val (v := .slice p92 (0) c93) rfl rfl rfl rfl rfl (e_move) ?_
    refine g_val (v := Nx (0)) rfl rfl rfl rfl rfl (e_len (a := p92) (n := 0) (c := c93) rfl tf64) ?_
    refine g_val (v := .pointer (some ⟨b99, 0, none⟩)) rfl rfl rfl rfl rfl (e_fieldPt (b := b99) (o := 0) rfl tf33) ?_
    refine g_val (v := .slice p95 (0) c96) rfl rfl rfl rfl rfl (e_load1 tf26 (v := .slice p95 (0) c96) rfl (k_pt 0 (cs := #[.slice p95 (0) c96, .slice q97 (0) d98, .int .i64 (0), .int .i64 (0)]) (vs := [.slice p95 (0) c96]) rfl rfl)) ?_
    refine g_val (v := Nx (0)) rfl rfl rfl rfl rfl (e_len (a := p95) (n := 0) (c := c96) rfl tf15) ?_
    refine g_val (v := Nx (0 + 0)) rfl rfl rfl rfl rfl (e_add (a := ((0 : Nat) : Int)) (b := ((0 : Nat) : Int)) rfl rfl (i64n (by omega) (by omega))) ?_
    refine g_val (v := .pointer (some ⟨b99, 1, none⟩)) rfl rfl rfl rfl rfl (e_fieldPt (b := b99) (o := 0) rfl tf52) ?_
    refine g_val (v := .slice q97 (0) d98) rfl rfl rfl rfl rfl (e_load1 tf53 (v := .slice q97 (0) d98) rfl (k_pt 0 (cs := #[.slice p95 (0) c96, .slice q97 (0) d98, .int .i64 (0), .int .i64 (0)]) (vs := [.slice q97 (0) d98]) rfl rfl)) ?_
    refine g_val (v := Nx (0)) rfl rfl rfl rfl rfl (e_len (a := q97) (n := 0) (c := d98) rfl tf54) ?_
    refine g_val (v := Nx ((0 + 0) + 0)) rfl rfl rfl rfl rfl (e_add (a := ((0 + 0 : Nat) : Int)) (b := ((0 : Nat) : Int)) rfl rfl (i64n (by omega) (by omega))) ?_
    refine g_val (v := .bool (decide ((((0 + 0) + 0 : Nat) : Int) = (0 : Int)))) rfl rfl rfl rfl rfl (e_eql (a := (((0 + 0) + 0 : Nat) : Int)) (b := (0 : Int)) rfl rfl) ?_
    refine l_val (v := .bool (decide ((((0 + 0) + 0 : Nat) : Int) = (0 : Int)))) rfl rfl rfl (e_pick_t rfl) ?_
    refine l_val (v := .bool (decide ((((0 + 0) + 0 : Nat) : Int) = (0 : Int)))) rfl rfl rfl (e_move) ?_
    refine l_split (s := 199) (p := (((0 + 0) + 0 : Nat) : Int) = (0 : Int)) rfl (fun h => ?_) (fun h => ?_)
    rotate_left; exact absurd (by decide) h
    refine g_val (v := .agg #[.int .i64 (0), .int .i64 (0)]) rfl rfl rfl rfl rfl (e_load tf5 (cs := [.int .i64 (0), .int .i64 (0)]) rfl (k_pt 6 (cs := #[.int .i64 (0), .int .i64 (0)]) (vs := [.int .i64 (0), .int .i64 (0)]) rfl rfl) rfl) ?_
    refine g_val (v := .agg #[.int .i64 (0), .int .i64 (0)]) rfl rfl rfl rfl rfl (e_build tf8 tf13 (vs := []) (cells := #[.int .i64 (0), .int .i64 (0)]) rfl rfl) ?_
    refine g_val (v := .bool true) rfl rfl rfl rfl rfl ((ev_t (by decide) (e_eql_t (p := (0 : Int) = (0 : Int) ∧ (0 : Int) = (0 : Int)) (xs := [.int .i64 (0), .int .i64 (0)]) (ys := [.int .i64 (0), .int .i64 (0)]) tf92 tf93 tf94 rfl rfl rfl rfl vec_eq))) ?_
    refine l_val (v := .bool true) rfl rfl rfl (e_pick_t rfl) ?_
    refine l_val (v := .bool true) rfl rfl rfl (e_move) ?_
    refine g_val (v := .agg #[.int .i64 (0), .int .i64 (0), .int .i64 (0), .int .i64 (0)]) rfl rfl rfl rfl rfl (e_load tf4 (cs := [.int .i64 (0), .int .i64 (0), .int .i64 (0), .int .i64 (0)]) rfl (k_pt 7 (cs := #[.int .i64 (0), .int .i64 (0), .int .i64 (0), .int .i64 (0)]) (vs := [.int .i64 (0), .int .i64 (0), .int .i64 (0), .int .i64 (0)]) rfl rfl) rfl) ?_
    refine g_val (v := .agg #[.int .i64 (0), .int .i64 (0), .int .i64 (0), .int .i64 (0)]) rfl rfl rfl rfl rfl (e_build tf0 tf3 (vs := []) (cells := #[.int .i64 (0), .int .i64 (0), .int .i64 (0), .int .i64 (0)]) rfl rfl) ?_
    refine g_val (v := .bool true) rfl rfl rfl rfl rfl ((ev_t (by decide) (e_eql_t (p := (0 : Int) = (0 : Int) ∧ (0 : Int) = (0 : Int) ∧ (0 : Int) = (0 : Int) ∧ (0 : Int) = (0 : Int)) (xs := [.int .i64 (0), .int .i64 (0), .int .i64 (0), .int .i64 (0)]) (ys := [.int .i64 (0), .int .i64 (0), .int .i64 (0), .int .i64 (0)]) tf78 tf79 tf80 rfl rfl rfl rfl arr4_eq))) ?_
    refine l_val (v := .bool true) rfl rfl rfl (e_pick_t rfl) ?_
    refine l_val (v := .bool true) rfl rfl rfl (e_move) ?_
    refine g_val (v := .agg #[.slice rp14 (B0.length) rc15, .slice q8 (R.length) d9, Ix (lo), .int .i64 (0)]) rfl rfl rfl rfl rfl (e_load tf31 (cs := [.slice rp14 (B0.length) rc15, .slice q8 (R.length) d9, Ix (lo), .int .i64 (0)]) rfl (k_pt 3 (cs := #[.slice rp14 (B0.length) rc15, .slice q8 (R.length) d9, Ix (lo), .int .i64 (0)]) (vs := [.slice rp14 (B0.length) rc15, .slice q8 (R.length) d9, Ix (lo), .int .i64 (0)]) rfl rfl) rfl) ?_
    refine g_call rfl rfl rfl rfl rfl (cl_value (fst := []) (cap := []) (vs := [.agg #[.slice rp14 (B0.length) rc15, .slice q8 (R.length) d9, Ix (lo), .int .i64 (0)]]) (all := [.agg #[.slice rp14 (B0.length) rc15, .slice q8 (R.length) d9, Ix (lo), .int .i64 (0)]]) tf32 rfl rfl rfl) ?_
    intro w hw
    obtain ⟨β1, sb, kn, hw1, back⟩ := St.frame_all hw
    refine (validE_ok β1 w hw1 _ _ lo 0 B0 R (kn _ (k_flN 4 (F := BodyF) (m := B0.length) rfl rfl)) (kn _ (k_flN 5 (F := RopeF) (m := R.length) rfl rfl)) (by omega) (by omega) hno).mono ?_
    rintro e w' ⟨rfl, hw'⟩
    refine ⟨_, rfl, _, back _ _ hw', ?_⟩
    clear hw hw1 hw' back kn sb
    refine g_val (v := .bool true) rfl rfl rfl rfl rfl (e_not (a := false) rfl) ?_
    refine l_val (v := .bool true) rfl rfl rfl (e_pick_t rfl) ?_
    refine l_val (v := .bool true) rfl rfl rfl (e_assign) ?_
    refine l_nil ?_
    refine f_then ?_
    refine c_ret ?_
    refine ret1 Try.results8 (v := .bool true) rfl ?_
    intro w hw
    exact ⟨rfl, st_mask [false, false, false, false, false, false, false, false] rfl hw⟩
  refine c_seq ?_
  refine c_region ?_
  refine l_val (v := .bool (decide (((way.toNat % 10 : Nat) : Int) = (5 : Int)))) rfl rfl rfl (e_eql (a := ((way.toNat % 10 : Nat) : Int)) (b := (5 : Int)) rfl rfl) ?_
  refine l_val (v := .bool (decide (((way.toNat % 10 : Nat) : Int) = (5 : Int)))) rfl rfl rfl (e_assign) ?_
  refine l_nil ?_
  refine f_then ?_
  refine c_if (((way.toNat % 10 : Nat) : Int) = (5 : Int)) rfl (fun hc105 => ?_) (fun hc105 => ?_)
  ·
    refine c_region ?_
    refine l_val (v := Ix (hi)) rfl rfl rfl (e_move) ?_
    refine l_val (v := .pointer (some ⟨b10, 2, none⟩)) rfl rfl rfl (e_fieldPt (b := b10) (o := 0) rfl tf40) ?_
    refine l_val (v := .pointer (some ⟨b10, 3, none⟩)) rfl rfl rfl (e_fieldPt (b := b10) (o := 2) rfl tf12) ?_
    refine l_mu rfl rfl (m_store 1 tf11 (b := b10) (o := 3) (T := 32) (cs := #[.slice rp14 (B0.length) rc15, .slice q8 (R.length) d9, .int .i64 (0), .int .i64 (0)]) (cs' := #[.slice rp14 (B0.length) rc15, .slice q8 (R.length) d9, .int .i64 (0), Ix (hi)]) (v := Ix (hi)) rfl rfl rfl rfl rfl rfl rfl) ?_
    refine l_nil ?_
    refine f_block ?_
    refine f_then ?_
    refine c_seq ?_
    have hno : ¬ okS B0 R 0 hi := no_pull (fun q => by have := q.2.2.2; omega)
    refine c_region ?_
    refine l_val (v := .agg #[.slice rp14 (B0.length) rc15, .slice q8 (R.length) d9, .int .i64 (0), Ix (hi)]) rfl rfl rfl (e_load tf31 (cs := [.slice rp14 (B0.length) rc15, .slice q8 (R.length) d9, .int .i64 (0), Ix (hi)]) rfl (k_pt 1 (cs := #[.slice rp14 (B0.length) rc15, .slice q8 (R.length) d9, .int .i64 (0), Ix (hi)]) (vs := [.slice rp14 (B0.length) rc15, .slice q8 (R.length) d9, .int .i64 (0), Ix (hi)]) rfl rfl) rfl) ?_
    refine l_call rfl rfl rfl (cl_value (fst := []) (cap := []) (vs := [.agg #[.slice rp14 (B0.length) rc15, .slice q8 (R.length) d9, .int .i64 (0), Ix (hi)]]) (all := [.agg #[.slice rp14 (B0.length) rc15, .slice q8 (R.length) d9, .int .i64 (0), Ix (hi)]]) tf75 rfl rfl rfl) ?_
    intro w hw
    obtain ⟨β1, sb, kn, hw1, back⟩ := St.frame_all hw
    refine (islE_ok β1 w hw1 _ _ 0 hi B0 R (kn _ (k_flN 2 (F := BodyF) (m := B0.length) rfl rfl)) (kn _ (k_flN 3 (F := RopeF) (m := R.length) rfl rfl)) (by omega) (by omega) hno).mono ?_
    rintro e w' ⟨p106, c107, rfl, hw'⟩
    refine ⟨_, rfl, _, back _ _ hw', ?_⟩
    clear hw hw1 hw' back kn sb
    refine l_val (v := .tuple #[.slice p106 (0) c107, .int .i64 (2)]) rfl rfl rfl (e_move) ?_
    refine l_val (v := .slice p106 (0) c107) rfl rfl rfl (e_extract (vs := #[.slice p106 (0) c107, .int .i64 (2)]) rfl rfl) ?_
    refine l_val (v := .int .i64 (2)) rfl rfl rfl (e_extract (vs := #[.slice p106 (0) c107, .int .i64 (2)]) rfl rfl) ?_
    refine l_val (v := .slice p106 (0) c107) rfl rfl rfl (e_assign) ?_
    refine l_val (v := .int .i64 (2)) rfl rfl rfl (e_assign) ?_
    refine l_nil ?_
    refine f_then ?_
    refine c_seq ?_
    refine c_region ?_
    refine l_val (v := .agg #[.slice rp14 (B0.length) rc15, .slice q8 (R.length) d9, .int .i64 (0), Ix (hi)]) rfl rfl rfl (e_load tf31 (cs := [.slice rp14 (B0.length) rc15, .slice q8 (R.length) d9, .int .i64 (0), Ix (hi)]) rfl (k_pt 1 (cs := #[.slice rp14 (B0.length) rc15, .slice q8 (R.length) d9, .int .i64 (0), Ix (hi)]) (vs := [.slice rp14 (B0.length) rc15, .slice q8 (R.length) d9, .int .i64 (0), Ix (hi)]) rfl rfl) rfl) ?_
    refine l_mv rfl rfl rfl (m_slices tf23 tf24 (vs := [(0, .int .i64 (40))]) (cells := #[.int .i64 (40)]) rfl rfl rfl rfl) ?_
    rintro _ _ ⟨b108, rfl, rfl⟩
    refine l_call rfl rfl rfl (cl_value (fst := []) (cap := []) (vs := [.agg #[.slice rp14 (B0.length) rc15, .slice q8 (R.length) d9, .int .i64 (0), Ix (hi)], .slice (some ⟨b108, 0, none⟩) 1 1]) (all := [.agg #[.slice rp14 (B0.length) rc15, .slice q8 (R.length) d9, .int .i64 (0), Ix (hi)], .slice (some ⟨b108, 0, none⟩) 1 1]) tf76 rfl rfl rfl) ?_
    intro w hw
    obtain ⟨β1, sb, kn, hw1, back⟩ := St.frame_all hw
    refine (partE_ok β1 w hw1 _ _ _ 0 hi B0 R [40] (kn _ (k_flN 3 (F := BodyF) (m := B0.length) rfl rfl)) (kn _ (k_flN 4 (F := RopeF) (m := R.length) rfl rfl)) (kn _ (k_ptFls (F := IntF) 0 (m := 1) (xs := [40]) rfl rfl rfl (by decide))) (by omega) (by omega) 2 (by decide) (errPt_bad hno [40])).mono ?_
    rintro e w' ⟨p109, c110, q111, d112, rfl, hw'⟩
    refine ⟨_, rfl, _, back _ _ hw', ?_⟩
    clear hw hw1 hw' back kn sb
    refine l_val (v := .tuple #[.agg #[.slice p109 (0) c110, .slice q111 (0) d112, .int .i64 (0), .int .i64 (0)], .int .i64 (2)]) rfl rfl rfl (e_move) ?_
    refine l_val (v := .agg #[.slice p109 (0) c110, .slice q111 (0) d112, .int .i64 (0), .int .i64 (0)]) rfl rfl rfl (e_extract (vs := #[.agg #[.slice p109 (0) c110, .slice q111 (0) d112, .int .i64 (0), .int .i64 (0)], .int .i64 (2)]) rfl rfl) ?_
    refine l_val (v := .int .i64 (2)) rfl rfl rfl (e_extract (vs := #[.agg #[.slice p109 (0) c110, .slice q111 (0) d112, .int .i64 (0), .int .i64 (0)], .int .i64 (2)]) rfl rfl) ?_
    refine l_mv rfl rfl rfl (m_alloc tf67) ?_
    rintro _ _ ⟨b113, rfl, rfl⟩
    refine l_mu rfl rfl (m_store 0 tf31 (b := b113) (o := 0) (T := 32) (cs := #[.slice none 0 0, .slice none 0 0, .int .i64 (0), .int .i64 (0)]) (cs' := #[.slice p109 (0) c110, .slice q111 (0) d112, .int .i64 (0), .int .i64 (0)]) (v := .agg #[.slice p109 (0) c110, .slice q111 (0) d112, .int .i64 (0), .int .i64 (0)]) rfl rfl rfl rfl rfl rfl rfl) ?_
    refine l_val (v := .int .i64 (2)) rfl rfl rfl (e_assign) ?_
    refine l_nil ?_
    refine f_then ?_
    refine c_seq ?_
    have hvx : ¬ okV hi 0 := fun q => by have := q.2.1; omega
    have hvy : ¬ okV 0 lo := fun q => by have := q.2.2.1; omega
    refine c_any [⟨[], [], [0], [160], fun f => f 160 = .agg #[.int .i64 (40), .int .i64 (0), .int .i64 (0), .int .i64 (0), .int .i64 (0), .int .i64 (10), .int .i64 (10), .bool false, .bool false]⟩, ⟨[], [], [1], [161], fun f => f 161 = Ix (hi)⟩, ⟨[1], [1], [], [162], fun f => f 162 = .agg #[Ix (hi), .int .i64 (0)]⟩, ⟨[0, 1, 2], [0, 2], [], [163], fun f => f 163 = .agg #[.int .i64 (0), .int .i64 (0)]⟩, ⟨[], [], [0], [164], fun f => f 164 = .agg #[.int .i64 (40), .int .i64 (0), .int .i64 (0), .int .i64 (0), .int .i64 (0), .int .i64 (10), .int .i64 (10), .bool false, .bool false]⟩, ⟨[], [], [2], [165], fun f => f 165 = Ix (lo)⟩, ⟨[5], [5], [], [166], fun f => f 166 = .agg #[.int .i64 (0), Ix (lo)]⟩, ⟨[0, 1, 2, 3, 4, 5, 6], [4, 6], [], [167], fun f => f 167 = .agg #[.int .i64 (0), .int .i64 (0), .int .i64 (0), .int .i64 (0)]⟩, ⟨[], [], [], [26], fun f => f 26 = .pointer (some ⟨(blk (f 26)), 0, none⟩)⟩, ⟨[], [], [], [27], fun f => f 27 = .pointer (some ⟨(blk (f 27)), 0, none⟩)⟩, ⟨[0, 1, 2, 3, 4, 5, 6, 7, 8, 9], [8, 3], [], [], fun _ => True⟩, ⟨[0, 1, 2, 3, 4, 5, 6, 7, 8, 9, 10], [9, 7], [], [], fun _ => True⟩] [⟨none, none, [], [], fun _ => pt b113 (.cells #[.slice p109 (0) c110, .slice q111 (0) d112, .int .i64 (0), .int .i64 (0)] 32)⟩, ⟨none, none, [], [], fun _ => pt b108 (.cells #[.int .i64 (40)] 3)⟩, ⟨none, none, [0, 4], [], fun _ => pt b11 (.cells #[.int .i64 (40), .int .i64 (0), .int .i64 (0), .int .i64 (0), .int .i64 (0), .int .i64 (10), .int .i64 (10), .bool false, .bool false] 39)⟩, ⟨none, none, [], [], fun _ => pt b10 (.cells #[.slice rp14 (B0.length) rc15, .slice q8 (R.length) d9, .int .i64 (0), Ix (hi)] 32)⟩, ⟨none, none, [], [], fun _ => rowF BodyF 39 rp14 rc15 B0⟩, ⟨none, none, [], [], fun _ => rowF RopeF 49 q8 d9 R⟩, ⟨(some 8), (some 10), [10], [26], fun f => pt (blk (f 26)) (.cells #[.int .i64 (0), .int .i64 (0)] 30)⟩, ⟨(some 9), (some 11), [11], [27], fun f => pt (blk (f 27)) (.cells #[.int .i64 (0), .int .i64 (0), .int .i64 (0), .int .i64 (0)] 46)⟩, ⟨(some 10), none, [], [26], fun f => pt (blk (f 26)) (.cells #[.int .i64 (0), .int .i64 (0)] 30)⟩, ⟨(some 11), none, [], [27], fun f => pt (blk (f 27)) (.cells #[.int .i64 (0), .int .i64 (0), .int .i64 (0), .int .i64 (0)] 46)⟩] [(13, .pointer (some ⟨b11, 0, none⟩)), (4, Ix (hi)), (3, Ix (lo)), (12, .pointer (some ⟨b10, 0, none⟩)), (17, .int .i64 (6)), (19, .int .i64 (6)), (21, .int .i64 (6)), (22, .slice p106 (0) c107), (23, .int .i64 (2)), (24, .pointer (some ⟨b113, 0, none⟩)), (25, .int .i64 (2))] [3, 4, 5, 6, 7, 8, 9, 10] [] (by kernel_rfl) (by kernel_rfl) (by kernel_rfl) (by kernel_rfl) rfl ⟨rfl, rfl, rfl, rfl, rfl, rfl, rfl, rfl, rfl, rfl, rfl, trivial⟩ ⟨?_, ?_, ?_, ?_, ?_, ?_, ?_, ?_, ?_, ?_, ?_, ?_, trivial⟩ ?_
    · rintro f M - ⟨i0, -⟩
      have hs13 : f 13 = .pointer (some ⟨b11, 0, none⟩) := i0
      refine ob_start (L' := pt b11 (.cells #[.int .i64 (40), .int .i64 (0), .int .i64 (0), .int .i64 (0), .int .i64 (0), .int .i64 (10), .int .i64 (10), .bool false, .bool false] 39) :: M) (by rfl) (up_cons rfl hs13) ?_
      refine l_val (v := .agg #[.int .i64 (40), .int .i64 (0), .int .i64 (0), .int .i64 (0), .int .i64 (0), .int .i64 (10), .int .i64 (10), .bool false, .bool false]) rfl rfl rfl (e_load tf1 (cs := [.int .i64 (40), .int .i64 (0), .int .i64 (0), .int .i64 (0), .int .i64 (0), .int .i64 (10), .int .i64 (10), .bool false, .bool false]) rfl (k_pt 0 (cs := #[.int .i64 (40), .int .i64 (0), .int .i64 (0), .int .i64 (0), .int .i64 (0), .int .i64 (10), .int .i64 (10), .bool false, .bool false]) (vs := [.int .i64 (40), .int .i64 (0), .int .i64 (0), .int .i64 (0), .int .i64 (0), .int .i64 (10), .int .i64 (10), .bool false, .bool false]) rfl rfl) rfl) ?_
      refine l_nil ?_
      exact f_owes_d (up_cons rfl hs13) rfl (perm_front 0 rfl)
    · rintro f M - ⟨i0, -⟩
      have hs4 : f 4 = Ix (hi) := i0
      refine ob_start (L' := M) (by rfl) (up_cons rfl hs4) ?_
      refine l_val (v := Ix (hi)) rfl rfl rfl (e_move) ?_
      refine l_nil ?_
      exact f_owes_d (up_cons rfl hs4) rfl (List.Perm.refl _)
    · rintro f M ⟨k0, -⟩ -
      have hs161 : f 161 = Ix (hi) := k0
      refine ob_start (L' := M) (by rfl) (up_cons rfl hs161) ?_
      refine l_val (v := .agg #[Ix (hi), .int .i64 (0)]) rfl rfl rfl (e_build tf8 tf13 (vs := [(0, Ix (hi))]) (cells := #[Ix (hi), .int .i64 (0)]) rfl rfl) ?_
      refine l_nil ?_
      exact f_owes_d (up_cons rfl hs161) rfl (List.Perm.refl _)
    · rintro f M ⟨k0, k1, -⟩ -
      have hs160 : f 160 = .agg #[.int .i64 (40), .int .i64 (0), .int .i64 (0), .int .i64 (0), .int .i64 (0), .int .i64 (10), .int .i64 (10), .bool false, .bool false] := k0
      have hs162 : f 162 = .agg #[Ix (hi), .int .i64 (0)] := k1
      refine ob_start (L' := M) (by rfl) (up_cons (up_cons rfl hs160) hs162) ?_
      refine l_call rfl rfl rfl (cl_value (fst := []) (cap := []) (vs := [.agg #[.int .i64 (40), .int .i64 (0), .int .i64 (0), .int .i64 (0), .int .i64 (0), .int .i64 (10), .int .i64 (10), .bool false, .bool false], .agg #[Ix (hi), .int .i64 (0)]]) (all := [.agg #[.int .i64 (40), .int .i64 (0), .int .i64 (0), .int .i64 (0), .int .i64 (0), .int .i64 (10), .int .i64 (10), .bool false, .bool false], .agg #[Ix (hi), .int .i64 (0)]]) tf9 rfl rfl rfl) ?_
      intro w hw
      obtain ⟨β1, sb, kn, hw1, back⟩ := St.frame_all hw
      refine (speedE_ok β1 w hw1 ib0 hi 0 (by omega) (by omega) hvx).mono ?_
      rintro e w' ⟨rfl, hw'⟩
      refine ⟨_, rfl, _, back _ _ hw', ?_⟩
      clear hw hw1 hw' back kn sb
      refine l_nil ?_
      exact f_owes_d (up_cons (up_cons rfl hs160) hs162) rfl (List.Perm.refl _)
    · rintro f M - ⟨i0, -⟩
      have hs13 : f 13 = .pointer (some ⟨b11, 0, none⟩) := i0
      refine ob_start (L' := pt b11 (.cells #[.int .i64 (40), .int .i64 (0), .int .i64 (0), .int .i64 (0), .int .i64 (0), .int .i64 (10), .int .i64 (10), .bool false, .bool false] 39) :: M) (by rfl) (up_cons rfl hs13) ?_
      refine l_val (v := .agg #[.int .i64 (40), .int .i64 (0), .int .i64 (0), .int .i64 (0), .int .i64 (0), .int .i64 (10), .int .i64 (10), .bool false, .bool false]) rfl rfl rfl (e_load tf1 (cs := [.int .i64 (40), .int .i64 (0), .int .i64 (0), .int .i64 (0), .int .i64 (0), .int .i64 (10), .int .i64 (10), .bool false, .bool false]) rfl (k_pt 0 (cs := #[.int .i64 (40), .int .i64 (0), .int .i64 (0), .int .i64 (0), .int .i64 (0), .int .i64 (10), .int .i64 (10), .bool false, .bool false]) (vs := [.int .i64 (40), .int .i64 (0), .int .i64 (0), .int .i64 (0), .int .i64 (0), .int .i64 (10), .int .i64 (10), .bool false, .bool false]) rfl rfl) rfl) ?_
      refine l_nil ?_
      exact f_owes_d (up_cons rfl hs13) rfl (perm_front 0 rfl)
    · rintro f M - ⟨i0, -⟩
      have hs3 : f 3 = Ix (lo) := i0
      refine ob_start (L' := M) (by rfl) (up_cons rfl hs3) ?_
      refine l_val (v := Ix (lo)) rfl rfl rfl (e_move) ?_
      refine l_nil ?_
      exact f_owes_d (up_cons rfl hs3) rfl (List.Perm.refl _)
    · rintro f M ⟨k0, -⟩ -
      have hs165 : f 165 = Ix (lo) := k0
      refine ob_start (L' := M) (by rfl) (up_cons rfl hs165) ?_
      refine l_val (v := .agg #[.int .i64 (0), Ix (lo)]) rfl rfl rfl (e_build tf8 tf13 (vs := [(1, Ix (lo))]) (cells := #[.int .i64 (0), Ix (lo)]) rfl rfl) ?_
      refine l_nil ?_
      exact f_owes_d (up_cons rfl hs165) rfl (List.Perm.refl _)
    · rintro f M ⟨k0, k1, -⟩ -
      have hs164 : f 164 = .agg #[.int .i64 (40), .int .i64 (0), .int .i64 (0), .int .i64 (0), .int .i64 (0), .int .i64 (10), .int .i64 (10), .bool false, .bool false] := k0
      have hs166 : f 166 = .agg #[.int .i64 (0), Ix (lo)] := k1
      refine ob_start (L' := M) (by rfl) (up_cons (up_cons rfl hs164) hs166) ?_
      refine l_call rfl rfl rfl (cl_value (fst := []) (cap := []) (vs := [.agg #[.int .i64 (40), .int .i64 (0), .int .i64 (0), .int .i64 (0), .int .i64 (0), .int .i64 (10), .int .i64 (10), .bool false, .bool false], .agg #[.int .i64 (0), Ix (lo)]]) (all := [.agg #[.int .i64 (40), .int .i64 (0), .int .i64 (0), .int .i64 (0), .int .i64 (0), .int .i64 (10), .int .i64 (10), .bool false, .bool false], .agg #[.int .i64 (0), Ix (lo)]]) tf41 rfl rfl rfl) ?_
      intro w hw
      obtain ⟨β1, sb, kn, hw1, back⟩ := St.frame_all hw
      refine (reachE_ok β1 w hw1 ib0 0 lo (by omega) (by omega) hvy).mono ?_
      rintro e w' ⟨rfl, hw'⟩
      refine ⟨_, rfl, _, back _ _ hw', ?_⟩
      clear hw hw1 hw' back kn sb
      refine l_nil ?_
      exact f_owes_d (up_cons (up_cons rfl hs164) hs166) rfl (List.Perm.refl _)
    · rintro f M - -
      refine ob_start (L' := M) (by rfl) rfl ?_
      refine l_mv rfl rfl rfl (m_alloc tf8) ?_
      rintro _ _ ⟨b115, rfl, rfl⟩
      refine l_nil ?_
      exact f_owes_d rfl rfl (perm_front 0 rfl)
    · rintro f M - -
      refine ob_start (L' := M) (by rfl) rfl ?_
      refine l_mv rfl rfl rfl (m_alloc tf0) ?_
      rintro _ _ ⟨b117, rfl, rfl⟩
      refine l_nil ?_
      exact f_owes_d rfl rfl (perm_front 0 rfl)
    · rintro f M ⟨k0, k1, -⟩ -
      have hs26 : f 26 = .pointer (some ⟨(blk (f 26)), 0, none⟩) := k0
      have hs163 : f 163 = .agg #[.int .i64 (0), .int .i64 (0)] := k1
      refine ob_start (L' := pt (blk (f 26)) (.cells #[.int .i64 (0), .int .i64 (0)] 30) :: M) (by rfl) (up_cons (up_cons rfl hs26) hs163) ?_
      refine l_mu rfl rfl (m_store 0 tf5 (b := (blk (f 26))) (o := 0) (T := 30) (cs := #[.int .i64 (0), .int .i64 (0)]) (cs' := #[.int .i64 (0), .int .i64 (0)]) (v := .agg #[.int .i64 (0), .int .i64 (0)]) rfl rfl rfl rfl rfl rfl rfl) ?_
      refine l_nil ?_
      exact f_owes_n (up_cons (up_cons rfl hs26) hs163) trivial (perm_front 0 rfl)
    · rintro f M ⟨k0, k1, -⟩ -
      have hs27 : f 27 = .pointer (some ⟨(blk (f 27)), 0, none⟩) := k0
      have hs167 : f 167 = .agg #[.int .i64 (0), .int .i64 (0), .int .i64 (0), .int .i64 (0)] := k1
      refine ob_start (L' := pt (blk (f 27)) (.cells #[.int .i64 (0), .int .i64 (0), .int .i64 (0), .int .i64 (0)] 46) :: M) (by rfl) (up_cons (up_cons rfl hs27) hs167) ?_
      refine l_mu rfl rfl (m_store 0 tf4 (b := (blk (f 27))) (o := 0) (T := 46) (cs := #[.int .i64 (0), .int .i64 (0), .int .i64 (0), .int .i64 (0)]) (cs' := #[.int .i64 (0), .int .i64 (0), .int .i64 (0), .int .i64 (0)]) (v := .agg #[.int .i64 (0), .int .i64 (0), .int .i64 (0), .int .i64 (0)]) rfl rfl rfl rfl rfl rfl rfl) ?_
      refine l_nil ?_
      exact f_owes_n (up_cons (up_cons rfl hs27) hs167) trivial (perm_front 0 rfl)
    rintro fa118 ⟨-, -, -, -, -, -, -, -, k8, k9, -, -, -⟩ ⟨j0, j1, j2, j3, j4, j5, j6, j7, -⟩
    refine f_re (L' := [pt b113 (.cells #[.slice p109 (0) c110, .slice q111 (0) d112, .int .i64 (0), .int .i64 (0)] 32), pt b108 (.cells #[.int .i64 (40)] 3), pt b11 (.cells #[.int .i64 (40), .int .i64 (0), .int .i64 (0), .int .i64 (0), .int .i64 (0), .int .i64 (10), .int .i64 (10), .bool false, .bool false] 39), pt b10 (.cells #[.slice rp14 (B0.length) rc15, .slice q8 (R.length) d9, .int .i64 (0), Ix (hi)] 32), rowF BodyF 39 rp14 rc15 B0, rowF RopeF 49 q8 d9 R, pt (blk (fa118 26)) (.cells #[.int .i64 (0), .int .i64 (0)] 30), pt (blk (fa118 27)) (.cells #[.int .i64 (0), .int .i64 (0), .int .i64 (0), .int .i64 (0)] 46)]) (by rfl) ?_
    refine f_rebase (d := 12) (v := .pointer (some ⟨b10, 0, none⟩)) j0 ?_
    refine f_rebase (d := 17) (v := .int .i64 (6)) j1 ?_
    refine f_rebase (d := 19) (v := .int .i64 (6)) j2 ?_
    refine f_rebase (d := 21) (v := .int .i64 (6)) j3 ?_
    refine f_rebase (d := 22) (v := .slice p106 (0) c107) j4 ?_
    refine f_rebase (d := 23) (v := .int .i64 (2)) j5 ?_
    refine f_rebase (d := 24) (v := .pointer (some ⟨b113, 0, none⟩)) j6 ?_
    refine f_rebase (d := 25) (v := .int .i64 (2)) j7 ?_
    refine f_rebase (d := 26) (v := .pointer (some ⟨(blk (fa118 26)), 0, none⟩)) k8 ?_
    refine f_rebase (d := 27) (v := .pointer (some ⟨(blk (fa118 27)), 0, none⟩)) k9 ?_
    refine f_then ?_
    refine c_seq ?_
    refine c_region ?_
    refine l_val (v := .int .i64 (6)) rfl rfl rfl (e_move) ?_
    refine l_val (v := .bool true) rfl rfl rfl (e_eql (a := (6 : Int)) (b := (6 : Int)) rfl rfl) ?_
    refine l_val (v := .bool true) rfl rfl rfl (e_move) ?_
    refine g_val (v := .int .i64 (6)) rfl rfl rfl rfl rfl (e_move) ?_
    refine g_val (v := .bool true) rfl rfl rfl rfl rfl (e_eql (a := (6 : Int)) (b := (6 : Int)) rfl rfl) ?_
    refine l_val (v := .bool true) rfl rfl rfl (e_pick_t rfl) ?_
    refine l_val (v := .bool true) rfl rfl rfl (e_move) ?_
    refine g_val (v := .int .i64 (6)) rfl rfl rfl rfl rfl (e_move) ?_
    refine g_val (v := .bool true) rfl rfl rfl rfl rfl (e_eql (a := (6 : Int)) (b := (6 : Int)) rfl rfl) ?_
    refine l_val (v := .bool true) rfl rfl rfl (e_pick_t rfl) ?_
    refine l_val (v := .bool true) rfl rfl rfl (e_move) ?_
    refine g_val (v := .int .i64 (2)) rfl rfl rfl rfl rfl (e_move) ?_
    refine g_val (v := .bool true) rfl rfl rfl rfl rfl (e_eql (a := (2 : Int)) (b := (2 : Int)) rfl rfl) ?_
    refine l_val (v := .bool true) rfl rfl rfl (e_pick_t rfl) ?_
    refine l_val (v := .bool true) rfl rfl rfl (e_move) ?_
    refine g_val (v := .int .i64 (2)) rfl rfl rfl rfl rfl (e_move) ?_
    refine g_val (v := .bool true) rfl rfl rfl rfl rfl (e_eql (a := (2 : Int)) (b := (2 : Int)) rfl rfl) ?_
    refine l_val (v := .bool true) rfl rfl rfl (e_pick_t rfl) ?_
    refine l_val (v := .bool true) rfl rfl rfl (e_move) ?_
    refine g_val (v := .slice p106 (0) c107) rfl rfl rfl rfl rfl (e_move) ?_
    refine g_val (v := Nx (0)) rfl rfl rfl rfl rfl (e_len (a := p106) (n := 0) (c := c107) rfl tf64) ?_
    refine g_val (v := .pointer (some ⟨b113, 0, none⟩)) rfl rfl rfl rfl rfl (e_fieldPt (b := b113) (o := 0) rfl tf33) ?_
    refine g_val (v := .slice p109 (0) c110) rfl rfl rfl rfl rfl (e_load1 tf26 (v := .slice p109 (0) c110) rfl (k_pt 0 (cs := #[.slice p109 (0) c110, .slice q111 (0) d112, .int .i64 (0), .int .i64 (0)]) (vs := [.slice p109 (0) c110]) rfl rfl)) ?_
    refine g_val (v := Nx (0)) rfl rfl rfl rfl rfl (e_len (a := p109) (n := 0) (c := c110) rfl tf15) ?_
    refine g_val (v := Nx (0 + 0)) rfl rfl rfl rfl rfl (e_add (a := ((0 : Nat) : Int)) (b := ((0 : Nat) : Int)) rfl rfl (i64n (by omega) (by omega))) ?_
    refine g_val (v := .pointer (some ⟨b113, 1, none⟩)) rfl rfl rfl rfl rfl (e_fieldPt (b := b113) (o := 0) rfl tf52) ?_
    refine g_val (v := .slice q111 (0) d112) rfl rfl rfl rfl rfl (e_load1 tf53 (v := .slice q111 (0) d112) rfl (k_pt 0 (cs := #[.slice p109 (0) c110, .slice q111 (0) d112, .int .i64 (0), .int .i64 (0)]) (vs := [.slice q111 (0) d112]) rfl rfl)) ?_
    refine g_val (v := Nx (0)) rfl rfl rfl rfl rfl (e_len (a := q111) (n := 0) (c := d112) rfl tf54) ?_
    refine g_val (v := Nx ((0 + 0) + 0)) rfl rfl rfl rfl rfl (e_add (a := ((0 + 0 : Nat) : Int)) (b := ((0 : Nat) : Int)) rfl rfl (i64n (by omega) (by omega))) ?_
    refine g_val (v := .bool (decide ((((0 + 0) + 0 : Nat) : Int) = (0 : Int)))) rfl rfl rfl rfl rfl (e_eql (a := (((0 + 0) + 0 : Nat) : Int)) (b := (0 : Int)) rfl rfl) ?_
    refine l_val (v := .bool (decide ((((0 + 0) + 0 : Nat) : Int) = (0 : Int)))) rfl rfl rfl (e_pick_t rfl) ?_
    refine l_val (v := .bool (decide ((((0 + 0) + 0 : Nat) : Int) = (0 : Int)))) rfl rfl rfl (e_move) ?_
    refine l_split (s := 199) (p := (((0 + 0) + 0 : Nat) : Int) = (0 : Int)) rfl (fun h => ?_) (fun h => ?_)
    rotate_left; exact absurd (by decide) h
    refine g_val (v := .agg #[.int .i64 (0), .int .i64 (0)]) rfl rfl rfl rfl rfl (e_load tf5 (cs := [.int .i64 (0), .int .i64 (0)]) rfl (k_pt 6 (cs := #[.int .i64 (0), .int .i64 (0)]) (vs := [.int .i64 (0), .int .i64 (0)]) rfl rfl) rfl) ?_
    refine g_val (v := .agg #[.int .i64 (0), .int .i64 (0)]) rfl rfl rfl rfl rfl (e_build tf8 tf13 (vs := []) (cells := #[.int .i64 (0), .int .i64 (0)]) rfl rfl) ?_
    refine g_val (v := .bool true) rfl rfl rfl rfl rfl ((ev_t (by decide) (e_eql_t (p := (0 : Int) = (0 : Int) ∧ (0 : Int) = (0 : Int)) (xs := [.int .i64 (0), .int .i64 (0)]) (ys := [.int .i64 (0), .int .i64 (0)]) tf92 tf93 tf94 rfl rfl rfl rfl vec_eq))) ?_
    refine l_val (v := .bool true) rfl rfl rfl (e_pick_t rfl) ?_
    refine l_val (v := .bool true) rfl rfl rfl (e_move) ?_
    refine g_val (v := .agg #[.int .i64 (0), .int .i64 (0), .int .i64 (0), .int .i64 (0)]) rfl rfl rfl rfl rfl (e_load tf4 (cs := [.int .i64 (0), .int .i64 (0), .int .i64 (0), .int .i64 (0)]) rfl (k_pt 7 (cs := #[.int .i64 (0), .int .i64 (0), .int .i64 (0), .int .i64 (0)]) (vs := [.int .i64 (0), .int .i64 (0), .int .i64 (0), .int .i64 (0)]) rfl rfl) rfl) ?_
    refine g_val (v := .agg #[.int .i64 (0), .int .i64 (0), .int .i64 (0), .int .i64 (0)]) rfl rfl rfl rfl rfl (e_build tf0 tf3 (vs := []) (cells := #[.int .i64 (0), .int .i64 (0), .int .i64 (0), .int .i64 (0)]) rfl rfl) ?_
    refine g_val (v := .bool true) rfl rfl rfl rfl rfl ((ev_t (by decide) (e_eql_t (p := (0 : Int) = (0 : Int) ∧ (0 : Int) = (0 : Int) ∧ (0 : Int) = (0 : Int) ∧ (0 : Int) = (0 : Int)) (xs := [.int .i64 (0), .int .i64 (0), .int .i64 (0), .int .i64 (0)]) (ys := [.int .i64 (0), .int .i64 (0), .int .i64 (0), .int .i64 (0)]) tf78 tf79 tf80 rfl rfl rfl rfl arr4_eq))) ?_
    refine l_val (v := .bool true) rfl rfl rfl (e_pick_t rfl) ?_
    refine l_val (v := .bool true) rfl rfl rfl (e_move) ?_
    refine g_val (v := .agg #[.slice rp14 (B0.length) rc15, .slice q8 (R.length) d9, .int .i64 (0), Ix (hi)]) rfl rfl rfl rfl rfl (e_load tf31 (cs := [.slice rp14 (B0.length) rc15, .slice q8 (R.length) d9, .int .i64 (0), Ix (hi)]) rfl (k_pt 3 (cs := #[.slice rp14 (B0.length) rc15, .slice q8 (R.length) d9, .int .i64 (0), Ix (hi)]) (vs := [.slice rp14 (B0.length) rc15, .slice q8 (R.length) d9, .int .i64 (0), Ix (hi)]) rfl rfl) rfl) ?_
    refine g_call rfl rfl rfl rfl rfl (cl_value (fst := []) (cap := []) (vs := [.agg #[.slice rp14 (B0.length) rc15, .slice q8 (R.length) d9, .int .i64 (0), Ix (hi)]]) (all := [.agg #[.slice rp14 (B0.length) rc15, .slice q8 (R.length) d9, .int .i64 (0), Ix (hi)]]) tf32 rfl rfl rfl) ?_
    intro w hw
    obtain ⟨β1, sb, kn, hw1, back⟩ := St.frame_all hw
    refine (validE_ok β1 w hw1 _ _ 0 hi B0 R (kn _ (k_flN 4 (F := BodyF) (m := B0.length) rfl rfl)) (kn _ (k_flN 5 (F := RopeF) (m := R.length) rfl rfl)) (by omega) (by omega) hno).mono ?_
    rintro e w' ⟨rfl, hw'⟩
    refine ⟨_, rfl, _, back _ _ hw', ?_⟩
    clear hw hw1 hw' back kn sb
    refine g_val (v := .bool true) rfl rfl rfl rfl rfl (e_not (a := false) rfl) ?_
    refine l_val (v := .bool true) rfl rfl rfl (e_pick_t rfl) ?_
    refine l_val (v := .bool true) rfl rfl rfl (e_assign) ?_
    refine l_nil ?_
    refine f_then ?_
    refine c_ret ?_
    refine ret1 Try.results8 (v := .bool true) rfl ?_
    intro w hw
    exact ⟨rfl, st_mask [false, false, false, false, false, false, false, false] rfl hw⟩
  refine c_seq ?_
  refine c_region ?_
  refine l_val (v := .bool (decide (((way.toNat % 10 : Nat) : Int) = (6 : Int)))) rfl rfl rfl (e_eql (a := ((way.toNat % 10 : Nat) : Int)) (b := (6 : Int)) rfl rfl) ?_
  refine l_val (v := .bool (decide (((way.toNat % 10 : Nat) : Int) = (6 : Int)))) rfl rfl rfl (e_assign) ?_
  refine l_nil ?_
  refine f_then ?_
  refine c_if (((way.toNat % 10 : Nat) : Int) = (6 : Int)) rfl (fun hc119 => ?_) (fun hc119 => ?_)
  ·
    refine c_region ?_
    refine l_val (v := .pointer (some ⟨b10, 1, none⟩)) rfl rfl rfl (e_fieldPt (b := b10) (o := 0) rfl tf52) ?_
    refine l_val (v := .slice q8 (R.length) d9) rfl rfl rfl (e_load1 tf53 (v := .slice q8 (R.length) d9) rfl (k_pt 1 (cs := #[.slice rp14 (B0.length) rc15, .slice q8 (R.length) d9, .int .i64 (0), .int .i64 (0)]) (vs := [.slice q8 (R.length) d9]) rfl rfl)) ?_
    refine l_val (v := .agg #[.int .i64 (40), .int .i64 (40), .int .i64 (5)]) rfl rfl rfl (e_build tf57 tf74 (vs := [(0, .int .i64 (40)), (1, .int .i64 (40)), (2, .int .i64 (5))]) (cells := #[.int .i64 (40), .int .i64 (40), .int .i64 (5)]) rfl rfl) ?_
    refine l_mv rfl rfl rfl (m_slices tf55 tf57 (vs := [(0, .agg #[.int .i64 (40), .int .i64 (40), .int .i64 (5)])]) (cells := #[.int .i64 (40), .int .i64 (40), .int .i64 (5)]) rfl rfl rfl rfl) ?_
    rintro _ _ ⟨b120, rfl, rfl⟩
    refine l_mv rfl rfl rfl (m_appendFlN (F := RopeF) 4 tf55 tf72 (p := q8) (m := R.length) (xs := R) (ys := [(⟨40, 40, 5⟩ : KR)]) (ao := (some ⟨b120, 0, none⟩)) (k := 1) (c := 1) rfl rfl rfl rfl rfl (k_ptFl (z := (⟨40, 40, 5⟩ : KR)) 0 rfl rfl) (by first | omega | simp only [List.length_nil, List.length_cons, List.length_append, List.length_set]; omega) (by first | omega | simp only [List.length_nil, List.length_cons, List.length_append, List.length_set]; omega)) ?_
    rintro _ _ ⟨rp121, rc122, rfl, rfl⟩
    refine l_val (v := .pointer (some ⟨b10, 1, none⟩)) rfl rfl rfl (e_fieldPt (b := b10) (o := 0) rfl tf52) ?_
    refine l_mu rfl rfl (m_store 2 tf53 (b := b10) (o := 1) (T := 32) (cs := #[.slice rp14 (B0.length) rc15, .slice q8 (R.length) d9, .int .i64 (0), .int .i64 (0)]) (cs' := #[.slice rp14 (B0.length) rc15, .slice rp121 ((R ++ [(⟨40, 40, 5⟩ : KR)]).length) rc122, .int .i64 (0), .int .i64 (0)]) (v := .slice rp121 ((R ++ [(⟨40, 40, 5⟩ : KR)]).length) rc122) rfl rfl rfl rfl rfl rfl rfl) ?_
    refine l_nil ?_
    refine f_block ?_
    refine f_then ?_
    refine c_seq ?_
    have hno : ¬ okS B0 (R ++ [(⟨40, 40, 5⟩ : KR)]) 0 0 := no_rope (fun q => absurd q.2.2.1 (by decide))
    have hRl : (R ++ [(⟨40, 40, 5⟩ : KR)]).length = R.length + 1 := by rw [List.length_append]; rfl
    obtain ⟨Rq, hRq⟩ : ∃ z, z = (R ++ [(⟨40, 40, 5⟩ : KR)]) := ⟨_, rfl⟩
    rw [← hRq] at hno hRl
    rw [← hRq]
    refine c_region ?_
    refine l_val (v := .agg #[.slice rp14 (B0.length) rc15, .slice rp121 (Rq.length) rc122, .int .i64 (0), .int .i64 (0)]) rfl rfl rfl (e_load tf31 (cs := [.slice rp14 (B0.length) rc15, .slice rp121 (Rq.length) rc122, .int .i64 (0), .int .i64 (0)]) rfl (k_pt 2 (cs := #[.slice rp14 (B0.length) rc15, .slice rp121 (Rq.length) rc122, .int .i64 (0), .int .i64 (0)]) (vs := [.slice rp14 (B0.length) rc15, .slice rp121 (Rq.length) rc122, .int .i64 (0), .int .i64 (0)]) rfl rfl) rfl) ?_
    refine l_call rfl rfl rfl (cl_value (fst := []) (cap := []) (vs := [.agg #[.slice rp14 (B0.length) rc15, .slice rp121 (Rq.length) rc122, .int .i64 (0), .int .i64 (0)]]) (all := [.agg #[.slice rp14 (B0.length) rc15, .slice rp121 (Rq.length) rc122, .int .i64 (0), .int .i64 (0)]]) tf75 rfl rfl rfl) ?_
    intro w hw
    obtain ⟨β1, sb, kn, hw1, back⟩ := St.frame_all hw
    refine (islE_ok β1 w hw1 _ _ 0 0 B0 Rq (kn _ (k_flN 3 (F := BodyF) (m := B0.length) rfl rfl)) (kn _ (k_flN 4 (F := RopeF) (m := Rq.length) rfl rfl)) (by omega) (by omega) hno).mono ?_
    rintro e w' ⟨p123, c124, rfl, hw'⟩
    refine ⟨_, rfl, _, back _ _ hw', ?_⟩
    clear hw hw1 hw' back kn sb
    refine l_val (v := .tuple #[.slice p123 (0) c124, .int .i64 (2)]) rfl rfl rfl (e_move) ?_
    refine l_val (v := .slice p123 (0) c124) rfl rfl rfl (e_extract (vs := #[.slice p123 (0) c124, .int .i64 (2)]) rfl rfl) ?_
    refine l_val (v := .int .i64 (2)) rfl rfl rfl (e_extract (vs := #[.slice p123 (0) c124, .int .i64 (2)]) rfl rfl) ?_
    refine l_val (v := .slice p123 (0) c124) rfl rfl rfl (e_assign) ?_
    refine l_val (v := .int .i64 (2)) rfl rfl rfl (e_assign) ?_
    refine l_nil ?_
    refine f_then ?_
    refine c_seq ?_
    refine c_region ?_
    refine l_val (v := .agg #[.slice rp14 (B0.length) rc15, .slice rp121 (Rq.length) rc122, .int .i64 (0), .int .i64 (0)]) rfl rfl rfl (e_load tf31 (cs := [.slice rp14 (B0.length) rc15, .slice rp121 (Rq.length) rc122, .int .i64 (0), .int .i64 (0)]) rfl (k_pt 2 (cs := #[.slice rp14 (B0.length) rc15, .slice rp121 (Rq.length) rc122, .int .i64 (0), .int .i64 (0)]) (vs := [.slice rp14 (B0.length) rc15, .slice rp121 (Rq.length) rc122, .int .i64 (0), .int .i64 (0)]) rfl rfl) rfl) ?_
    refine l_mv rfl rfl rfl (m_slices tf23 tf24 (vs := [(0, .int .i64 (40))]) (cells := #[.int .i64 (40)]) rfl rfl rfl rfl) ?_
    rintro _ _ ⟨b125, rfl, rfl⟩
    refine l_call rfl rfl rfl (cl_value (fst := []) (cap := []) (vs := [.agg #[.slice rp14 (B0.length) rc15, .slice rp121 (Rq.length) rc122, .int .i64 (0), .int .i64 (0)], .slice (some ⟨b125, 0, none⟩) 1 1]) (all := [.agg #[.slice rp14 (B0.length) rc15, .slice rp121 (Rq.length) rc122, .int .i64 (0), .int .i64 (0)], .slice (some ⟨b125, 0, none⟩) 1 1]) tf76 rfl rfl rfl) ?_
    intro w hw
    obtain ⟨β1, sb, kn, hw1, back⟩ := St.frame_all hw
    refine (partE_ok β1 w hw1 _ _ _ 0 0 B0 Rq [40] (kn _ (k_flN 4 (F := BodyF) (m := B0.length) rfl rfl)) (kn _ (k_flN 5 (F := RopeF) (m := Rq.length) rfl rfl)) (kn _ (k_ptFls (F := IntF) 0 (m := 1) (xs := [40]) rfl rfl rfl (by decide))) (by omega) (by omega) 2 (by decide) (errPt_bad hno [40])).mono ?_
    rintro e w' ⟨p126, c127, q128, d129, rfl, hw'⟩
    refine ⟨_, rfl, _, back _ _ hw', ?_⟩
    clear hw hw1 hw' back kn sb
    refine l_val (v := .tuple #[.agg #[.slice p126 (0) c127, .slice q128 (0) d129, .int .i64 (0), .int .i64 (0)], .int .i64 (2)]) rfl rfl rfl (e_move) ?_
    refine l_val (v := .agg #[.slice p126 (0) c127, .slice q128 (0) d129, .int .i64 (0), .int .i64 (0)]) rfl rfl rfl (e_extract (vs := #[.agg #[.slice p126 (0) c127, .slice q128 (0) d129, .int .i64 (0), .int .i64 (0)], .int .i64 (2)]) rfl rfl) ?_
    refine l_val (v := .int .i64 (2)) rfl rfl rfl (e_extract (vs := #[.agg #[.slice p126 (0) c127, .slice q128 (0) d129, .int .i64 (0), .int .i64 (0)], .int .i64 (2)]) rfl rfl) ?_
    refine l_mv rfl rfl rfl (m_alloc tf67) ?_
    rintro _ _ ⟨b130, rfl, rfl⟩
    refine l_mu rfl rfl (m_store 0 tf31 (b := b130) (o := 0) (T := 32) (cs := #[.slice none 0 0, .slice none 0 0, .int .i64 (0), .int .i64 (0)]) (cs' := #[.slice p126 (0) c127, .slice q128 (0) d129, .int .i64 (0), .int .i64 (0)]) (v := .agg #[.slice p126 (0) c127, .slice q128 (0) d129, .int .i64 (0), .int .i64 (0)]) rfl rfl rfl rfl rfl rfl rfl) ?_
    refine l_val (v := .int .i64 (2)) rfl rfl rfl (e_assign) ?_
    refine l_nil ?_
    refine f_then ?_
    refine c_seq ?_
    have hvx : ¬ okV hi 0 := fun q => by have := q.2.1; omega
    have hvy : ¬ okV 0 lo := fun q => by have := q.2.2.1; omega
    refine c_any [⟨[], [], [0], [160], fun f => f 160 = .agg #[.int .i64 (40), .int .i64 (0), .int .i64 (0), .int .i64 (0), .int .i64 (0), .int .i64 (10), .int .i64 (10), .bool false, .bool false]⟩, ⟨[], [], [1], [161], fun f => f 161 = Ix (hi)⟩, ⟨[1], [1], [], [162], fun f => f 162 = .agg #[Ix (hi), .int .i64 (0)]⟩, ⟨[0, 1, 2], [0, 2], [], [163], fun f => f 163 = .agg #[.int .i64 (0), .int .i64 (0)]⟩, ⟨[], [], [0], [164], fun f => f 164 = .agg #[.int .i64 (40), .int .i64 (0), .int .i64 (0), .int .i64 (0), .int .i64 (0), .int .i64 (10), .int .i64 (10), .bool false, .bool false]⟩, ⟨[], [], [2], [165], fun f => f 165 = Ix (lo)⟩, ⟨[5], [5], [], [166], fun f => f 166 = .agg #[.int .i64 (0), Ix (lo)]⟩, ⟨[0, 1, 2, 3, 4, 5, 6], [4, 6], [], [167], fun f => f 167 = .agg #[.int .i64 (0), .int .i64 (0), .int .i64 (0), .int .i64 (0)]⟩, ⟨[], [], [], [26], fun f => f 26 = .pointer (some ⟨(blk (f 26)), 0, none⟩)⟩, ⟨[], [], [], [27], fun f => f 27 = .pointer (some ⟨(blk (f 27)), 0, none⟩)⟩, ⟨[0, 1, 2, 3, 4, 5, 6, 7, 8, 9], [8, 3], [], [], fun _ => True⟩, ⟨[0, 1, 2, 3, 4, 5, 6, 7, 8, 9, 10], [9, 7], [], [], fun _ => True⟩] [⟨none, none, [], [], fun _ => pt b130 (.cells #[.slice p126 (0) c127, .slice q128 (0) d129, .int .i64 (0), .int .i64 (0)] 32)⟩, ⟨none, none, [], [], fun _ => pt b125 (.cells #[.int .i64 (40)] 3)⟩, ⟨none, none, [], [], fun _ => pt b120 (.cells #[.int .i64 (40), .int .i64 (40), .int .i64 (5)] 49)⟩, ⟨none, none, [0, 4], [], fun _ => pt b11 (.cells #[.int .i64 (40), .int .i64 (0), .int .i64 (0), .int .i64 (0), .int .i64 (0), .int .i64 (10), .int .i64 (10), .bool false, .bool false] 39)⟩, ⟨none, none, [], [], fun _ => pt b10 (.cells #[.slice rp14 (B0.length) rc15, .slice rp121 (Rq.length) rc122, .int .i64 (0), .int .i64 (0)] 32)⟩, ⟨none, none, [], [], fun _ => rowF BodyF 39 rp14 rc15 B0⟩, ⟨none, none, [], [], fun _ => rowF RopeF 49 rp121 rc122 Rq⟩, ⟨(some 8), (some 10), [10], [26], fun f => pt (blk (f 26)) (.cells #[.int .i64 (0), .int .i64 (0)] 30)⟩, ⟨(some 9), (some 11), [11], [27], fun f => pt (blk (f 27)) (.cells #[.int .i64 (0), .int .i64 (0), .int .i64 (0), .int .i64 (0)] 46)⟩, ⟨(some 10), none, [], [26], fun f => pt (blk (f 26)) (.cells #[.int .i64 (0), .int .i64 (0)] 30)⟩, ⟨(some 11), none, [], [27], fun f => pt (blk (f 27)) (.cells #[.int .i64 (0), .int .i64 (0), .int .i64 (0), .int .i64 (0)] 46)⟩] [(13, .pointer (some ⟨b11, 0, none⟩)), (4, Ix (hi)), (3, Ix (lo)), (12, .pointer (some ⟨b10, 0, none⟩)), (17, .int .i64 (6)), (19, .int .i64 (6)), (21, .int .i64 (6)), (22, .slice p123 (0) c124), (23, .int .i64 (2)), (24, .pointer (some ⟨b130, 0, none⟩)), (25, .int .i64 (2))] [3, 4, 5, 6, 7, 8, 9, 10] [] (by kernel_rfl) (by kernel_rfl) (by kernel_rfl) (by kernel_rfl) rfl ⟨rfl, rfl, rfl, rfl, rfl, rfl, rfl, rfl, rfl, rfl, rfl, trivial⟩ ⟨?_, ?_, ?_, ?_, ?_, ?_, ?_, ?_, ?_, ?_, ?_, ?_, trivial⟩ ?_
    · rintro f M - ⟨i0, -⟩
      have hs13 : f 13 = .pointer (some ⟨b11, 0, none⟩) := i0
      refine ob_start (L' := pt b11 (.cells #[.int .i64 (40), .int .i64 (0), .int .i64 (0), .int .i64 (0), .int .i64 (0), .int .i64 (10), .int .i64 (10), .bool false, .bool false] 39) :: M) (by rfl) (up_cons rfl hs13) ?_
      refine l_val (v := .agg #[.int .i64 (40), .int .i64 (0), .int .i64 (0), .int .i64 (0), .int .i64 (0), .int .i64 (10), .int .i64 (10), .bool false, .bool false]) rfl rfl rfl (e_load tf1 (cs := [.int .i64 (40), .int .i64 (0), .int .i64 (0), .int .i64 (0), .int .i64 (0), .int .i64 (10), .int .i64 (10), .bool false, .bool false]) rfl (k_pt 0 (cs := #[.int .i64 (40), .int .i64 (0), .int .i64 (0), .int .i64 (0), .int .i64 (0), .int .i64 (10), .int .i64 (10), .bool false, .bool false]) (vs := [.int .i64 (40), .int .i64 (0), .int .i64 (0), .int .i64 (0), .int .i64 (0), .int .i64 (10), .int .i64 (10), .bool false, .bool false]) rfl rfl) rfl) ?_
      refine l_nil ?_
      exact f_owes_d (up_cons rfl hs13) rfl (perm_front 0 rfl)
    · rintro f M - ⟨i0, -⟩
      have hs4 : f 4 = Ix (hi) := i0
      refine ob_start (L' := M) (by rfl) (up_cons rfl hs4) ?_
      refine l_val (v := Ix (hi)) rfl rfl rfl (e_move) ?_
      refine l_nil ?_
      exact f_owes_d (up_cons rfl hs4) rfl (List.Perm.refl _)
    · rintro f M ⟨k0, -⟩ -
      have hs161 : f 161 = Ix (hi) := k0
      refine ob_start (L' := M) (by rfl) (up_cons rfl hs161) ?_
      refine l_val (v := .agg #[Ix (hi), .int .i64 (0)]) rfl rfl rfl (e_build tf8 tf13 (vs := [(0, Ix (hi))]) (cells := #[Ix (hi), .int .i64 (0)]) rfl rfl) ?_
      refine l_nil ?_
      exact f_owes_d (up_cons rfl hs161) rfl (List.Perm.refl _)
    · rintro f M ⟨k0, k1, -⟩ -
      have hs160 : f 160 = .agg #[.int .i64 (40), .int .i64 (0), .int .i64 (0), .int .i64 (0), .int .i64 (0), .int .i64 (10), .int .i64 (10), .bool false, .bool false] := k0
      have hs162 : f 162 = .agg #[Ix (hi), .int .i64 (0)] := k1
      refine ob_start (L' := M) (by rfl) (up_cons (up_cons rfl hs160) hs162) ?_
      refine l_call rfl rfl rfl (cl_value (fst := []) (cap := []) (vs := [.agg #[.int .i64 (40), .int .i64 (0), .int .i64 (0), .int .i64 (0), .int .i64 (0), .int .i64 (10), .int .i64 (10), .bool false, .bool false], .agg #[Ix (hi), .int .i64 (0)]]) (all := [.agg #[.int .i64 (40), .int .i64 (0), .int .i64 (0), .int .i64 (0), .int .i64 (0), .int .i64 (10), .int .i64 (10), .bool false, .bool false], .agg #[Ix (hi), .int .i64 (0)]]) tf9 rfl rfl rfl) ?_
      intro w hw
      obtain ⟨β1, sb, kn, hw1, back⟩ := St.frame_all hw
      refine (speedE_ok β1 w hw1 ib0 hi 0 (by omega) (by omega) hvx).mono ?_
      rintro e w' ⟨rfl, hw'⟩
      refine ⟨_, rfl, _, back _ _ hw', ?_⟩
      clear hw hw1 hw' back kn sb
      refine l_nil ?_
      exact f_owes_d (up_cons (up_cons rfl hs160) hs162) rfl (List.Perm.refl _)
    · rintro f M - ⟨i0, -⟩
      have hs13 : f 13 = .pointer (some ⟨b11, 0, none⟩) := i0
      refine ob_start (L' := pt b11 (.cells #[.int .i64 (40), .int .i64 (0), .int .i64 (0), .int .i64 (0), .int .i64 (0), .int .i64 (10), .int .i64 (10), .bool false, .bool false] 39) :: M) (by rfl) (up_cons rfl hs13) ?_
      refine l_val (v := .agg #[.int .i64 (40), .int .i64 (0), .int .i64 (0), .int .i64 (0), .int .i64 (0), .int .i64 (10), .int .i64 (10), .bool false, .bool false]) rfl rfl rfl (e_load tf1 (cs := [.int .i64 (40), .int .i64 (0), .int .i64 (0), .int .i64 (0), .int .i64 (0), .int .i64 (10), .int .i64 (10), .bool false, .bool false]) rfl (k_pt 0 (cs := #[.int .i64 (40), .int .i64 (0), .int .i64 (0), .int .i64 (0), .int .i64 (0), .int .i64 (10), .int .i64 (10), .bool false, .bool false]) (vs := [.int .i64 (40), .int .i64 (0), .int .i64 (0), .int .i64 (0), .int .i64 (0), .int .i64 (10), .int .i64 (10), .bool false, .bool false]) rfl rfl) rfl) ?_
      refine l_nil ?_
      exact f_owes_d (up_cons rfl hs13) rfl (perm_front 0 rfl)
    · rintro f M - ⟨i0, -⟩
      have hs3 : f 3 = Ix (lo) := i0
      refine ob_start (L' := M) (by rfl) (up_cons rfl hs3) ?_
      refine l_val (v := Ix (lo)) rfl rfl rfl (e_move) ?_
      refine l_nil ?_
      exact f_owes_d (up_cons rfl hs3) rfl (List.Perm.refl _)
    · rintro f M ⟨k0, -⟩ -
      have hs165 : f 165 = Ix (lo) := k0
      refine ob_start (L' := M) (by rfl) (up_cons rfl hs165) ?_
      refine l_val (v := .agg #[.int .i64 (0), Ix (lo)]) rfl rfl rfl (e_build tf8 tf13 (vs := [(1, Ix (lo))]) (cells := #[.int .i64 (0), Ix (lo)]) rfl rfl) ?_
      refine l_nil ?_
      exact f_owes_d (up_cons rfl hs165) rfl (List.Perm.refl _)
    · rintro f M ⟨k0, k1, -⟩ -
      have hs164 : f 164 = .agg #[.int .i64 (40), .int .i64 (0), .int .i64 (0), .int .i64 (0), .int .i64 (0), .int .i64 (10), .int .i64 (10), .bool false, .bool false] := k0
      have hs166 : f 166 = .agg #[.int .i64 (0), Ix (lo)] := k1
      refine ob_start (L' := M) (by rfl) (up_cons (up_cons rfl hs164) hs166) ?_
      refine l_call rfl rfl rfl (cl_value (fst := []) (cap := []) (vs := [.agg #[.int .i64 (40), .int .i64 (0), .int .i64 (0), .int .i64 (0), .int .i64 (0), .int .i64 (10), .int .i64 (10), .bool false, .bool false], .agg #[.int .i64 (0), Ix (lo)]]) (all := [.agg #[.int .i64 (40), .int .i64 (0), .int .i64 (0), .int .i64 (0), .int .i64 (0), .int .i64 (10), .int .i64 (10), .bool false, .bool false], .agg #[.int .i64 (0), Ix (lo)]]) tf41 rfl rfl rfl) ?_
      intro w hw
      obtain ⟨β1, sb, kn, hw1, back⟩ := St.frame_all hw
      refine (reachE_ok β1 w hw1 ib0 0 lo (by omega) (by omega) hvy).mono ?_
      rintro e w' ⟨rfl, hw'⟩
      refine ⟨_, rfl, _, back _ _ hw', ?_⟩
      clear hw hw1 hw' back kn sb
      refine l_nil ?_
      exact f_owes_d (up_cons (up_cons rfl hs164) hs166) rfl (List.Perm.refl _)
    · rintro f M - -
      refine ob_start (L' := M) (by rfl) rfl ?_
      refine l_mv rfl rfl rfl (m_alloc tf8) ?_
      rintro _ _ ⟨b132, rfl, rfl⟩
      refine l_nil ?_
      exact f_owes_d rfl rfl (perm_front 0 rfl)
    · rintro f M - -
      refine ob_start (L' := M) (by rfl) rfl ?_
      refine l_mv rfl rfl rfl (m_alloc tf0) ?_
      rintro _ _ ⟨b134, rfl, rfl⟩
      refine l_nil ?_
      exact f_owes_d rfl rfl (perm_front 0 rfl)
    · rintro f M ⟨k0, k1, -⟩ -
      have hs26 : f 26 = .pointer (some ⟨(blk (f 26)), 0, none⟩) := k0
      have hs163 : f 163 = .agg #[.int .i64 (0), .int .i64 (0)] := k1
      refine ob_start (L' := pt (blk (f 26)) (.cells #[.int .i64 (0), .int .i64 (0)] 30) :: M) (by rfl) (up_cons (up_cons rfl hs26) hs163) ?_
      refine l_mu rfl rfl (m_store 0 tf5 (b := (blk (f 26))) (o := 0) (T := 30) (cs := #[.int .i64 (0), .int .i64 (0)]) (cs' := #[.int .i64 (0), .int .i64 (0)]) (v := .agg #[.int .i64 (0), .int .i64 (0)]) rfl rfl rfl rfl rfl rfl rfl) ?_
      refine l_nil ?_
      exact f_owes_n (up_cons (up_cons rfl hs26) hs163) trivial (perm_front 0 rfl)
    · rintro f M ⟨k0, k1, -⟩ -
      have hs27 : f 27 = .pointer (some ⟨(blk (f 27)), 0, none⟩) := k0
      have hs167 : f 167 = .agg #[.int .i64 (0), .int .i64 (0), .int .i64 (0), .int .i64 (0)] := k1
      refine ob_start (L' := pt (blk (f 27)) (.cells #[.int .i64 (0), .int .i64 (0), .int .i64 (0), .int .i64 (0)] 46) :: M) (by rfl) (up_cons (up_cons rfl hs27) hs167) ?_
      refine l_mu rfl rfl (m_store 0 tf4 (b := (blk (f 27))) (o := 0) (T := 46) (cs := #[.int .i64 (0), .int .i64 (0), .int .i64 (0), .int .i64 (0)]) (cs' := #[.int .i64 (0), .int .i64 (0), .int .i64 (0), .int .i64 (0)]) (v := .agg #[.int .i64 (0), .int .i64 (0), .int .i64 (0), .int .i64 (0)]) rfl rfl rfl rfl rfl rfl rfl) ?_
      refine l_nil ?_
      exact f_owes_n (up_cons (up_cons rfl hs27) hs167) trivial (perm_front 0 rfl)
    rintro fa135 ⟨-, -, -, -, -, -, -, -, k8, k9, -, -, -⟩ ⟨j0, j1, j2, j3, j4, j5, j6, j7, -⟩
    refine f_re (L' := [pt b130 (.cells #[.slice p126 (0) c127, .slice q128 (0) d129, .int .i64 (0), .int .i64 (0)] 32), pt b125 (.cells #[.int .i64 (40)] 3), pt b120 (.cells #[.int .i64 (40), .int .i64 (40), .int .i64 (5)] 49), pt b11 (.cells #[.int .i64 (40), .int .i64 (0), .int .i64 (0), .int .i64 (0), .int .i64 (0), .int .i64 (10), .int .i64 (10), .bool false, .bool false] 39), pt b10 (.cells #[.slice rp14 (B0.length) rc15, .slice rp121 (Rq.length) rc122, .int .i64 (0), .int .i64 (0)] 32), rowF BodyF 39 rp14 rc15 B0, rowF RopeF 49 rp121 rc122 Rq, pt (blk (fa135 26)) (.cells #[.int .i64 (0), .int .i64 (0)] 30), pt (blk (fa135 27)) (.cells #[.int .i64 (0), .int .i64 (0), .int .i64 (0), .int .i64 (0)] 46)]) (by rfl) ?_
    refine f_rebase (d := 12) (v := .pointer (some ⟨b10, 0, none⟩)) j0 ?_
    refine f_rebase (d := 17) (v := .int .i64 (6)) j1 ?_
    refine f_rebase (d := 19) (v := .int .i64 (6)) j2 ?_
    refine f_rebase (d := 21) (v := .int .i64 (6)) j3 ?_
    refine f_rebase (d := 22) (v := .slice p123 (0) c124) j4 ?_
    refine f_rebase (d := 23) (v := .int .i64 (2)) j5 ?_
    refine f_rebase (d := 24) (v := .pointer (some ⟨b130, 0, none⟩)) j6 ?_
    refine f_rebase (d := 25) (v := .int .i64 (2)) j7 ?_
    refine f_rebase (d := 26) (v := .pointer (some ⟨(blk (fa135 26)), 0, none⟩)) k8 ?_
    refine f_rebase (d := 27) (v := .pointer (some ⟨(blk (fa135 27)), 0, none⟩)) k9 ?_
    refine f_then ?_
    refine c_seq ?_
    refine c_region ?_
    refine l_val (v := .int .i64 (6)) rfl rfl rfl (e_move) ?_
    refine l_val (v := .bool true) rfl rfl rfl (e_eql (a := (6 : Int)) (b := (6 : Int)) rfl rfl) ?_
    refine l_val (v := .bool true) rfl rfl rfl (e_move) ?_
    refine g_val (v := .int .i64 (6)) rfl rfl rfl rfl rfl (e_move) ?_
    refine g_val (v := .bool true) rfl rfl rfl rfl rfl (e_eql (a := (6 : Int)) (b := (6 : Int)) rfl rfl) ?_
    refine l_val (v := .bool true) rfl rfl rfl (e_pick_t rfl) ?_
    refine l_val (v := .bool true) rfl rfl rfl (e_move) ?_
    refine g_val (v := .int .i64 (6)) rfl rfl rfl rfl rfl (e_move) ?_
    refine g_val (v := .bool true) rfl rfl rfl rfl rfl (e_eql (a := (6 : Int)) (b := (6 : Int)) rfl rfl) ?_
    refine l_val (v := .bool true) rfl rfl rfl (e_pick_t rfl) ?_
    refine l_val (v := .bool true) rfl rfl rfl (e_move) ?_
    refine g_val (v := .int .i64 (2)) rfl rfl rfl rfl rfl (e_move) ?_
    refine g_val (v := .bool true) rfl rfl rfl rfl rfl (e_eql (a := (2 : Int)) (b := (2 : Int)) rfl rfl) ?_
    refine l_val (v := .bool true) rfl rfl rfl (e_pick_t rfl) ?_
    refine l_val (v := .bool true) rfl rfl rfl (e_move) ?_
    refine g_val (v := .int .i64 (2)) rfl rfl rfl rfl rfl (e_move) ?_
    refine g_val (v := .bool true) rfl rfl rfl rfl rfl (e_eql (a := (2 : Int)) (b := (2 : Int)) rfl rfl) ?_
    refine l_val (v := .bool true) rfl rfl rfl (e_pick_t rfl) ?_
    refine l_val (v := .bool true) rfl rfl rfl (e_move) ?_
    refine g_val (v := .slice p123 (0) c124) rfl rfl rfl rfl rfl (e_move) ?_
    refine g_val (v := Nx (0)) rfl rfl rfl rfl rfl (e_len (a := p123) (n := 0) (c := c124) rfl tf64) ?_
    refine g_val (v := .pointer (some ⟨b130, 0, none⟩)) rfl rfl rfl rfl rfl (e_fieldPt (b := b130) (o := 0) rfl tf33) ?_
    refine g_val (v := .slice p126 (0) c127) rfl rfl rfl rfl rfl (e_load1 tf26 (v := .slice p126 (0) c127) rfl (k_pt 0 (cs := #[.slice p126 (0) c127, .slice q128 (0) d129, .int .i64 (0), .int .i64 (0)]) (vs := [.slice p126 (0) c127]) rfl rfl)) ?_
    refine g_val (v := Nx (0)) rfl rfl rfl rfl rfl (e_len (a := p126) (n := 0) (c := c127) rfl tf15) ?_
    refine g_val (v := Nx (0 + 0)) rfl rfl rfl rfl rfl (e_add (a := ((0 : Nat) : Int)) (b := ((0 : Nat) : Int)) rfl rfl (i64n (by omega) (by omega))) ?_
    refine g_val (v := .pointer (some ⟨b130, 1, none⟩)) rfl rfl rfl rfl rfl (e_fieldPt (b := b130) (o := 0) rfl tf52) ?_
    refine g_val (v := .slice q128 (0) d129) rfl rfl rfl rfl rfl (e_load1 tf53 (v := .slice q128 (0) d129) rfl (k_pt 0 (cs := #[.slice p126 (0) c127, .slice q128 (0) d129, .int .i64 (0), .int .i64 (0)]) (vs := [.slice q128 (0) d129]) rfl rfl)) ?_
    refine g_val (v := Nx (0)) rfl rfl rfl rfl rfl (e_len (a := q128) (n := 0) (c := d129) rfl tf54) ?_
    refine g_val (v := Nx ((0 + 0) + 0)) rfl rfl rfl rfl rfl (e_add (a := ((0 + 0 : Nat) : Int)) (b := ((0 : Nat) : Int)) rfl rfl (i64n (by omega) (by omega))) ?_
    refine g_val (v := .bool (decide ((((0 + 0) + 0 : Nat) : Int) = (0 : Int)))) rfl rfl rfl rfl rfl (e_eql (a := (((0 + 0) + 0 : Nat) : Int)) (b := (0 : Int)) rfl rfl) ?_
    refine l_val (v := .bool (decide ((((0 + 0) + 0 : Nat) : Int) = (0 : Int)))) rfl rfl rfl (e_pick_t rfl) ?_
    refine l_val (v := .bool (decide ((((0 + 0) + 0 : Nat) : Int) = (0 : Int)))) rfl rfl rfl (e_move) ?_
    refine l_split (s := 199) (p := (((0 + 0) + 0 : Nat) : Int) = (0 : Int)) rfl (fun h => ?_) (fun h => ?_)
    rotate_left; exact absurd (by decide) h
    refine g_val (v := .agg #[.int .i64 (0), .int .i64 (0)]) rfl rfl rfl rfl rfl (e_load tf5 (cs := [.int .i64 (0), .int .i64 (0)]) rfl (k_pt 7 (cs := #[.int .i64 (0), .int .i64 (0)]) (vs := [.int .i64 (0), .int .i64 (0)]) rfl rfl) rfl) ?_
    refine g_val (v := .agg #[.int .i64 (0), .int .i64 (0)]) rfl rfl rfl rfl rfl (e_build tf8 tf13 (vs := []) (cells := #[.int .i64 (0), .int .i64 (0)]) rfl rfl) ?_
    refine g_val (v := .bool true) rfl rfl rfl rfl rfl ((ev_t (by decide) (e_eql_t (p := (0 : Int) = (0 : Int) ∧ (0 : Int) = (0 : Int)) (xs := [.int .i64 (0), .int .i64 (0)]) (ys := [.int .i64 (0), .int .i64 (0)]) tf92 tf93 tf94 rfl rfl rfl rfl vec_eq))) ?_
    refine l_val (v := .bool true) rfl rfl rfl (e_pick_t rfl) ?_
    refine l_val (v := .bool true) rfl rfl rfl (e_move) ?_
    refine g_val (v := .agg #[.int .i64 (0), .int .i64 (0), .int .i64 (0), .int .i64 (0)]) rfl rfl rfl rfl rfl (e_load tf4 (cs := [.int .i64 (0), .int .i64 (0), .int .i64 (0), .int .i64 (0)]) rfl (k_pt 8 (cs := #[.int .i64 (0), .int .i64 (0), .int .i64 (0), .int .i64 (0)]) (vs := [.int .i64 (0), .int .i64 (0), .int .i64 (0), .int .i64 (0)]) rfl rfl) rfl) ?_
    refine g_val (v := .agg #[.int .i64 (0), .int .i64 (0), .int .i64 (0), .int .i64 (0)]) rfl rfl rfl rfl rfl (e_build tf0 tf3 (vs := []) (cells := #[.int .i64 (0), .int .i64 (0), .int .i64 (0), .int .i64 (0)]) rfl rfl) ?_
    refine g_val (v := .bool true) rfl rfl rfl rfl rfl ((ev_t (by decide) (e_eql_t (p := (0 : Int) = (0 : Int) ∧ (0 : Int) = (0 : Int) ∧ (0 : Int) = (0 : Int) ∧ (0 : Int) = (0 : Int)) (xs := [.int .i64 (0), .int .i64 (0), .int .i64 (0), .int .i64 (0)]) (ys := [.int .i64 (0), .int .i64 (0), .int .i64 (0), .int .i64 (0)]) tf78 tf79 tf80 rfl rfl rfl rfl arr4_eq))) ?_
    refine l_val (v := .bool true) rfl rfl rfl (e_pick_t rfl) ?_
    refine l_val (v := .bool true) rfl rfl rfl (e_move) ?_
    refine g_val (v := .agg #[.slice rp14 (B0.length) rc15, .slice rp121 (Rq.length) rc122, .int .i64 (0), .int .i64 (0)]) rfl rfl rfl rfl rfl (e_load tf31 (cs := [.slice rp14 (B0.length) rc15, .slice rp121 (Rq.length) rc122, .int .i64 (0), .int .i64 (0)]) rfl (k_pt 4 (cs := #[.slice rp14 (B0.length) rc15, .slice rp121 (Rq.length) rc122, .int .i64 (0), .int .i64 (0)]) (vs := [.slice rp14 (B0.length) rc15, .slice rp121 (Rq.length) rc122, .int .i64 (0), .int .i64 (0)]) rfl rfl) rfl) ?_
    refine g_call rfl rfl rfl rfl rfl (cl_value (fst := []) (cap := []) (vs := [.agg #[.slice rp14 (B0.length) rc15, .slice rp121 (Rq.length) rc122, .int .i64 (0), .int .i64 (0)]]) (all := [.agg #[.slice rp14 (B0.length) rc15, .slice rp121 (Rq.length) rc122, .int .i64 (0), .int .i64 (0)]]) tf32 rfl rfl rfl) ?_
    intro w hw
    obtain ⟨β1, sb, kn, hw1, back⟩ := St.frame_all hw
    refine (validE_ok β1 w hw1 _ _ 0 0 B0 Rq (kn _ (k_flN 5 (F := BodyF) (m := B0.length) rfl rfl)) (kn _ (k_flN 6 (F := RopeF) (m := Rq.length) rfl rfl)) (by omega) (by omega) hno).mono ?_
    rintro e w' ⟨rfl, hw'⟩
    refine ⟨_, rfl, _, back _ _ hw', ?_⟩
    clear hw hw1 hw' back kn sb
    refine g_val (v := .bool true) rfl rfl rfl rfl rfl (e_not (a := false) rfl) ?_
    refine l_val (v := .bool true) rfl rfl rfl (e_pick_t rfl) ?_
    refine l_val (v := .bool true) rfl rfl rfl (e_assign) ?_
    refine l_nil ?_
    refine f_then ?_
    refine c_ret ?_
    refine ret1 Try.results8 (v := .bool true) rfl ?_
    intro w hw
    exact ⟨rfl, st_mask [false, false, false, false, false, false, false, false, false] rfl hw⟩
  refine c_seq ?_
  refine c_region ?_
  refine l_val (v := .bool (decide (((way.toNat % 10 : Nat) : Int) = (7 : Int)))) rfl rfl rfl (e_eql (a := ((way.toNat % 10 : Nat) : Int)) (b := (7 : Int)) rfl rfl) ?_
  refine l_val (v := .bool (decide (((way.toNat % 10 : Nat) : Int) = (7 : Int)))) rfl rfl rfl (e_assign) ?_
  refine l_nil ?_
  refine f_then ?_
  refine c_if (((way.toNat % 10 : Nat) : Int) = (7 : Int)) rfl (fun hc136 => ?_) (fun hc136 => ?_)
  ·
    refine c_region ?_
    refine l_val (v := .pointer (some ⟨b10, 1, none⟩)) rfl rfl rfl (e_fieldPt (b := b10) (o := 0) rfl tf52) ?_
    refine l_val (v := .slice q8 (R.length) d9) rfl rfl rfl (e_load1 tf53 (v := .slice q8 (R.length) d9) rfl (k_pt 1 (cs := #[.slice rp14 (B0.length) rc15, .slice q8 (R.length) d9, .int .i64 (0), .int .i64 (0)]) (vs := [.slice q8 (R.length) d9]) rfl rfl)) ?_
    refine l_val (v := .agg #[.int .i64 (41), .int .i64 (40), .int .i64 (5)]) rfl rfl rfl (e_build tf57 tf74 (vs := [(0, .int .i64 (41)), (1, .int .i64 (40)), (2, .int .i64 (5))]) (cells := #[.int .i64 (41), .int .i64 (40), .int .i64 (5)]) rfl rfl) ?_
    refine l_mv rfl rfl rfl (m_slices tf55 tf57 (vs := [(0, .agg #[.int .i64 (41), .int .i64 (40), .int .i64 (5)])]) (cells := #[.int .i64 (41), .int .i64 (40), .int .i64 (5)]) rfl rfl rfl rfl) ?_
    rintro _ _ ⟨b137, rfl, rfl⟩
    refine l_mv rfl rfl rfl (m_appendFlN (F := RopeF) 4 tf55 tf72 (p := q8) (m := R.length) (xs := R) (ys := [(⟨41, 40, 5⟩ : KR)]) (ao := (some ⟨b137, 0, none⟩)) (k := 1) (c := 1) rfl rfl rfl rfl rfl (k_ptFl (z := (⟨41, 40, 5⟩ : KR)) 0 rfl rfl) (by first | omega | simp only [List.length_nil, List.length_cons, List.length_append, List.length_set]; omega) (by first | omega | simp only [List.length_nil, List.length_cons, List.length_append, List.length_set]; omega)) ?_
    rintro _ _ ⟨rp138, rc139, rfl, rfl⟩
    refine l_val (v := .pointer (some ⟨b10, 1, none⟩)) rfl rfl rfl (e_fieldPt (b := b10) (o := 0) rfl tf52) ?_
    refine l_mu rfl rfl (m_store 2 tf53 (b := b10) (o := 1) (T := 32) (cs := #[.slice rp14 (B0.length) rc15, .slice q8 (R.length) d9, .int .i64 (0), .int .i64 (0)]) (cs' := #[.slice rp14 (B0.length) rc15, .slice rp138 ((R ++ [(⟨41, 40, 5⟩ : KR)]).length) rc139, .int .i64 (0), .int .i64 (0)]) (v := .slice rp138 ((R ++ [(⟨41, 40, 5⟩ : KR)]).length) rc139) rfl rfl rfl rfl rfl rfl rfl) ?_
    refine l_nil ?_
    refine f_block ?_
    refine f_then ?_
    refine c_seq ?_
    have hno : ¬ okS B0 (R ++ [(⟨41, 40, 5⟩ : KR)]) 0 0 := no_rope (fun q => absurd q.2.2.1 (by decide))
    have hRl : (R ++ [(⟨41, 40, 5⟩ : KR)]).length = R.length + 1 := by rw [List.length_append]; rfl
    obtain ⟨Rq, hRq⟩ : ∃ z, z = (R ++ [(⟨41, 40, 5⟩ : KR)]) := ⟨_, rfl⟩
    rw [← hRq] at hno hRl
    rw [← hRq]
    refine c_region ?_
    refine l_val (v := .agg #[.slice rp14 (B0.length) rc15, .slice rp138 (Rq.length) rc139, .int .i64 (0), .int .i64 (0)]) rfl rfl rfl (e_load tf31 (cs := [.slice rp14 (B0.length) rc15, .slice rp138 (Rq.length) rc139, .int .i64 (0), .int .i64 (0)]) rfl (k_pt 2 (cs := #[.slice rp14 (B0.length) rc15, .slice rp138 (Rq.length) rc139, .int .i64 (0), .int .i64 (0)]) (vs := [.slice rp14 (B0.length) rc15, .slice rp138 (Rq.length) rc139, .int .i64 (0), .int .i64 (0)]) rfl rfl) rfl) ?_
    refine l_call rfl rfl rfl (cl_value (fst := []) (cap := []) (vs := [.agg #[.slice rp14 (B0.length) rc15, .slice rp138 (Rq.length) rc139, .int .i64 (0), .int .i64 (0)]]) (all := [.agg #[.slice rp14 (B0.length) rc15, .slice rp138 (Rq.length) rc139, .int .i64 (0), .int .i64 (0)]]) tf75 rfl rfl rfl) ?_
    intro w hw
    obtain ⟨β1, sb, kn, hw1, back⟩ := St.frame_all hw
    refine (islE_ok β1 w hw1 _ _ 0 0 B0 Rq (kn _ (k_flN 3 (F := BodyF) (m := B0.length) rfl rfl)) (kn _ (k_flN 4 (F := RopeF) (m := Rq.length) rfl rfl)) (by omega) (by omega) hno).mono ?_
    rintro e w' ⟨p140, c141, rfl, hw'⟩
    refine ⟨_, rfl, _, back _ _ hw', ?_⟩
    clear hw hw1 hw' back kn sb
    refine l_val (v := .tuple #[.slice p140 (0) c141, .int .i64 (2)]) rfl rfl rfl (e_move) ?_
    refine l_val (v := .slice p140 (0) c141) rfl rfl rfl (e_extract (vs := #[.slice p140 (0) c141, .int .i64 (2)]) rfl rfl) ?_
    refine l_val (v := .int .i64 (2)) rfl rfl rfl (e_extract (vs := #[.slice p140 (0) c141, .int .i64 (2)]) rfl rfl) ?_
    refine l_val (v := .slice p140 (0) c141) rfl rfl rfl (e_assign) ?_
    refine l_val (v := .int .i64 (2)) rfl rfl rfl (e_assign) ?_
    refine l_nil ?_
    refine f_then ?_
    refine c_seq ?_
    refine c_region ?_
    refine l_val (v := .agg #[.slice rp14 (B0.length) rc15, .slice rp138 (Rq.length) rc139, .int .i64 (0), .int .i64 (0)]) rfl rfl rfl (e_load tf31 (cs := [.slice rp14 (B0.length) rc15, .slice rp138 (Rq.length) rc139, .int .i64 (0), .int .i64 (0)]) rfl (k_pt 2 (cs := #[.slice rp14 (B0.length) rc15, .slice rp138 (Rq.length) rc139, .int .i64 (0), .int .i64 (0)]) (vs := [.slice rp14 (B0.length) rc15, .slice rp138 (Rq.length) rc139, .int .i64 (0), .int .i64 (0)]) rfl rfl) rfl) ?_
    refine l_mv rfl rfl rfl (m_slices tf23 tf24 (vs := [(0, .int .i64 (40))]) (cells := #[.int .i64 (40)]) rfl rfl rfl rfl) ?_
    rintro _ _ ⟨b142, rfl, rfl⟩
    refine l_call rfl rfl rfl (cl_value (fst := []) (cap := []) (vs := [.agg #[.slice rp14 (B0.length) rc15, .slice rp138 (Rq.length) rc139, .int .i64 (0), .int .i64 (0)], .slice (some ⟨b142, 0, none⟩) 1 1]) (all := [.agg #[.slice rp14 (B0.length) rc15, .slice rp138 (Rq.length) rc139, .int .i64 (0), .int .i64 (0)], .slice (some ⟨b142, 0, none⟩) 1 1]) tf76 rfl rfl rfl) ?_
    intro w hw
    obtain ⟨β1, sb, kn, hw1, back⟩ := St.frame_all hw
    refine (partE_ok β1 w hw1 _ _ _ 0 0 B0 Rq [40] (kn _ (k_flN 4 (F := BodyF) (m := B0.length) rfl rfl)) (kn _ (k_flN 5 (F := RopeF) (m := Rq.length) rfl rfl)) (kn _ (k_ptFls (F := IntF) 0 (m := 1) (xs := [40]) rfl rfl rfl (by decide))) (by omega) (by omega) 2 (by decide) (errPt_bad hno [40])).mono ?_
    rintro e w' ⟨p143, c144, q145, d146, rfl, hw'⟩
    refine ⟨_, rfl, _, back _ _ hw', ?_⟩
    clear hw hw1 hw' back kn sb
    refine l_val (v := .tuple #[.agg #[.slice p143 (0) c144, .slice q145 (0) d146, .int .i64 (0), .int .i64 (0)], .int .i64 (2)]) rfl rfl rfl (e_move) ?_
    refine l_val (v := .agg #[.slice p143 (0) c144, .slice q145 (0) d146, .int .i64 (0), .int .i64 (0)]) rfl rfl rfl (e_extract (vs := #[.agg #[.slice p143 (0) c144, .slice q145 (0) d146, .int .i64 (0), .int .i64 (0)], .int .i64 (2)]) rfl rfl) ?_
    refine l_val (v := .int .i64 (2)) rfl rfl rfl (e_extract (vs := #[.agg #[.slice p143 (0) c144, .slice q145 (0) d146, .int .i64 (0), .int .i64 (0)], .int .i64 (2)]) rfl rfl) ?_
    refine l_mv rfl rfl rfl (m_alloc tf67) ?_
    rintro _ _ ⟨b147, rfl, rfl⟩
    refine l_mu rfl rfl (m_store 0 tf31 (b := b147) (o := 0) (T := 32) (cs := #[.slice none 0 0, .slice none 0 0, .int .i64 (0), .int .i64 (0)]) (cs' := #[.slice p143 (0) c144, .slice q145 (0) d146, .int .i64 (0), .int .i64 (0)]) (v := .agg #[.slice p143 (0) c144, .slice q145 (0) d146, .int .i64 (0), .int .i64 (0)]) rfl rfl rfl rfl rfl rfl rfl) ?_
    refine l_val (v := .int .i64 (2)) rfl rfl rfl (e_assign) ?_
    refine l_nil ?_
    refine f_then ?_
    refine c_seq ?_
    have hvx : ¬ okV hi 0 := fun q => by have := q.2.1; omega
    have hvy : ¬ okV 0 lo := fun q => by have := q.2.2.1; omega
    refine c_any [⟨[], [], [0], [160], fun f => f 160 = .agg #[.int .i64 (40), .int .i64 (0), .int .i64 (0), .int .i64 (0), .int .i64 (0), .int .i64 (10), .int .i64 (10), .bool false, .bool false]⟩, ⟨[], [], [1], [161], fun f => f 161 = Ix (hi)⟩, ⟨[1], [1], [], [162], fun f => f 162 = .agg #[Ix (hi), .int .i64 (0)]⟩, ⟨[0, 1, 2], [0, 2], [], [163], fun f => f 163 = .agg #[.int .i64 (0), .int .i64 (0)]⟩, ⟨[], [], [0], [164], fun f => f 164 = .agg #[.int .i64 (40), .int .i64 (0), .int .i64 (0), .int .i64 (0), .int .i64 (0), .int .i64 (10), .int .i64 (10), .bool false, .bool false]⟩, ⟨[], [], [2], [165], fun f => f 165 = Ix (lo)⟩, ⟨[5], [5], [], [166], fun f => f 166 = .agg #[.int .i64 (0), Ix (lo)]⟩, ⟨[0, 1, 2, 3, 4, 5, 6], [4, 6], [], [167], fun f => f 167 = .agg #[.int .i64 (0), .int .i64 (0), .int .i64 (0), .int .i64 (0)]⟩, ⟨[], [], [], [26], fun f => f 26 = .pointer (some ⟨(blk (f 26)), 0, none⟩)⟩, ⟨[], [], [], [27], fun f => f 27 = .pointer (some ⟨(blk (f 27)), 0, none⟩)⟩, ⟨[0, 1, 2, 3, 4, 5, 6, 7, 8, 9], [8, 3], [], [], fun _ => True⟩, ⟨[0, 1, 2, 3, 4, 5, 6, 7, 8, 9, 10], [9, 7], [], [], fun _ => True⟩] [⟨none, none, [], [], fun _ => pt b147 (.cells #[.slice p143 (0) c144, .slice q145 (0) d146, .int .i64 (0), .int .i64 (0)] 32)⟩, ⟨none, none, [], [], fun _ => pt b142 (.cells #[.int .i64 (40)] 3)⟩, ⟨none, none, [], [], fun _ => pt b137 (.cells #[.int .i64 (41), .int .i64 (40), .int .i64 (5)] 49)⟩, ⟨none, none, [0, 4], [], fun _ => pt b11 (.cells #[.int .i64 (40), .int .i64 (0), .int .i64 (0), .int .i64 (0), .int .i64 (0), .int .i64 (10), .int .i64 (10), .bool false, .bool false] 39)⟩, ⟨none, none, [], [], fun _ => pt b10 (.cells #[.slice rp14 (B0.length) rc15, .slice rp138 (Rq.length) rc139, .int .i64 (0), .int .i64 (0)] 32)⟩, ⟨none, none, [], [], fun _ => rowF BodyF 39 rp14 rc15 B0⟩, ⟨none, none, [], [], fun _ => rowF RopeF 49 rp138 rc139 Rq⟩, ⟨(some 8), (some 10), [10], [26], fun f => pt (blk (f 26)) (.cells #[.int .i64 (0), .int .i64 (0)] 30)⟩, ⟨(some 9), (some 11), [11], [27], fun f => pt (blk (f 27)) (.cells #[.int .i64 (0), .int .i64 (0), .int .i64 (0), .int .i64 (0)] 46)⟩, ⟨(some 10), none, [], [26], fun f => pt (blk (f 26)) (.cells #[.int .i64 (0), .int .i64 (0)] 30)⟩, ⟨(some 11), none, [], [27], fun f => pt (blk (f 27)) (.cells #[.int .i64 (0), .int .i64 (0), .int .i64 (0), .int .i64 (0)] 46)⟩] [(13, .pointer (some ⟨b11, 0, none⟩)), (4, Ix (hi)), (3, Ix (lo)), (12, .pointer (some ⟨b10, 0, none⟩)), (17, .int .i64 (6)), (19, .int .i64 (6)), (21, .int .i64 (6)), (22, .slice p140 (0) c141), (23, .int .i64 (2)), (24, .pointer (some ⟨b147, 0, none⟩)), (25, .int .i64 (2))] [3, 4, 5, 6, 7, 8, 9, 10] [] (by kernel_rfl) (by kernel_rfl) (by kernel_rfl) (by kernel_rfl) rfl ⟨rfl, rfl, rfl, rfl, rfl, rfl, rfl, rfl, rfl, rfl, rfl, trivial⟩ ⟨?_, ?_, ?_, ?_, ?_, ?_, ?_, ?_, ?_, ?_, ?_, ?_, trivial⟩ ?_
    · rintro f M - ⟨i0, -⟩
      have hs13 : f 13 = .pointer (some ⟨b11, 0, none⟩) := i0
      refine ob_start (L' := pt b11 (.cells #[.int .i64 (40), .int .i64 (0), .int .i64 (0), .int .i64 (0), .int .i64 (0), .int .i64 (10), .int .i64 (10), .bool false, .bool false] 39) :: M) (by rfl) (up_cons rfl hs13) ?_
      refine l_val (v := .agg #[.int .i64 (40), .int .i64 (0), .int .i64 (0), .int .i64 (0), .int .i64 (0), .int .i64 (10), .int .i64 (10), .bool false, .bool false]) rfl rfl rfl (e_load tf1 (cs := [.int .i64 (40), .int .i64 (0), .int .i64 (0), .int .i64 (0), .int .i64 (0), .int .i64 (10), .int .i64 (10), .bool false, .bool false]) rfl (k_pt 0 (cs := #[.int .i64 (40), .int .i64 (0), .int .i64 (0), .int .i64 (0), .int .i64 (0), .int .i64 (10), .int .i64 (10), .bool false, .bool false]) (vs := [.int .i64 (40), .int .i64 (0), .int .i64 (0), .int .i64 (0), .int .i64 (0), .int .i64 (10), .int .i64 (10), .bool false, .bool false]) rfl rfl) rfl) ?_
      refine l_nil ?_
      exact f_owes_d (up_cons rfl hs13) rfl (perm_front 0 rfl)
    · rintro f M - ⟨i0, -⟩
      have hs4 : f 4 = Ix (hi) := i0
      refine ob_start (L' := M) (by rfl) (up_cons rfl hs4) ?_
      refine l_val (v := Ix (hi)) rfl rfl rfl (e_move) ?_
      refine l_nil ?_
      exact f_owes_d (up_cons rfl hs4) rfl (List.Perm.refl _)
    · rintro f M ⟨k0, -⟩ -
      have hs161 : f 161 = Ix (hi) := k0
      refine ob_start (L' := M) (by rfl) (up_cons rfl hs161) ?_
      refine l_val (v := .agg #[Ix (hi), .int .i64 (0)]) rfl rfl rfl (e_build tf8 tf13 (vs := [(0, Ix (hi))]) (cells := #[Ix (hi), .int .i64 (0)]) rfl rfl) ?_
      refine l_nil ?_
      exact f_owes_d (up_cons rfl hs161) rfl (List.Perm.refl _)
    · rintro f M ⟨k0, k1, -⟩ -
      have hs160 : f 160 = .agg #[.int .i64 (40), .int .i64 (0), .int .i64 (0), .int .i64 (0), .int .i64 (0), .int .i64 (10), .int .i64 (10), .bool false, .bool false] := k0
      have hs162 : f 162 = .agg #[Ix (hi), .int .i64 (0)] := k1
      refine ob_start (L' := M) (by rfl) (up_cons (up_cons rfl hs160) hs162) ?_
      refine l_call rfl rfl rfl (cl_value (fst := []) (cap := []) (vs := [.agg #[.int .i64 (40), .int .i64 (0), .int .i64 (0), .int .i64 (0), .int .i64 (0), .int .i64 (10), .int .i64 (10), .bool false, .bool false], .agg #[Ix (hi), .int .i64 (0)]]) (all := [.agg #[.int .i64 (40), .int .i64 (0), .int .i64 (0), .int .i64 (0), .int .i64 (0), .int .i64 (10), .int .i64 (10), .bool false, .bool false], .agg #[Ix (hi), .int .i64 (0)]]) tf9 rfl rfl rfl) ?_
      intro w hw
      obtain ⟨β1, sb, kn, hw1, back⟩ := St.frame_all hw
      refine (speedE_ok β1 w hw1 ib0 hi 0 (by omega) (by omega) hvx).mono ?_
      rintro e w' ⟨rfl, hw'⟩
      refine ⟨_, rfl, _, back _ _ hw', ?_⟩
      clear hw hw1 hw' back kn sb
      refine l_nil ?_
      exact f_owes_d (up_cons (up_cons rfl hs160) hs162) rfl (List.Perm.refl _)
    · rintro f M - ⟨i0, -⟩
      have hs13 : f 13 = .pointer (some ⟨b11, 0, none⟩) := i0
      refine ob_start (L' := pt b11 (.cells #[.int .i64 (40), .int .i64 (0), .int .i64 (0), .int .i64 (0), .int .i64 (0), .int .i64 (10), .int .i64 (10), .bool false, .bool false] 39) :: M) (by rfl) (up_cons rfl hs13) ?_
      refine l_val (v := .agg #[.int .i64 (40), .int .i64 (0), .int .i64 (0), .int .i64 (0), .int .i64 (0), .int .i64 (10), .int .i64 (10), .bool false, .bool false]) rfl rfl rfl (e_load tf1 (cs := [.int .i64 (40), .int .i64 (0), .int .i64 (0), .int .i64 (0), .int .i64 (0), .int .i64 (10), .int .i64 (10), .bool false, .bool false]) rfl (k_pt 0 (cs := #[.int .i64 (40), .int .i64 (0), .int .i64 (0), .int .i64 (0), .int .i64 (0), .int .i64 (10), .int .i64 (10), .bool false, .bool false]) (vs := [.int .i64 (40), .int .i64 (0), .int .i64 (0), .int .i64 (0), .int .i64 (0), .int .i64 (10), .int .i64 (10), .bool false, .bool false]) rfl rfl) rfl) ?_
      refine l_nil ?_
      exact f_owes_d (up_cons rfl hs13) rfl (perm_front 0 rfl)
    · rintro f M - ⟨i0, -⟩
      have hs3 : f 3 = Ix (lo) := i0
      refine ob_start (L' := M) (by rfl) (up_cons rfl hs3) ?_
      refine l_val (v := Ix (lo)) rfl rfl rfl (e_move) ?_
      refine l_nil ?_
      exact f_owes_d (up_cons rfl hs3) rfl (List.Perm.refl _)
    · rintro f M ⟨k0, -⟩ -
      have hs165 : f 165 = Ix (lo) := k0
      refine ob_start (L' := M) (by rfl) (up_cons rfl hs165) ?_
      refine l_val (v := .agg #[.int .i64 (0), Ix (lo)]) rfl rfl rfl (e_build tf8 tf13 (vs := [(1, Ix (lo))]) (cells := #[.int .i64 (0), Ix (lo)]) rfl rfl) ?_
      refine l_nil ?_
      exact f_owes_d (up_cons rfl hs165) rfl (List.Perm.refl _)
    · rintro f M ⟨k0, k1, -⟩ -
      have hs164 : f 164 = .agg #[.int .i64 (40), .int .i64 (0), .int .i64 (0), .int .i64 (0), .int .i64 (0), .int .i64 (10), .int .i64 (10), .bool false, .bool false] := k0
      have hs166 : f 166 = .agg #[.int .i64 (0), Ix (lo)] := k1
      refine ob_start (L' := M) (by rfl) (up_cons (up_cons rfl hs164) hs166) ?_
      refine l_call rfl rfl rfl (cl_value (fst := []) (cap := []) (vs := [.agg #[.int .i64 (40), .int .i64 (0), .int .i64 (0), .int .i64 (0), .int .i64 (0), .int .i64 (10), .int .i64 (10), .bool false, .bool false], .agg #[.int .i64 (0), Ix (lo)]]) (all := [.agg #[.int .i64 (40), .int .i64 (0), .int .i64 (0), .int .i64 (0), .int .i64 (0), .int .i64 (10), .int .i64 (10), .bool false, .bool false], .agg #[.int .i64 (0), Ix (lo)]]) tf41 rfl rfl rfl) ?_
      intro w hw
      obtain ⟨β1, sb, kn, hw1, back⟩ := St.frame_all hw
      refine (reachE_ok β1 w hw1 ib0 0 lo (by omega) (by omega) hvy).mono ?_
      rintro e w' ⟨rfl, hw'⟩
      refine ⟨_, rfl, _, back _ _ hw', ?_⟩
      clear hw hw1 hw' back kn sb
      refine l_nil ?_
      exact f_owes_d (up_cons (up_cons rfl hs164) hs166) rfl (List.Perm.refl _)
    · rintro f M - -
      refine ob_start (L' := M) (by rfl) rfl ?_
      refine l_mv rfl rfl rfl (m_alloc tf8) ?_
      rintro _ _ ⟨b149, rfl, rfl⟩
      refine l_nil ?_
      exact f_owes_d rfl rfl (perm_front 0 rfl)
    · rintro f M - -
      refine ob_start (L' := M) (by rfl) rfl ?_
      refine l_mv rfl rfl rfl (m_alloc tf0) ?_
      rintro _ _ ⟨b151, rfl, rfl⟩
      refine l_nil ?_
      exact f_owes_d rfl rfl (perm_front 0 rfl)
    · rintro f M ⟨k0, k1, -⟩ -
      have hs26 : f 26 = .pointer (some ⟨(blk (f 26)), 0, none⟩) := k0
      have hs163 : f 163 = .agg #[.int .i64 (0), .int .i64 (0)] := k1
      refine ob_start (L' := pt (blk (f 26)) (.cells #[.int .i64 (0), .int .i64 (0)] 30) :: M) (by rfl) (up_cons (up_cons rfl hs26) hs163) ?_
      refine l_mu rfl rfl (m_store 0 tf5 (b := (blk (f 26))) (o := 0) (T := 30) (cs := #[.int .i64 (0), .int .i64 (0)]) (cs' := #[.int .i64 (0), .int .i64 (0)]) (v := .agg #[.int .i64 (0), .int .i64 (0)]) rfl rfl rfl rfl rfl rfl rfl) ?_
      refine l_nil ?_
      exact f_owes_n (up_cons (up_cons rfl hs26) hs163) trivial (perm_front 0 rfl)
    · rintro f M ⟨k0, k1, -⟩ -
      have hs27 : f 27 = .pointer (some ⟨(blk (f 27)), 0, none⟩) := k0
      have hs167 : f 167 = .agg #[.int .i64 (0), .int .i64 (0), .int .i64 (0), .int .i64 (0)] := k1
      refine ob_start (L' := pt (blk (f 27)) (.cells #[.int .i64 (0), .int .i64 (0), .int .i64 (0), .int .i64 (0)] 46) :: M) (by rfl) (up_cons (up_cons rfl hs27) hs167) ?_
      refine l_mu rfl rfl (m_store 0 tf4 (b := (blk (f 27))) (o := 0) (T := 46) (cs := #[.int .i64 (0), .int .i64 (0), .int .i64 (0), .int .i64 (0)]) (cs' := #[.int .i64 (0), .int .i64 (0), .int .i64 (0), .int .i64 (0)]) (v := .agg #[.int .i64 (0), .int .i64 (0), .int .i64 (0), .int .i64 (0)]) rfl rfl rfl rfl rfl rfl rfl) ?_
      refine l_nil ?_
      exact f_owes_n (up_cons (up_cons rfl hs27) hs167) trivial (perm_front 0 rfl)
    rintro fa152 ⟨-, -, -, -, -, -, -, -, k8, k9, -, -, -⟩ ⟨j0, j1, j2, j3, j4, j5, j6, j7, -⟩
    refine f_re (L' := [pt b147 (.cells #[.slice p143 (0) c144, .slice q145 (0) d146, .int .i64 (0), .int .i64 (0)] 32), pt b142 (.cells #[.int .i64 (40)] 3), pt b137 (.cells #[.int .i64 (41), .int .i64 (40), .int .i64 (5)] 49), pt b11 (.cells #[.int .i64 (40), .int .i64 (0), .int .i64 (0), .int .i64 (0), .int .i64 (0), .int .i64 (10), .int .i64 (10), .bool false, .bool false] 39), pt b10 (.cells #[.slice rp14 (B0.length) rc15, .slice rp138 (Rq.length) rc139, .int .i64 (0), .int .i64 (0)] 32), rowF BodyF 39 rp14 rc15 B0, rowF RopeF 49 rp138 rc139 Rq, pt (blk (fa152 26)) (.cells #[.int .i64 (0), .int .i64 (0)] 30), pt (blk (fa152 27)) (.cells #[.int .i64 (0), .int .i64 (0), .int .i64 (0), .int .i64 (0)] 46)]) (by rfl) ?_
    refine f_rebase (d := 12) (v := .pointer (some ⟨b10, 0, none⟩)) j0 ?_
    refine f_rebase (d := 17) (v := .int .i64 (6)) j1 ?_
    refine f_rebase (d := 19) (v := .int .i64 (6)) j2 ?_
    refine f_rebase (d := 21) (v := .int .i64 (6)) j3 ?_
    refine f_rebase (d := 22) (v := .slice p140 (0) c141) j4 ?_
    refine f_rebase (d := 23) (v := .int .i64 (2)) j5 ?_
    refine f_rebase (d := 24) (v := .pointer (some ⟨b147, 0, none⟩)) j6 ?_
    refine f_rebase (d := 25) (v := .int .i64 (2)) j7 ?_
    refine f_rebase (d := 26) (v := .pointer (some ⟨(blk (fa152 26)), 0, none⟩)) k8 ?_
    refine f_rebase (d := 27) (v := .pointer (some ⟨(blk (fa152 27)), 0, none⟩)) k9 ?_
    refine f_then ?_
    refine c_seq ?_
    refine c_region ?_
    refine l_val (v := .int .i64 (6)) rfl rfl rfl (e_move) ?_
    refine l_val (v := .bool true) rfl rfl rfl (e_eql (a := (6 : Int)) (b := (6 : Int)) rfl rfl) ?_
    refine l_val (v := .bool true) rfl rfl rfl (e_move) ?_
    refine g_val (v := .int .i64 (6)) rfl rfl rfl rfl rfl (e_move) ?_
    refine g_val (v := .bool true) rfl rfl rfl rfl rfl (e_eql (a := (6 : Int)) (b := (6 : Int)) rfl rfl) ?_
    refine l_val (v := .bool true) rfl rfl rfl (e_pick_t rfl) ?_
    refine l_val (v := .bool true) rfl rfl rfl (e_move) ?_
    refine g_val (v := .int .i64 (6)) rfl rfl rfl rfl rfl (e_move) ?_
    refine g_val (v := .bool true) rfl rfl rfl rfl rfl (e_eql (a := (6 : Int)) (b := (6 : Int)) rfl rfl) ?_
    refine l_val (v := .bool true) rfl rfl rfl (e_pick_t rfl) ?_
    refine l_val (v := .bool true) rfl rfl rfl (e_move) ?_
    refine g_val (v := .int .i64 (2)) rfl rfl rfl rfl rfl (e_move) ?_
    refine g_val (v := .bool true) rfl rfl rfl rfl rfl (e_eql (a := (2 : Int)) (b := (2 : Int)) rfl rfl) ?_
    refine l_val (v := .bool true) rfl rfl rfl (e_pick_t rfl) ?_
    refine l_val (v := .bool true) rfl rfl rfl (e_move) ?_
    refine g_val (v := .int .i64 (2)) rfl rfl rfl rfl rfl (e_move) ?_
    refine g_val (v := .bool true) rfl rfl rfl rfl rfl (e_eql (a := (2 : Int)) (b := (2 : Int)) rfl rfl) ?_
    refine l_val (v := .bool true) rfl rfl rfl (e_pick_t rfl) ?_
    refine l_val (v := .bool true) rfl rfl rfl (e_move) ?_
    refine g_val (v := .slice p140 (0) c141) rfl rfl rfl rfl rfl (e_move) ?_
    refine g_val (v := Nx (0)) rfl rfl rfl rfl rfl (e_len (a := p140) (n := 0) (c := c141) rfl tf64) ?_
    refine g_val (v := .pointer (some ⟨b147, 0, none⟩)) rfl rfl rfl rfl rfl (e_fieldPt (b := b147) (o := 0) rfl tf33) ?_
    refine g_val (v := .slice p143 (0) c144) rfl rfl rfl rfl rfl (e_load1 tf26 (v := .slice p143 (0) c144) rfl (k_pt 0 (cs := #[.slice p143 (0) c144, .slice q145 (0) d146, .int .i64 (0), .int .i64 (0)]) (vs := [.slice p143 (0) c144]) rfl rfl)) ?_
    refine g_val (v := Nx (0)) rfl rfl rfl rfl rfl (e_len (a := p143) (n := 0) (c := c144) rfl tf15) ?_
    refine g_val (v := Nx (0 + 0)) rfl rfl rfl rfl rfl (e_add (a := ((0 : Nat) : Int)) (b := ((0 : Nat) : Int)) rfl rfl (i64n (by omega) (by omega))) ?_
    refine g_val (v := .pointer (some ⟨b147, 1, none⟩)) rfl rfl rfl rfl rfl (e_fieldPt (b := b147) (o := 0) rfl tf52) ?_
    refine g_val (v := .slice q145 (0) d146) rfl rfl rfl rfl rfl (e_load1 tf53 (v := .slice q145 (0) d146) rfl (k_pt 0 (cs := #[.slice p143 (0) c144, .slice q145 (0) d146, .int .i64 (0), .int .i64 (0)]) (vs := [.slice q145 (0) d146]) rfl rfl)) ?_
    refine g_val (v := Nx (0)) rfl rfl rfl rfl rfl (e_len (a := q145) (n := 0) (c := d146) rfl tf54) ?_
    refine g_val (v := Nx ((0 + 0) + 0)) rfl rfl rfl rfl rfl (e_add (a := ((0 + 0 : Nat) : Int)) (b := ((0 : Nat) : Int)) rfl rfl (i64n (by omega) (by omega))) ?_
    refine g_val (v := .bool (decide ((((0 + 0) + 0 : Nat) : Int) = (0 : Int)))) rfl rfl rfl rfl rfl (e_eql (a := (((0 + 0) + 0 : Nat) : Int)) (b := (0 : Int)) rfl rfl) ?_
    refine l_val (v := .bool (decide ((((0 + 0) + 0 : Nat) : Int) = (0 : Int)))) rfl rfl rfl (e_pick_t rfl) ?_
    refine l_val (v := .bool (decide ((((0 + 0) + 0 : Nat) : Int) = (0 : Int)))) rfl rfl rfl (e_move) ?_
    refine l_split (s := 199) (p := (((0 + 0) + 0 : Nat) : Int) = (0 : Int)) rfl (fun h => ?_) (fun h => ?_)
    rotate_left; exact absurd (by decide) h
    refine g_val (v := .agg #[.int .i64 (0), .int .i64 (0)]) rfl rfl rfl rfl rfl (e_load tf5 (cs := [.int .i64 (0), .int .i64 (0)]) rfl (k_pt 7 (cs := #[.int .i64 (0), .int .i64 (0)]) (vs := [.int .i64 (0), .int .i64 (0)]) rfl rfl) rfl) ?_
    refine g_val (v := .agg #[.int .i64 (0), .int .i64 (0)]) rfl rfl rfl rfl rfl (e_build tf8 tf13 (vs := []) (cells := #[.int .i64 (0), .int .i64 (0)]) rfl rfl) ?_
    refine g_val (v := .bool true) rfl rfl rfl rfl rfl ((ev_t (by decide) (e_eql_t (p := (0 : Int) = (0 : Int) ∧ (0 : Int) = (0 : Int)) (xs := [.int .i64 (0), .int .i64 (0)]) (ys := [.int .i64 (0), .int .i64 (0)]) tf92 tf93 tf94 rfl rfl rfl rfl vec_eq))) ?_
    refine l_val (v := .bool true) rfl rfl rfl (e_pick_t rfl) ?_
    refine l_val (v := .bool true) rfl rfl rfl (e_move) ?_
    refine g_val (v := .agg #[.int .i64 (0), .int .i64 (0), .int .i64 (0), .int .i64 (0)]) rfl rfl rfl rfl rfl (e_load tf4 (cs := [.int .i64 (0), .int .i64 (0), .int .i64 (0), .int .i64 (0)]) rfl (k_pt 8 (cs := #[.int .i64 (0), .int .i64 (0), .int .i64 (0), .int .i64 (0)]) (vs := [.int .i64 (0), .int .i64 (0), .int .i64 (0), .int .i64 (0)]) rfl rfl) rfl) ?_
    refine g_val (v := .agg #[.int .i64 (0), .int .i64 (0), .int .i64 (0), .int .i64 (0)]) rfl rfl rfl rfl rfl (e_build tf0 tf3 (vs := []) (cells := #[.int .i64 (0), .int .i64 (0), .int .i64 (0), .int .i64 (0)]) rfl rfl) ?_
    refine g_val (v := .bool true) rfl rfl rfl rfl rfl ((ev_t (by decide) (e_eql_t (p := (0 : Int) = (0 : Int) ∧ (0 : Int) = (0 : Int) ∧ (0 : Int) = (0 : Int) ∧ (0 : Int) = (0 : Int)) (xs := [.int .i64 (0), .int .i64 (0), .int .i64 (0), .int .i64 (0)]) (ys := [.int .i64 (0), .int .i64 (0), .int .i64 (0), .int .i64 (0)]) tf78 tf79 tf80 rfl rfl rfl rfl arr4_eq))) ?_
    refine l_val (v := .bool true) rfl rfl rfl (e_pick_t rfl) ?_
    refine l_val (v := .bool true) rfl rfl rfl (e_move) ?_
    refine g_val (v := .agg #[.slice rp14 (B0.length) rc15, .slice rp138 (Rq.length) rc139, .int .i64 (0), .int .i64 (0)]) rfl rfl rfl rfl rfl (e_load tf31 (cs := [.slice rp14 (B0.length) rc15, .slice rp138 (Rq.length) rc139, .int .i64 (0), .int .i64 (0)]) rfl (k_pt 4 (cs := #[.slice rp14 (B0.length) rc15, .slice rp138 (Rq.length) rc139, .int .i64 (0), .int .i64 (0)]) (vs := [.slice rp14 (B0.length) rc15, .slice rp138 (Rq.length) rc139, .int .i64 (0), .int .i64 (0)]) rfl rfl) rfl) ?_
    refine g_call rfl rfl rfl rfl rfl (cl_value (fst := []) (cap := []) (vs := [.agg #[.slice rp14 (B0.length) rc15, .slice rp138 (Rq.length) rc139, .int .i64 (0), .int .i64 (0)]]) (all := [.agg #[.slice rp14 (B0.length) rc15, .slice rp138 (Rq.length) rc139, .int .i64 (0), .int .i64 (0)]]) tf32 rfl rfl rfl) ?_
    intro w hw
    obtain ⟨β1, sb, kn, hw1, back⟩ := St.frame_all hw
    refine (validE_ok β1 w hw1 _ _ 0 0 B0 Rq (kn _ (k_flN 5 (F := BodyF) (m := B0.length) rfl rfl)) (kn _ (k_flN 6 (F := RopeF) (m := Rq.length) rfl rfl)) (by omega) (by omega) hno).mono ?_
    rintro e w' ⟨rfl, hw'⟩
    refine ⟨_, rfl, _, back _ _ hw', ?_⟩
    clear hw hw1 hw' back kn sb
    refine g_val (v := .bool true) rfl rfl rfl rfl rfl (e_not (a := false) rfl) ?_
    refine l_val (v := .bool true) rfl rfl rfl (e_pick_t rfl) ?_
    refine l_val (v := .bool true) rfl rfl rfl (e_assign) ?_
    refine l_nil ?_
    refine f_then ?_
    refine c_ret ?_
    refine ret1 Try.results8 (v := .bool true) rfl ?_
    intro w hw
    exact ⟨rfl, st_mask [false, false, false, false, false, false, false, false, false] rfl hw⟩
  refine c_seq ?_
  refine c_region ?_
  refine l_val (v := .bool (decide (((way.toNat % 10 : Nat) : Int) = (8 : Int)))) rfl rfl rfl (e_eql (a := ((way.toNat % 10 : Nat) : Int)) (b := (8 : Int)) rfl rfl) ?_
  refine l_val (v := .bool (decide (((way.toNat % 10 : Nat) : Int) = (8 : Int)))) rfl rfl rfl (e_assign) ?_
  refine l_nil ?_
  refine f_then ?_
  refine c_if (((way.toNat % 10 : Nat) : Int) = (8 : Int)) rfl (fun hc153 => ?_) (fun hc153 => ?_)
  ·
    refine c_region ?_
    refine l_val (v := .pointer (some ⟨b10, 1, none⟩)) rfl rfl rfl (e_fieldPt (b := b10) (o := 0) rfl tf52) ?_
    refine l_val (v := .slice q8 (R.length) d9) rfl rfl rfl (e_load1 tf53 (v := .slice q8 (R.length) d9) rfl (k_pt 1 (cs := #[.slice rp14 (B0.length) rc15, .slice q8 (R.length) d9, .int .i64 (0), .int .i64 (0)]) (vs := [.slice q8 (R.length) d9]) rfl rfl)) ?_
    refine l_val (v := .agg #[.int .i64 (40), .int .i64 (42), .int .i64 (5)]) rfl rfl rfl (e_build tf57 tf74 (vs := [(0, .int .i64 (40)), (1, .int .i64 (42)), (2, .int .i64 (5))]) (cells := #[.int .i64 (40), .int .i64 (42), .int .i64 (5)]) rfl rfl) ?_
    refine l_mv rfl rfl rfl (m_slices tf55 tf57 (vs := [(0, .agg #[.int .i64 (40), .int .i64 (42), .int .i64 (5)])]) (cells := #[.int .i64 (40), .int .i64 (42), .int .i64 (5)]) rfl rfl rfl rfl) ?_
    rintro _ _ ⟨b154, rfl, rfl⟩
    refine l_mv rfl rfl rfl (m_appendFlN (F := RopeF) 4 tf55 tf72 (p := q8) (m := R.length) (xs := R) (ys := [(⟨40, 42, 5⟩ : KR)]) (ao := (some ⟨b154, 0, none⟩)) (k := 1) (c := 1) rfl rfl rfl rfl rfl (k_ptFl (z := (⟨40, 42, 5⟩ : KR)) 0 rfl rfl) (by first | omega | simp only [List.length_nil, List.length_cons, List.length_append, List.length_set]; omega) (by first | omega | simp only [List.length_nil, List.length_cons, List.length_append, List.length_set]; omega)) ?_
    rintro _ _ ⟨rp155, rc156, rfl, rfl⟩
    refine l_val (v := .pointer (some ⟨b10, 1, none⟩)) rfl rfl rfl (e_fieldPt (b := b10) (o := 0) rfl tf52) ?_
    refine l_mu rfl rfl (m_store 2 tf53 (b := b10) (o := 1) (T := 32) (cs := #[.slice rp14 (B0.length) rc15, .slice q8 (R.length) d9, .int .i64 (0), .int .i64 (0)]) (cs' := #[.slice rp14 (B0.length) rc15, .slice rp155 ((R ++ [(⟨40, 42, 5⟩ : KR)]).length) rc156, .int .i64 (0), .int .i64 (0)]) (v := .slice rp155 ((R ++ [(⟨40, 42, 5⟩ : KR)]).length) rc156) rfl rfl rfl rfl rfl rfl rfl) ?_
    refine l_nil ?_
    refine f_block ?_
    refine f_then ?_
    refine c_seq ?_
    have hno : ¬ okS B0 (R ++ [(⟨40, 42, 5⟩ : KR)]) 0 0 := no_rope (fun q => by have h1 := q.2.1; rw [bad_no hB0 hL hb16 (.inr rfl)] at h1; exact absurd h1 (by decide))
    have hRl : (R ++ [(⟨40, 42, 5⟩ : KR)]).length = R.length + 1 := by rw [List.length_append]; rfl
    obtain ⟨Rq, hRq⟩ : ∃ z, z = (R ++ [(⟨40, 42, 5⟩ : KR)]) := ⟨_, rfl⟩
    rw [← hRq] at hno hRl
    rw [← hRq]
    refine c_region ?_
    refine l_val (v := .agg #[.slice rp14 (B0.length) rc15, .slice rp155 (Rq.length) rc156, .int .i64 (0), .int .i64 (0)]) rfl rfl rfl (e_load tf31 (cs := [.slice rp14 (B0.length) rc15, .slice rp155 (Rq.length) rc156, .int .i64 (0), .int .i64 (0)]) rfl (k_pt 2 (cs := #[.slice rp14 (B0.length) rc15, .slice rp155 (Rq.length) rc156, .int .i64 (0), .int .i64 (0)]) (vs := [.slice rp14 (B0.length) rc15, .slice rp155 (Rq.length) rc156, .int .i64 (0), .int .i64 (0)]) rfl rfl) rfl) ?_
    refine l_call rfl rfl rfl (cl_value (fst := []) (cap := []) (vs := [.agg #[.slice rp14 (B0.length) rc15, .slice rp155 (Rq.length) rc156, .int .i64 (0), .int .i64 (0)]]) (all := [.agg #[.slice rp14 (B0.length) rc15, .slice rp155 (Rq.length) rc156, .int .i64 (0), .int .i64 (0)]]) tf75 rfl rfl rfl) ?_
    intro w hw
    obtain ⟨β1, sb, kn, hw1, back⟩ := St.frame_all hw
    refine (islE_ok β1 w hw1 _ _ 0 0 B0 Rq (kn _ (k_flN 3 (F := BodyF) (m := B0.length) rfl rfl)) (kn _ (k_flN 4 (F := RopeF) (m := Rq.length) rfl rfl)) (by omega) (by omega) hno).mono ?_
    rintro e w' ⟨p157, c158, rfl, hw'⟩
    refine ⟨_, rfl, _, back _ _ hw', ?_⟩
    clear hw hw1 hw' back kn sb
    refine l_val (v := .tuple #[.slice p157 (0) c158, .int .i64 (2)]) rfl rfl rfl (e_move) ?_
    refine l_val (v := .slice p157 (0) c158) rfl rfl rfl (e_extract (vs := #[.slice p157 (0) c158, .int .i64 (2)]) rfl rfl) ?_
    refine l_val (v := .int .i64 (2)) rfl rfl rfl (e_extract (vs := #[.slice p157 (0) c158, .int .i64 (2)]) rfl rfl) ?_
    refine l_val (v := .slice p157 (0) c158) rfl rfl rfl (e_assign) ?_
    refine l_val (v := .int .i64 (2)) rfl rfl rfl (e_assign) ?_
    refine l_nil ?_
    refine f_then ?_
    refine c_seq ?_
    refine c_region ?_
    refine l_val (v := .agg #[.slice rp14 (B0.length) rc15, .slice rp155 (Rq.length) rc156, .int .i64 (0), .int .i64 (0)]) rfl rfl rfl (e_load tf31 (cs := [.slice rp14 (B0.length) rc15, .slice rp155 (Rq.length) rc156, .int .i64 (0), .int .i64 (0)]) rfl (k_pt 2 (cs := #[.slice rp14 (B0.length) rc15, .slice rp155 (Rq.length) rc156, .int .i64 (0), .int .i64 (0)]) (vs := [.slice rp14 (B0.length) rc15, .slice rp155 (Rq.length) rc156, .int .i64 (0), .int .i64 (0)]) rfl rfl) rfl) ?_
    refine l_mv rfl rfl rfl (m_slices tf23 tf24 (vs := [(0, .int .i64 (40))]) (cells := #[.int .i64 (40)]) rfl rfl rfl rfl) ?_
    rintro _ _ ⟨b159, rfl, rfl⟩
    refine l_call rfl rfl rfl (cl_value (fst := []) (cap := []) (vs := [.agg #[.slice rp14 (B0.length) rc15, .slice rp155 (Rq.length) rc156, .int .i64 (0), .int .i64 (0)], .slice (some ⟨b159, 0, none⟩) 1 1]) (all := [.agg #[.slice rp14 (B0.length) rc15, .slice rp155 (Rq.length) rc156, .int .i64 (0), .int .i64 (0)], .slice (some ⟨b159, 0, none⟩) 1 1]) tf76 rfl rfl rfl) ?_
    intro w hw
    obtain ⟨β1, sb, kn, hw1, back⟩ := St.frame_all hw
    refine (partE_ok β1 w hw1 _ _ _ 0 0 B0 Rq [40] (kn _ (k_flN 4 (F := BodyF) (m := B0.length) rfl rfl)) (kn _ (k_flN 5 (F := RopeF) (m := Rq.length) rfl rfl)) (kn _ (k_ptFls (F := IntF) 0 (m := 1) (xs := [40]) rfl rfl rfl (by decide))) (by omega) (by omega) 2 (by decide) (errPt_bad hno [40])).mono ?_
    rintro e w' ⟨p160, c161, q162, d163, rfl, hw'⟩
    refine ⟨_, rfl, _, back _ _ hw', ?_⟩
    clear hw hw1 hw' back kn sb
    refine l_val (v := .tuple #[.agg #[.slice p160 (0) c161, .slice q162 (0) d163, .int .i64 (0), .int .i64 (0)], .int .i64 (2)]) rfl rfl rfl (e_move) ?_
    refine l_val (v := .agg #[.slice p160 (0) c161, .slice q162 (0) d163, .int .i64 (0), .int .i64 (0)]) rfl rfl rfl (e_extract (vs := #[.agg #[.slice p160 (0) c161, .slice q162 (0) d163, .int .i64 (0), .int .i64 (0)], .int .i64 (2)]) rfl rfl) ?_
    refine l_val (v := .int .i64 (2)) rfl rfl rfl (e_extract (vs := #[.agg #[.slice p160 (0) c161, .slice q162 (0) d163, .int .i64 (0), .int .i64 (0)], .int .i64 (2)]) rfl rfl) ?_
    refine l_mv rfl rfl rfl (m_alloc tf67) ?_
    rintro _ _ ⟨b164, rfl, rfl⟩
    refine l_mu rfl rfl (m_store 0 tf31 (b := b164) (o := 0) (T := 32) (cs := #[.slice none 0 0, .slice none 0 0, .int .i64 (0), .int .i64 (0)]) (cs' := #[.slice p160 (0) c161, .slice q162 (0) d163, .int .i64 (0), .int .i64 (0)]) (v := .agg #[.slice p160 (0) c161, .slice q162 (0) d163, .int .i64 (0), .int .i64 (0)]) rfl rfl rfl rfl rfl rfl rfl) ?_
    refine l_val (v := .int .i64 (2)) rfl rfl rfl (e_assign) ?_
    refine l_nil ?_
    refine f_then ?_
    refine c_seq ?_
    have hvx : ¬ okV hi 0 := fun q => by have := q.2.1; omega
    have hvy : ¬ okV 0 lo := fun q => by have := q.2.2.1; omega
    refine c_any [⟨[], [], [0], [160], fun f => f 160 = .agg #[.int .i64 (40), .int .i64 (0), .int .i64 (0), .int .i64 (0), .int .i64 (0), .int .i64 (10), .int .i64 (10), .bool false, .bool false]⟩, ⟨[], [], [1], [161], fun f => f 161 = Ix (hi)⟩, ⟨[1], [1], [], [162], fun f => f 162 = .agg #[Ix (hi), .int .i64 (0)]⟩, ⟨[0, 1, 2], [0, 2], [], [163], fun f => f 163 = .agg #[.int .i64 (0), .int .i64 (0)]⟩, ⟨[], [], [0], [164], fun f => f 164 = .agg #[.int .i64 (40), .int .i64 (0), .int .i64 (0), .int .i64 (0), .int .i64 (0), .int .i64 (10), .int .i64 (10), .bool false, .bool false]⟩, ⟨[], [], [2], [165], fun f => f 165 = Ix (lo)⟩, ⟨[5], [5], [], [166], fun f => f 166 = .agg #[.int .i64 (0), Ix (lo)]⟩, ⟨[0, 1, 2, 3, 4, 5, 6], [4, 6], [], [167], fun f => f 167 = .agg #[.int .i64 (0), .int .i64 (0), .int .i64 (0), .int .i64 (0)]⟩, ⟨[], [], [], [26], fun f => f 26 = .pointer (some ⟨(blk (f 26)), 0, none⟩)⟩, ⟨[], [], [], [27], fun f => f 27 = .pointer (some ⟨(blk (f 27)), 0, none⟩)⟩, ⟨[0, 1, 2, 3, 4, 5, 6, 7, 8, 9], [8, 3], [], [], fun _ => True⟩, ⟨[0, 1, 2, 3, 4, 5, 6, 7, 8, 9, 10], [9, 7], [], [], fun _ => True⟩] [⟨none, none, [], [], fun _ => pt b164 (.cells #[.slice p160 (0) c161, .slice q162 (0) d163, .int .i64 (0), .int .i64 (0)] 32)⟩, ⟨none, none, [], [], fun _ => pt b159 (.cells #[.int .i64 (40)] 3)⟩, ⟨none, none, [], [], fun _ => pt b154 (.cells #[.int .i64 (40), .int .i64 (42), .int .i64 (5)] 49)⟩, ⟨none, none, [0, 4], [], fun _ => pt b11 (.cells #[.int .i64 (40), .int .i64 (0), .int .i64 (0), .int .i64 (0), .int .i64 (0), .int .i64 (10), .int .i64 (10), .bool false, .bool false] 39)⟩, ⟨none, none, [], [], fun _ => pt b10 (.cells #[.slice rp14 (B0.length) rc15, .slice rp155 (Rq.length) rc156, .int .i64 (0), .int .i64 (0)] 32)⟩, ⟨none, none, [], [], fun _ => rowF BodyF 39 rp14 rc15 B0⟩, ⟨none, none, [], [], fun _ => rowF RopeF 49 rp155 rc156 Rq⟩, ⟨(some 8), (some 10), [10], [26], fun f => pt (blk (f 26)) (.cells #[.int .i64 (0), .int .i64 (0)] 30)⟩, ⟨(some 9), (some 11), [11], [27], fun f => pt (blk (f 27)) (.cells #[.int .i64 (0), .int .i64 (0), .int .i64 (0), .int .i64 (0)] 46)⟩, ⟨(some 10), none, [], [26], fun f => pt (blk (f 26)) (.cells #[.int .i64 (0), .int .i64 (0)] 30)⟩, ⟨(some 11), none, [], [27], fun f => pt (blk (f 27)) (.cells #[.int .i64 (0), .int .i64 (0), .int .i64 (0), .int .i64 (0)] 46)⟩] [(13, .pointer (some ⟨b11, 0, none⟩)), (4, Ix (hi)), (3, Ix (lo)), (12, .pointer (some ⟨b10, 0, none⟩)), (17, .int .i64 (6)), (19, .int .i64 (6)), (21, .int .i64 (6)), (22, .slice p157 (0) c158), (23, .int .i64 (2)), (24, .pointer (some ⟨b164, 0, none⟩)), (25, .int .i64 (2))] [3, 4, 5, 6, 7, 8, 9, 10] [] (by kernel_rfl) (by kernel_rfl) (by kernel_rfl) (by kernel_rfl) rfl ⟨rfl, rfl, rfl, rfl, rfl, rfl, rfl, rfl, rfl, rfl, rfl, trivial⟩ ⟨?_, ?_, ?_, ?_, ?_, ?_, ?_, ?_, ?_, ?_, ?_, ?_, trivial⟩ ?_
    · rintro f M - ⟨i0, -⟩
      have hs13 : f 13 = .pointer (some ⟨b11, 0, none⟩) := i0
      refine ob_start (L' := pt b11 (.cells #[.int .i64 (40), .int .i64 (0), .int .i64 (0), .int .i64 (0), .int .i64 (0), .int .i64 (10), .int .i64 (10), .bool false, .bool false] 39) :: M) (by rfl) (up_cons rfl hs13) ?_
      refine l_val (v := .agg #[.int .i64 (40), .int .i64 (0), .int .i64 (0), .int .i64 (0), .int .i64 (0), .int .i64 (10), .int .i64 (10), .bool false, .bool false]) rfl rfl rfl (e_load tf1 (cs := [.int .i64 (40), .int .i64 (0), .int .i64 (0), .int .i64 (0), .int .i64 (0), .int .i64 (10), .int .i64 (10), .bool false, .bool false]) rfl (k_pt 0 (cs := #[.int .i64 (40), .int .i64 (0), .int .i64 (0), .int .i64 (0), .int .i64 (0), .int .i64 (10), .int .i64 (10), .bool false, .bool false]) (vs := [.int .i64 (40), .int .i64 (0), .int .i64 (0), .int .i64 (0), .int .i64 (0), .int .i64 (10), .int .i64 (10), .bool false, .bool false]) rfl rfl) rfl) ?_
      refine l_nil ?_
      exact f_owes_d (up_cons rfl hs13) rfl (perm_front 0 rfl)
    · rintro f M - ⟨i0, -⟩
      have hs4 : f 4 = Ix (hi) := i0
      refine ob_start (L' := M) (by rfl) (up_cons rfl hs4) ?_
      refine l_val (v := Ix (hi)) rfl rfl rfl (e_move) ?_
      refine l_nil ?_
      exact f_owes_d (up_cons rfl hs4) rfl (List.Perm.refl _)
    · rintro f M ⟨k0, -⟩ -
      have hs161 : f 161 = Ix (hi) := k0
      refine ob_start (L' := M) (by rfl) (up_cons rfl hs161) ?_
      refine l_val (v := .agg #[Ix (hi), .int .i64 (0)]) rfl rfl rfl (e_build tf8 tf13 (vs := [(0, Ix (hi))]) (cells := #[Ix (hi), .int .i64 (0)]) rfl rfl) ?_
      refine l_nil ?_
      exact f_owes_d (up_cons rfl hs161) rfl (List.Perm.refl _)
    · rintro f M ⟨k0, k1, -⟩ -
      have hs160 : f 160 = .agg #[.int .i64 (40), .int .i64 (0), .int .i64 (0), .int .i64 (0), .int .i64 (0), .int .i64 (10), .int .i64 (10), .bool false, .bool false] := k0
      have hs162 : f 162 = .agg #[Ix (hi), .int .i64 (0)] := k1
      refine ob_start (L' := M) (by rfl) (up_cons (up_cons rfl hs160) hs162) ?_
      refine l_call rfl rfl rfl (cl_value (fst := []) (cap := []) (vs := [.agg #[.int .i64 (40), .int .i64 (0), .int .i64 (0), .int .i64 (0), .int .i64 (0), .int .i64 (10), .int .i64 (10), .bool false, .bool false], .agg #[Ix (hi), .int .i64 (0)]]) (all := [.agg #[.int .i64 (40), .int .i64 (0), .int .i64 (0), .int .i64 (0), .int .i64 (0), .int .i64 (10), .int .i64 (10), .bool false, .bool false], .agg #[Ix (hi), .int .i64 (0)]]) tf9 rfl rfl rfl) ?_
      intro w hw
      obtain ⟨β1, sb, kn, hw1, back⟩ := St.frame_all hw
      refine (speedE_ok β1 w hw1 ib0 hi 0 (by omega) (by omega) hvx).mono ?_
      rintro e w' ⟨rfl, hw'⟩
      refine ⟨_, rfl, _, back _ _ hw', ?_⟩
      clear hw hw1 hw' back kn sb
      refine l_nil ?_
      exact f_owes_d (up_cons (up_cons rfl hs160) hs162) rfl (List.Perm.refl _)
    · rintro f M - ⟨i0, -⟩
      have hs13 : f 13 = .pointer (some ⟨b11, 0, none⟩) := i0
      refine ob_start (L' := pt b11 (.cells #[.int .i64 (40), .int .i64 (0), .int .i64 (0), .int .i64 (0), .int .i64 (0), .int .i64 (10), .int .i64 (10), .bool false, .bool false] 39) :: M) (by rfl) (up_cons rfl hs13) ?_
      refine l_val (v := .agg #[.int .i64 (40), .int .i64 (0), .int .i64 (0), .int .i64 (0), .int .i64 (0), .int .i64 (10), .int .i64 (10), .bool false, .bool false]) rfl rfl rfl (e_load tf1 (cs := [.int .i64 (40), .int .i64 (0), .int .i64 (0), .int .i64 (0), .int .i64 (0), .int .i64 (10), .int .i64 (10), .bool false, .bool false]) rfl (k_pt 0 (cs := #[.int .i64 (40), .int .i64 (0), .int .i64 (0), .int .i64 (0), .int .i64 (0), .int .i64 (10), .int .i64 (10), .bool false, .bool false]) (vs := [.int .i64 (40), .int .i64 (0), .int .i64 (0), .int .i64 (0), .int .i64 (0), .int .i64 (10), .int .i64 (10), .bool false, .bool false]) rfl rfl) rfl) ?_
      refine l_nil ?_
      exact f_owes_d (up_cons rfl hs13) rfl (perm_front 0 rfl)
    · rintro f M - ⟨i0, -⟩
      have hs3 : f 3 = Ix (lo) := i0
      refine ob_start (L' := M) (by rfl) (up_cons rfl hs3) ?_
      refine l_val (v := Ix (lo)) rfl rfl rfl (e_move) ?_
      refine l_nil ?_
      exact f_owes_d (up_cons rfl hs3) rfl (List.Perm.refl _)
    · rintro f M ⟨k0, -⟩ -
      have hs165 : f 165 = Ix (lo) := k0
      refine ob_start (L' := M) (by rfl) (up_cons rfl hs165) ?_
      refine l_val (v := .agg #[.int .i64 (0), Ix (lo)]) rfl rfl rfl (e_build tf8 tf13 (vs := [(1, Ix (lo))]) (cells := #[.int .i64 (0), Ix (lo)]) rfl rfl) ?_
      refine l_nil ?_
      exact f_owes_d (up_cons rfl hs165) rfl (List.Perm.refl _)
    · rintro f M ⟨k0, k1, -⟩ -
      have hs164 : f 164 = .agg #[.int .i64 (40), .int .i64 (0), .int .i64 (0), .int .i64 (0), .int .i64 (0), .int .i64 (10), .int .i64 (10), .bool false, .bool false] := k0
      have hs166 : f 166 = .agg #[.int .i64 (0), Ix (lo)] := k1
      refine ob_start (L' := M) (by rfl) (up_cons (up_cons rfl hs164) hs166) ?_
      refine l_call rfl rfl rfl (cl_value (fst := []) (cap := []) (vs := [.agg #[.int .i64 (40), .int .i64 (0), .int .i64 (0), .int .i64 (0), .int .i64 (0), .int .i64 (10), .int .i64 (10), .bool false, .bool false], .agg #[.int .i64 (0), Ix (lo)]]) (all := [.agg #[.int .i64 (40), .int .i64 (0), .int .i64 (0), .int .i64 (0), .int .i64 (0), .int .i64 (10), .int .i64 (10), .bool false, .bool false], .agg #[.int .i64 (0), Ix (lo)]]) tf41 rfl rfl rfl) ?_
      intro w hw
      obtain ⟨β1, sb, kn, hw1, back⟩ := St.frame_all hw
      refine (reachE_ok β1 w hw1 ib0 0 lo (by omega) (by omega) hvy).mono ?_
      rintro e w' ⟨rfl, hw'⟩
      refine ⟨_, rfl, _, back _ _ hw', ?_⟩
      clear hw hw1 hw' back kn sb
      refine l_nil ?_
      exact f_owes_d (up_cons (up_cons rfl hs164) hs166) rfl (List.Perm.refl _)
    · rintro f M - -
      refine ob_start (L' := M) (by rfl) rfl ?_
      refine l_mv rfl rfl rfl (m_alloc tf8) ?_
      rintro _ _ ⟨b166, rfl, rfl⟩
      refine l_nil ?_
      exact f_owes_d rfl rfl (perm_front 0 rfl)
    · rintro f M - -
      refine ob_start (L' := M) (by rfl) rfl ?_
      refine l_mv rfl rfl rfl (m_alloc tf0) ?_
      rintro _ _ ⟨b168, rfl, rfl⟩
      refine l_nil ?_
      exact f_owes_d rfl rfl (perm_front 0 rfl)
    · rintro f M ⟨k0, k1, -⟩ -
      have hs26 : f 26 = .pointer (some ⟨(blk (f 26)), 0, none⟩) := k0
      have hs163 : f 163 = .agg #[.int .i64 (0), .int .i64 (0)] := k1
      refine ob_start (L' := pt (blk (f 26)) (.cells #[.int .i64 (0), .int .i64 (0)] 30) :: M) (by rfl) (up_cons (up_cons rfl hs26) hs163) ?_
      refine l_mu rfl rfl (m_store 0 tf5 (b := (blk (f 26))) (o := 0) (T := 30) (cs := #[.int .i64 (0), .int .i64 (0)]) (cs' := #[.int .i64 (0), .int .i64 (0)]) (v := .agg #[.int .i64 (0), .int .i64 (0)]) rfl rfl rfl rfl rfl rfl rfl) ?_
      refine l_nil ?_
      exact f_owes_n (up_cons (up_cons rfl hs26) hs163) trivial (perm_front 0 rfl)
    · rintro f M ⟨k0, k1, -⟩ -
      have hs27 : f 27 = .pointer (some ⟨(blk (f 27)), 0, none⟩) := k0
      have hs167 : f 167 = .agg #[.int .i64 (0), .int .i64 (0), .int .i64 (0), .int .i64 (0)] := k1
      refine ob_start (L' := pt (blk (f 27)) (.cells #[.int .i64 (0), .int .i64 (0), .int .i64 (0), .int .i64 (0)] 46) :: M) (by rfl) (up_cons (up_cons rfl hs27) hs167) ?_
      refine l_mu rfl rfl (m_store 0 tf4 (b := (blk (f 27))) (o := 0) (T := 46) (cs := #[.int .i64 (0), .int .i64 (0), .int .i64 (0), .int .i64 (0)]) (cs' := #[.int .i64 (0), .int .i64 (0), .int .i64 (0), .int .i64 (0)]) (v := .agg #[.int .i64 (0), .int .i64 (0), .int .i64 (0), .int .i64 (0)]) rfl rfl rfl rfl rfl rfl rfl) ?_
      refine l_nil ?_
      exact f_owes_n (up_cons (up_cons rfl hs27) hs167) trivial (perm_front 0 rfl)
    rintro fa169 ⟨-, -, -, -, -, -, -, -, k8, k9, -, -, -⟩ ⟨j0, j1, j2, j3, j4, j5, j6, j7, -⟩
    refine f_re (L' := [pt b164 (.cells #[.slice p160 (0) c161, .slice q162 (0) d163, .int .i64 (0), .int .i64 (0)] 32), pt b159 (.cells #[.int .i64 (40)] 3), pt b154 (.cells #[.int .i64 (40), .int .i64 (42), .int .i64 (5)] 49), pt b11 (.cells #[.int .i64 (40), .int .i64 (0), .int .i64 (0), .int .i64 (0), .int .i64 (0), .int .i64 (10), .int .i64 (10), .bool false, .bool false] 39), pt b10 (.cells #[.slice rp14 (B0.length) rc15, .slice rp155 (Rq.length) rc156, .int .i64 (0), .int .i64 (0)] 32), rowF BodyF 39 rp14 rc15 B0, rowF RopeF 49 rp155 rc156 Rq, pt (blk (fa169 26)) (.cells #[.int .i64 (0), .int .i64 (0)] 30), pt (blk (fa169 27)) (.cells #[.int .i64 (0), .int .i64 (0), .int .i64 (0), .int .i64 (0)] 46)]) (by rfl) ?_
    refine f_rebase (d := 12) (v := .pointer (some ⟨b10, 0, none⟩)) j0 ?_
    refine f_rebase (d := 17) (v := .int .i64 (6)) j1 ?_
    refine f_rebase (d := 19) (v := .int .i64 (6)) j2 ?_
    refine f_rebase (d := 21) (v := .int .i64 (6)) j3 ?_
    refine f_rebase (d := 22) (v := .slice p157 (0) c158) j4 ?_
    refine f_rebase (d := 23) (v := .int .i64 (2)) j5 ?_
    refine f_rebase (d := 24) (v := .pointer (some ⟨b164, 0, none⟩)) j6 ?_
    refine f_rebase (d := 25) (v := .int .i64 (2)) j7 ?_
    refine f_rebase (d := 26) (v := .pointer (some ⟨(blk (fa169 26)), 0, none⟩)) k8 ?_
    refine f_rebase (d := 27) (v := .pointer (some ⟨(blk (fa169 27)), 0, none⟩)) k9 ?_
    refine f_then ?_
    refine c_seq ?_
    refine c_region ?_
    refine l_val (v := .int .i64 (6)) rfl rfl rfl (e_move) ?_
    refine l_val (v := .bool true) rfl rfl rfl (e_eql (a := (6 : Int)) (b := (6 : Int)) rfl rfl) ?_
    refine l_val (v := .bool true) rfl rfl rfl (e_move) ?_
    refine g_val (v := .int .i64 (6)) rfl rfl rfl rfl rfl (e_move) ?_
    refine g_val (v := .bool true) rfl rfl rfl rfl rfl (e_eql (a := (6 : Int)) (b := (6 : Int)) rfl rfl) ?_
    refine l_val (v := .bool true) rfl rfl rfl (e_pick_t rfl) ?_
    refine l_val (v := .bool true) rfl rfl rfl (e_move) ?_
    refine g_val (v := .int .i64 (6)) rfl rfl rfl rfl rfl (e_move) ?_
    refine g_val (v := .bool true) rfl rfl rfl rfl rfl (e_eql (a := (6 : Int)) (b := (6 : Int)) rfl rfl) ?_
    refine l_val (v := .bool true) rfl rfl rfl (e_pick_t rfl) ?_
    refine l_val (v := .bool true) rfl rfl rfl (e_move) ?_
    refine g_val (v := .int .i64 (2)) rfl rfl rfl rfl rfl (e_move) ?_
    refine g_val (v := .bool true) rfl rfl rfl rfl rfl (e_eql (a := (2 : Int)) (b := (2 : Int)) rfl rfl) ?_
    refine l_val (v := .bool true) rfl rfl rfl (e_pick_t rfl) ?_
    refine l_val (v := .bool true) rfl rfl rfl (e_move) ?_
    refine g_val (v := .int .i64 (2)) rfl rfl rfl rfl rfl (e_move) ?_
    refine g_val (v := .bool true) rfl rfl rfl rfl rfl (e_eql (a := (2 : Int)) (b := (2 : Int)) rfl rfl) ?_
    refine l_val (v := .bool true) rfl rfl rfl (e_pick_t rfl) ?_
    refine l_val (v := .bool true) rfl rfl rfl (e_move) ?_
    refine g_val (v := .slice p157 (0) c158) rfl rfl rfl rfl rfl (e_move) ?_
    refine g_val (v := Nx (0)) rfl rfl rfl rfl rfl (e_len (a := p157) (n := 0) (c := c158) rfl tf64) ?_
    refine g_val (v := .pointer (some ⟨b164, 0, none⟩)) rfl rfl rfl rfl rfl (e_fieldPt (b := b164) (o := 0) rfl tf33) ?_
    refine g_val (v := .slice p160 (0) c161) rfl rfl rfl rfl rfl (e_load1 tf26 (v := .slice p160 (0) c161) rfl (k_pt 0 (cs := #[.slice p160 (0) c161, .slice q162 (0) d163, .int .i64 (0), .int .i64 (0)]) (vs := [.slice p160 (0) c161]) rfl rfl)) ?_
    refine g_val (v := Nx (0)) rfl rfl rfl rfl rfl (e_len (a := p160) (n := 0) (c := c161) rfl tf15) ?_
    refine g_val (v := Nx (0 + 0)) rfl rfl rfl rfl rfl (e_add (a := ((0 : Nat) : Int)) (b := ((0 : Nat) : Int)) rfl rfl (i64n (by omega) (by omega))) ?_
    refine g_val (v := .pointer (some ⟨b164, 1, none⟩)) rfl rfl rfl rfl rfl (e_fieldPt (b := b164) (o := 0) rfl tf52) ?_
    refine g_val (v := .slice q162 (0) d163) rfl rfl rfl rfl rfl (e_load1 tf53 (v := .slice q162 (0) d163) rfl (k_pt 0 (cs := #[.slice p160 (0) c161, .slice q162 (0) d163, .int .i64 (0), .int .i64 (0)]) (vs := [.slice q162 (0) d163]) rfl rfl)) ?_
    refine g_val (v := Nx (0)) rfl rfl rfl rfl rfl (e_len (a := q162) (n := 0) (c := d163) rfl tf54) ?_
    refine g_val (v := Nx ((0 + 0) + 0)) rfl rfl rfl rfl rfl (e_add (a := ((0 + 0 : Nat) : Int)) (b := ((0 : Nat) : Int)) rfl rfl (i64n (by omega) (by omega))) ?_
    refine g_val (v := .bool (decide ((((0 + 0) + 0 : Nat) : Int) = (0 : Int)))) rfl rfl rfl rfl rfl (e_eql (a := (((0 + 0) + 0 : Nat) : Int)) (b := (0 : Int)) rfl rfl) ?_
    refine l_val (v := .bool (decide ((((0 + 0) + 0 : Nat) : Int) = (0 : Int)))) rfl rfl rfl (e_pick_t rfl) ?_
    refine l_val (v := .bool (decide ((((0 + 0) + 0 : Nat) : Int) = (0 : Int)))) rfl rfl rfl (e_move) ?_
    refine l_split (s := 199) (p := (((0 + 0) + 0 : Nat) : Int) = (0 : Int)) rfl (fun h => ?_) (fun h => ?_)
    rotate_left; exact absurd (by decide) h
    refine g_val (v := .agg #[.int .i64 (0), .int .i64 (0)]) rfl rfl rfl rfl rfl (e_load tf5 (cs := [.int .i64 (0), .int .i64 (0)]) rfl (k_pt 7 (cs := #[.int .i64 (0), .int .i64 (0)]) (vs := [.int .i64 (0), .int .i64 (0)]) rfl rfl) rfl) ?_
    refine g_val (v := .agg #[.int .i64 (0), .int .i64 (0)]) rfl rfl rfl rfl rfl (e_build tf8 tf13 (vs := []) (cells := #[.int .i64 (0), .int .i64 (0)]) rfl rfl) ?_
    refine g_val (v := .bool true) rfl rfl rfl rfl rfl ((ev_t (by decide) (e_eql_t (p := (0 : Int) = (0 : Int) ∧ (0 : Int) = (0 : Int)) (xs := [.int .i64 (0), .int .i64 (0)]) (ys := [.int .i64 (0), .int .i64 (0)]) tf92 tf93 tf94 rfl rfl rfl rfl vec_eq))) ?_
    refine l_val (v := .bool true) rfl rfl rfl (e_pick_t rfl) ?_
    refine l_val (v := .bool true) rfl rfl rfl (e_move) ?_
    refine g_val (v := .agg #[.int .i64 (0), .int .i64 (0), .int .i64 (0), .int .i64 (0)]) rfl rfl rfl rfl rfl (e_load tf4 (cs := [.int .i64 (0), .int .i64 (0), .int .i64 (0), .int .i64 (0)]) rfl (k_pt 8 (cs := #[.int .i64 (0), .int .i64 (0), .int .i64 (0), .int .i64 (0)]) (vs := [.int .i64 (0), .int .i64 (0), .int .i64 (0), .int .i64 (0)]) rfl rfl) rfl) ?_
    refine g_val (v := .agg #[.int .i64 (0), .int .i64 (0), .int .i64 (0), .int .i64 (0)]) rfl rfl rfl rfl rfl (e_build tf0 tf3 (vs := []) (cells := #[.int .i64 (0), .int .i64 (0), .int .i64 (0), .int .i64 (0)]) rfl rfl) ?_
    refine g_val (v := .bool true) rfl rfl rfl rfl rfl ((ev_t (by decide) (e_eql_t (p := (0 : Int) = (0 : Int) ∧ (0 : Int) = (0 : Int) ∧ (0 : Int) = (0 : Int) ∧ (0 : Int) = (0 : Int)) (xs := [.int .i64 (0), .int .i64 (0), .int .i64 (0), .int .i64 (0)]) (ys := [.int .i64 (0), .int .i64 (0), .int .i64 (0), .int .i64 (0)]) tf78 tf79 tf80 rfl rfl rfl rfl arr4_eq))) ?_
    refine l_val (v := .bool true) rfl rfl rfl (e_pick_t rfl) ?_
    refine l_val (v := .bool true) rfl rfl rfl (e_move) ?_
    refine g_val (v := .agg #[.slice rp14 (B0.length) rc15, .slice rp155 (Rq.length) rc156, .int .i64 (0), .int .i64 (0)]) rfl rfl rfl rfl rfl (e_load tf31 (cs := [.slice rp14 (B0.length) rc15, .slice rp155 (Rq.length) rc156, .int .i64 (0), .int .i64 (0)]) rfl (k_pt 4 (cs := #[.slice rp14 (B0.length) rc15, .slice rp155 (Rq.length) rc156, .int .i64 (0), .int .i64 (0)]) (vs := [.slice rp14 (B0.length) rc15, .slice rp155 (Rq.length) rc156, .int .i64 (0), .int .i64 (0)]) rfl rfl) rfl) ?_
    refine g_call rfl rfl rfl rfl rfl (cl_value (fst := []) (cap := []) (vs := [.agg #[.slice rp14 (B0.length) rc15, .slice rp155 (Rq.length) rc156, .int .i64 (0), .int .i64 (0)]]) (all := [.agg #[.slice rp14 (B0.length) rc15, .slice rp155 (Rq.length) rc156, .int .i64 (0), .int .i64 (0)]]) tf32 rfl rfl rfl) ?_
    intro w hw
    obtain ⟨β1, sb, kn, hw1, back⟩ := St.frame_all hw
    refine (validE_ok β1 w hw1 _ _ 0 0 B0 Rq (kn _ (k_flN 5 (F := BodyF) (m := B0.length) rfl rfl)) (kn _ (k_flN 6 (F := RopeF) (m := Rq.length) rfl rfl)) (by omega) (by omega) hno).mono ?_
    rintro e w' ⟨rfl, hw'⟩
    refine ⟨_, rfl, _, back _ _ hw', ?_⟩
    clear hw hw1 hw' back kn sb
    refine g_val (v := .bool true) rfl rfl rfl rfl rfl (e_not (a := false) rfl) ?_
    refine l_val (v := .bool true) rfl rfl rfl (e_pick_t rfl) ?_
    refine l_val (v := .bool true) rfl rfl rfl (e_assign) ?_
    refine l_nil ?_
    refine f_then ?_
    refine c_ret ?_
    refine ret1 Try.results8 (v := .bool true) rfl ?_
    intro w hw
    exact ⟨rfl, st_mask [false, false, false, false, false, false, false, false, false] rfl hw⟩
  refine c_seq ?_
  refine c_region ?_
  refine l_val (v := .bool (decide (((way.toNat % 10 : Nat) : Int) = (9 : Int)))) rfl rfl rfl (e_eql (a := ((way.toNat % 10 : Nat) : Int)) (b := (9 : Int)) rfl rfl) ?_
  refine l_val (v := .bool (decide (((way.toNat % 10 : Nat) : Int) = (9 : Int)))) rfl rfl rfl (e_assign) ?_
  refine l_nil ?_
  refine f_then ?_
  refine c_if (((way.toNat % 10 : Nat) : Int) = (9 : Int)) rfl (fun hc170 => ?_) (fun hc170 => ?_)
  ·
    refine c_region ?_
    refine l_val (v := .pointer (some ⟨b10, 1, none⟩)) rfl rfl rfl (e_fieldPt (b := b10) (o := 0) rfl tf52) ?_
    refine l_val (v := .slice q8 (R.length) d9) rfl rfl rfl (e_load1 tf53 (v := .slice q8 (R.length) d9) rfl (k_pt 1 (cs := #[.slice rp14 (B0.length) rc15, .slice q8 (R.length) d9, .int .i64 (0), .int .i64 (0)]) (vs := [.slice q8 (R.length) d9]) rfl rfl)) ?_
    refine l_val (v := Ix (hi)) rfl rfl rfl (e_move) ?_
    refine l_val (v := .agg #[.int .i64 (40), .int .i64 (41), Ix (hi)]) rfl rfl rfl (e_build tf57 tf74 (vs := [(0, .int .i64 (40)), (1, .int .i64 (41)), (2, Ix (hi))]) (cells := #[.int .i64 (40), .int .i64 (41), Ix (hi)]) rfl rfl) ?_
    refine l_mv rfl rfl rfl (m_slices tf55 tf57 (vs := [(0, .agg #[.int .i64 (40), .int .i64 (41), Ix (hi)])]) (cells := #[.int .i64 (40), .int .i64 (41), Ix (hi)]) rfl rfl rfl rfl) ?_
    rintro _ _ ⟨b171, rfl, rfl⟩
    refine l_mv rfl rfl rfl (m_appendFlN (F := RopeF) 4 tf55 tf72 (p := q8) (m := R.length) (xs := R) (ys := [(⟨40, 41, hi⟩ : KR)]) (ao := (some ⟨b171, 0, none⟩)) (k := 1) (c := 1) rfl rfl rfl rfl rfl (k_ptFl (z := (⟨40, 41, hi⟩ : KR)) 0 rfl rfl) (by first | omega | simp only [List.length_nil, List.length_cons, List.length_append, List.length_set]; omega) (by first | omega | simp only [List.length_nil, List.length_cons, List.length_append, List.length_set]; omega)) ?_
    rintro _ _ ⟨rp172, rc173, rfl, rfl⟩
    refine l_val (v := .pointer (some ⟨b10, 1, none⟩)) rfl rfl rfl (e_fieldPt (b := b10) (o := 0) rfl tf52) ?_
    refine l_mu rfl rfl (m_store 2 tf53 (b := b10) (o := 1) (T := 32) (cs := #[.slice rp14 (B0.length) rc15, .slice q8 (R.length) d9, .int .i64 (0), .int .i64 (0)]) (cs' := #[.slice rp14 (B0.length) rc15, .slice rp172 ((R ++ [(⟨40, 41, hi⟩ : KR)]).length) rc173, .int .i64 (0), .int .i64 (0)]) (v := .slice rp172 ((R ++ [(⟨40, 41, hi⟩ : KR)]).length) rc173) rfl rfl rfl rfl rfl rfl rfl) ?_
    refine l_nil ?_
    refine f_block ?_
    refine f_then ?_
    refine c_seq ?_
    have hno : ¬ okS B0 (R ++ [(⟨40, 41, hi⟩ : KR)]) 0 0 := no_rope (fun q => by have h1 := q.2.2.2.2; simp only at h1; omega)
    have hRl : (R ++ [(⟨40, 41, hi⟩ : KR)]).length = R.length + 1 := by rw [List.length_append]; rfl
    obtain ⟨Rq, hRq⟩ : ∃ z, z = (R ++ [(⟨40, 41, hi⟩ : KR)]) := ⟨_, rfl⟩
    rw [← hRq] at hno hRl
    rw [← hRq]
    refine c_region ?_
    refine l_val (v := .agg #[.slice rp14 (B0.length) rc15, .slice rp172 (Rq.length) rc173, .int .i64 (0), .int .i64 (0)]) rfl rfl rfl (e_load tf31 (cs := [.slice rp14 (B0.length) rc15, .slice rp172 (Rq.length) rc173, .int .i64 (0), .int .i64 (0)]) rfl (k_pt 2 (cs := #[.slice rp14 (B0.length) rc15, .slice rp172 (Rq.length) rc173, .int .i64 (0), .int .i64 (0)]) (vs := [.slice rp14 (B0.length) rc15, .slice rp172 (Rq.length) rc173, .int .i64 (0), .int .i64 (0)]) rfl rfl) rfl) ?_
    refine l_call rfl rfl rfl (cl_value (fst := []) (cap := []) (vs := [.agg #[.slice rp14 (B0.length) rc15, .slice rp172 (Rq.length) rc173, .int .i64 (0), .int .i64 (0)]]) (all := [.agg #[.slice rp14 (B0.length) rc15, .slice rp172 (Rq.length) rc173, .int .i64 (0), .int .i64 (0)]]) tf75 rfl rfl rfl) ?_
    intro w hw
    obtain ⟨β1, sb, kn, hw1, back⟩ := St.frame_all hw
    refine (islE_ok β1 w hw1 _ _ 0 0 B0 Rq (kn _ (k_flN 3 (F := BodyF) (m := B0.length) rfl rfl)) (kn _ (k_flN 4 (F := RopeF) (m := Rq.length) rfl rfl)) (by omega) (by omega) hno).mono ?_
    rintro e w' ⟨p174, c175, rfl, hw'⟩
    refine ⟨_, rfl, _, back _ _ hw', ?_⟩
    clear hw hw1 hw' back kn sb
    refine l_val (v := .tuple #[.slice p174 (0) c175, .int .i64 (2)]) rfl rfl rfl (e_move) ?_
    refine l_val (v := .slice p174 (0) c175) rfl rfl rfl (e_extract (vs := #[.slice p174 (0) c175, .int .i64 (2)]) rfl rfl) ?_
    refine l_val (v := .int .i64 (2)) rfl rfl rfl (e_extract (vs := #[.slice p174 (0) c175, .int .i64 (2)]) rfl rfl) ?_
    refine l_val (v := .slice p174 (0) c175) rfl rfl rfl (e_assign) ?_
    refine l_val (v := .int .i64 (2)) rfl rfl rfl (e_assign) ?_
    refine l_nil ?_
    refine f_then ?_
    refine c_seq ?_
    refine c_region ?_
    refine l_val (v := .agg #[.slice rp14 (B0.length) rc15, .slice rp172 (Rq.length) rc173, .int .i64 (0), .int .i64 (0)]) rfl rfl rfl (e_load tf31 (cs := [.slice rp14 (B0.length) rc15, .slice rp172 (Rq.length) rc173, .int .i64 (0), .int .i64 (0)]) rfl (k_pt 2 (cs := #[.slice rp14 (B0.length) rc15, .slice rp172 (Rq.length) rc173, .int .i64 (0), .int .i64 (0)]) (vs := [.slice rp14 (B0.length) rc15, .slice rp172 (Rq.length) rc173, .int .i64 (0), .int .i64 (0)]) rfl rfl) rfl) ?_
    refine l_mv rfl rfl rfl (m_slices tf23 tf24 (vs := [(0, .int .i64 (40))]) (cells := #[.int .i64 (40)]) rfl rfl rfl rfl) ?_
    rintro _ _ ⟨b176, rfl, rfl⟩
    refine l_call rfl rfl rfl (cl_value (fst := []) (cap := []) (vs := [.agg #[.slice rp14 (B0.length) rc15, .slice rp172 (Rq.length) rc173, .int .i64 (0), .int .i64 (0)], .slice (some ⟨b176, 0, none⟩) 1 1]) (all := [.agg #[.slice rp14 (B0.length) rc15, .slice rp172 (Rq.length) rc173, .int .i64 (0), .int .i64 (0)], .slice (some ⟨b176, 0, none⟩) 1 1]) tf76 rfl rfl rfl) ?_
    intro w hw
    obtain ⟨β1, sb, kn, hw1, back⟩ := St.frame_all hw
    refine (partE_ok β1 w hw1 _ _ _ 0 0 B0 Rq [40] (kn _ (k_flN 4 (F := BodyF) (m := B0.length) rfl rfl)) (kn _ (k_flN 5 (F := RopeF) (m := Rq.length) rfl rfl)) (kn _ (k_ptFls (F := IntF) 0 (m := 1) (xs := [40]) rfl rfl rfl (by decide))) (by omega) (by omega) 2 (by decide) (errPt_bad hno [40])).mono ?_
    rintro e w' ⟨p177, c178, q179, d180, rfl, hw'⟩
    refine ⟨_, rfl, _, back _ _ hw', ?_⟩
    clear hw hw1 hw' back kn sb
    refine l_val (v := .tuple #[.agg #[.slice p177 (0) c178, .slice q179 (0) d180, .int .i64 (0), .int .i64 (0)], .int .i64 (2)]) rfl rfl rfl (e_move) ?_
    refine l_val (v := .agg #[.slice p177 (0) c178, .slice q179 (0) d180, .int .i64 (0), .int .i64 (0)]) rfl rfl rfl (e_extract (vs := #[.agg #[.slice p177 (0) c178, .slice q179 (0) d180, .int .i64 (0), .int .i64 (0)], .int .i64 (2)]) rfl rfl) ?_
    refine l_val (v := .int .i64 (2)) rfl rfl rfl (e_extract (vs := #[.agg #[.slice p177 (0) c178, .slice q179 (0) d180, .int .i64 (0), .int .i64 (0)], .int .i64 (2)]) rfl rfl) ?_
    refine l_mv rfl rfl rfl (m_alloc tf67) ?_
    rintro _ _ ⟨b181, rfl, rfl⟩
    refine l_mu rfl rfl (m_store 0 tf31 (b := b181) (o := 0) (T := 32) (cs := #[.slice none 0 0, .slice none 0 0, .int .i64 (0), .int .i64 (0)]) (cs' := #[.slice p177 (0) c178, .slice q179 (0) d180, .int .i64 (0), .int .i64 (0)]) (v := .agg #[.slice p177 (0) c178, .slice q179 (0) d180, .int .i64 (0), .int .i64 (0)]) rfl rfl rfl rfl rfl rfl rfl) ?_
    refine l_val (v := .int .i64 (2)) rfl rfl rfl (e_assign) ?_
    refine l_nil ?_
    refine f_then ?_
    refine c_seq ?_
    have hvx : ¬ okV hi 0 := fun q => by have := q.2.1; omega
    have hvy : ¬ okV 0 lo := fun q => by have := q.2.2.1; omega
    refine c_any [⟨[], [], [0], [160], fun f => f 160 = .agg #[.int .i64 (40), .int .i64 (0), .int .i64 (0), .int .i64 (0), .int .i64 (0), .int .i64 (10), .int .i64 (10), .bool false, .bool false]⟩, ⟨[], [], [1], [161], fun f => f 161 = Ix (hi)⟩, ⟨[1], [1], [], [162], fun f => f 162 = .agg #[Ix (hi), .int .i64 (0)]⟩, ⟨[0, 1, 2], [0, 2], [], [163], fun f => f 163 = .agg #[.int .i64 (0), .int .i64 (0)]⟩, ⟨[], [], [0], [164], fun f => f 164 = .agg #[.int .i64 (40), .int .i64 (0), .int .i64 (0), .int .i64 (0), .int .i64 (0), .int .i64 (10), .int .i64 (10), .bool false, .bool false]⟩, ⟨[], [], [2], [165], fun f => f 165 = Ix (lo)⟩, ⟨[5], [5], [], [166], fun f => f 166 = .agg #[.int .i64 (0), Ix (lo)]⟩, ⟨[0, 1, 2, 3, 4, 5, 6], [4, 6], [], [167], fun f => f 167 = .agg #[.int .i64 (0), .int .i64 (0), .int .i64 (0), .int .i64 (0)]⟩, ⟨[], [], [], [26], fun f => f 26 = .pointer (some ⟨(blk (f 26)), 0, none⟩)⟩, ⟨[], [], [], [27], fun f => f 27 = .pointer (some ⟨(blk (f 27)), 0, none⟩)⟩, ⟨[0, 1, 2, 3, 4, 5, 6, 7, 8, 9], [8, 3], [], [], fun _ => True⟩, ⟨[0, 1, 2, 3, 4, 5, 6, 7, 8, 9, 10], [9, 7], [], [], fun _ => True⟩] [⟨none, none, [], [], fun _ => pt b181 (.cells #[.slice p177 (0) c178, .slice q179 (0) d180, .int .i64 (0), .int .i64 (0)] 32)⟩, ⟨none, none, [], [], fun _ => pt b176 (.cells #[.int .i64 (40)] 3)⟩, ⟨none, none, [], [], fun _ => pt b171 (.cells #[.int .i64 (40), .int .i64 (41), Ix (hi)] 49)⟩, ⟨none, none, [0, 4], [], fun _ => pt b11 (.cells #[.int .i64 (40), .int .i64 (0), .int .i64 (0), .int .i64 (0), .int .i64 (0), .int .i64 (10), .int .i64 (10), .bool false, .bool false] 39)⟩, ⟨none, none, [], [], fun _ => pt b10 (.cells #[.slice rp14 (B0.length) rc15, .slice rp172 (Rq.length) rc173, .int .i64 (0), .int .i64 (0)] 32)⟩, ⟨none, none, [], [], fun _ => rowF BodyF 39 rp14 rc15 B0⟩, ⟨none, none, [], [], fun _ => rowF RopeF 49 rp172 rc173 Rq⟩, ⟨(some 8), (some 10), [10], [26], fun f => pt (blk (f 26)) (.cells #[.int .i64 (0), .int .i64 (0)] 30)⟩, ⟨(some 9), (some 11), [11], [27], fun f => pt (blk (f 27)) (.cells #[.int .i64 (0), .int .i64 (0), .int .i64 (0), .int .i64 (0)] 46)⟩, ⟨(some 10), none, [], [26], fun f => pt (blk (f 26)) (.cells #[.int .i64 (0), .int .i64 (0)] 30)⟩, ⟨(some 11), none, [], [27], fun f => pt (blk (f 27)) (.cells #[.int .i64 (0), .int .i64 (0), .int .i64 (0), .int .i64 (0)] 46)⟩] [(13, .pointer (some ⟨b11, 0, none⟩)), (4, Ix (hi)), (3, Ix (lo)), (12, .pointer (some ⟨b10, 0, none⟩)), (17, .int .i64 (6)), (19, .int .i64 (6)), (21, .int .i64 (6)), (22, .slice p174 (0) c175), (23, .int .i64 (2)), (24, .pointer (some ⟨b181, 0, none⟩)), (25, .int .i64 (2))] [3, 4, 5, 6, 7, 8, 9, 10] [] (by kernel_rfl) (by kernel_rfl) (by kernel_rfl) (by kernel_rfl) rfl ⟨rfl, rfl, rfl, rfl, rfl, rfl, rfl, rfl, rfl, rfl, rfl, trivial⟩ ⟨?_, ?_, ?_, ?_, ?_, ?_, ?_, ?_, ?_, ?_, ?_, ?_, trivial⟩ ?_
    · rintro f M - ⟨i0, -⟩
      have hs13 : f 13 = .pointer (some ⟨b11, 0, none⟩) := i0
      refine ob_start (L' := pt b11 (.cells #[.int .i64 (40), .int .i64 (0), .int .i64 (0), .int .i64 (0), .int .i64 (0), .int .i64 (10), .int .i64 (10), .bool false, .bool false] 39) :: M) (by rfl) (up_cons rfl hs13) ?_
      refine l_val (v := .agg #[.int .i64 (40), .int .i64 (0), .int .i64 (0), .int .i64 (0), .int .i64 (0), .int .i64 (10), .int .i64 (10), .bool false, .bool false]) rfl rfl rfl (e_load tf1 (cs := [.int .i64 (40), .int .i64 (0), .int .i64 (0), .int .i64 (0), .int .i64 (0), .int .i64 (10), .int .i64 (10), .bool false, .bool false]) rfl (k_pt 0 (cs := #[.int .i64 (40), .int .i64 (0), .int .i64 (0), .int .i64 (0), .int .i64 (0), .int .i64 (10), .int .i64 (10), .bool false, .bool false]) (vs := [.int .i64 (40), .int .i64 (0), .int .i64 (0), .int .i64 (0), .int .i64 (0), .int .i64 (10), .int .i64 (10), .bool false, .bool false]) rfl rfl) rfl) ?_
      refine l_nil ?_
      exact f_owes_d (up_cons rfl hs13) rfl (perm_front 0 rfl)
    · rintro f M - ⟨i0, -⟩
      have hs4 : f 4 = Ix (hi) := i0
      refine ob_start (L' := M) (by rfl) (up_cons rfl hs4) ?_
      refine l_val (v := Ix (hi)) rfl rfl rfl (e_move) ?_
      refine l_nil ?_
      exact f_owes_d (up_cons rfl hs4) rfl (List.Perm.refl _)
    · rintro f M ⟨k0, -⟩ -
      have hs161 : f 161 = Ix (hi) := k0
      refine ob_start (L' := M) (by rfl) (up_cons rfl hs161) ?_
      refine l_val (v := .agg #[Ix (hi), .int .i64 (0)]) rfl rfl rfl (e_build tf8 tf13 (vs := [(0, Ix (hi))]) (cells := #[Ix (hi), .int .i64 (0)]) rfl rfl) ?_
      refine l_nil ?_
      exact f_owes_d (up_cons rfl hs161) rfl (List.Perm.refl _)
    · rintro f M ⟨k0, k1, -⟩ -
      have hs160 : f 160 = .agg #[.int .i64 (40), .int .i64 (0), .int .i64 (0), .int .i64 (0), .int .i64 (0), .int .i64 (10), .int .i64 (10), .bool false, .bool false] := k0
      have hs162 : f 162 = .agg #[Ix (hi), .int .i64 (0)] := k1
      refine ob_start (L' := M) (by rfl) (up_cons (up_cons rfl hs160) hs162) ?_
      refine l_call rfl rfl rfl (cl_value (fst := []) (cap := []) (vs := [.agg #[.int .i64 (40), .int .i64 (0), .int .i64 (0), .int .i64 (0), .int .i64 (0), .int .i64 (10), .int .i64 (10), .bool false, .bool false], .agg #[Ix (hi), .int .i64 (0)]]) (all := [.agg #[.int .i64 (40), .int .i64 (0), .int .i64 (0), .int .i64 (0), .int .i64 (0), .int .i64 (10), .int .i64 (10), .bool false, .bool false], .agg #[Ix (hi), .int .i64 (0)]]) tf9 rfl rfl rfl) ?_
      intro w hw
      obtain ⟨β1, sb, kn, hw1, back⟩ := St.frame_all hw
      refine (speedE_ok β1 w hw1 ib0 hi 0 (by omega) (by omega) hvx).mono ?_
      rintro e w' ⟨rfl, hw'⟩
      refine ⟨_, rfl, _, back _ _ hw', ?_⟩
      clear hw hw1 hw' back kn sb
      refine l_nil ?_
      exact f_owes_d (up_cons (up_cons rfl hs160) hs162) rfl (List.Perm.refl _)
    · rintro f M - ⟨i0, -⟩
      have hs13 : f 13 = .pointer (some ⟨b11, 0, none⟩) := i0
      refine ob_start (L' := pt b11 (.cells #[.int .i64 (40), .int .i64 (0), .int .i64 (0), .int .i64 (0), .int .i64 (0), .int .i64 (10), .int .i64 (10), .bool false, .bool false] 39) :: M) (by rfl) (up_cons rfl hs13) ?_
      refine l_val (v := .agg #[.int .i64 (40), .int .i64 (0), .int .i64 (0), .int .i64 (0), .int .i64 (0), .int .i64 (10), .int .i64 (10), .bool false, .bool false]) rfl rfl rfl (e_load tf1 (cs := [.int .i64 (40), .int .i64 (0), .int .i64 (0), .int .i64 (0), .int .i64 (0), .int .i64 (10), .int .i64 (10), .bool false, .bool false]) rfl (k_pt 0 (cs := #[.int .i64 (40), .int .i64 (0), .int .i64 (0), .int .i64 (0), .int .i64 (0), .int .i64 (10), .int .i64 (10), .bool false, .bool false]) (vs := [.int .i64 (40), .int .i64 (0), .int .i64 (0), .int .i64 (0), .int .i64 (0), .int .i64 (10), .int .i64 (10), .bool false, .bool false]) rfl rfl) rfl) ?_
      refine l_nil ?_
      exact f_owes_d (up_cons rfl hs13) rfl (perm_front 0 rfl)
    · rintro f M - ⟨i0, -⟩
      have hs3 : f 3 = Ix (lo) := i0
      refine ob_start (L' := M) (by rfl) (up_cons rfl hs3) ?_
      refine l_val (v := Ix (lo)) rfl rfl rfl (e_move) ?_
      refine l_nil ?_
      exact f_owes_d (up_cons rfl hs3) rfl (List.Perm.refl _)
    · rintro f M ⟨k0, -⟩ -
      have hs165 : f 165 = Ix (lo) := k0
      refine ob_start (L' := M) (by rfl) (up_cons rfl hs165) ?_
      refine l_val (v := .agg #[.int .i64 (0), Ix (lo)]) rfl rfl rfl (e_build tf8 tf13 (vs := [(1, Ix (lo))]) (cells := #[.int .i64 (0), Ix (lo)]) rfl rfl) ?_
      refine l_nil ?_
      exact f_owes_d (up_cons rfl hs165) rfl (List.Perm.refl _)
    · rintro f M ⟨k0, k1, -⟩ -
      have hs164 : f 164 = .agg #[.int .i64 (40), .int .i64 (0), .int .i64 (0), .int .i64 (0), .int .i64 (0), .int .i64 (10), .int .i64 (10), .bool false, .bool false] := k0
      have hs166 : f 166 = .agg #[.int .i64 (0), Ix (lo)] := k1
      refine ob_start (L' := M) (by rfl) (up_cons (up_cons rfl hs164) hs166) ?_
      refine l_call rfl rfl rfl (cl_value (fst := []) (cap := []) (vs := [.agg #[.int .i64 (40), .int .i64 (0), .int .i64 (0), .int .i64 (0), .int .i64 (0), .int .i64 (10), .int .i64 (10), .bool false, .bool false], .agg #[.int .i64 (0), Ix (lo)]]) (all := [.agg #[.int .i64 (40), .int .i64 (0), .int .i64 (0), .int .i64 (0), .int .i64 (0), .int .i64 (10), .int .i64 (10), .bool false, .bool false], .agg #[.int .i64 (0), Ix (lo)]]) tf41 rfl rfl rfl) ?_
      intro w hw
      obtain ⟨β1, sb, kn, hw1, back⟩ := St.frame_all hw
      refine (reachE_ok β1 w hw1 ib0 0 lo (by omega) (by omega) hvy).mono ?_
      rintro e w' ⟨rfl, hw'⟩
      refine ⟨_, rfl, _, back _ _ hw', ?_⟩
      clear hw hw1 hw' back kn sb
      refine l_nil ?_
      exact f_owes_d (up_cons (up_cons rfl hs164) hs166) rfl (List.Perm.refl _)
    · rintro f M - -
      refine ob_start (L' := M) (by rfl) rfl ?_
      refine l_mv rfl rfl rfl (m_alloc tf8) ?_
      rintro _ _ ⟨b183, rfl, rfl⟩
      refine l_nil ?_
      exact f_owes_d rfl rfl (perm_front 0 rfl)
    · rintro f M - -
      refine ob_start (L' := M) (by rfl) rfl ?_
      refine l_mv rfl rfl rfl (m_alloc tf0) ?_
      rintro _ _ ⟨b185, rfl, rfl⟩
      refine l_nil ?_
      exact f_owes_d rfl rfl (perm_front 0 rfl)
    · rintro f M ⟨k0, k1, -⟩ -
      have hs26 : f 26 = .pointer (some ⟨(blk (f 26)), 0, none⟩) := k0
      have hs163 : f 163 = .agg #[.int .i64 (0), .int .i64 (0)] := k1
      refine ob_start (L' := pt (blk (f 26)) (.cells #[.int .i64 (0), .int .i64 (0)] 30) :: M) (by rfl) (up_cons (up_cons rfl hs26) hs163) ?_
      refine l_mu rfl rfl (m_store 0 tf5 (b := (blk (f 26))) (o := 0) (T := 30) (cs := #[.int .i64 (0), .int .i64 (0)]) (cs' := #[.int .i64 (0), .int .i64 (0)]) (v := .agg #[.int .i64 (0), .int .i64 (0)]) rfl rfl rfl rfl rfl rfl rfl) ?_
      refine l_nil ?_
      exact f_owes_n (up_cons (up_cons rfl hs26) hs163) trivial (perm_front 0 rfl)
    · rintro f M ⟨k0, k1, -⟩ -
      have hs27 : f 27 = .pointer (some ⟨(blk (f 27)), 0, none⟩) := k0
      have hs167 : f 167 = .agg #[.int .i64 (0), .int .i64 (0), .int .i64 (0), .int .i64 (0)] := k1
      refine ob_start (L' := pt (blk (f 27)) (.cells #[.int .i64 (0), .int .i64 (0), .int .i64 (0), .int .i64 (0)] 46) :: M) (by rfl) (up_cons (up_cons rfl hs27) hs167) ?_
      refine l_mu rfl rfl (m_store 0 tf4 (b := (blk (f 27))) (o := 0) (T := 46) (cs := #[.int .i64 (0), .int .i64 (0), .int .i64 (0), .int .i64 (0)]) (cs' := #[.int .i64 (0), .int .i64 (0), .int .i64 (0), .int .i64 (0)]) (v := .agg #[.int .i64 (0), .int .i64 (0), .int .i64 (0), .int .i64 (0)]) rfl rfl rfl rfl rfl rfl rfl) ?_
      refine l_nil ?_
      exact f_owes_n (up_cons (up_cons rfl hs27) hs167) trivial (perm_front 0 rfl)
    rintro fa186 ⟨-, -, -, -, -, -, -, -, k8, k9, -, -, -⟩ ⟨j0, j1, j2, j3, j4, j5, j6, j7, -⟩
    refine f_re (L' := [pt b181 (.cells #[.slice p177 (0) c178, .slice q179 (0) d180, .int .i64 (0), .int .i64 (0)] 32), pt b176 (.cells #[.int .i64 (40)] 3), pt b171 (.cells #[.int .i64 (40), .int .i64 (41), Ix (hi)] 49), pt b11 (.cells #[.int .i64 (40), .int .i64 (0), .int .i64 (0), .int .i64 (0), .int .i64 (0), .int .i64 (10), .int .i64 (10), .bool false, .bool false] 39), pt b10 (.cells #[.slice rp14 (B0.length) rc15, .slice rp172 (Rq.length) rc173, .int .i64 (0), .int .i64 (0)] 32), rowF BodyF 39 rp14 rc15 B0, rowF RopeF 49 rp172 rc173 Rq, pt (blk (fa186 26)) (.cells #[.int .i64 (0), .int .i64 (0)] 30), pt (blk (fa186 27)) (.cells #[.int .i64 (0), .int .i64 (0), .int .i64 (0), .int .i64 (0)] 46)]) (by rfl) ?_
    refine f_rebase (d := 12) (v := .pointer (some ⟨b10, 0, none⟩)) j0 ?_
    refine f_rebase (d := 17) (v := .int .i64 (6)) j1 ?_
    refine f_rebase (d := 19) (v := .int .i64 (6)) j2 ?_
    refine f_rebase (d := 21) (v := .int .i64 (6)) j3 ?_
    refine f_rebase (d := 22) (v := .slice p174 (0) c175) j4 ?_
    refine f_rebase (d := 23) (v := .int .i64 (2)) j5 ?_
    refine f_rebase (d := 24) (v := .pointer (some ⟨b181, 0, none⟩)) j6 ?_
    refine f_rebase (d := 25) (v := .int .i64 (2)) j7 ?_
    refine f_rebase (d := 26) (v := .pointer (some ⟨(blk (fa186 26)), 0, none⟩)) k8 ?_
    refine f_rebase (d := 27) (v := .pointer (some ⟨(blk (fa186 27)), 0, none⟩)) k9 ?_
    refine f_then ?_
    refine c_seq ?_
    refine c_region ?_
    refine l_val (v := .int .i64 (6)) rfl rfl rfl (e_move) ?_
    refine l_val (v := .bool true) rfl rfl rfl (e_eql (a := (6 : Int)) (b := (6 : Int)) rfl rfl) ?_
    refine l_val (v := .bool true) rfl rfl rfl (e_move) ?_
    refine g_val (v := .int .i64 (6)) rfl rfl rfl rfl rfl (e_move) ?_
    refine g_val (v := .bool true) rfl rfl rfl rfl rfl (e_eql (a := (6 : Int)) (b := (6 : Int)) rfl rfl) ?_
    refine l_val (v := .bool true) rfl rfl rfl (e_pick_t rfl) ?_
    refine l_val (v := .bool true) rfl rfl rfl (e_move) ?_
    refine g_val (v := .int .i64 (6)) rfl rfl rfl rfl rfl (e_move) ?_
    refine g_val (v := .bool true) rfl rfl rfl rfl rfl (e_eql (a := (6 : Int)) (b := (6 : Int)) rfl rfl) ?_
    refine l_val (v := .bool true) rfl rfl rfl (e_pick_t rfl) ?_
    refine l_val (v := .bool true) rfl rfl rfl (e_move) ?_
    refine g_val (v := .int .i64 (2)) rfl rfl rfl rfl rfl (e_move) ?_
    refine g_val (v := .bool true) rfl rfl rfl rfl rfl (e_eql (a := (2 : Int)) (b := (2 : Int)) rfl rfl) ?_
    refine l_val (v := .bool true) rfl rfl rfl (e_pick_t rfl) ?_
    refine l_val (v := .bool true) rfl rfl rfl (e_move) ?_
    refine g_val (v := .int .i64 (2)) rfl rfl rfl rfl rfl (e_move) ?_
    refine g_val (v := .bool true) rfl rfl rfl rfl rfl (e_eql (a := (2 : Int)) (b := (2 : Int)) rfl rfl) ?_
    refine l_val (v := .bool true) rfl rfl rfl (e_pick_t rfl) ?_
    refine l_val (v := .bool true) rfl rfl rfl (e_move) ?_
    refine g_val (v := .slice p174 (0) c175) rfl rfl rfl rfl rfl (e_move) ?_
    refine g_val (v := Nx (0)) rfl rfl rfl rfl rfl (e_len (a := p174) (n := 0) (c := c175) rfl tf64) ?_
    refine g_val (v := .pointer (some ⟨b181, 0, none⟩)) rfl rfl rfl rfl rfl (e_fieldPt (b := b181) (o := 0) rfl tf33) ?_
    refine g_val (v := .slice p177 (0) c178) rfl rfl rfl rfl rfl (e_load1 tf26 (v := .slice p177 (0) c178) rfl (k_pt 0 (cs := #[.slice p177 (0) c178, .slice q179 (0) d180, .int .i64 (0), .int .i64 (0)]) (vs := [.slice p177 (0) c178]) rfl rfl)) ?_
    refine g_val (v := Nx (0)) rfl rfl rfl rfl rfl (e_len (a := p177) (n := 0) (c := c178) rfl tf15) ?_
    refine g_val (v := Nx (0 + 0)) rfl rfl rfl rfl rfl (e_add (a := ((0 : Nat) : Int)) (b := ((0 : Nat) : Int)) rfl rfl (i64n (by omega) (by omega))) ?_
    refine g_val (v := .pointer (some ⟨b181, 1, none⟩)) rfl rfl rfl rfl rfl (e_fieldPt (b := b181) (o := 0) rfl tf52) ?_
    refine g_val (v := .slice q179 (0) d180) rfl rfl rfl rfl rfl (e_load1 tf53 (v := .slice q179 (0) d180) rfl (k_pt 0 (cs := #[.slice p177 (0) c178, .slice q179 (0) d180, .int .i64 (0), .int .i64 (0)]) (vs := [.slice q179 (0) d180]) rfl rfl)) ?_
    refine g_val (v := Nx (0)) rfl rfl rfl rfl rfl (e_len (a := q179) (n := 0) (c := d180) rfl tf54) ?_
    refine g_val (v := Nx ((0 + 0) + 0)) rfl rfl rfl rfl rfl (e_add (a := ((0 + 0 : Nat) : Int)) (b := ((0 : Nat) : Int)) rfl rfl (i64n (by omega) (by omega))) ?_
    refine g_val (v := .bool (decide ((((0 + 0) + 0 : Nat) : Int) = (0 : Int)))) rfl rfl rfl rfl rfl (e_eql (a := (((0 + 0) + 0 : Nat) : Int)) (b := (0 : Int)) rfl rfl) ?_
    refine l_val (v := .bool (decide ((((0 + 0) + 0 : Nat) : Int) = (0 : Int)))) rfl rfl rfl (e_pick_t rfl) ?_
    refine l_val (v := .bool (decide ((((0 + 0) + 0 : Nat) : Int) = (0 : Int)))) rfl rfl rfl (e_move) ?_
    refine l_split (s := 199) (p := (((0 + 0) + 0 : Nat) : Int) = (0 : Int)) rfl (fun h => ?_) (fun h => ?_)
    rotate_left; exact absurd (by decide) h
    refine g_val (v := .agg #[.int .i64 (0), .int .i64 (0)]) rfl rfl rfl rfl rfl (e_load tf5 (cs := [.int .i64 (0), .int .i64 (0)]) rfl (k_pt 7 (cs := #[.int .i64 (0), .int .i64 (0)]) (vs := [.int .i64 (0), .int .i64 (0)]) rfl rfl) rfl) ?_
    refine g_val (v := .agg #[.int .i64 (0), .int .i64 (0)]) rfl rfl rfl rfl rfl (e_build tf8 tf13 (vs := []) (cells := #[.int .i64 (0), .int .i64 (0)]) rfl rfl) ?_
    refine g_val (v := .bool true) rfl rfl rfl rfl rfl ((ev_t (by decide) (e_eql_t (p := (0 : Int) = (0 : Int) ∧ (0 : Int) = (0 : Int)) (xs := [.int .i64 (0), .int .i64 (0)]) (ys := [.int .i64 (0), .int .i64 (0)]) tf92 tf93 tf94 rfl rfl rfl rfl vec_eq))) ?_
    refine l_val (v := .bool true) rfl rfl rfl (e_pick_t rfl) ?_
    refine l_val (v := .bool true) rfl rfl rfl (e_move) ?_
    refine g_val (v := .agg #[.int .i64 (0), .int .i64 (0), .int .i64 (0), .int .i64 (0)]) rfl rfl rfl rfl rfl (e_load tf4 (cs := [.int .i64 (0), .int .i64 (0), .int .i64 (0), .int .i64 (0)]) rfl (k_pt 8 (cs := #[.int .i64 (0), .int .i64 (0), .int .i64 (0), .int .i64 (0)]) (vs := [.int .i64 (0), .int .i64 (0), .int .i64 (0), .int .i64 (0)]) rfl rfl) rfl) ?_
    refine g_val (v := .agg #[.int .i64 (0), .int .i64 (0), .int .i64 (0), .int .i64 (0)]) rfl rfl rfl rfl rfl (e_build tf0 tf3 (vs := []) (cells := #[.int .i64 (0), .int .i64 (0), .int .i64 (0), .int .i64 (0)]) rfl rfl) ?_
    refine g_val (v := .bool true) rfl rfl rfl rfl rfl ((ev_t (by decide) (e_eql_t (p := (0 : Int) = (0 : Int) ∧ (0 : Int) = (0 : Int) ∧ (0 : Int) = (0 : Int) ∧ (0 : Int) = (0 : Int)) (xs := [.int .i64 (0), .int .i64 (0), .int .i64 (0), .int .i64 (0)]) (ys := [.int .i64 (0), .int .i64 (0), .int .i64 (0), .int .i64 (0)]) tf78 tf79 tf80 rfl rfl rfl rfl arr4_eq))) ?_
    refine l_val (v := .bool true) rfl rfl rfl (e_pick_t rfl) ?_
    refine l_val (v := .bool true) rfl rfl rfl (e_move) ?_
    refine g_val (v := .agg #[.slice rp14 (B0.length) rc15, .slice rp172 (Rq.length) rc173, .int .i64 (0), .int .i64 (0)]) rfl rfl rfl rfl rfl (e_load tf31 (cs := [.slice rp14 (B0.length) rc15, .slice rp172 (Rq.length) rc173, .int .i64 (0), .int .i64 (0)]) rfl (k_pt 4 (cs := #[.slice rp14 (B0.length) rc15, .slice rp172 (Rq.length) rc173, .int .i64 (0), .int .i64 (0)]) (vs := [.slice rp14 (B0.length) rc15, .slice rp172 (Rq.length) rc173, .int .i64 (0), .int .i64 (0)]) rfl rfl) rfl) ?_
    refine g_call rfl rfl rfl rfl rfl (cl_value (fst := []) (cap := []) (vs := [.agg #[.slice rp14 (B0.length) rc15, .slice rp172 (Rq.length) rc173, .int .i64 (0), .int .i64 (0)]]) (all := [.agg #[.slice rp14 (B0.length) rc15, .slice rp172 (Rq.length) rc173, .int .i64 (0), .int .i64 (0)]]) tf32 rfl rfl rfl) ?_
    intro w hw
    obtain ⟨β1, sb, kn, hw1, back⟩ := St.frame_all hw
    refine (validE_ok β1 w hw1 _ _ 0 0 B0 Rq (kn _ (k_flN 5 (F := BodyF) (m := B0.length) rfl rfl)) (kn _ (k_flN 6 (F := RopeF) (m := Rq.length) rfl rfl)) (by omega) (by omega) hno).mono ?_
    rintro e w' ⟨rfl, hw'⟩
    refine ⟨_, rfl, _, back _ _ hw', ?_⟩
    clear hw hw1 hw' back kn sb
    refine g_val (v := .bool true) rfl rfl rfl rfl rfl (e_not (a := false) rfl) ?_
    refine l_val (v := .bool true) rfl rfl rfl (e_pick_t rfl) ?_
    refine l_val (v := .bool true) rfl rfl rfl (e_assign) ?_
    refine l_nil ?_
    refine f_then ?_
    refine c_ret ?_
    refine ret1 Try.results8 (v := .bool true) rfl ?_
    intro w hw
    exact ⟨rfl, st_mask [false, false, false, false, false, false, false, false, false] rfl hw⟩
  exact absurd (by omega) hc170
end Go.Proofs
