/-
  PathLength: walked. Printed by a program of my own.
-/
import Derived.Test.YthncdmfogeemcaaPt7
namespace Go.Pth
open Go.Sl Go.Brd Go.Proofs
theorem tmod_bd (a : Int) {m : Int} (h : 0 < m) : -m < Int.tmod a m ∧ Int.tmod a m < m := by
  have h1 := Int.tmod_lt_of_pos a h
  have h2 := Int.tmod_lt_of_pos (-a) h
  rw [Int.neg_tmod] at h2
  omega
theorem len_law {x y u v : Int} (hx : inR x) (hy : inR y) (hu : inR u) (hv : inR v) : 256 * ((x - u) * (x - u) + (y - v) * (y - v)) ≤ ((lenV x y u v * lenV x y u v : Nat) : Int) ∧ (0 < lenV x y u v → ((lenV x y u v : Nat) - 1 : Int) * ((lenV x y u v : Nat) - 1 : Int) < 256 * ((x - u) * (x - u) + (y - v) * (y - v))) := by
  have e : lenV x y u v = isq (256 * d2 x y u v) := by unfold lenV; rw [if_pos ⟨hx, hy, hu, hv⟩]
  have d := d2_int x y u v
  have h1 := isq_ge (256 * d2 x y u v)
  rw [← e] at h1
  refine ⟨by rw [← d]; omega, fun h => ?_⟩
  have h2 := isq_lt (n := 256 * d2 x y u v) (j := lenV x y u v - 1) (by rw [← e]; omega)
  obtain ⟨k, hk⟩ : ∃ k, lenV x y u v = k + 1 := ⟨lenV x y u v - 1, by omega⟩
  rw [hk] at h2 ⊢
  rw [← d, show ((k + 1 : Nat) : Int) - 1 = (k : Int) by omega, ← Int.natCast_mul]
  have h3 : k * k < 256 * d2 x y u v := h2
  omega
theorem far_len {x y u v : Int} (h : ¬ (inR x ∧ inR y ∧ inR u ∧ inR v)) : lenV x y u v = 0 := if_neg h
end Go.Pth
namespace Go.Proofs
open Go Go.Sl Go.Brd Go.Pth
theorem tz107 : cfB Try.prog 18 = true := by kernel_rfl
theorem tz108 : cfB Try.prog 7 = true := by kernel_rfl
theorem tz109 : cfB Try.prog 17 = true := by kernel_rfl
theorem pick_ok (β : Base) (w : World) (hw : St β [] w) (a m : Int) (hm : 0 < m) (hm2 : m ≤ 1000000000) : Calls Try.prog 18 #[Ix a, Ix m] w fun r w' => ∃ z, r = .returned (Ix z) ∧ 0 ≤ z ∧ z < m ∧ St β [] w' := by
  refine enter (n := 16) Try.func18 rfl Try.ntmps18 rfl ?_ hw
  refine c_seq ?_
  refine c_region ?_
  refine l_val (v := .int .i64 (0)) rfl rfl rfl (e_assign) ?_
  refine l_nil ?_
  refine f_then ?_
  refine c_seq ?_
  refine c_seq ?_
  refine c_region ?_
  refine l_val (v := Ix (m)) rfl rfl rfl (e_move) ?_
  refine l_val (v := .bool (decide ((m) < (1 : Int)))) rfl rfl rfl (e_lss (a := (m)) (b := (1 : Int)) rfl rfl) ?_
  refine l_nil ?_
  refine f_then ?_
  refine c_if ((m) < (1 : Int)) rfl (fun hc1 => ?_) (fun hc1 => ?_)
  ·
    exact absurd hc1 (by omega)
  ·
    refine c_skip ?_
    refine f_then ?_
    refine c_seq ?_
    refine c_region ?_
    refine l_val (v := Ix (a)) rfl rfl rfl (e_move) ?_
    refine l_val (v := Ix (m)) rfl rfl rfl (e_move) ?_
    obtain ⟨z, hz⟩ : ∃ z, z = Int.tmod a m := ⟨_, rfl⟩
    have hz1 := tmod_bd a hm
    rw [← hz] at hz1
    refine l_val (v := Ix (z)) rfl rfl rfl (e_rem (a := a) (b := m) rfl rfl (by omega) hz.symm) ?_
    refine l_val (v := Ix (z)) rfl rfl rfl (e_assign) ?_
    refine l_nil ?_
    refine f_then ?_
    refine c_seq ?_
    refine c_seq ?_
    refine c_region ?_
    refine l_val (v := Ix (z)) rfl rfl rfl (e_move) ?_
    refine l_val (v := .bool (decide ((z) < (0 : Int)))) rfl rfl rfl (e_lss (a := (z)) (b := (0 : Int)) rfl rfl) ?_
    refine l_nil ?_
    refine f_then ?_
    refine c_if ((z) < (0 : Int)) rfl (fun hc2 => ?_) (fun hc2 => ?_)
    ·
      refine c_region ?_
      refine l_val (v := Ix (z)) rfl rfl rfl (e_move) ?_
      refine l_val (v := Ix (m)) rfl rfl rfl (e_move) ?_
      refine l_val (v := Ix ((z) + (m))) rfl rfl rfl (e_add (a := (z)) (b := (m)) rfl rfl (i64w (by omega))) ?_
      refine l_val (v := Ix ((z) + (m))) rfl rfl rfl (e_assign) ?_
      refine l_nil ?_
      refine f_then ?_
      refine c_seq ?_
      refine c_region ?_
      refine l_val (v := Ix ((z) + (m))) rfl rfl rfl (e_move) ?_
      refine l_val (v := Ix ((z) + (m))) rfl rfl rfl (e_assign) ?_
      refine l_nil ?_
      refine f_then ?_
      refine c_ret ?_
      refine ret1 Try.results18 (v := Ix ((z) + (m))) rfl ?_
      intro w hw
      exact ⟨_, rfl, by omega, by omega, st_mask [] rfl hw⟩
    ·
      refine c_skip ?_
      refine f_then ?_
      refine c_seq ?_
      refine c_region ?_
      refine l_val (v := Ix (z)) rfl rfl rfl (e_move) ?_
      refine l_val (v := Ix (z)) rfl rfl rfl (e_assign) ?_
      refine l_nil ?_
      refine f_then ?_
      refine c_ret ?_
      refine ret1 Try.results18 (v := Ix (z)) rfl ?_
      intro w hw
      exact ⟨_, rfl, by omega, by omega, st_mask [] rfl hw⟩
theorem in_ok (β : Base) (w : World) (hw : St β [] w) (a : Int) : Calls Try.prog 17 #[Ix a] w fun r w' => ∃ z, r = .returned (Ix z) ∧ -2000000 ≤ z ∧ z ≤ 2000000 ∧ St β [] w' := by
  refine enter (n := 6) Try.func17 rfl Try.ntmps17 rfl ?_ hw
  refine c_seq ?_
  refine c_region ?_
  refine l_val (v := .int .i64 (0)) rfl rfl rfl (e_assign) ?_
  refine l_nil ?_
  refine f_then ?_
  refine c_seq ?_
  refine c_region ?_
  refine l_val (v := Ix (a)) rfl rfl rfl (e_move) ?_
  refine l_call rfl rfl rfl (cl_value (fst := []) (cap := []) (vs := [Ix (a), .int .i64 (4000001)]) (all := [Ix (a), .int .i64 (4000001)]) tz107 rfl rfl rfl) ?_
  intro w hw
  obtain ⟨β1, sb, kn, hw1, back⟩ := St.frame_all hw
  refine (pick_ok β1 w hw1 (a) (4000001 : Int) (by omega) (by omega)).mono ?_
  rintro e w' ⟨z1, rfl, hz2, hz3, hw'⟩
  refine ⟨_, rfl, _, back _ _ hw', ?_⟩
  clear hw hw1 hw' back kn sb
  refine l_val (v := Ix ((z1) - (2000000 : Int))) rfl rfl rfl (e_sub (a := (z1)) (b := (2000000 : Int)) rfl rfl (i64w (by omega))) ?_
  refine l_val (v := Ix ((z1) - (2000000 : Int))) rfl rfl rfl (e_assign) ?_
  refine l_nil ?_
  refine f_then ?_
  refine c_ret ?_
  refine ret1 Try.results17 (v := Ix ((z1) - (2000000 : Int))) rfl ?_
  intro w hw
  exact ⟨_, rfl, by omega, by omega, st_mask [] rfl hw⟩
set_option maxHeartbeats 4000000 in
theorem lengthL_ok (β : Base) (w : World) (hw : St β [] w) (x y u v s z far : Int) (hfar : far ≤ 9223372036854775807) : Calls Try.prog 6 #[Ix x, Ix y, Ix u, Ix v, Ix s, Ix z, Ix far] w fun r w' => r = .returned (.bool true) ∧ St β [] w' := by
  refine enter (n := 137) Try.func6 rfl Try.ntmps6 rfl ?_ hw
  refine c_seq ?_
  refine c_region ?_
  refine l_val (v := .bool false) rfl rfl rfl (e_assign) ?_
  refine l_nil ?_
  refine f_then ?_
  refine c_seq ?_
  refine c_seq ?_
  refine c_region ?_
  refine l_call rfl rfl rfl (cl_value (fst := []) (cap := []) (vs := []) (all := []) tz108 rfl rfl rfl) ?_
  intro w hw
  obtain ⟨β1, sb, kn, hw1, back⟩ := St.frame_all hw
  refine (awake_ok β1 w hw1).mono ?_
  rintro e w' ⟨rfl, hw'⟩
  refine ⟨_, rfl, _, back _ _ hw', ?_⟩
  clear hw hw1 hw' back kn sb
  refine l_val (v := .bool false) rfl rfl rfl (e_not (a := true) rfl) ?_
  refine l_nil ?_
  refine f_then ?_
  refine c_no rfl ?_
  refine c_skip ?_
  refine f_then ?_
  refine c_seq ?_
  refine c_region ?_
  refine l_val (v := .func (.func 17) #[] #[]) rfl rfl rfl (e_assign) ?_
  refine l_nil ?_
  refine f_then ?_
  refine c_seq ?_
  refine c_region ?_
  refine l_val (v := .func (.func 17) #[] #[]) rfl rfl rfl (e_move) ?_
  refine l_val (v := Ix (x)) rfl rfl rfl (e_move) ?_
  refine l_call rfl rfl rfl (cl_value (fst := []) (cap := []) (vs := [Ix (x)]) (all := [Ix (x)]) tz109 rfl rfl rfl) ?_
  intro w hw
  obtain ⟨β1, sb, kn, hw1, back⟩ := St.frame_all hw
  refine (in_ok β1 w hw1 (x)).mono ?_
  rintro e w' ⟨z1, rfl, hz2, hz3, hw'⟩
  refine ⟨_, rfl, _, back _ _ hw', ?_⟩
  clear hw hw1 hw' back kn sb
  refine l_val (v := .func (.func 17) #[] #[]) rfl rfl rfl (e_move) ?_
  refine l_val (v := Ix (y)) rfl rfl rfl (e_move) ?_
  refine l_call rfl rfl rfl (cl_value (fst := []) (cap := []) (vs := [Ix (y)]) (all := [Ix (y)]) tz109 rfl rfl rfl) ?_
  intro w hw
  obtain ⟨β1, sb, kn, hw1, back⟩ := St.frame_all hw
  refine (in_ok β1 w hw1 (y)).mono ?_
  rintro e w' ⟨z4, rfl, hz5, hz6, hw'⟩
  refine ⟨_, rfl, _, back _ _ hw', ?_⟩
  clear hw hw1 hw' back kn sb
  refine l_call rfl rfl rfl (cl_value (fst := []) (cap := []) (vs := [Ix (z1), Ix (z4)]) (all := [Ix (z1), Ix (z4)]) ty102 rfl rfl rfl) ?_
  intro w hw
  obtain ⟨β1, sb, kn, hw1, back⟩ := St.frame_all hw
  refine (point_ok β1 w hw1 (z1) (z4)).mono ?_
  rintro e w' ⟨rfl, hw'⟩
  refine ⟨_, rfl, _, back _ _ hw', ?_⟩
  clear hw hw1 hw' back kn sb
  refine l_val (v := .func (.func 17) #[] #[]) rfl rfl rfl (e_move) ?_
  refine l_val (v := Ix (u)) rfl rfl rfl (e_move) ?_
  refine l_call rfl rfl rfl (cl_value (fst := []) (cap := []) (vs := [Ix (u)]) (all := [Ix (u)]) tz109 rfl rfl rfl) ?_
  intro w hw
  obtain ⟨β1, sb, kn, hw1, back⟩ := St.frame_all hw
  refine (in_ok β1 w hw1 (u)).mono ?_
  rintro e w' ⟨z7, rfl, hz8, hz9, hw'⟩
  refine ⟨_, rfl, _, back _ _ hw', ?_⟩
  clear hw hw1 hw' back kn sb
  refine l_val (v := .func (.func 17) #[] #[]) rfl rfl rfl (e_move) ?_
  refine l_val (v := Ix (v)) rfl rfl rfl (e_move) ?_
  refine l_call rfl rfl rfl (cl_value (fst := []) (cap := []) (vs := [Ix (v)]) (all := [Ix (v)]) tz109 rfl rfl rfl) ?_
  intro w hw
  obtain ⟨β1, sb, kn, hw1, back⟩ := St.frame_all hw
  refine (in_ok β1 w hw1 (v)).mono ?_
  rintro e w' ⟨z10, rfl, hz11, hz12, hw'⟩
  refine ⟨_, rfl, _, back _ _ hw', ?_⟩
  clear hw hw1 hw' back kn sb
  refine l_call rfl rfl rfl (cl_value (fst := []) (cap := []) (vs := [Ix (z7), Ix (z10)]) (all := [Ix (z7), Ix (z10)]) ty102 rfl rfl rfl) ?_
  intro w hw
  obtain ⟨β1, sb, kn, hw1, back⟩ := St.frame_all hw
  refine (point_ok β1 w hw1 (z7) (z10)).mono ?_
  rintro e w' ⟨rfl, hw'⟩
  refine ⟨_, rfl, _, back _ _ hw', ?_⟩
  clear hw hw1 hw' back kn sb
  refine l_val (v := .func (.func 17) #[] #[]) rfl rfl rfl (e_move) ?_
  refine l_val (v := Ix (s)) rfl rfl rfl (e_move) ?_
  refine l_call rfl rfl rfl (cl_value (fst := []) (cap := []) (vs := [Ix (s)]) (all := [Ix (s)]) tz109 rfl rfl rfl) ?_
  intro w hw
  obtain ⟨β1, sb, kn, hw1, back⟩ := St.frame_all hw
  refine (in_ok β1 w hw1 (s)).mono ?_
  rintro e w' ⟨z13, rfl, hz14, hz15, hw'⟩
  refine ⟨_, rfl, _, back _ _ hw', ?_⟩
  clear hw hw1 hw' back kn sb
  refine l_val (v := .func (.func 17) #[] #[]) rfl rfl rfl (e_move) ?_
  refine l_val (v := Ix (z)) rfl rfl rfl (e_move) ?_
  refine l_call rfl rfl rfl (cl_value (fst := []) (cap := []) (vs := [Ix (z)]) (all := [Ix (z)]) tz109 rfl rfl rfl) ?_
  intro w hw
  obtain ⟨β1, sb, kn, hw1, back⟩ := St.frame_all hw
  refine (in_ok β1 w hw1 (z)).mono ?_
  rintro e w' ⟨z16, rfl, hz17, hz18, hw'⟩
  refine ⟨_, rfl, _, back _ _ hw', ?_⟩
  clear hw hw1 hw' back kn sb
  refine l_call rfl rfl rfl (cl_value (fst := []) (cap := []) (vs := [Ix (z13), Ix (z16)]) (all := [Ix (z13), Ix (z16)]) ty102 rfl rfl rfl) ?_
  intro w hw
  obtain ⟨β1, sb, kn, hw1, back⟩ := St.frame_all hw
  refine (point_ok β1 w hw1 (z13) (z16)).mono ?_
  rintro e w' ⟨rfl, hw'⟩
  refine ⟨_, rfl, _, back _ _ hw', ?_⟩
  clear hw hw1 hw' back kn sb
  refine l_mv rfl rfl rfl (m_alloc tp5) ?_
  rintro _ _ ⟨b19, rfl, rfl⟩
  refine l_mv rfl rfl rfl (m_alloc tp5) ?_
  rintro _ _ ⟨b20, rfl, rfl⟩
  refine l_mv rfl rfl rfl (m_alloc tp5) ?_
  rintro _ _ ⟨b21, rfl, rfl⟩
  refine l_mu rfl rfl (m_store 2 tp7 (b := b19) (o := 0) (T := 28) (cs := #[.int .i64 (0), .int .i64 (0)]) (cs' := #[Ix (z1), Ix (z4)]) (v := .agg #[Ix (z1), Ix (z4)]) rfl rfl rfl rfl rfl rfl rfl) ?_
  refine l_mu rfl rfl (m_store 1 tp7 (b := b20) (o := 0) (T := 28) (cs := #[.int .i64 (0), .int .i64 (0)]) (cs' := #[Ix (z7), Ix (z10)]) (v := .agg #[Ix (z7), Ix (z10)]) rfl rfl rfl rfl rfl rfl rfl) ?_
  refine l_mu rfl rfl (m_store 0 tp7 (b := b21) (o := 0) (T := 28) (cs := #[.int .i64 (0), .int .i64 (0)]) (cs' := #[Ix (z13), Ix (z16)]) (v := .agg #[Ix (z13), Ix (z16)]) rfl rfl rfl rfl rfl rfl rfl) ?_
  refine l_nil ?_
  refine f_then ?_
  refine c_seq ?_
  have hsx := sq_bd (a := z1 - z7) (b := 4000000) (by omega) (by omega)
  have hsy := sq_bd (a := z4 - z10) (b := 4000000) (by omega) (by omega)
  have hsx0 := sq_nn (z1 - z7)
  have hsy0 := sq_nn (z4 - z10)
  refine c_quiet (by kernel_rfl) (by kernel_rfl) ?_
  refine q_val (v := .agg #[Ix (z1), Ix (z4)]) rfl rfl rfl (e_load tp7 (cs := [Ix (z1), Ix (z4)]) rfl (k_pt 2 (cs := #[Ix (z1), Ix (z4)]) (vs := [Ix (z1), Ix (z4)]) rfl rfl) rfl) ?_
  refine q_val (v := .agg #[Ix (z7), Ix (z10)]) rfl rfl rfl (e_load tp7 (cs := [Ix (z7), Ix (z10)]) rfl (k_pt 1 (cs := #[Ix (z7), Ix (z10)]) (vs := [Ix (z7), Ix (z10)]) rfl rfl) rfl) ?_
  refine q_call (v := Nx (lenV z1 z4 z7 z10)) rfl rfl rfl (cl_value (fst := []) (cap := []) (vs := [.agg #[Ix (z1), Ix (z4)], .agg #[Ix (z7), Ix (z10)]]) (all := [.agg #[Ix (z1), Ix (z4)], .agg #[Ix (z7), Ix (z10)]]) tw90 rfl rfl rfl) (fun w hw => ?_) ?_
  · obtain ⟨β1, sb, kn, hw1, back⟩ := St.frame_all hw
    exact (length_ok β1 w hw1 ⟨z1, z4⟩ ⟨z7, z10⟩).mono (fun e w' ⟨he, hw'⟩ => ⟨he, st_mask [true, true, true] rfl (back _ _ hw')⟩)
  refine q_val (v := .pointer (some ⟨b19, 0, none⟩)) rfl rfl rfl (e_fieldPt (b := b19) (o := 0) rfl tp1) ?_
  refine q_val (v := Ix (z1)) rfl rfl rfl (e_load1 tp2 (v := Ix (z1)) rfl (k_pt 2 (cs := #[Ix (z1), Ix (z4)]) (vs := [Ix (z1)]) rfl rfl)) ?_
  refine q_val (v := .pointer (some ⟨b20, 0, none⟩)) rfl rfl rfl (e_fieldPt (b := b20) (o := 0) rfl tp1) ?_
  refine q_val (v := Ix (z7)) rfl rfl rfl (e_load1 tp2 (v := Ix (z7)) rfl (k_pt 1 (cs := #[Ix (z7), Ix (z10)]) (vs := [Ix (z7)]) rfl rfl)) ?_
  refine q_val (v := Ix ((z1) - (z7))) rfl rfl rfl (e_sub (a := (z1)) (b := (z7)) rfl rfl (i64w (by omega))) ?_
  refine q_val (v := .pointer (some ⟨b19, 1, none⟩)) rfl rfl rfl (e_fieldPt (b := b19) (o := 0) rfl tp4) ?_
  refine q_val (v := Ix (z4)) rfl rfl rfl (e_load1 tp2 (v := Ix (z4)) rfl (k_pt 2 (cs := #[Ix (z1), Ix (z4)]) (vs := [Ix (z4)]) rfl rfl)) ?_
  refine q_val (v := .pointer (some ⟨b20, 1, none⟩)) rfl rfl rfl (e_fieldPt (b := b20) (o := 0) rfl tp4) ?_
  refine q_val (v := Ix (z10)) rfl rfl rfl (e_load1 tp2 (v := Ix (z10)) rfl (k_pt 1 (cs := #[Ix (z7), Ix (z10)]) (vs := [Ix (z10)]) rfl rfl)) ?_
  refine q_val (v := Ix ((z4) - (z10))) rfl rfl rfl (e_sub (a := (z4)) (b := (z10)) rfl rfl (i64w (by omega))) ?_
  refine q_val (v := Nx (lenV z1 z4 z7 z10)) rfl rfl rfl (e_assign) ?_
  refine q_val (v := Ix ((z1) - (z7))) rfl rfl rfl (e_assign) ?_
  refine q_val (v := Ix ((z4) - (z10))) rfl rfl rfl (e_assign) ?_
  refine q_nil ?_
  refine f_then ?_
  refine c_seq ?_
  refine c_region ?_
  refine l_val (v := Ix ((z1) - (z7))) rfl rfl rfl (e_move) ?_
  refine l_val (v := Ix ((z1) - (z7))) rfl rfl rfl (e_move) ?_
  refine l_val (v := Ix (((z1) - (z7)) * ((z1) - (z7)))) rfl rfl rfl (e_mul (a := ((z1) - (z7))) (b := ((z1) - (z7))) rfl rfl (i64w (by omega))) ?_
  refine l_val (v := Ix ((z4) - (z10))) rfl rfl rfl (e_move) ?_
  refine l_val (v := Ix ((z4) - (z10))) rfl rfl rfl (e_move) ?_
  refine l_val (v := Ix (((z4) - (z10)) * ((z4) - (z10)))) rfl rfl rfl (e_mul (a := ((z4) - (z10))) (b := ((z4) - (z10))) rfl rfl (i64w (by omega))) ?_
  refine l_val (v := Ix ((((z1) - (z7)) * ((z1) - (z7))) + (((z4) - (z10)) * ((z4) - (z10))))) rfl rfl rfl (e_add (a := (((z1) - (z7)) * ((z1) - (z7)))) (b := (((z4) - (z10)) * ((z4) - (z10)))) rfl rfl (i64w (by omega))) ?_
  refine l_val (v := Ix ((256 : Int) * ((((z1) - (z7)) * ((z1) - (z7))) + (((z4) - (z10)) * ((z4) - (z10)))))) rfl rfl rfl (e_mul (a := (256 : Int)) (b := ((((z1) - (z7)) * ((z1) - (z7))) + (((z4) - (z10)) * ((z4) - (z10))))) rfl rfl (i64w (by omega))) ?_
  refine l_val (v := Ix ((256 : Int) * ((((z1) - (z7)) * ((z1) - (z7))) + (((z4) - (z10)) * ((z4) - (z10)))))) rfl rfl rfl (e_assign) ?_
  refine l_nil ?_
  refine f_then ?_
  refine c_seq ?_
  refine c_seq ?_
  obtain ⟨hlw1, hlw2⟩ := len_law (x := z1) (y := z4) (u := z7) (v := z10) (by unfold inR; omega) (by unfold inR; omega) (by unfold inR; omega) (by unfold inR; omega)
  have hcm := lenV_comm z1 z4 z7 z10
  have htr := lenV_tri (x := z1) (y := z4) (u := z7) (v := z10) (w := z13) (z := z16) (by unfold inR; omega) (by unfold inR; omega) (by unfold inR; omega) (by unfold inR; omega) (by unfold inR; omega) (by unfold inR; omega)
  have hsf := lenV_self z1 z4
  have hbd := lenV_bd z1 z4 z7 z10
  have hb1 := lenV_bd z1 z4 z13 z16
  have hb2 := lenV_bd z13 z16 z7 z10
  generalize hnE : lenV z1 z4 z7 z10 = n at hlw1 hlw2 hcm htr hbd ⊢
  have hnn : n * n ≤ 134217728 * 134217728 := Nat.mul_le_mul hbd hbd
  have hn1 : ((n : Int) - 1) * ((n : Int) - 1) ≤ 134217728 * 134217728 := sq_bd (by omega) (by omega)
  have hn10 := sq_nn ((n : Int) - 1)
  have hn0 : 0 ≤ n * n := Nat.zero_le _
  refine c_quiet (by kernel_rfl) (by kernel_rfl) ?_
  refine q_val (v := Nx (n)) rfl rfl rfl (e_move) ?_
  refine q_val (v := .bool (decide (((n : Nat) : Int) < (0 : Int)))) rfl rfl rfl (e_lss (a := ((n : Nat) : Int)) (b := (0 : Int)) rfl rfl) ?_
  refine q_val (v := .bool (decide (((n : Nat) : Int) < (0 : Int)))) rfl rfl rfl (e_move) ?_
  refine q_split (s := 69) (p := ((n : Nat) : Int) < (0 : Int)) rfl (fun h => ?_) (fun h => ?_)
  exact absurd h (by omega)
  refine qg_val (v := Nx (n)) rfl rfl rfl rfl rfl (e_move) ?_
  refine qg_val (v := Nx (n)) rfl rfl rfl rfl rfl (e_move) ?_
  refine qg_val (v := Nx (n * n)) rfl rfl rfl rfl rfl (e_mul (a := ((n : Nat) : Int)) (b := ((n : Nat) : Int)) rfl rfl (i64n (by simp) (by omega))) ?_
  refine qg_val (v := Ix ((256 : Int) * ((((z1) - (z7)) * ((z1) - (z7))) + (((z4) - (z10)) * ((z4) - (z10)))))) rfl rfl rfl rfl rfl (e_move) ?_
  refine qg_val (v := .bool (decide (((n * n : Nat) : Int) < ((256 : Int) * ((((z1) - (z7)) * ((z1) - (z7))) + (((z4) - (z10)) * ((z4) - (z10)))))))) rfl rfl rfl rfl rfl (e_lss (a := ((n * n : Nat) : Int)) (b := ((256 : Int) * ((((z1) - (z7)) * ((z1) - (z7))) + (((z4) - (z10)) * ((z4) - (z10)))))) rfl rfl) ?_
  refine q_val (v := .bool (decide (((n * n : Nat) : Int) < ((256 : Int) * ((((z1) - (z7)) * ((z1) - (z7))) + (((z4) - (z10)) * ((z4) - (z10)))))))) rfl rfl rfl (e_pick_f rfl) ?_
  refine q_val (v := .bool (decide (((n * n : Nat) : Int) < ((256 : Int) * ((((z1) - (z7)) * ((z1) - (z7))) + (((z4) - (z10)) * ((z4) - (z10)))))))) rfl rfl rfl (e_move) ?_
  refine q_split (s := 76) (p := ((n * n : Nat) : Int) < ((256 : Int) * ((((z1) - (z7)) * ((z1) - (z7))) + (((z4) - (z10)) * ((z4) - (z10)))))) rfl (fun h => ?_) (fun h => ?_)
  exact absurd h (by omega)
  refine qg_val (v := Nx (n)) rfl rfl rfl rfl rfl (e_move) ?_
  refine qg_val (v := .bool (decide ((0 : Int) < ((n : Nat) : Int)))) rfl rfl rfl rfl rfl (e_gtr (a := ((n : Nat) : Int)) (b := (0 : Int)) rfl rfl) ?_
  refine qg_val (v := .bool (decide ((0 : Int) < ((n : Nat) : Int)))) rfl rfl rfl rfl rfl (e_move) ?_
  refine q_split (s := 79) (p := (0 : Int) < ((n : Nat) : Int)) rfl (fun hg22 => ?_) (fun hg22 => ?_)
  ·
    refine qg_val (v := Nx (n)) rfl rfl rfl rfl rfl (e_move) ?_
    refine qg_val (v := Ix (((n : Nat) : Int) - (1 : Int))) rfl rfl rfl rfl rfl (e_sub (a := ((n : Nat) : Int)) (b := (1 : Int)) rfl rfl (i64w (by omega))) ?_
    refine qg_val (v := Nx (n)) rfl rfl rfl rfl rfl (e_move) ?_
    refine qg_val (v := Ix (((n : Nat) : Int) - (1 : Int))) rfl rfl rfl rfl rfl (e_sub (a := ((n : Nat) : Int)) (b := (1 : Int)) rfl rfl (i64w (by omega))) ?_
    refine qg_val (v := Ix ((((n : Nat) : Int) - (1 : Int)) * (((n : Nat) : Int) - (1 : Int)))) rfl rfl rfl rfl rfl (e_mul (a := (((n : Nat) : Int) - (1 : Int))) (b := (((n : Nat) : Int) - (1 : Int))) rfl rfl (i64w (by omega))) ?_
    refine qg_val (v := Ix ((256 : Int) * ((((z1) - (z7)) * ((z1) - (z7))) + (((z4) - (z10)) * ((z4) - (z10)))))) rfl rfl rfl rfl rfl (e_move) ?_
    refine qg_val (v := .bool (decide (((256 : Int) * ((((z1) - (z7)) * ((z1) - (z7))) + (((z4) - (z10)) * ((z4) - (z10))))) ≤ ((((n : Nat) : Int) - (1 : Int)) * (((n : Nat) : Int) - (1 : Int)))))) rfl rfl rfl rfl rfl (e_geq (a := ((((n : Nat) : Int) - (1 : Int)) * (((n : Nat) : Int) - (1 : Int)))) (b := ((256 : Int) * ((((z1) - (z7)) * ((z1) - (z7))) + (((z4) - (z10)) * ((z4) - (z10)))))) rfl rfl) ?_
    refine qg_val (v := .bool (decide (((256 : Int) * ((((z1) - (z7)) * ((z1) - (z7))) + (((z4) - (z10)) * ((z4) - (z10))))) ≤ ((((n : Nat) : Int) - (1 : Int)) * (((n : Nat) : Int) - (1 : Int)))))) rfl rfl rfl rfl rfl (e_pick_t rfl) ?_
    refine q_val (v := .bool (decide (((256 : Int) * ((((z1) - (z7)) * ((z1) - (z7))) + (((z4) - (z10)) * ((z4) - (z10))))) ≤ ((((n : Nat) : Int) - (1 : Int)) * (((n : Nat) : Int) - (1 : Int)))))) rfl rfl rfl (e_pick_f rfl) ?_
    refine q_val (v := .bool (decide (((256 : Int) * ((((z1) - (z7)) * ((z1) - (z7))) + (((z4) - (z10)) * ((z4) - (z10))))) ≤ ((((n : Nat) : Int) - (1 : Int)) * (((n : Nat) : Int) - (1 : Int)))))) rfl rfl rfl (e_move) ?_
    refine q_split (s := 89) (p := ((256 : Int) * ((((z1) - (z7)) * ((z1) - (z7))) + (((z4) - (z10)) * ((z4) - (z10))))) ≤ ((((n : Nat) : Int) - (1 : Int)) * (((n : Nat) : Int) - (1 : Int)))) rfl (fun h => ?_) (fun h => ?_)
    exact absurd h (by omega)
    refine qg_val (v := Nx (n)) rfl rfl rfl rfl rfl (e_move) ?_
    refine qg_val (v := .agg #[Ix (z7), Ix (z10)]) rfl rfl rfl rfl rfl (e_load tp7 (cs := [Ix (z7), Ix (z10)]) rfl (k_pt 1 (cs := #[Ix (z7), Ix (z10)]) (vs := [Ix (z7), Ix (z10)]) rfl rfl) rfl) ?_
    refine qg_val (v := .agg #[Ix (z1), Ix (z4)]) rfl rfl rfl rfl rfl (e_load tp7 (cs := [Ix (z1), Ix (z4)]) rfl (k_pt 2 (cs := #[Ix (z1), Ix (z4)]) (vs := [Ix (z1), Ix (z4)]) rfl rfl) rfl) ?_
    refine qg_call (v := Nx (lenV z7 z10 z1 z4)) rfl rfl rfl rfl rfl (cl_value (fst := []) (cap := []) (vs := [.agg #[Ix (z7), Ix (z10)], .agg #[Ix (z1), Ix (z4)]]) (all := [.agg #[Ix (z7), Ix (z10)], .agg #[Ix (z1), Ix (z4)]]) tw90 rfl rfl rfl) (fun w hw => ?_) ?_
    · obtain ⟨β1, sb, kn, hw1, back⟩ := St.frame_all hw
      exact (length_ok β1 w hw1 ⟨z7, z10⟩ ⟨z1, z4⟩).mono (fun e w' ⟨he, hw'⟩ => ⟨he, st_mask [true, true, true] rfl (back _ _ hw')⟩)
    refine qg_val (v := .bool (decide (((n : Nat) : Int) ≠ ((lenV z7 z10 z1 z4 : Nat) : Int)))) rfl rfl rfl rfl rfl (e_neq (a := ((n : Nat) : Int)) (b := ((lenV z7 z10 z1 z4 : Nat) : Int)) rfl rfl) ?_
    refine q_val (v := .bool (decide (((n : Nat) : Int) ≠ ((lenV z7 z10 z1 z4 : Nat) : Int)))) rfl rfl rfl (e_pick_f rfl) ?_
    refine q_val (v := .bool (decide (((n : Nat) : Int) ≠ ((lenV z7 z10 z1 z4 : Nat) : Int)))) rfl rfl rfl (e_move) ?_
    refine q_split (s := 96) (p := ((n : Nat) : Int) ≠ ((lenV z7 z10 z1 z4 : Nat) : Int)) rfl (fun h => ?_) (fun h => ?_)
    exact absurd h (by omega)
    refine qg_val (v := Nx (n)) rfl rfl rfl rfl rfl (e_move) ?_
    refine qg_val (v := .agg #[Ix (z1), Ix (z4)]) rfl rfl rfl rfl rfl (e_load tp7 (cs := [Ix (z1), Ix (z4)]) rfl (k_pt 2 (cs := #[Ix (z1), Ix (z4)]) (vs := [Ix (z1), Ix (z4)]) rfl rfl) rfl) ?_
    refine qg_val (v := .agg #[Ix (z13), Ix (z16)]) rfl rfl rfl rfl rfl (e_load tp7 (cs := [Ix (z13), Ix (z16)]) rfl (k_pt 0 (cs := #[Ix (z13), Ix (z16)]) (vs := [Ix (z13), Ix (z16)]) rfl rfl) rfl) ?_
    refine qg_call (v := Nx (lenV z1 z4 z13 z16)) rfl rfl rfl rfl rfl (cl_value (fst := []) (cap := []) (vs := [.agg #[Ix (z1), Ix (z4)], .agg #[Ix (z13), Ix (z16)]]) (all := [.agg #[Ix (z1), Ix (z4)], .agg #[Ix (z13), Ix (z16)]]) tw90 rfl rfl rfl) (fun w hw => ?_) ?_
    · obtain ⟨β1, sb, kn, hw1, back⟩ := St.frame_all hw
      exact (length_ok β1 w hw1 ⟨z1, z4⟩ ⟨z13, z16⟩).mono (fun e w' ⟨he, hw'⟩ => ⟨he, st_mask [true, true, true] rfl (back _ _ hw')⟩)
    refine qg_val (v := .agg #[Ix (z13), Ix (z16)]) rfl rfl rfl rfl rfl (e_load tp7 (cs := [Ix (z13), Ix (z16)]) rfl (k_pt 0 (cs := #[Ix (z13), Ix (z16)]) (vs := [Ix (z13), Ix (z16)]) rfl rfl) rfl) ?_
    refine qg_val (v := .agg #[Ix (z7), Ix (z10)]) rfl rfl rfl rfl rfl (e_load tp7 (cs := [Ix (z7), Ix (z10)]) rfl (k_pt 1 (cs := #[Ix (z7), Ix (z10)]) (vs := [Ix (z7), Ix (z10)]) rfl rfl) rfl) ?_
    refine qg_call (v := Nx (lenV z13 z16 z7 z10)) rfl rfl rfl rfl rfl (cl_value (fst := []) (cap := []) (vs := [.agg #[Ix (z13), Ix (z16)], .agg #[Ix (z7), Ix (z10)]]) (all := [.agg #[Ix (z13), Ix (z16)], .agg #[Ix (z7), Ix (z10)]]) tw90 rfl rfl rfl) (fun w hw => ?_) ?_
    · obtain ⟨β1, sb, kn, hw1, back⟩ := St.frame_all hw
      exact (length_ok β1 w hw1 ⟨z13, z16⟩ ⟨z7, z10⟩).mono (fun e w' ⟨he, hw'⟩ => ⟨he, st_mask [true, true, true] rfl (back _ _ hw')⟩)
    refine qg_val (v := Nx ((lenV z1 z4 z13 z16) + (lenV z13 z16 z7 z10))) rfl rfl rfl rfl rfl (e_add (a := ((lenV z1 z4 z13 z16 : Nat) : Int)) (b := ((lenV z13 z16 z7 z10 : Nat) : Int)) rfl rfl (i64n (by omega) (by omega))) ?_
    refine qg_val (v := .bool (decide ((((lenV z1 z4 z13 z16) + (lenV z13 z16 z7 z10) : Nat) : Int) < ((n : Nat) : Int)))) rfl rfl rfl rfl rfl (e_gtr (a := ((n : Nat) : Int)) (b := (((lenV z1 z4 z13 z16) + (lenV z13 z16 z7 z10) : Nat) : Int)) rfl rfl) ?_
    refine q_val (v := .bool (decide ((((lenV z1 z4 z13 z16) + (lenV z13 z16 z7 z10) : Nat) : Int) < ((n : Nat) : Int)))) rfl rfl rfl (e_pick_f rfl) ?_
    refine q_val (v := .bool (decide ((((lenV z1 z4 z13 z16) + (lenV z13 z16 z7 z10) : Nat) : Int) < ((n : Nat) : Int)))) rfl rfl rfl (e_move) ?_
    refine q_split (s := 107) (p := (((lenV z1 z4 z13 z16) + (lenV z13 z16 z7 z10) : Nat) : Int) < ((n : Nat) : Int)) rfl (fun h => ?_) (fun h => ?_)
    exact absurd h (by omega)
    refine qg_val (v := .agg #[Ix (z1), Ix (z4)]) rfl rfl rfl rfl rfl (e_load tp7 (cs := [Ix (z1), Ix (z4)]) rfl (k_pt 2 (cs := #[Ix (z1), Ix (z4)]) (vs := [Ix (z1), Ix (z4)]) rfl rfl) rfl) ?_
    refine qg_val (v := .agg #[Ix (z1), Ix (z4)]) rfl rfl rfl rfl rfl (e_load tp7 (cs := [Ix (z1), Ix (z4)]) rfl (k_pt 2 (cs := #[Ix (z1), Ix (z4)]) (vs := [Ix (z1), Ix (z4)]) rfl rfl) rfl) ?_
    refine qg_call (v := Nx (lenV z1 z4 z1 z4)) rfl rfl rfl rfl rfl (cl_value (fst := []) (cap := []) (vs := [.agg #[Ix (z1), Ix (z4)], .agg #[Ix (z1), Ix (z4)]]) (all := [.agg #[Ix (z1), Ix (z4)], .agg #[Ix (z1), Ix (z4)]]) tw90 rfl rfl rfl) (fun w hw => ?_) ?_
    · obtain ⟨β1, sb, kn, hw1, back⟩ := St.frame_all hw
      exact (length_ok β1 w hw1 ⟨z1, z4⟩ ⟨z1, z4⟩).mono (fun e w' ⟨he, hw'⟩ => ⟨he, st_mask [true, true, true] rfl (back _ _ hw')⟩)
    refine qg_val (v := .bool (decide (((lenV z1 z4 z1 z4 : Nat) : Int) ≠ (0 : Int)))) rfl rfl rfl rfl rfl (e_neq (a := ((lenV z1 z4 z1 z4 : Nat) : Int)) (b := (0 : Int)) rfl rfl) ?_
    refine q_val (v := .bool (decide (((lenV z1 z4 z1 z4 : Nat) : Int) ≠ (0 : Int)))) rfl rfl rfl (e_pick_f rfl) ?_
    refine q_nil ?_
    refine f_then ?_
    refine c_if (((lenV z1 z4 z1 z4 : Nat) : Int) ≠ (0 : Int)) rfl (fun hc23 => ?_) (fun hc23 => ?_)
    ·
      exact absurd hc23 (by omega)
    ·
      refine c_skip ?_
      refine f_then ?_
      refine c_seq ?_
      refine c_region ?_
      refine l_val (v := Ix (far)) rfl rfl rfl (e_move) ?_
      refine l_val (v := Ix (max (far) (2097153 : Int))) rfl rfl rfl (e_max (a := (far)) (b := (2097153 : Int)) rfl rfl) ?_
      refine l_val (v := Ix (max (far) (2097153 : Int))) rfl rfl rfl (e_assign) ?_
      refine l_nil ?_
      refine f_then ?_
      refine c_seq ?_
      obtain ⟨F, hF⟩ : ∃ z, z = max (far) (2097153 : Int) := ⟨_, rfl⟩
      rw [← hF]
      have hF1 : 2097153 ≤ F := by omega
      have hF2 : F ≤ 9223372036854775807 := by omega
      refine c_quiet (by kernel_rfl) (by kernel_rfl) ?_
      refine q_val (v := Ix (F)) rfl rfl rfl (e_move) ?_
      refine q_call (v := .agg #[Ix (F), .int .i64 (0)]) rfl rfl rfl (cl_value (fst := []) (cap := []) (vs := [Ix (F), .int .i64 (0)]) (all := [Ix (F), .int .i64 (0)]) ty102 rfl rfl rfl) (fun w hw => ?_) ?_
      · obtain ⟨β1, sb, kn, hw1, back⟩ := St.frame_all hw
        exact (point_ok β1 w hw1 (F) (0 : Int)).mono (fun e w' ⟨he, hw'⟩ => ⟨he, st_mask [true, true, true] rfl (back _ _ hw')⟩)
      refine q_val (v := .agg #[Ix (z1), Ix (z4)]) rfl rfl rfl (e_load tp7 (cs := [Ix (z1), Ix (z4)]) rfl (k_pt 2 (cs := #[Ix (z1), Ix (z4)]) (vs := [Ix (z1), Ix (z4)]) rfl rfl) rfl) ?_
      refine q_call (v := Nx (lenV F 0 z1 z4)) rfl rfl rfl (cl_value (fst := []) (cap := []) (vs := [.agg #[Ix (F), .int .i64 (0)], .agg #[Ix (z1), Ix (z4)]]) (all := [.agg #[Ix (F), .int .i64 (0)], .agg #[Ix (z1), Ix (z4)]]) tw90 rfl rfl rfl) (fun w hw => ?_) ?_
      · obtain ⟨β1, sb, kn, hw1, back⟩ := St.frame_all hw
        exact (length_ok β1 w hw1 ⟨F, 0⟩ ⟨z1, z4⟩).mono (fun e w' ⟨he, hw'⟩ => ⟨he, st_mask [true, true, true] rfl (back _ _ hw')⟩)
      refine q_val (v := .bool (decide (((lenV F 0 z1 z4 : Nat) : Int) = (0 : Int)))) rfl rfl rfl (e_eql (a := ((lenV F 0 z1 z4 : Nat) : Int)) (b := (0 : Int)) rfl rfl) ?_
      refine q_val (v := .bool (decide (((lenV F 0 z1 z4 : Nat) : Int) = (0 : Int)))) rfl rfl rfl (e_move) ?_
      refine q_split (s := 120) (p := ((lenV F 0 z1 z4 : Nat) : Int) = (0 : Int)) rfl (fun h => ?_) (fun h => ?_)
      rotate_left; exact absurd (by rw [far_len (by unfold inR; omega)]; rfl) h
      refine qg_val (v := .agg #[Ix (z1), Ix (z4)]) rfl rfl rfl rfl rfl (e_load tp7 (cs := [Ix (z1), Ix (z4)]) rfl (k_pt 2 (cs := #[Ix (z1), Ix (z4)]) (vs := [Ix (z1), Ix (z4)]) rfl rfl) rfl) ?_
      refine qg_val (v := Ix (F)) rfl rfl rfl rfl rfl (e_move) ?_
      refine qg_val (v := Ix (0 - (F))) rfl rfl rfl rfl rfl (e_neg (a := (F)) rfl (i64w (by omega))) ?_
      refine qg_call (v := .agg #[.int .i64 (0), Ix (0 - (F))]) rfl rfl rfl rfl rfl (cl_value (fst := []) (cap := []) (vs := [.int .i64 (0), Ix (0 - (F))]) (all := [.int .i64 (0), Ix (0 - (F))]) ty102 rfl rfl rfl) (fun w hw => ?_) ?_
      · obtain ⟨β1, sb, kn, hw1, back⟩ := St.frame_all hw
        exact (point_ok β1 w hw1 (0 : Int) (0 - (F))).mono (fun e w' ⟨he, hw'⟩ => ⟨he, st_mask [true, true, true] rfl (back _ _ hw')⟩)
      refine qg_call (v := Nx (lenV z1 z4 0 (0 - (F)))) rfl rfl rfl rfl rfl (cl_value (fst := []) (cap := []) (vs := [.agg #[Ix (z1), Ix (z4)], .agg #[.int .i64 (0), Ix (0 - (F))]]) (all := [.agg #[Ix (z1), Ix (z4)], .agg #[.int .i64 (0), Ix (0 - (F))]]) tw90 rfl rfl rfl) (fun w hw => ?_) ?_
      · obtain ⟨β1, sb, kn, hw1, back⟩ := St.frame_all hw
        exact (length_ok β1 w hw1 ⟨z1, z4⟩ ⟨0, 0 - (F)⟩).mono (fun e w' ⟨he, hw'⟩ => ⟨he, st_mask [true, true, true] rfl (back _ _ hw')⟩)
      refine qg_val (v := .bool (decide (((lenV z1 z4 0 (0 - (F)) : Nat) : Int) = (0 : Int)))) rfl rfl rfl rfl rfl (e_eql (a := ((lenV z1 z4 0 (0 - (F)) : Nat) : Int)) (b := (0 : Int)) rfl rfl) ?_
      refine q_val (v := .bool (decide (((lenV z1 z4 0 (0 - (F)) : Nat) : Int) = (0 : Int)))) rfl rfl rfl (e_pick_t rfl) ?_
      refine q_val (v := .bool (decide (((lenV z1 z4 0 (0 - (F)) : Nat) : Int) = (0 : Int)))) rfl rfl rfl (e_move) ?_
      refine q_split (s := 128) (p := ((lenV z1 z4 0 (0 - (F)) : Nat) : Int) = (0 : Int)) rfl (fun h => ?_) (fun h => ?_)
      rotate_left; exact absurd (by rw [far_len (by unfold inR; omega)]; rfl) h
      refine qg_val (v := Ix (F)) rfl rfl rfl rfl rfl (e_move) ?_
      refine qg_call (v := .agg #[.int .i64 (0), Ix (F)]) rfl rfl rfl rfl rfl (cl_value (fst := []) (cap := []) (vs := [.int .i64 (0), Ix (F)]) (all := [.int .i64 (0), Ix (F)]) ty102 rfl rfl rfl) (fun w hw => ?_) ?_
      · obtain ⟨β1, sb, kn, hw1, back⟩ := St.frame_all hw
        exact (point_ok β1 w hw1 (0 : Int) (F)).mono (fun e w' ⟨he, hw'⟩ => ⟨he, st_mask [true, true, true] rfl (back _ _ hw')⟩)
      refine qg_val (v := Ix (F)) rfl rfl rfl rfl rfl (e_move) ?_
      refine qg_val (v := Ix (0 - (F))) rfl rfl rfl rfl rfl (e_neg (a := (F)) rfl (i64w (by omega))) ?_
      refine qg_call (v := .agg #[Ix (0 - (F)), .int .i64 (0)]) rfl rfl rfl rfl rfl (cl_value (fst := []) (cap := []) (vs := [Ix (0 - (F)), .int .i64 (0)]) (all := [Ix (0 - (F)), .int .i64 (0)]) ty102 rfl rfl rfl) (fun w hw => ?_) ?_
      · obtain ⟨β1, sb, kn, hw1, back⟩ := St.frame_all hw
        exact (point_ok β1 w hw1 (0 - (F)) (0 : Int)).mono (fun e w' ⟨he, hw'⟩ => ⟨he, st_mask [true, true, true] rfl (back _ _ hw')⟩)
      refine qg_call (v := Nx (lenV 0 F (0 - (F)) 0)) rfl rfl rfl rfl rfl (cl_value (fst := []) (cap := []) (vs := [.agg #[.int .i64 (0), Ix (F)], .agg #[Ix (0 - (F)), .int .i64 (0)]]) (all := [.agg #[.int .i64 (0), Ix (F)], .agg #[Ix (0 - (F)), .int .i64 (0)]]) tw90 rfl rfl rfl) (fun w hw => ?_) ?_
      · obtain ⟨β1, sb, kn, hw1, back⟩ := St.frame_all hw
        exact (length_ok β1 w hw1 ⟨0, F⟩ ⟨0 - (F), 0⟩).mono (fun e w' ⟨he, hw'⟩ => ⟨he, st_mask [true, true, true] rfl (back _ _ hw')⟩)
      refine qg_val (v := .bool (decide (((lenV 0 F (0 - (F)) 0 : Nat) : Int) = (0 : Int)))) rfl rfl rfl rfl rfl (e_eql (a := ((lenV 0 F (0 - (F)) 0 : Nat) : Int)) (b := (0 : Int)) rfl rfl) ?_
      refine q_val (v := .bool (decide (((lenV 0 F (0 - (F)) 0 : Nat) : Int) = (0 : Int)))) rfl rfl rfl (e_pick_t rfl) ?_
      refine q_val (v := .bool (decide (((lenV 0 F (0 - (F)) 0 : Nat) : Int) = (0 : Int)))) rfl rfl rfl (e_assign) ?_
      refine q_nil ?_
      refine f_then ?_
      refine c_ret ?_
      refine ret1 Try.results6 (v := .bool (decide (((lenV 0 F (0 - (F)) 0 : Nat) : Int) = (0 : Int)))) rfl ?_
      intro w hw
      exact ⟨congrArg (fun b : Bool => Ending.returned (.bool b)) (decide_eq_true (by rw [far_len (by unfold inR; omega)]; rfl)), st_mask [false, false, false] rfl hw⟩
  ·
    refine q_skip rfl rfl rfl rfl rfl rfl ?_
    refine q_skip rfl rfl rfl rfl rfl rfl ?_
    refine q_skip rfl rfl rfl rfl rfl rfl ?_
    refine q_skip rfl rfl rfl rfl rfl rfl ?_
    refine q_skip rfl rfl rfl rfl rfl rfl ?_
    refine q_skip rfl rfl rfl rfl rfl rfl ?_
    refine q_skip rfl rfl rfl rfl rfl rfl ?_
    refine qg_val (v := .bool false) rfl rfl rfl rfl rfl (e_pick_f rfl) ?_
    refine q_val (v := .bool false) rfl rfl rfl (e_pick_f rfl) ?_
    refine q_val (v := .bool false) rfl rfl rfl (e_move) ?_
    refine qg_val (v := Nx (n)) rfl rfl rfl rfl rfl (e_move) ?_
    refine qg_val (v := .agg #[Ix (z7), Ix (z10)]) rfl rfl rfl rfl rfl (e_load tp7 (cs := [Ix (z7), Ix (z10)]) rfl (k_pt 1 (cs := #[Ix (z7), Ix (z10)]) (vs := [Ix (z7), Ix (z10)]) rfl rfl) rfl) ?_
    refine qg_val (v := .agg #[Ix (z1), Ix (z4)]) rfl rfl rfl rfl rfl (e_load tp7 (cs := [Ix (z1), Ix (z4)]) rfl (k_pt 2 (cs := #[Ix (z1), Ix (z4)]) (vs := [Ix (z1), Ix (z4)]) rfl rfl) rfl) ?_
    refine qg_call (v := Nx (lenV z7 z10 z1 z4)) rfl rfl rfl rfl rfl (cl_value (fst := []) (cap := []) (vs := [.agg #[Ix (z7), Ix (z10)], .agg #[Ix (z1), Ix (z4)]]) (all := [.agg #[Ix (z7), Ix (z10)], .agg #[Ix (z1), Ix (z4)]]) tw90 rfl rfl rfl) (fun w hw => ?_) ?_
    · obtain ⟨β1, sb, kn, hw1, back⟩ := St.frame_all hw
      exact (length_ok β1 w hw1 ⟨z7, z10⟩ ⟨z1, z4⟩).mono (fun e w' ⟨he, hw'⟩ => ⟨he, st_mask [true, true, true] rfl (back _ _ hw')⟩)
    refine qg_val (v := .bool (decide (((n : Nat) : Int) ≠ ((lenV z7 z10 z1 z4 : Nat) : Int)))) rfl rfl rfl rfl rfl (e_neq (a := ((n : Nat) : Int)) (b := ((lenV z7 z10 z1 z4 : Nat) : Int)) rfl rfl) ?_
    refine q_val (v := .bool (decide (((n : Nat) : Int) ≠ ((lenV z7 z10 z1 z4 : Nat) : Int)))) rfl rfl rfl (e_pick_f rfl) ?_
    refine q_val (v := .bool (decide (((n : Nat) : Int) ≠ ((lenV z7 z10 z1 z4 : Nat) : Int)))) rfl rfl rfl (e_move) ?_
    refine q_split (s := 96) (p := ((n : Nat) : Int) ≠ ((lenV z7 z10 z1 z4 : Nat) : Int)) rfl (fun h => ?_) (fun h => ?_)
    exact absurd h (by omega)
    refine qg_val (v := Nx (n)) rfl rfl rfl rfl rfl (e_move) ?_
    refine qg_val (v := .agg #[Ix (z1), Ix (z4)]) rfl rfl rfl rfl rfl (e_load tp7 (cs := [Ix (z1), Ix (z4)]) rfl (k_pt 2 (cs := #[Ix (z1), Ix (z4)]) (vs := [Ix (z1), Ix (z4)]) rfl rfl) rfl) ?_
    refine qg_val (v := .agg #[Ix (z13), Ix (z16)]) rfl rfl rfl rfl rfl (e_load tp7 (cs := [Ix (z13), Ix (z16)]) rfl (k_pt 0 (cs := #[Ix (z13), Ix (z16)]) (vs := [Ix (z13), Ix (z16)]) rfl rfl) rfl) ?_
    refine qg_call (v := Nx (lenV z1 z4 z13 z16)) rfl rfl rfl rfl rfl (cl_value (fst := []) (cap := []) (vs := [.agg #[Ix (z1), Ix (z4)], .agg #[Ix (z13), Ix (z16)]]) (all := [.agg #[Ix (z1), Ix (z4)], .agg #[Ix (z13), Ix (z16)]]) tw90 rfl rfl rfl) (fun w hw => ?_) ?_
    · obtain ⟨β1, sb, kn, hw1, back⟩ := St.frame_all hw
      exact (length_ok β1 w hw1 ⟨z1, z4⟩ ⟨z13, z16⟩).mono (fun e w' ⟨he, hw'⟩ => ⟨he, st_mask [true, true, true] rfl (back _ _ hw')⟩)
    refine qg_val (v := .agg #[Ix (z13), Ix (z16)]) rfl rfl rfl rfl rfl (e_load tp7 (cs := [Ix (z13), Ix (z16)]) rfl (k_pt 0 (cs := #[Ix (z13), Ix (z16)]) (vs := [Ix (z13), Ix (z16)]) rfl rfl) rfl) ?_
    refine qg_val (v := .agg #[Ix (z7), Ix (z10)]) rfl rfl rfl rfl rfl (e_load tp7 (cs := [Ix (z7), Ix (z10)]) rfl (k_pt 1 (cs := #[Ix (z7), Ix (z10)]) (vs := [Ix (z7), Ix (z10)]) rfl rfl) rfl) ?_
    refine qg_call (v := Nx (lenV z13 z16 z7 z10)) rfl rfl rfl rfl rfl (cl_value (fst := []) (cap := []) (vs := [.agg #[Ix (z13), Ix (z16)], .agg #[Ix (z7), Ix (z10)]]) (all := [.agg #[Ix (z13), Ix (z16)], .agg #[Ix (z7), Ix (z10)]]) tw90 rfl rfl rfl) (fun w hw => ?_) ?_
    · obtain ⟨β1, sb, kn, hw1, back⟩ := St.frame_all hw
      exact (length_ok β1 w hw1 ⟨z13, z16⟩ ⟨z7, z10⟩).mono (fun e w' ⟨he, hw'⟩ => ⟨he, st_mask [true, true, true] rfl (back _ _ hw')⟩)
    refine qg_val (v := Nx ((lenV z1 z4 z13 z16) + (lenV z13 z16 z7 z10))) rfl rfl rfl rfl rfl (e_add (a := ((lenV z1 z4 z13 z16 : Nat) : Int)) (b := ((lenV z13 z16 z7 z10 : Nat) : Int)) rfl rfl (i64n (by omega) (by omega))) ?_
    refine qg_val (v := .bool (decide ((((lenV z1 z4 z13 z16) + (lenV z13 z16 z7 z10) : Nat) : Int) < ((n : Nat) : Int)))) rfl rfl rfl rfl rfl (e_gtr (a := ((n : Nat) : Int)) (b := (((lenV z1 z4 z13 z16) + (lenV z13 z16 z7 z10) : Nat) : Int)) rfl rfl) ?_
    refine q_val (v := .bool (decide ((((lenV z1 z4 z13 z16) + (lenV z13 z16 z7 z10) : Nat) : Int) < ((n : Nat) : Int)))) rfl rfl rfl (e_pick_f rfl) ?_
    refine q_val (v := .bool (decide ((((lenV z1 z4 z13 z16) + (lenV z13 z16 z7 z10) : Nat) : Int) < ((n : Nat) : Int)))) rfl rfl rfl (e_move) ?_
    refine q_split (s := 107) (p := (((lenV z1 z4 z13 z16) + (lenV z13 z16 z7 z10) : Nat) : Int) < ((n : Nat) : Int)) rfl (fun h => ?_) (fun h => ?_)
    exact absurd h (by omega)
    refine qg_val (v := .agg #[Ix (z1), Ix (z4)]) rfl rfl rfl rfl rfl (e_load tp7 (cs := [Ix (z1), Ix (z4)]) rfl (k_pt 2 (cs := #[Ix (z1), Ix (z4)]) (vs := [Ix (z1), Ix (z4)]) rfl rfl) rfl) ?_
    refine qg_val (v := .agg #[Ix (z1), Ix (z4)]) rfl rfl rfl rfl rfl (e_load tp7 (cs := [Ix (z1), Ix (z4)]) rfl (k_pt 2 (cs := #[Ix (z1), Ix (z4)]) (vs := [Ix (z1), Ix (z4)]) rfl rfl) rfl) ?_
    refine qg_call (v := Nx (lenV z1 z4 z1 z4)) rfl rfl rfl rfl rfl (cl_value (fst := []) (cap := []) (vs := [.agg #[Ix (z1), Ix (z4)], .agg #[Ix (z1), Ix (z4)]]) (all := [.agg #[Ix (z1), Ix (z4)], .agg #[Ix (z1), Ix (z4)]]) tw90 rfl rfl rfl) (fun w hw => ?_) ?_
    · obtain ⟨β1, sb, kn, hw1, back⟩ := St.frame_all hw
      exact (length_ok β1 w hw1 ⟨z1, z4⟩ ⟨z1, z4⟩).mono (fun e w' ⟨he, hw'⟩ => ⟨he, st_mask [true, true, true] rfl (back _ _ hw')⟩)
    refine qg_val (v := .bool (decide (((lenV z1 z4 z1 z4 : Nat) : Int) ≠ (0 : Int)))) rfl rfl rfl rfl rfl (e_neq (a := ((lenV z1 z4 z1 z4 : Nat) : Int)) (b := (0 : Int)) rfl rfl) ?_
    refine q_val (v := .bool (decide (((lenV z1 z4 z1 z4 : Nat) : Int) ≠ (0 : Int)))) rfl rfl rfl (e_pick_f rfl) ?_
    refine q_nil ?_
    refine f_then ?_
    refine c_if (((lenV z1 z4 z1 z4 : Nat) : Int) ≠ (0 : Int)) rfl (fun hc24 => ?_) (fun hc24 => ?_)
    ·
      exact absurd hc24 (by omega)
    ·
      refine c_skip ?_
      refine f_then ?_
      refine c_seq ?_
      refine c_region ?_
      refine l_val (v := Ix (far)) rfl rfl rfl (e_move) ?_
      refine l_val (v := Ix (max (far) (2097153 : Int))) rfl rfl rfl (e_max (a := (far)) (b := (2097153 : Int)) rfl rfl) ?_
      refine l_val (v := Ix (max (far) (2097153 : Int))) rfl rfl rfl (e_assign) ?_
      refine l_nil ?_
      refine f_then ?_
      refine c_seq ?_
      obtain ⟨F, hF⟩ : ∃ z, z = max (far) (2097153 : Int) := ⟨_, rfl⟩
      rw [← hF]
      have hF1 : 2097153 ≤ F := by omega
      have hF2 : F ≤ 9223372036854775807 := by omega
      refine c_quiet (by kernel_rfl) (by kernel_rfl) ?_
      refine q_val (v := Ix (F)) rfl rfl rfl (e_move) ?_
      refine q_call (v := .agg #[Ix (F), .int .i64 (0)]) rfl rfl rfl (cl_value (fst := []) (cap := []) (vs := [Ix (F), .int .i64 (0)]) (all := [Ix (F), .int .i64 (0)]) ty102 rfl rfl rfl) (fun w hw => ?_) ?_
      · obtain ⟨β1, sb, kn, hw1, back⟩ := St.frame_all hw
        exact (point_ok β1 w hw1 (F) (0 : Int)).mono (fun e w' ⟨he, hw'⟩ => ⟨he, st_mask [true, true, true] rfl (back _ _ hw')⟩)
      refine q_val (v := .agg #[Ix (z1), Ix (z4)]) rfl rfl rfl (e_load tp7 (cs := [Ix (z1), Ix (z4)]) rfl (k_pt 2 (cs := #[Ix (z1), Ix (z4)]) (vs := [Ix (z1), Ix (z4)]) rfl rfl) rfl) ?_
      refine q_call (v := Nx (lenV F 0 z1 z4)) rfl rfl rfl (cl_value (fst := []) (cap := []) (vs := [.agg #[Ix (F), .int .i64 (0)], .agg #[Ix (z1), Ix (z4)]]) (all := [.agg #[Ix (F), .int .i64 (0)], .agg #[Ix (z1), Ix (z4)]]) tw90 rfl rfl rfl) (fun w hw => ?_) ?_
      · obtain ⟨β1, sb, kn, hw1, back⟩ := St.frame_all hw
        exact (length_ok β1 w hw1 ⟨F, 0⟩ ⟨z1, z4⟩).mono (fun e w' ⟨he, hw'⟩ => ⟨he, st_mask [true, true, true] rfl (back _ _ hw')⟩)
      refine q_val (v := .bool (decide (((lenV F 0 z1 z4 : Nat) : Int) = (0 : Int)))) rfl rfl rfl (e_eql (a := ((lenV F 0 z1 z4 : Nat) : Int)) (b := (0 : Int)) rfl rfl) ?_
      refine q_val (v := .bool (decide (((lenV F 0 z1 z4 : Nat) : Int) = (0 : Int)))) rfl rfl rfl (e_move) ?_
      refine q_split (s := 120) (p := ((lenV F 0 z1 z4 : Nat) : Int) = (0 : Int)) rfl (fun h => ?_) (fun h => ?_)
      rotate_left; exact absurd (by rw [far_len (by unfold inR; omega)]; rfl) h
      refine qg_val (v := .agg #[Ix (z1), Ix (z4)]) rfl rfl rfl rfl rfl (e_load tp7 (cs := [Ix (z1), Ix (z4)]) rfl (k_pt 2 (cs := #[Ix (z1), Ix (z4)]) (vs := [Ix (z1), Ix (z4)]) rfl rfl) rfl) ?_
      refine qg_val (v := Ix (F)) rfl rfl rfl rfl rfl (e_move) ?_
      refine qg_val (v := Ix (0 - (F))) rfl rfl rfl rfl rfl (e_neg (a := (F)) rfl (i64w (by omega))) ?_
      refine qg_call (v := .agg #[.int .i64 (0), Ix (0 - (F))]) rfl rfl rfl rfl rfl (cl_value (fst := []) (cap := []) (vs := [.int .i64 (0), Ix (0 - (F))]) (all := [.int .i64 (0), Ix (0 - (F))]) ty102 rfl rfl rfl) (fun w hw => ?_) ?_
      · obtain ⟨β1, sb, kn, hw1, back⟩ := St.frame_all hw
        exact (point_ok β1 w hw1 (0 : Int) (0 - (F))).mono (fun e w' ⟨he, hw'⟩ => ⟨he, st_mask [true, true, true] rfl (back _ _ hw')⟩)
      refine qg_call (v := Nx (lenV z1 z4 0 (0 - (F)))) rfl rfl rfl rfl rfl (cl_value (fst := []) (cap := []) (vs := [.agg #[Ix (z1), Ix (z4)], .agg #[.int .i64 (0), Ix (0 - (F))]]) (all := [.agg #[Ix (z1), Ix (z4)], .agg #[.int .i64 (0), Ix (0 - (F))]]) tw90 rfl rfl rfl) (fun w hw => ?_) ?_
      · obtain ⟨β1, sb, kn, hw1, back⟩ := St.frame_all hw
        exact (length_ok β1 w hw1 ⟨z1, z4⟩ ⟨0, 0 - (F)⟩).mono (fun e w' ⟨he, hw'⟩ => ⟨he, st_mask [true, true, true] rfl (back _ _ hw')⟩)
      refine qg_val (v := .bool (decide (((lenV z1 z4 0 (0 - (F)) : Nat) : Int) = (0 : Int)))) rfl rfl rfl rfl rfl (e_eql (a := ((lenV z1 z4 0 (0 - (F)) : Nat) : Int)) (b := (0 : Int)) rfl rfl) ?_
      refine q_val (v := .bool (decide (((lenV z1 z4 0 (0 - (F)) : Nat) : Int) = (0 : Int)))) rfl rfl rfl (e_pick_t rfl) ?_
      refine q_val (v := .bool (decide (((lenV z1 z4 0 (0 - (F)) : Nat) : Int) = (0 : Int)))) rfl rfl rfl (e_move) ?_
      refine q_split (s := 128) (p := ((lenV z1 z4 0 (0 - (F)) : Nat) : Int) = (0 : Int)) rfl (fun h => ?_) (fun h => ?_)
      rotate_left; exact absurd (by rw [far_len (by unfold inR; omega)]; rfl) h
      refine qg_val (v := Ix (F)) rfl rfl rfl rfl rfl (e_move) ?_
      refine qg_call (v := .agg #[.int .i64 (0), Ix (F)]) rfl rfl rfl rfl rfl (cl_value (fst := []) (cap := []) (vs := [.int .i64 (0), Ix (F)]) (all := [.int .i64 (0), Ix (F)]) ty102 rfl rfl rfl) (fun w hw => ?_) ?_
      · obtain ⟨β1, sb, kn, hw1, back⟩ := St.frame_all hw
        exact (point_ok β1 w hw1 (0 : Int) (F)).mono (fun e w' ⟨he, hw'⟩ => ⟨he, st_mask [true, true, true] rfl (back _ _ hw')⟩)
      refine qg_val (v := Ix (F)) rfl rfl rfl rfl rfl (e_move) ?_
      refine qg_val (v := Ix (0 - (F))) rfl rfl rfl rfl rfl (e_neg (a := (F)) rfl (i64w (by omega))) ?_
      refine qg_call (v := .agg #[Ix (0 - (F)), .int .i64 (0)]) rfl rfl rfl rfl rfl (cl_value (fst := []) (cap := []) (vs := [Ix (0 - (F)), .int .i64 (0)]) (all := [Ix (0 - (F)), .int .i64 (0)]) ty102 rfl rfl rfl) (fun w hw => ?_) ?_
      · obtain ⟨β1, sb, kn, hw1, back⟩ := St.frame_all hw
        exact (point_ok β1 w hw1 (0 - (F)) (0 : Int)).mono (fun e w' ⟨he, hw'⟩ => ⟨he, st_mask [true, true, true] rfl (back _ _ hw')⟩)
      refine qg_call (v := Nx (lenV 0 F (0 - (F)) 0)) rfl rfl rfl rfl rfl (cl_value (fst := []) (cap := []) (vs := [.agg #[.int .i64 (0), Ix (F)], .agg #[Ix (0 - (F)), .int .i64 (0)]]) (all := [.agg #[.int .i64 (0), Ix (F)], .agg #[Ix (0 - (F)), .int .i64 (0)]]) tw90 rfl rfl rfl) (fun w hw => ?_) ?_
      · obtain ⟨β1, sb, kn, hw1, back⟩ := St.frame_all hw
        exact (length_ok β1 w hw1 ⟨0, F⟩ ⟨0 - (F), 0⟩).mono (fun e w' ⟨he, hw'⟩ => ⟨he, st_mask [true, true, true] rfl (back _ _ hw')⟩)
      refine qg_val (v := .bool (decide (((lenV 0 F (0 - (F)) 0 : Nat) : Int) = (0 : Int)))) rfl rfl rfl rfl rfl (e_eql (a := ((lenV 0 F (0 - (F)) 0 : Nat) : Int)) (b := (0 : Int)) rfl rfl) ?_
      refine q_val (v := .bool (decide (((lenV 0 F (0 - (F)) 0 : Nat) : Int) = (0 : Int)))) rfl rfl rfl (e_pick_t rfl) ?_
      refine q_val (v := .bool (decide (((lenV 0 F (0 - (F)) 0 : Nat) : Int) = (0 : Int)))) rfl rfl rfl (e_assign) ?_
      refine q_nil ?_
      refine f_then ?_
      refine c_ret ?_
      refine ret1 Try.results6 (v := .bool (decide (((lenV 0 F (0 - (F)) 0 : Nat) : Int) = (0 : Int)))) rfl ?_
      intro w hw
      exact ⟨congrArg (fun b : Bool => Ending.returned (.bool b)) (decide_eq_true (by rw [far_len (by unfold inR; omega)]; rfl)), st_mask [false, false, false] rfl hw⟩
end Go.Proofs
