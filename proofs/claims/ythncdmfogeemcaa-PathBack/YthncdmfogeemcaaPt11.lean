/-
  PathBack: walked. Printed by a program of my own.
-/
import Derived.Test.YthncdmfogeemcaaPt9
import Derived.Test.YthncdmfogeemcaaPtGeo
namespace Go.Pth
open Go.Sl Go.Brd
theorem near_in {p : KV} (h : nearP p) : inR p.x ∧ inR p.y := by unfold nearP at h; unfold inR; omega
end Go.Pth
namespace Go.Proofs
open Go Go.Sl Go.Brd Go.Pth
theorem sc121 : cfB Try.prog 8 = true := by kernel_rfl
theorem sc122 : cfB Try.prog 9 = true := by kernel_rfl
theorem sc123 : Try.prog.underlying 4 = some .bool := by kernel_rfl
set_option maxHeartbeats 4000000 in
theorem backL_ok (β : Base) (w : World) (hw : St β [] w) (v : Value) (bs : List UInt8) (hs : Sl U8R β.heap v bs) (u1 u2 u3 : Nat) (hu1 : u1 < 4294967296) (hu2 : u2 < 4294967296) (hu3 : u3 < 4294967296) : Calls Try.prog 3 #[v, .int .u32 ((u1 : Nat) : Int), .int .u32 ((u2 : Nat) : Int), .int .u32 ((u3 : Nat) : Int)] w fun r w' => r = .returned (.bool true) ∧ St β [] w' := by
  obtain ⟨va, vc, rfl, vl, vm, ve⟩ := hs.get
  refine enter (n := 152) Try.func3 rfl Try.ntmps3 rfl ?_ hw
  refine c_seq ?_
  refine c_region ?_
  refine l_val (v := .bool false) rfl rfl rfl (e_assign) ?_
  refine l_nil ?_
  refine f_then ?_
  refine c_seq ?_
  refine c_seq ?_
  refine c_region ?_
  refine l_call rfl rfl rfl (cl_value (fst := []) (cap := []) (vs := []) (all := []) tz108 rfl rfl rfl) ?_
  intro w hw
  obtain ⟨β1, sb, kn, hw1, back⟩ := St.frame_all hw
  refine (awake_ok β1 w hw1).mono ?_
  rintro e w' ⟨rfl, hw'⟩
  refine ⟨_, rfl, _, back _ _ hw', ?_⟩
  clear hw hw1 hw' back kn sb
  refine l_val (v := .bool false) rfl rfl rfl (e_not (a := true) rfl) ?_
  refine l_nil ?_
  refine f_then ?_
  refine c_no rfl ?_
  refine c_skip ?_
  refine f_then ?_
  refine c_seq ?_
  refine c_region ?_
  refine l_val (v := .slice va (bs.length) (vc)) rfl rfl rfl (e_move) ?_
  refine l_call rfl rfl rfl (cl_value (fst := []) (cap := []) (vs := [.slice va (bs.length) (vc)]) (all := [.slice va (bs.length) (vc)]) sc121 rfl rfl rfl) ?_
  intro w hw
  obtain ⟨β1, sb, kn, hw1, back⟩ := St.frame_all hw
  refine (madeB_ok β1 w hw1 _ bs (Sl.mono _ _ _ _ _ sb (⟨⟨_, _, rfl, vl, vm, ve⟩⟩ : Sl U8R _ _ bs))).mono ?_
  rintro e w' ⟨p1, c2, l, rfl, hB, hw'⟩
  refine ⟨_, rfl, _, back _ _ hw', ?_⟩
  clear hw hw1 hw' back kn sb
  refine l_val (v := .slice p1 (l.length) c2) rfl rfl rfl (e_assign) ?_
  refine l_nil ?_
  refine f_then ?_
  refine c_seq ?_
  refine c_region ?_
  refine l_val (v := .slice p1 (l.length) c2) rfl rfl rfl (e_move) ?_
  refine l_val (v := .int .u32 (((u1 : Nat)) : Int)) rfl rfl rfl (e_move) ?_
  refine l_call rfl rfl rfl (cl_value (fst := []) (cap := []) (vs := [.slice p1 (l.length) c2, .int .u32 (((u1 : Nat)) : Int)]) (all := [.slice p1 (l.length) c2, .int .u32 (((u1 : Nat)) : Int)]) sc122 rfl rfl rfl) ?_
  intro w hw
  obtain ⟨β1, sb, kn, hw1, back⟩ := St.frame_all hw
  refine (spot_ok β1 w hw1 _ l (kn _ (k_flN 0 (F := AreaF) (m := l.length) rfl rfl)) hB.small (by have h := hB.len; omega) u1 hu1).mono ?_
  rintro e w' ⟨p3, rfl, hnp4, hw'⟩
  refine ⟨_, rfl, _, back _ _ hw', ?_⟩
  clear hw hw1 hw' back kn sb
  refine l_val (v := .slice p1 (l.length) c2) rfl rfl rfl (e_move) ?_
  refine l_val (v := .int .u32 (((u2 : Nat)) : Int)) rfl rfl rfl (e_move) ?_
  refine l_call rfl rfl rfl (cl_value (fst := []) (cap := []) (vs := [.slice p1 (l.length) c2, .int .u32 (((u2 : Nat)) : Int)]) (all := [.slice p1 (l.length) c2, .int .u32 (((u2 : Nat)) : Int)]) sc122 rfl rfl rfl) ?_
  intro w hw
  obtain ⟨β1, sb, kn, hw1, back⟩ := St.frame_all hw
  refine (spot_ok β1 w hw1 _ l (kn _ (k_flN 0 (F := AreaF) (m := l.length) rfl rfl)) hB.small (by have h := hB.len; omega) u2 hu2).mono ?_
  rintro e w' ⟨p5, rfl, hnp6, hw'⟩
  refine ⟨_, rfl, _, back _ _ hw', ?_⟩
  clear hw hw1 hw' back kn sb
  refine l_val (v := .slice p1 (l.length) c2) rfl rfl rfl (e_move) ?_
  refine l_val (v := .int .u32 (((u3 : Nat)) : Int)) rfl rfl rfl (e_move) ?_
  refine l_call rfl rfl rfl (cl_value (fst := []) (cap := []) (vs := [.slice p1 (l.length) c2, .int .u32 (((u3 : Nat)) : Int)]) (all := [.slice p1 (l.length) c2, .int .u32 (((u3 : Nat)) : Int)]) sc122 rfl rfl rfl) ?_
  intro w hw
  obtain ⟨β1, sb, kn, hw1, back⟩ := St.frame_all hw
  refine (spot_ok β1 w hw1 _ l (kn _ (k_flN 0 (F := AreaF) (m := l.length) rfl rfl)) hB.small (by have h := hB.len; omega) u3 hu3).mono ?_
  rintro e w' ⟨p7, rfl, hnp8, hw'⟩
  refine ⟨_, rfl, _, back _ _ hw', ?_⟩
  clear hw hw1 hw' back kn sb
  refine l_mv rfl rfl rfl (m_alloc tp5) ?_
  rintro _ _ ⟨b9, rfl, rfl⟩
  refine l_mv rfl rfl rfl (m_alloc tp5) ?_
  rintro _ _ ⟨b10, rfl, rfl⟩
  refine l_mv rfl rfl rfl (m_alloc tp5) ?_
  rintro _ _ ⟨b11, rfl, rfl⟩
  refine l_mu rfl rfl (m_store 2 tp7 (b := b9) (o := 0) (T := 28) (cs := #[.int .i64 (0), .int .i64 (0)]) (cs' := #[Ix (p3.x), Ix (p3.y)]) (v := .agg #[Ix (p3.x), Ix (p3.y)]) rfl rfl rfl rfl rfl rfl rfl) ?_
  refine l_mu rfl rfl (m_store 1 tp7 (b := b10) (o := 0) (T := 28) (cs := #[.int .i64 (0), .int .i64 (0)]) (cs' := #[Ix (p5.x), Ix (p5.y)]) (v := .agg #[Ix (p5.x), Ix (p5.y)]) rfl rfl rfl rfl rfl rfl rfl) ?_
  refine l_mu rfl rfl (m_store 0 tp7 (b := b11) (o := 0) (T := 28) (cs := #[.int .i64 (0), .int .i64 (0)]) (cs' := #[Ix (p7.x), Ix (p7.y)]) (v := .agg #[Ix (p7.x), Ix (p7.y)]) rfl rfl rfl rfl rfl rfl rfl) ?_
  refine l_nil ?_
  refine f_then ?_
  refine c_seq ?_
  have hM := hB.okM
  have hinhnp4 := near_in hnp4
  have hinhnp6 := near_in hnp6
  have hinhnp8 := near_in hnp8
  refine c_region ?_
  refine l_val (v := .slice p1 (l.length) c2) rfl rfl rfl (e_move) ?_
  refine l_val (v := .agg #[Ix (p3.x), Ix (p3.y)]) rfl rfl rfl (e_load tp7 (cs := [Ix (p3.x), Ix (p3.y)]) rfl (k_pt 2 (cs := #[Ix (p3.x), Ix (p3.y)]) (vs := [Ix (p3.x), Ix (p3.y)]) rfl rfl) rfl) ?_
  refine l_val (v := .agg #[Ix (p5.x), Ix (p5.y)]) rfl rfl rfl (e_load tp7 (cs := [Ix (p5.x), Ix (p5.y)]) rfl (k_pt 1 (cs := #[Ix (p5.x), Ix (p5.y)]) (vs := [Ix (p5.x), Ix (p5.y)]) rfl rfl) rfl) ?_
  refine l_call rfl rfl rfl (cl_value (fst := []) (cap := []) (vs := [.slice p1 (l.length) c2, .agg #[Ix (p3.x), Ix (p3.y)], .agg #[Ix (p5.x), Ix (p5.y)]]) (all := [.slice p1 (l.length) c2, .agg #[Ix (p3.x), Ix (p3.y)], .agg #[Ix (p5.x), Ix (p5.y)]]) ty103 rfl rfl rfl) ?_
  intro w hw
  obtain ⟨β1, sb, kn, hw1, back⟩ := St.frame_all hw
  refine (find_ok β1 w hw1 _ l (kn _ (k_flN 3 (F := AreaF) (m := l.length) rfl rfl)) p3 p5).mono ?_
  rintro e w' ⟨p12, c13, way14, n15, e16, rfl, hF17, hnb18, hw'⟩
  refine ⟨_, rfl, _, back _ _ hw', ?_⟩
  clear hw hw1 hw' back kn sb
  refine l_val (v := .tuple #[.slice p12 (way14.length) c13, Nx (n15), Ix (e16)]) rfl rfl rfl (e_move) ?_
  refine l_val (v := .slice p12 (way14.length) c13) rfl rfl rfl (e_extract (vs := #[.slice p12 (way14.length) c13, Nx (n15), Ix (e16)]) rfl rfl) ?_
  refine l_val (v := Nx (n15)) rfl rfl rfl (e_extract (vs := #[.slice p12 (way14.length) c13, Nx (n15), Ix (e16)]) rfl rfl) ?_
  refine l_val (v := Ix (e16)) rfl rfl rfl (e_extract (vs := #[.slice p12 (way14.length) c13, Nx (n15), Ix (e16)]) rfl rfl) ?_
  refine l_val (v := .slice p12 (way14.length) c13) rfl rfl rfl (e_assign) ?_
  refine l_val (v := Nx (n15)) rfl rfl rfl (e_assign) ?_
  refine l_val (v := Ix (e16)) rfl rfl rfl (e_assign) ?_
  refine l_nil ?_
  refine f_then ?_
  refine c_seq ?_
  refine c_region ?_
  refine l_val (v := .slice p1 (l.length) c2) rfl rfl rfl (e_move) ?_
  refine l_val (v := .agg #[Ix (p5.x), Ix (p5.y)]) rfl rfl rfl (e_load tp7 (cs := [Ix (p5.x), Ix (p5.y)]) rfl (k_pt 2 (cs := #[Ix (p5.x), Ix (p5.y)]) (vs := [Ix (p5.x), Ix (p5.y)]) rfl rfl) rfl) ?_
  refine l_val (v := .agg #[Ix (p3.x), Ix (p3.y)]) rfl rfl rfl (e_load tp7 (cs := [Ix (p3.x), Ix (p3.y)]) rfl (k_pt 3 (cs := #[Ix (p3.x), Ix (p3.y)]) (vs := [Ix (p3.x), Ix (p3.y)]) rfl rfl) rfl) ?_
  refine l_call rfl rfl rfl (cl_value (fst := []) (cap := []) (vs := [.slice p1 (l.length) c2, .agg #[Ix (p5.x), Ix (p5.y)], .agg #[Ix (p3.x), Ix (p3.y)]]) (all := [.slice p1 (l.length) c2, .agg #[Ix (p5.x), Ix (p5.y)], .agg #[Ix (p3.x), Ix (p3.y)]]) ty103 rfl rfl rfl) ?_
  intro w hw
  obtain ⟨β1, sb, kn, hw1, back⟩ := St.frame_all hw
  refine (find_ok β1 w hw1 _ l (kn _ (k_flN 4 (F := AreaF) (m := l.length) rfl rfl)) p5 p3).mono ?_
  rintro e w' ⟨p19, c20, way21, n22, e23, rfl, hF24, hnb25, hw'⟩
  refine ⟨_, rfl, _, back _ _ hw', ?_⟩
  clear hw hw1 hw' back kn sb
  refine l_val (v := .tuple #[.slice p19 (way21.length) c20, Nx (n22), Ix (e23)]) rfl rfl rfl (e_move) ?_
  refine l_val (v := .slice p19 (way21.length) c20) rfl rfl rfl (e_extract (vs := #[.slice p19 (way21.length) c20, Nx (n22), Ix (e23)]) rfl rfl) ?_
  refine l_val (v := Nx (n22)) rfl rfl rfl (e_extract (vs := #[.slice p19 (way21.length) c20, Nx (n22), Ix (e23)]) rfl rfl) ?_
  refine l_val (v := Ix (e23)) rfl rfl rfl (e_extract (vs := #[.slice p19 (way21.length) c20, Nx (n22), Ix (e23)]) rfl rfl) ?_
  refine l_val (v := .slice p19 (way21.length) c20) rfl rfl rfl (e_assign) ?_
  refine l_val (v := Nx (n22)) rfl rfl rfl (e_assign) ?_
  refine l_val (v := Ix (e23)) rfl rfl rfl (e_assign) ?_
  refine l_nil ?_
  refine f_then ?_
  refine c_seq ?_
  refine c_region ?_
  refine l_val (v := .slice p1 (l.length) c2) rfl rfl rfl (e_move) ?_
  refine l_val (v := .agg #[Ix (p3.x), Ix (p3.y)]) rfl rfl rfl (e_load tp7 (cs := [Ix (p3.x), Ix (p3.y)]) rfl (k_pt 4 (cs := #[Ix (p3.x), Ix (p3.y)]) (vs := [Ix (p3.x), Ix (p3.y)]) rfl rfl) rfl) ?_
  refine l_val (v := .agg #[Ix (p7.x), Ix (p7.y)]) rfl rfl rfl (e_load tp7 (cs := [Ix (p7.x), Ix (p7.y)]) rfl (k_pt 2 (cs := #[Ix (p7.x), Ix (p7.y)]) (vs := [Ix (p7.x), Ix (p7.y)]) rfl rfl) rfl) ?_
  refine l_call rfl rfl rfl (cl_value (fst := []) (cap := []) (vs := [.slice p1 (l.length) c2, .agg #[Ix (p3.x), Ix (p3.y)], .agg #[Ix (p7.x), Ix (p7.y)]]) (all := [.slice p1 (l.length) c2, .agg #[Ix (p3.x), Ix (p3.y)], .agg #[Ix (p7.x), Ix (p7.y)]]) ty103 rfl rfl rfl) ?_
  intro w hw
  obtain ⟨β1, sb, kn, hw1, back⟩ := St.frame_all hw
  refine (find_ok β1 w hw1 _ l (kn _ (k_flN 5 (F := AreaF) (m := l.length) rfl rfl)) p3 p7).mono ?_
  rintro e w' ⟨p26, c27, way28, n29, e30, rfl, hF31, hnb32, hw'⟩
  refine ⟨_, rfl, _, back _ _ hw', ?_⟩
  clear hw hw1 hw' back kn sb
  refine l_val (v := .tuple #[.slice p26 (way28.length) c27, Nx (n29), Ix (e30)]) rfl rfl rfl (e_move) ?_
  refine l_val (v := .slice p26 (way28.length) c27) rfl rfl rfl (e_extract (vs := #[.slice p26 (way28.length) c27, Nx (n29), Ix (e30)]) rfl rfl) ?_
  refine l_val (v := Nx (n29)) rfl rfl rfl (e_extract (vs := #[.slice p26 (way28.length) c27, Nx (n29), Ix (e30)]) rfl rfl) ?_
  refine l_val (v := Ix (e30)) rfl rfl rfl (e_extract (vs := #[.slice p26 (way28.length) c27, Nx (n29), Ix (e30)]) rfl rfl) ?_
  refine l_val (v := .slice p26 (way28.length) c27) rfl rfl rfl (e_assign) ?_
  refine l_val (v := Nx (n29)) rfl rfl rfl (e_assign) ?_
  refine l_val (v := Ix (e30)) rfl rfl rfl (e_assign) ?_
  refine l_nil ?_
  refine f_then ?_
  refine c_seq ?_
  refine c_region ?_
  refine l_val (v := .slice p1 (l.length) c2) rfl rfl rfl (e_move) ?_
  refine l_val (v := .agg #[Ix (p7.x), Ix (p7.y)]) rfl rfl rfl (e_load tp7 (cs := [Ix (p7.x), Ix (p7.y)]) rfl (k_pt 3 (cs := #[Ix (p7.x), Ix (p7.y)]) (vs := [Ix (p7.x), Ix (p7.y)]) rfl rfl) rfl) ?_
  refine l_val (v := .agg #[Ix (p5.x), Ix (p5.y)]) rfl rfl rfl (e_load tp7 (cs := [Ix (p5.x), Ix (p5.y)]) rfl (k_pt 4 (cs := #[Ix (p5.x), Ix (p5.y)]) (vs := [Ix (p5.x), Ix (p5.y)]) rfl rfl) rfl) ?_
  refine l_call rfl rfl rfl (cl_value (fst := []) (cap := []) (vs := [.slice p1 (l.length) c2, .agg #[Ix (p7.x), Ix (p7.y)], .agg #[Ix (p5.x), Ix (p5.y)]]) (all := [.slice p1 (l.length) c2, .agg #[Ix (p7.x), Ix (p7.y)], .agg #[Ix (p5.x), Ix (p5.y)]]) ty103 rfl rfl rfl) ?_
  intro w hw
  obtain ⟨β1, sb, kn, hw1, back⟩ := St.frame_all hw
  refine (find_ok β1 w hw1 _ l (kn _ (k_flN 6 (F := AreaF) (m := l.length) rfl rfl)) p7 p5).mono ?_
  rintro e w' ⟨p33, c34, way35, n36, e37, rfl, hF38, hnb39, hw'⟩
  refine ⟨_, rfl, _, back _ _ hw', ?_⟩
  clear hw hw1 hw' back kn sb
  refine l_val (v := .tuple #[.slice p33 (way35.length) c34, Nx (n36), Ix (e37)]) rfl rfl rfl (e_move) ?_
  refine l_val (v := .slice p33 (way35.length) c34) rfl rfl rfl (e_extract (vs := #[.slice p33 (way35.length) c34, Nx (n36), Ix (e37)]) rfl rfl) ?_
  refine l_val (v := Nx (n36)) rfl rfl rfl (e_extract (vs := #[.slice p33 (way35.length) c34, Nx (n36), Ix (e37)]) rfl rfl) ?_
  refine l_val (v := Ix (e37)) rfl rfl rfl (e_extract (vs := #[.slice p33 (way35.length) c34, Nx (n36), Ix (e37)]) rfl rfl) ?_
  refine l_val (v := .slice p33 (way35.length) c34) rfl rfl rfl (e_assign) ?_
  refine l_val (v := Nx (n36)) rfl rfl rfl (e_assign) ?_
  refine l_val (v := Ix (e37)) rfl rfl rfl (e_assign) ?_
  refine l_nil ?_
  refine f_then ?_
  refine c_seq ?_
  refine c_region ?_
  refine l_val (v := .slice p1 (l.length) c2) rfl rfl rfl (e_move) ?_
  refine l_val (v := .agg #[Ix (p3.x), Ix (p3.y)]) rfl rfl rfl (e_load tp7 (cs := [Ix (p3.x), Ix (p3.y)]) rfl (k_pt 6 (cs := #[Ix (p3.x), Ix (p3.y)]) (vs := [Ix (p3.x), Ix (p3.y)]) rfl rfl) rfl) ?_
  refine l_val (v := .agg #[Ix (p3.x), Ix (p3.y)]) rfl rfl rfl (e_load tp7 (cs := [Ix (p3.x), Ix (p3.y)]) rfl (k_pt 6 (cs := #[Ix (p3.x), Ix (p3.y)]) (vs := [Ix (p3.x), Ix (p3.y)]) rfl rfl) rfl) ?_
  refine l_call rfl rfl rfl (cl_value (fst := []) (cap := []) (vs := [.slice p1 (l.length) c2, .agg #[Ix (p3.x), Ix (p3.y)], .agg #[Ix (p3.x), Ix (p3.y)]]) (all := [.slice p1 (l.length) c2, .agg #[Ix (p3.x), Ix (p3.y)], .agg #[Ix (p3.x), Ix (p3.y)]]) ty103 rfl rfl rfl) ?_
  intro w hw
  obtain ⟨β1, sb, kn, hw1, back⟩ := St.frame_all hw
  refine (find_ok β1 w hw1 _ l (kn _ (k_flN 7 (F := AreaF) (m := l.length) rfl rfl)) p3 p3).mono ?_
  rintro e w' ⟨p40, c41, way42, n43, e44, rfl, hF45, hnb46, hw'⟩
  refine ⟨_, rfl, _, back _ _ hw', ?_⟩
  clear hw hw1 hw' back kn sb
  refine l_val (v := .tuple #[.slice p40 (way42.length) c41, Nx (n43), Ix (e44)]) rfl rfl rfl (e_move) ?_
  refine l_val (v := .slice p40 (way42.length) c41) rfl rfl rfl (e_extract (vs := #[.slice p40 (way42.length) c41, Nx (n43), Ix (e44)]) rfl rfl) ?_
  refine l_val (v := Nx (n43)) rfl rfl rfl (e_extract (vs := #[.slice p40 (way42.length) c41, Nx (n43), Ix (e44)]) rfl rfl) ?_
  refine l_val (v := Ix (e44)) rfl rfl rfl (e_extract (vs := #[.slice p40 (way42.length) c41, Nx (n43), Ix (e44)]) rfl rfl) ?_
  refine l_val (v := .slice p40 (way42.length) c41) rfl rfl rfl (e_assign) ?_
  refine l_val (v := Nx (n43)) rfl rfl rfl (e_assign) ?_
  refine l_val (v := Ix (e44)) rfl rfl rfl (e_assign) ?_
  refine l_nil ?_
  refine f_then ?_
  refine c_seq ?_
  refine c_region ?_
  refine l_val (v := .slice p1 (l.length) c2) rfl rfl rfl (e_move) ?_
  refine l_val (v := .agg #[Ix (p3.x), Ix (p3.y)]) rfl rfl rfl (e_load tp7 (cs := [Ix (p3.x), Ix (p3.y)]) rfl (k_pt 7 (cs := #[Ix (p3.x), Ix (p3.y)]) (vs := [Ix (p3.x), Ix (p3.y)]) rfl rfl) rfl) ?_
  refine l_call rfl rfl rfl (cl_value (fst := []) (cap := []) (vs := [.slice p1 (l.length) c2, .agg #[Ix (p3.x), Ix (p3.y)]]) (all := [.slice p1 (l.length) c2, .agg #[Ix (p3.x), Ix (p3.y)]]) tv69 rfl rfl rfl) ?_
  intro w hw
  obtain ⟨β1, sb, kn, hw1, back⟩ := St.frame_all hw
  refine (roomsM_ok β1 w hw1 _ l (kn _ (k_flN 8 (F := AreaF) (m := l.length) rfl rfl)) hM p3.x p3.y).mono ?_
  rintro e w' ⟨p47, c48, rfl, hw'⟩
  refine ⟨_, rfl, _, back _ _ hw', ?_⟩
  clear hw hw1 hw' back kn sb
  refine l_val (v := .tuple #[.slice p47 ((roomF l p3.x p3.y).length) c48, .int .i64 (0)]) rfl rfl rfl (e_move) ?_
  refine l_val (v := .slice p47 ((roomF l p3.x p3.y).length) c48) rfl rfl rfl (e_extract (vs := #[.slice p47 ((roomF l p3.x p3.y).length) c48, .int .i64 (0)]) rfl rfl) ?_
  refine l_val (v := .int .i64 (0)) rfl rfl rfl (e_extract (vs := #[.slice p47 ((roomF l p3.x p3.y).length) c48, .int .i64 (0)]) rfl rfl) ?_
  refine l_val (v := .slice p47 ((roomF l p3.x p3.y).length) c48) rfl rfl rfl (e_assign) ?_
  refine l_val (v := .int .i64 (0)) rfl rfl rfl (e_assign) ?_
  refine l_nil ?_
  refine f_then ?_
  refine c_seq ?_
  refine c_region ?_
  refine l_val (v := .slice p1 (l.length) c2) rfl rfl rfl (e_move) ?_
  refine l_val (v := .agg #[Ix (p7.x), Ix (p7.y)]) rfl rfl rfl (e_load tp7 (cs := [Ix (p7.x), Ix (p7.y)]) rfl (k_pt 6 (cs := #[Ix (p7.x), Ix (p7.y)]) (vs := [Ix (p7.x), Ix (p7.y)]) rfl rfl) rfl) ?_
  refine l_call rfl rfl rfl (cl_value (fst := []) (cap := []) (vs := [.slice p1 (l.length) c2, .agg #[Ix (p7.x), Ix (p7.y)]]) (all := [.slice p1 (l.length) c2, .agg #[Ix (p7.x), Ix (p7.y)]]) tv69 rfl rfl rfl) ?_
  intro w hw
  obtain ⟨β1, sb, kn, hw1, back⟩ := St.frame_all hw
  refine (roomsM_ok β1 w hw1 _ l (kn _ (k_flN 9 (F := AreaF) (m := l.length) rfl rfl)) hM p7.x p7.y).mono ?_
  rintro e w' ⟨p49, c50, rfl, hw'⟩
  refine ⟨_, rfl, _, back _ _ hw', ?_⟩
  clear hw hw1 hw' back kn sb
  refine l_val (v := .tuple #[.slice p49 ((roomF l p7.x p7.y).length) c50, .int .i64 (0)]) rfl rfl rfl (e_move) ?_
  refine l_val (v := .slice p49 ((roomF l p7.x p7.y).length) c50) rfl rfl rfl (e_extract (vs := #[.slice p49 ((roomF l p7.x p7.y).length) c50, .int .i64 (0)]) rfl rfl) ?_
  refine l_val (v := .int .i64 (0)) rfl rfl rfl (e_extract (vs := #[.slice p49 ((roomF l p7.x p7.y).length) c50, .int .i64 (0)]) rfl rfl) ?_
  refine l_val (v := .slice p49 ((roomF l p7.x p7.y).length) c50) rfl rfl rfl (e_assign) ?_
  refine l_val (v := .int .i64 (0)) rfl rfl rfl (e_assign) ?_
  refine l_nil ?_
  refine f_then ?_
  refine c_seq ?_
  refine c_seq ?_
  obtain ⟨hb1, hb2⟩ := find_sym hM hF17 hF24
  obtain ⟨hb3, hb4⟩ := find_own hM hF45
  have hb5 := find_tri hM hinhnp4 hinhnp6 hinhnp8 hF17 hF31 hF38
  have hb6 := find_err hM hF31
  have hb7 := find_err hM hF38
  refine c_region ?_
  refine l_val (v := Ix (e16)) rfl rfl rfl (e_move) ?_
  refine l_val (v := Ix (e23)) rfl rfl rfl (e_move) ?_
  refine l_val (v := .bool (decide ((e16) ≠ (e23)))) rfl rfl rfl (e_neq (a := (e16)) (b := (e23)) rfl rfl) ?_
  refine l_val (v := .bool (decide ((e16) ≠ (e23)))) rfl rfl rfl (e_move) ?_
  refine l_split (s := 100) (p := (e16) ≠ (e23)) rfl (fun h => ?_) (fun h => ?_)
  exact absurd h (by omega)
  refine g_val (v := Nx (n15)) rfl rfl rfl rfl rfl (e_move) ?_
  refine g_val (v := Nx (n22)) rfl rfl rfl rfl rfl (e_move) ?_
  refine g_val (v := .bool (decide (((n15 : Nat) : Int) ≠ ((n22 : Nat) : Int)))) rfl rfl rfl rfl rfl (e_neq (a := ((n15 : Nat) : Int)) (b := ((n22 : Nat) : Int)) rfl rfl) ?_
  refine l_val (v := .bool (decide (((n15 : Nat) : Int) ≠ ((n22 : Nat) : Int)))) rfl rfl rfl (e_pick_f rfl) ?_
  refine l_val (v := .bool (decide (((n15 : Nat) : Int) ≠ ((n22 : Nat) : Int)))) rfl rfl rfl (e_move) ?_
  refine l_split (s := 105) (p := ((n15 : Nat) : Int) ≠ ((n22 : Nat) : Int)) rfl (fun h => ?_) (fun h => ?_)
  exact absurd h (by omega)
  refine g_val (v := .int .i64 (0)) rfl rfl rfl rfl rfl (e_move) ?_
  refine g_val (v := .int .i64 (0)) rfl rfl rfl rfl rfl (e_move) ?_
  refine g_val (v := .int .i64 (0)) rfl rfl rfl rfl rfl (e_add (a := (0 : Int)) (b := (0 : Int)) rfl rfl (by decide)) ?_
  refine g_val (v := .bool false) rfl rfl rfl rfl rfl (e_neq (a := (0 : Int)) (b := (0 : Int)) rfl rfl) ?_
  refine l_val (v := .bool false) rfl rfl rfl (e_pick_f rfl) ?_
  refine l_val (v := .bool false) rfl rfl rfl (e_move) ?_
  refine g_val (v := Ix (e44)) rfl rfl rfl rfl rfl (e_move) ?_
  refine g_val (v := .bool (decide ((e44) = (0 : Int)))) rfl rfl rfl rfl rfl (e_eql (a := (e44)) (b := (0 : Int)) rfl rfl) ?_
  refine g_val (v := .slice p47 ((roomF l p3.x p3.y).length) c48) rfl rfl rfl rfl rfl (e_move) ?_
  refine g_val (v := Nx ((roomF l p3.x p3.y).length)) rfl rfl rfl rfl rfl (e_len (a := p47) (n := (roomF l p3.x p3.y).length) (c := c48) rfl tv43) ?_
  refine g_val (v := .bool (decide ((0 : Int) < (((roomF l p3.x p3.y).length : Nat) : Int)))) rfl rfl rfl rfl rfl (e_gtr (a := (((roomF l p3.x p3.y).length : Nat) : Int)) (b := (0 : Int)) rfl rfl) ?_
  refine g_val (v := .bool (!((decide ((e44) = (0 : Int))) == (decide ((0 : Int) < (((roomF l p3.x p3.y).length : Nat) : Int)))))) rfl rfl rfl rfl rfl (e_neq_b (a := decide ((e44) = (0 : Int))) (b := decide ((0 : Int) < (((roomF l p3.x p3.y).length : Nat) : Int))) rfl rfl sc123) ?_
  refine l_val (v := .bool (!((decide ((e44) = (0 : Int))) == (decide ((0 : Int) < (((roomF l p3.x p3.y).length : Nat) : Int)))))) rfl rfl rfl (e_pick_f rfl) ?_
  refine l_val (v := .bool (!((decide ((e44) = (0 : Int))) == (decide ((0 : Int) < (((roomF l p3.x p3.y).length : Nat) : Int)))))) rfl rfl rfl (e_move) ?_
  refine l_splitb (s := 119) (b := !((decide ((e44) = (0 : Int))) == (decide ((0 : Int) < (((roomF l p3.x p3.y).length : Nat) : Int))))) rfl (fun h => ?_) (fun h => ?_)
  (rw [(show (!(decide ((e44) = (0 : Int)) == decide ((0 : Int) < (((roomF l p3.x p3.y).length : Nat) : Int)))) = false from by rw [decide_eq_decide.2 (show ((e44) = (0 : Int)) ↔ ((0 : Int) < (((roomF l p3.x p3.y).length : Nat) : Int)) from by omega), beq_self_eq_true]; rfl)] at h; cases h)
  refine g_val (v := Ix (e44)) rfl rfl rfl rfl rfl (e_move) ?_
  refine g_val (v := .bool (decide ((e44) = (0 : Int)))) rfl rfl rfl rfl rfl (e_eql (a := (e44)) (b := (0 : Int)) rfl rfl) ?_
  refine g_val (v := .bool (decide ((e44) = (0 : Int)))) rfl rfl rfl rfl rfl (e_move) ?_
  refine l_split (s := 122) (p := (e44) = (0 : Int)) rfl (fun hg51 => ?_) (fun hg51 => ?_)
  ·
    refine g_val (v := Nx (n43)) rfl rfl rfl rfl rfl (e_move) ?_
    refine g_val (v := .bool (decide (((n43 : Nat) : Int) ≠ (0 : Int)))) rfl rfl rfl rfl rfl (e_neq (a := ((n43 : Nat) : Int)) (b := (0 : Int)) rfl rfl) ?_
    refine g_val (v := .bool (decide (((n43 : Nat) : Int) ≠ (0 : Int)))) rfl rfl rfl rfl rfl (e_move) ?_
    refine l_split (s := 125) (p := ((n43 : Nat) : Int) ≠ (0 : Int)) rfl (fun h => ?_) (fun h => ?_)
    exact absurd h (by omega)
    refine g_val (v := .slice p40 (way42.length) c41) rfl rfl rfl rfl rfl (e_move) ?_
    refine g_val (v := Nx (way42.length)) rfl rfl rfl rfl rfl (e_len (a := p40) (n := way42.length) (c := c41) rfl tv68) ?_
    refine g_val (v := .bool (decide (((way42.length : Nat) : Int) ≠ (2 : Int)))) rfl rfl rfl rfl rfl (e_neq (a := ((way42.length : Nat) : Int)) (b := (2 : Int)) rfl rfl) ?_
    refine g_val (v := .bool (decide (((way42.length : Nat) : Int) ≠ (2 : Int)))) rfl rfl rfl rfl rfl (e_pick_f rfl) ?_
    refine g_val (v := .bool (decide (((way42.length : Nat) : Int) ≠ (2 : Int)))) rfl rfl rfl rfl rfl (e_pick_t rfl) ?_
    refine l_val (v := .bool (decide (((way42.length : Nat) : Int) ≠ (2 : Int)))) rfl rfl rfl (e_pick_f rfl) ?_
    refine l_nil ?_
    refine f_then ?_
    refine c_if (((way42.length : Nat) : Int) ≠ (2 : Int)) rfl (fun hc52 => ?_) (fun hc52 => ?_)
    ·
      exact absurd hc52 (by omega)
    ·
      refine c_skip ?_
      refine f_then ?_
      refine c_seq ?_
      refine c_region ?_
      refine l_val (v := .slice p49 ((roomF l p7.x p7.y).length) c50) rfl rfl rfl (e_move) ?_
      refine l_val (v := Nx ((roomF l p7.x p7.y).length)) rfl rfl rfl (e_len (a := p49) (n := (roomF l p7.x p7.y).length) (c := c50) rfl tv43) ?_
      refine l_val (v := .bool (decide ((((roomF l p7.x p7.y).length : Nat) : Int) ≠ (1 : Int)))) rfl rfl rfl (e_neq (a := (((roomF l p7.x p7.y).length : Nat) : Int)) (b := (1 : Int)) rfl rfl) ?_
      refine l_val (v := .bool (decide ((((roomF l p7.x p7.y).length : Nat) : Int) ≠ (1 : Int)))) rfl rfl rfl (e_move) ?_
      refine l_split (s := 135) (p := (((roomF l p7.x p7.y).length : Nat) : Int) ≠ (1 : Int)) rfl (fun hg53 => ?_) (fun hg53 => ?_)
      ·
        refine l_skip rfl rfl rfl rfl rfl rfl ?_
        refine l_skip rfl rfl rfl rfl rfl rfl ?_
        refine l_skip rfl rfl rfl rfl rfl rfl ?_
        refine l_skip rfl rfl rfl rfl rfl rfl ?_
        refine l_val (v := .bool true) rfl rfl rfl (e_pick_t rfl) ?_
        refine l_val (v := .bool true) rfl rfl rfl (e_move) ?_
        refine l_skip rfl rfl rfl rfl rfl rfl ?_
        refine l_skip rfl rfl rfl rfl rfl rfl ?_
        refine l_skip rfl rfl rfl rfl rfl rfl ?_
        refine l_skip_u rfl rfl rfl rfl rfl ?_
        refine l_skip_u rfl rfl rfl rfl rfl ?_
        refine l_skip_u rfl rfl rfl rfl rfl ?_
        refine l_skip_u rfl rfl rfl rfl rfl ?_
        refine l_skip_u rfl rfl rfl rfl rfl ?_
        refine l_skip rfl rfl rfl rfl rfl rfl ?_
        refine l_val (v := .bool true) rfl rfl rfl (e_pick_t rfl) ?_
        refine l_val (v := .bool true) rfl rfl rfl (e_assign) ?_
        refine l_nil ?_
        refine f_then ?_
        refine c_ret ?_
        refine ret1 Try.results3 (v := .bool true) rfl ?_
        intro w hw
        exact ⟨congrArg (fun b : Bool => Ending.returned (.bool b)) (rfl), st_mask [false, false, false, false, false, false, false, false, false, false, false] rfl hw⟩
      ·
        refine g_val (v := Ix (e30)) rfl rfl rfl rfl rfl (e_move) ?_
        refine g_val (v := Ix (e37)) rfl rfl rfl rfl rfl (e_move) ?_
        refine g_val (v := Ix ((e30) + (e37))) rfl rfl rfl rfl rfl (e_add (a := (e30)) (b := (e37)) rfl rfl (i64w (by omega))) ?_
        refine g_val (v := .bool (decide (((e30) + (e37)) ≠ (0 : Int)))) rfl rfl rfl rfl rfl (e_neq (a := ((e30) + (e37))) (b := (0 : Int)) rfl rfl) ?_
        refine l_val (v := .bool (decide (((e30) + (e37)) ≠ (0 : Int)))) rfl rfl rfl (e_pick_f rfl) ?_
        refine l_val (v := .bool (decide (((e30) + (e37)) ≠ (0 : Int)))) rfl rfl rfl (e_move) ?_
        refine l_split (s := 141) (p := ((e30) + (e37)) ≠ (0 : Int)) rfl (fun hg54 => ?_) (fun hg54 => ?_)
        ·
          refine l_skip rfl rfl rfl rfl rfl rfl ?_
          refine l_skip rfl rfl rfl rfl rfl rfl ?_
          refine l_skip rfl rfl rfl rfl rfl rfl ?_
          refine l_skip_u rfl rfl rfl rfl rfl ?_
          refine l_skip_u rfl rfl rfl rfl rfl ?_
          refine l_skip_u rfl rfl rfl rfl rfl ?_
          refine l_skip_u rfl rfl rfl rfl rfl ?_
          refine l_skip_u rfl rfl rfl rfl rfl ?_
          refine l_skip rfl rfl rfl rfl rfl rfl ?_
          refine l_val (v := .bool true) rfl rfl rfl (e_pick_t rfl) ?_
          refine l_val (v := .bool true) rfl rfl rfl (e_assign) ?_
          refine l_nil ?_
          refine f_then ?_
          refine c_ret ?_
          refine ret1 Try.results3 (v := .bool true) rfl ?_
          intro w hw
          exact ⟨congrArg (fun b : Bool => Ending.returned (.bool b)) (rfl), st_mask [false, false, false, false, false, false, false, false, false, false, false] rfl hw⟩
        ·
          refine g_val (v := Ix (e16)) rfl rfl rfl rfl rfl (e_move) ?_
          refine g_val (v := .bool (decide ((e16) = (0 : Int)))) rfl rfl rfl rfl rfl (e_eql (a := (e16)) (b := (0 : Int)) rfl rfl) ?_
          refine g_val (v := .bool (decide ((e16) = (0 : Int)))) rfl rfl rfl rfl rfl (e_move) ?_
          refine l_split (s := 144) (p := (e16) = (0 : Int)) rfl (fun h => ?_) (fun h => ?_)
          rotate_left; exact absurd (by omega) h
          refine g_val (v := Nx (n15)) rfl rfl rfl rfl rfl (e_move) ?_
          refine g_val (v := Nx (n29)) rfl rfl rfl rfl rfl (e_move) ?_
          refine g_val (v := Nx (n36)) rfl rfl rfl rfl rfl (e_move) ?_
          refine g_val (v := Nx (n29 + n36)) rfl rfl rfl rfl rfl (e_add (a := ((n29 : Nat) : Int)) (b := ((n36 : Nat) : Int)) rfl rfl (i64n (by omega) (by omega))) ?_
          refine g_val (v := .bool (decide (((n15 : Nat) : Int) ≤ ((n29 + n36 : Nat) : Int)))) rfl rfl rfl rfl rfl (e_leq (a := ((n15 : Nat) : Int)) (b := ((n29 + n36 : Nat) : Int)) rfl rfl) ?_
          refine g_val (v := .bool (decide (((n15 : Nat) : Int) ≤ ((n29 + n36 : Nat) : Int)))) rfl rfl rfl rfl rfl (e_pick_t rfl) ?_
          refine l_val (v := .bool (decide (((n15 : Nat) : Int) ≤ ((n29 + n36 : Nat) : Int)))) rfl rfl rfl (e_pick_f rfl) ?_
          refine l_val (v := .bool (decide (((n15 : Nat) : Int) ≤ ((n29 + n36 : Nat) : Int)))) rfl rfl rfl (e_assign) ?_
          refine l_nil ?_
          refine f_then ?_
          refine c_ret ?_
          refine ret1 Try.results3 (v := .bool (decide (((n15 : Nat) : Int) ≤ ((n29 + n36 : Nat) : Int)))) rfl ?_
          intro w hw
          exact ⟨congrArg (fun b : Bool => Ending.returned (.bool b)) (decide_eq_true (by omega)), st_mask [false, false, false, false, false, false, false, false, false, false, false] rfl hw⟩
  ·
    refine l_skip rfl rfl rfl rfl rfl rfl ?_
    refine l_skip rfl rfl rfl rfl rfl rfl ?_
    refine l_skip rfl rfl rfl rfl rfl rfl ?_
    refine l_skip_u rfl rfl rfl rfl rfl ?_
    refine l_skip_u rfl rfl rfl rfl rfl ?_
    refine l_skip_u rfl rfl rfl rfl rfl ?_
    refine l_skip rfl rfl rfl rfl rfl rfl ?_
    refine g_val (v := .bool false) rfl rfl rfl rfl rfl (e_pick_f rfl) ?_
    refine l_val (v := .bool false) rfl rfl rfl (e_pick_f rfl) ?_
    refine l_nil ?_
    refine f_then ?_
    refine c_no rfl ?_
    refine c_skip ?_
    refine f_then ?_
    refine c_seq ?_
    refine c_region ?_
    refine l_val (v := .slice p49 ((roomF l p7.x p7.y).length) c50) rfl rfl rfl (e_move) ?_
    refine l_val (v := Nx ((roomF l p7.x p7.y).length)) rfl rfl rfl (e_len (a := p49) (n := (roomF l p7.x p7.y).length) (c := c50) rfl tv43) ?_
    refine l_val (v := .bool (decide ((((roomF l p7.x p7.y).length : Nat) : Int) ≠ (1 : Int)))) rfl rfl rfl (e_neq (a := (((roomF l p7.x p7.y).length : Nat) : Int)) (b := (1 : Int)) rfl rfl) ?_
    refine l_val (v := .bool (decide ((((roomF l p7.x p7.y).length : Nat) : Int) ≠ (1 : Int)))) rfl rfl rfl (e_move) ?_
    refine l_split (s := 135) (p := (((roomF l p7.x p7.y).length : Nat) : Int) ≠ (1 : Int)) rfl (fun hg55 => ?_) (fun hg55 => ?_)
    ·
      refine l_skip rfl rfl rfl rfl rfl rfl ?_
      refine l_skip rfl rfl rfl rfl rfl rfl ?_
      refine l_skip rfl rfl rfl rfl rfl rfl ?_
      refine l_skip rfl rfl rfl rfl rfl rfl ?_
      refine l_val (v := .bool true) rfl rfl rfl (e_pick_t rfl) ?_
      refine l_val (v := .bool true) rfl rfl rfl (e_move) ?_
      refine l_skip rfl rfl rfl rfl rfl rfl ?_
      refine l_skip rfl rfl rfl rfl rfl rfl ?_
      refine l_skip rfl rfl rfl rfl rfl rfl ?_
      refine l_skip_u rfl rfl rfl rfl rfl ?_
      refine l_skip_u rfl rfl rfl rfl rfl ?_
      refine l_skip_u rfl rfl rfl rfl rfl ?_
      refine l_skip_u rfl rfl rfl rfl rfl ?_
      refine l_skip_u rfl rfl rfl rfl rfl ?_
      refine l_skip rfl rfl rfl rfl rfl rfl ?_
      refine l_val (v := .bool true) rfl rfl rfl (e_pick_t rfl) ?_
      refine l_val (v := .bool true) rfl rfl rfl (e_assign) ?_
      refine l_nil ?_
      refine f_then ?_
      refine c_ret ?_
      refine ret1 Try.results3 (v := .bool true) rfl ?_
      intro w hw
      exact ⟨congrArg (fun b : Bool => Ending.returned (.bool b)) (rfl), st_mask [false, false, false, false, false, false, false, false, false, false, false] rfl hw⟩
    ·
      refine g_val (v := Ix (e30)) rfl rfl rfl rfl rfl (e_move) ?_
      refine g_val (v := Ix (e37)) rfl rfl rfl rfl rfl (e_move) ?_
      refine g_val (v := Ix ((e30) + (e37))) rfl rfl rfl rfl rfl (e_add (a := (e30)) (b := (e37)) rfl rfl (i64w (by omega))) ?_
      refine g_val (v := .bool (decide (((e30) + (e37)) ≠ (0 : Int)))) rfl rfl rfl rfl rfl (e_neq (a := ((e30) + (e37))) (b := (0 : Int)) rfl rfl) ?_
      refine l_val (v := .bool (decide (((e30) + (e37)) ≠ (0 : Int)))) rfl rfl rfl (e_pick_f rfl) ?_
      refine l_val (v := .bool (decide (((e30) + (e37)) ≠ (0 : Int)))) rfl rfl rfl (e_move) ?_
      refine l_split (s := 141) (p := ((e30) + (e37)) ≠ (0 : Int)) rfl (fun hg56 => ?_) (fun hg56 => ?_)
      ·
        refine l_skip rfl rfl rfl rfl rfl rfl ?_
        refine l_skip rfl rfl rfl rfl rfl rfl ?_
        refine l_skip rfl rfl rfl rfl rfl rfl ?_
        refine l_skip_u rfl rfl rfl rfl rfl ?_
        refine l_skip_u rfl rfl rfl rfl rfl ?_
        refine l_skip_u rfl rfl rfl rfl rfl ?_
        refine l_skip_u rfl rfl rfl rfl rfl ?_
        refine l_skip_u rfl rfl rfl rfl rfl ?_
        refine l_skip rfl rfl rfl rfl rfl rfl ?_
        refine l_val (v := .bool true) rfl rfl rfl (e_pick_t rfl) ?_
        refine l_val (v := .bool true) rfl rfl rfl (e_assign) ?_
        refine l_nil ?_
        refine f_then ?_
        refine c_ret ?_
        refine ret1 Try.results3 (v := .bool true) rfl ?_
        intro w hw
        exact ⟨congrArg (fun b : Bool => Ending.returned (.bool b)) (rfl), st_mask [false, false, false, false, false, false, false, false, false, false, false] rfl hw⟩
      ·
        refine g_val (v := Ix (e16)) rfl rfl rfl rfl rfl (e_move) ?_
        refine g_val (v := .bool (decide ((e16) = (0 : Int)))) rfl rfl rfl rfl rfl (e_eql (a := (e16)) (b := (0 : Int)) rfl rfl) ?_
        refine g_val (v := .bool (decide ((e16) = (0 : Int)))) rfl rfl rfl rfl rfl (e_move) ?_
        refine l_split (s := 144) (p := (e16) = (0 : Int)) rfl (fun h => ?_) (fun h => ?_)
        rotate_left; exact absurd (by omega) h
        refine g_val (v := Nx (n15)) rfl rfl rfl rfl rfl (e_move) ?_
        refine g_val (v := Nx (n29)) rfl rfl rfl rfl rfl (e_move) ?_
        refine g_val (v := Nx (n36)) rfl rfl rfl rfl rfl (e_move) ?_
        refine g_val (v := Nx (n29 + n36)) rfl rfl rfl rfl rfl (e_add (a := ((n29 : Nat) : Int)) (b := ((n36 : Nat) : Int)) rfl rfl (i64n (by omega) (by omega))) ?_
        refine g_val (v := .bool (decide (((n15 : Nat) : Int) ≤ ((n29 + n36 : Nat) : Int)))) rfl rfl rfl rfl rfl (e_leq (a := ((n15 : Nat) : Int)) (b := ((n29 + n36 : Nat) : Int)) rfl rfl) ?_
        refine g_val (v := .bool (decide (((n15 : Nat) : Int) ≤ ((n29 + n36 : Nat) : Int)))) rfl rfl rfl rfl rfl (e_pick_t rfl) ?_
        refine l_val (v := .bool (decide (((n15 : Nat) : Int) ≤ ((n29 + n36 : Nat) : Int)))) rfl rfl rfl (e_pick_f rfl) ?_
        refine l_val (v := .bool (decide (((n15 : Nat) : Int) ≤ ((n29 + n36 : Nat) : Int)))) rfl rfl rfl (e_assign) ?_
        refine l_nil ?_
        refine f_then ?_
        refine c_ret ?_
        refine ret1 Try.results3 (v := .bool (decide (((n15 : Nat) : Int) ≤ ((n29 + n36 : Nat) : Int)))) rfl ?_
        intro w hw
        exact ⟨congrArg (fun b : Bool => Ending.returned (.bool b)) (decide_eq_true (by omega)), st_mask [false, false, false, false, false, false, false, false, false, false, false] rfl hw⟩
end Go.Proofs
