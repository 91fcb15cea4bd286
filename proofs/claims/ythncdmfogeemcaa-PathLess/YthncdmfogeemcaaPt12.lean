/-
  PathLess: walked. Printed by a program of my own.
-/
import Derived.Test.YthncdmfogeemcaaPtFr
namespace Go.Pth
open Go.Sl Go.Brd
theorem near_in {p : KV} (h : nearP p) : inR p.x ∧ inR p.y := by unfold nearP at h; unfold inR; omega
theorem map_next {α γ : Type} {l : List α} {k : Nat} {x : α} (f : α → γ) (h : l[k]? = some x) : (l.take (k + 1)).map f = (l.take k).map f ++ [f x] := by
  rw [List.take_add_one, h, List.map_append]; rfl
theorem way_at {w old : List KV} {dx dy : Int} {k : Nat} {x y : KV} (h : w = old.map (shV dx dy)) (hx : w[k]? = some x) (hy : old[k]? = some y) : x = (⟨y.x + dx, y.y + dy⟩ : KV) := by
  rw [h, List.getElem?_map, hy] at hx; exact (Option.some.inj hx).symm
end Go.Pth
namespace Go.Proofs
open Go Go.Sl Go.Brd Go.Pth
theorem sd121 : cfB Try.prog 8 = true := by kernel_rfl
theorem sd122 : cfB Try.prog 9 = true := by kernel_rfl
theorem sd123 : Try.prog.underlying 48 = some (.int .i16) := by kernel_rfl
theorem sd124 : cfB Try.prog 15 = true := by kernel_rfl
theorem move_ok (β : Base) (w : World) (hw : St β [] w) (c : Nat) (v : KV) (dx dy : Int) (hv : -1000 ≤ v.x ∧ v.x ≤ 1000 ∧ -1000 ≤ v.y ∧ v.y ≤ 1000) (h1 : -32768 ≤ dx) (h2 : dx ≤ 32767) (h3 : -32768 ≤ dy) (h4 : dy ≤ 32767) (hc : Cs β.heap ⟨c, 0, none⟩ [Ix dx, Ix dy]) : Calls Try.prog 15 #[.agg #[Ix (v.x), Ix (v.y)], .pointer (some ⟨c, 0, none⟩)] w fun r w' => r = .returned (.agg #[Ix (v.x + dx), Ix (v.y + dy)]) ∧ St β [] w' := by
  refine enter (n := 15) Try.func15 rfl Try.ntmps15 rfl ?_ hw
  refine c_seq ?_
  refine c_region ?_
  refine l_mv rfl rfl rfl (m_box (v := .agg #[Ix (v.x), Ix (v.y)]) rfl) ?_
  rintro _ _ ⟨b1, rfl, rfl⟩
  refine l_mv rfl rfl rfl (m_alloc tp5) ?_
  rintro _ _ ⟨b2, rfl, rfl⟩
  refine l_nil ?_
  refine f_then ?_
  refine c_seq ?_
  refine c_region ?_
  refine l_val (v := .pointer (some ⟨b1, 0, none⟩)) rfl rfl rfl (e_fieldPt (b := b1) (o := 0) rfl tp1) ?_
  refine l_val (v := Ix (v.x)) rfl rfl rfl (e_load1 tp2 (v := Ix (v.x)) rfl (k_pt 1 (cs := #[Ix (v.x), Ix (v.y)]) (vs := [Ix (v.x)]) rfl rfl)) ?_
  refine l_val (v := .pointer (some ((⟨c, 0, none⟩ : Addr).add 0))) rfl rfl rfl (e_fieldAddr (a := ⟨c, 0, none⟩) rfl tp1) ?_
  refine l_val (v := Ix (dx)) rfl rfl rfl (e_load1 tp2 (v := Ix (dx)) rfl (Knows.imp (Knows.of_base (Cs.mono _ _) hc) (fun _ h => Cs.sub (vs := [Ix (dx)]) 0 h rfl))) ?_
  refine l_val (v := Ix ((v.x) + (dx))) rfl rfl rfl (e_add (a := (v.x)) (b := (dx)) rfl rfl (i64w (by omega))) ?_
  refine l_val (v := .pointer (some ⟨b1, 1, none⟩)) rfl rfl rfl (e_fieldPt (b := b1) (o := 0) rfl tp4) ?_
  refine l_val (v := Ix (v.y)) rfl rfl rfl (e_load1 tp2 (v := Ix (v.y)) rfl (k_pt 1 (cs := #[Ix (v.x), Ix (v.y)]) (vs := [Ix (v.y)]) rfl rfl)) ?_
  refine l_val (v := .pointer (some ((⟨c, 0, none⟩ : Addr).add 1))) rfl rfl rfl (e_fieldAddr (a := ⟨c, 0, none⟩) rfl tp4) ?_
  refine l_val (v := Ix (dy)) rfl rfl rfl (e_load1 tp2 (v := Ix (dy)) rfl (Knows.imp (Knows.of_base (Cs.mono _ _) hc) (fun _ h => Cs.sub (vs := [Ix (dy)]) 1 h rfl))) ?_
  refine l_val (v := Ix ((v.y) + (dy))) rfl rfl rfl (e_add (a := (v.y)) (b := (dy)) rfl rfl (i64w (by omega))) ?_
  refine l_call rfl rfl rfl (cl_value (fst := []) (cap := []) (vs := [Ix ((v.x) + (dx)), Ix ((v.y) + (dy))]) (all := [Ix ((v.x) + (dx)), Ix ((v.y) + (dy))]) ty102 rfl rfl rfl) ?_
  intro w hw
  obtain ⟨β1, sb, kn, hw1, back⟩ := St.frame_all hw
  refine (point_ok β1 w hw1 ((v.x) + (dx)) ((v.y) + (dy))).mono ?_
  rintro e w' ⟨rfl, hw'⟩
  refine ⟨_, rfl, _, back _ _ hw', ?_⟩
  clear hw hw1 hw' back kn sb
  refine l_mu rfl rfl (m_store 0 tp7 (b := b2) (o := 0) (T := 28) (cs := #[.int .i64 (0), .int .i64 (0)]) (cs' := #[Ix ((v.x) + (dx)), Ix ((v.y) + (dy))]) (v := .agg #[Ix ((v.x) + (dx)), Ix ((v.y) + (dy))]) rfl rfl rfl rfl rfl rfl rfl) ?_
  refine l_nil ?_
  refine f_then ?_
  refine c_ret ?_
  refine retG (l := [.cell 3 28]) (m := [.agg #[Ix ((v.x) + (dx)), Ix ((v.y) + (dy))]]) (v := .agg #[Ix ((v.x) + (dx)), Ix ((v.y) + (dy))]) Try.results15 ⟨rd_cell tp7 (cs := [Ix ((v.x) + (dx)), Ix ((v.y) + (dy))]) rfl (k_pt 0 (cs := #[Ix ((v.x) + (dx)), Ix ((v.y) + (dy))]) (vs := [Ix ((v.x) + (dx)), Ix ((v.y) + (dy))]) rfl rfl) rfl, trivial⟩ rfl ?_
  intro w hw
  exact ⟨rfl, st_mask [false, false] rfl hw⟩
set_option maxHeartbeats 4000000 in
theorem lessL_ok (β : Base) (w : World) (hw : St β [] w) (v : Value) (bs : List UInt8) (hs : Sl U8R β.heap v bs) (u1 u2 : Nat) (hu1 : u1 < 4294967296) (hu2 : u2 < 4294967296) (b3 : UInt8) (a4 a5 : Int) (ha1 : -32768 ≤ a4) (ha2 : a4 ≤ 32767) (ha3 : -32768 ≤ a5) (ha4 : a5 ≤ 32767) : Calls Try.prog 5 #[v, .int .u32 ((u1 : Nat) : Int), .int .u32 ((u2 : Nat) : Int), Bx b3, .int .i16 a4, .int .i16 a5] w fun r w' => r = .returned (.bool true) ∧ St β [] w' := by
  obtain ⟨va, vc, rfl, vl, vm, ve⟩ := hs.get
  refine enter (n := 255) Try.func5 rfl Try.ntmps5 rfl ?_ hw
  refine c_seq ?_
  refine c_region ?_
  refine l_val (v := .bool false) rfl rfl rfl (e_assign) ?_
  refine l_nil ?_
  refine f_then ?_
  refine c_seq ?_
  refine c_seq ?_
  refine c_region ?_
  refine l_call rfl rfl rfl (cl_value (fst := []) (cap := []) (vs := []) (all := []) tz108 rfl rfl rfl) ?_
  intro w hw
  obtain ⟨β1, sb, kn, hw1, back⟩ := St.frame_all hw
  refine (awake_ok β1 w hw1).mono ?_
  rintro e w' ⟨rfl, hw'⟩
  refine ⟨_, rfl, _, back _ _ hw', ?_⟩
  clear hw hw1 hw' back kn sb
  refine l_val (v := .bool false) rfl rfl rfl (e_not (a := true) rfl) ?_
  refine l_nil ?_
  refine f_then ?_
  refine c_no rfl ?_
  refine c_skip ?_
  refine f_then ?_
  refine c_seq ?_
  refine c_region ?_
  refine l_val (v := .slice va (bs.length) (vc)) rfl rfl rfl (e_move) ?_
  refine l_call rfl rfl rfl (cl_value (fst := []) (cap := []) (vs := [.slice va (bs.length) (vc)]) (all := [.slice va (bs.length) (vc)]) sd121 rfl rfl rfl) ?_
  intro w hw
  obtain ⟨β1, sb, kn, hw1, back⟩ := St.frame_all hw
  refine (madeB_ok β1 w hw1 _ bs (Sl.mono _ _ _ _ _ sb (⟨⟨_, _, rfl, vl, vm, ve⟩⟩ : Sl U8R _ _ bs))).mono ?_
  rintro e w' ⟨p1, c2, l, rfl, hB, hw'⟩
  refine ⟨_, rfl, _, back _ _ hw', ?_⟩
  clear hw hw1 hw' back kn sb
  refine l_val (v := .slice p1 (l.length) c2) rfl rfl rfl (e_assign) ?_
  refine l_nil ?_
  refine f_then ?_
  refine c_seq ?_
  refine c_freeze2 (M := []) (K := [rowF AreaF 43 p1 c2 l]) rfl (fun βf ext1 kn1 bk1 => ?_)
  have hM := hB.okM
  have hl24 := hB.len
  have hsm := hB.small
  have hlS : Sl AreaF.R βf.heap (.slice p1 l.length c2) l := kn1 _ (k_flN 0 (F := AreaF) (m := l.length) rfl rfl)
  obtain ⟨-, llm, lcm, le⟩ := Sl.parts hlS
  refine c_region ?_
  refine l_val (v := .slice p1 (l.length) (c2)) rfl rfl rfl (e_move) ?_
  refine l_val (v := .int .u32 (((u1 : Nat)) : Int)) rfl rfl rfl (e_move) ?_
  refine l_call rfl rfl rfl (cl_value (fst := []) (cap := []) (vs := [.slice p1 (l.length) (c2), .int .u32 (((u1 : Nat)) : Int)]) (all := [.slice p1 (l.length) (c2), .int .u32 (((u1 : Nat)) : Int)]) sd122 rfl rfl rfl) ?_
  intro w hw
  obtain ⟨β1, sb, kn, hw1, back⟩ := St.frame_all hw
  refine (spot_ok β1 w hw1 _ l (Sl.mono _ _ _ _ _ sb hlS) hB.small (by have h := hB.len; omega) u1 hu1).mono ?_
  rintro e w' ⟨p3, rfl, hnp4, hw'⟩
  refine ⟨_, rfl, _, back _ _ hw', ?_⟩
  clear hw hw1 hw' back kn sb
  refine l_val (v := .slice p1 (l.length) (c2)) rfl rfl rfl (e_move) ?_
  refine l_val (v := .int .u32 (((u2 : Nat)) : Int)) rfl rfl rfl (e_move) ?_
  refine l_call rfl rfl rfl (cl_value (fst := []) (cap := []) (vs := [.slice p1 (l.length) (c2), .int .u32 (((u2 : Nat)) : Int)]) (all := [.slice p1 (l.length) (c2), .int .u32 (((u2 : Nat)) : Int)]) sd122 rfl rfl rfl) ?_
  intro w hw
  obtain ⟨β1, sb, kn, hw1, back⟩ := St.frame_all hw
  refine (spot_ok β1 w hw1 _ l (Sl.mono _ _ _ _ _ sb hlS) hB.small (by have h := hB.len; omega) u2 hu2).mono ?_
  rintro e w' ⟨p5, rfl, hnp6, hw'⟩
  refine ⟨_, rfl, _, back _ _ hw', ?_⟩
  clear hw hw1 hw' back kn sb
  refine l_mv rfl rfl rfl (m_alloc tp5) ?_
  rintro _ _ ⟨b7, rfl, rfl⟩
  refine l_mv rfl rfl rfl (m_alloc tp5) ?_
  rintro _ _ ⟨b8, rfl, rfl⟩
  refine l_mu rfl rfl (m_store 1 tp7 (b := b7) (o := 0) (T := 28) (cs := #[.int .i64 (0), .int .i64 (0)]) (cs' := #[Ix (p3.x), Ix (p3.y)]) (v := .agg #[Ix (p3.x), Ix (p3.y)]) rfl rfl rfl rfl rfl rfl rfl) ?_
  refine l_mu rfl rfl (m_store 0 tp7 (b := b8) (o := 0) (T := 28) (cs := #[.int .i64 (0), .int .i64 (0)]) (cs' := #[Ix (p5.x), Ix (p5.y)]) (v := .agg #[Ix (p5.x), Ix (p5.y)]) rfl rfl rfl rfl rfl rfl rfl) ?_
  refine l_nil ?_
  refine f_then ?_
  refine c_seq ?_
  refine c_region ?_
  refine l_val (v := .slice p1 (l.length) (c2)) rfl rfl rfl (e_move) ?_
  refine l_val (v := .agg #[Ix (p3.x), Ix (p3.y)]) rfl rfl rfl (e_load tp7 (cs := [Ix (p3.x), Ix (p3.y)]) rfl (k_pt 1 (cs := #[Ix (p3.x), Ix (p3.y)]) (vs := [Ix (p3.x), Ix (p3.y)]) rfl rfl) rfl) ?_
  refine l_val (v := .agg #[Ix (p5.x), Ix (p5.y)]) rfl rfl rfl (e_load tp7 (cs := [Ix (p5.x), Ix (p5.y)]) rfl (k_pt 0 (cs := #[Ix (p5.x), Ix (p5.y)]) (vs := [Ix (p5.x), Ix (p5.y)]) rfl rfl) rfl) ?_
  refine l_call rfl rfl rfl (cl_value (fst := []) (cap := []) (vs := [.slice p1 (l.length) (c2), .agg #[Ix (p3.x), Ix (p3.y)], .agg #[Ix (p5.x), Ix (p5.y)]]) (all := [.slice p1 (l.length) (c2), .agg #[Ix (p3.x), Ix (p3.y)], .agg #[Ix (p5.x), Ix (p5.y)]]) ty103 rfl rfl rfl) ?_
  intro w hw
  obtain ⟨β1, sb, kn, hw1, back⟩ := St.frame_all hw
  refine (find_ok β1 w hw1 _ l (Sl.mono _ _ _ _ _ sb hlS) p3 p5).mono ?_
  rintro e w' ⟨p9, c10, way11, n12, e13, rfl, hF14, hnb15, hw'⟩
  refine ⟨_, rfl, _, back _ _ hw', ?_⟩
  clear hw hw1 hw' back kn sb
  refine l_val (v := .tuple #[.slice p9 (way11.length) c10, Nx (n12), Ix (e13)]) rfl rfl rfl (e_move) ?_
  refine l_val (v := .slice p9 (way11.length) c10) rfl rfl rfl (e_extract (vs := #[.slice p9 (way11.length) c10, Nx (n12), Ix (e13)]) rfl rfl) ?_
  refine l_val (v := Nx (n12)) rfl rfl rfl (e_extract (vs := #[.slice p9 (way11.length) c10, Nx (n12), Ix (e13)]) rfl rfl) ?_
  refine l_val (v := Ix (e13)) rfl rfl rfl (e_extract (vs := #[.slice p9 (way11.length) c10, Nx (n12), Ix (e13)]) rfl rfl) ?_
  refine l_val (v := .slice p9 (way11.length) c10) rfl rfl rfl (e_assign) ?_
  refine l_val (v := Nx (n12)) rfl rfl rfl (e_assign) ?_
  refine l_val (v := Ix (e13)) rfl rfl rfl (e_assign) ?_
  refine l_nil ?_
  refine f_then ?_
  refine c_seq ?_
  refine c_seq ?_
  have hip := near_in hnp4
  have hiq := near_in hnp6
  refine c_region ?_
  refine l_val (v := .slice p1 (l.length) (c2)) rfl rfl rfl (e_move) ?_
  refine l_val (v := Nx (l.length)) rfl rfl rfl (e_len (a := p1) (n := l.length) (c := c2) rfl tp13) ?_
  refine l_val (v := .bool (decide (((l.length : Nat) : Int) = (0 : Int)))) rfl rfl rfl (e_eql (a := ((l.length : Nat) : Int)) (b := (0 : Int)) rfl rfl) ?_
  refine l_nil ?_
  refine f_then ?_
  refine c_if (((l.length : Nat) : Int) = (0 : Int)) rfl (fun hc16 => ?_) (fun hc16 => ?_)
  ·
    refine c_seq ?_
    refine c_region ?_
    refine l_val (v := Ix (e13)) rfl rfl rfl (e_move) ?_
    refine l_val (v := .bool (decide ((e13) = (6 : Int)))) rfl rfl rfl (e_eql (a := (e13)) (b := (6 : Int)) rfl rfl) ?_
    refine l_val (v := .bool (decide ((e13) = (6 : Int)))) rfl rfl rfl (e_assign) ?_
    refine l_nil ?_
    refine f_then ?_
    refine c_ret ?_
    refine f_then_ret ?_
    refine ret1 Try.results5 (v := .bool (decide ((e13) = (6 : Int)))) rfl ?_
    intro w hw
    exact ⟨congrArg (fun b : Bool => Ending.returned (.bool b)) (decide_eq_true (by have hl0 : l = [] := List.eq_nil_of_length_eq_zero (by omega); have h := hF14; rw [hl0] at h; exact find_nil h)), st_mask [false] rfl (bk1 _ _ (st_mask [false, false, false] rfl hw))⟩
  ·
    refine c_skip ?_
    refine f_then ?_
    refine c_seq ?_
    refine c_region ?_
    refine l_val (v := Bx (b3)) rfl rfl rfl (e_move) ?_
    have b3l := b3.toNat_lt
    refine l_val (v := Nx (b3.toNat)) rfl rfl rfl (e_conv (a := ((b3).toNat : Int)) rfl ⟨_, sa114⟩ tu40 (i64n rfl (by have := (b3).toNat_lt; omega))) ?_
    refine l_val (v := .slice p1 (l.length) (c2)) rfl rfl rfl (e_move) ?_
    refine l_val (v := Nx (l.length)) rfl rfl rfl (e_len (a := p1) (n := l.length) (c := c2) rfl tp13) ?_
    refine l_val (v := Nx (b3.toNat % l.length)) rfl rfl rfl (e_rem (a := ((b3.toNat : Nat) : Int)) (b := ((l.length : Nat) : Int)) rfl rfl (by omega) (nat_tmod _ _)) ?_
    refine l_val (v := Nx (b3.toNat % l.length)) rfl rfl rfl (e_assign) ?_
    refine l_nil ?_
    refine f_then ?_
    refine c_seq ?_
    have hl0 : 0 < l.length := by have q := hc16; omega
    obtain ⟨K, hKE⟩ : ∃ z, z = b3.toNat % l.length := ⟨_, rfl⟩
    have hKl : K < l.length := by rw [hKE]; exact Nat.mod_lt _ hl0
    rw [← hKE]
    obtain ⟨zs19, hz20⟩ : ∃ zs, zs = (l.take K) := ⟨_, rfl⟩
    have zl21 : zs19.length = min K (l).length - 0 := by rw [hz20]; simp; try omega
    have ze22 := (Elems.take K le)
    rw [← hz20] at ze22
    obtain ⟨zs27, hz28⟩ : ∃ zs, zs = (l.drop (K + 1)) := ⟨_, rfl⟩
    have zl29 : zs27.length = (l).length - (K + 1) := by rw [hz28]; simp; try omega
    have ze30 := (Elems.drop (cap := c2) (K + 1) (by first | omega | (simp; omega)) le)
    rw [← hz28] at ze30
    refine c_any [⟨[], [], [], [72], fun f => f 72 = .slice (some ⟨(blk (f 72)), 0, none⟩) 0 0⟩, ⟨[], [], [0], [73], fun f => f 73 = .slice p1 (l.length) (c2)⟩, ⟨[], [], [1], [74], fun f => f 74 = Nx (K)⟩, ⟨[1, 2], [1, 2], [], [75], fun f => f 75 = .slice p1 (zs19.length) (c2)⟩, ⟨[0, 1, 2, 3], [0, 3], [], [76], fun f => f 76 = .slice (sla (f 76)) (zs19.length) (slc (f 76))⟩, ⟨[], [], [0], [77], fun f => f 77 = .slice p1 (l.length) (c2)⟩, ⟨[], [], [1], [78], fun f => f 78 = Nx (K)⟩, ⟨[6], [6], [], [79], fun f => f 79 = Nx (K + 1)⟩, ⟨[5, 6, 7], [5, 7], [], [80], fun f => f 80 = .slice (adv p1 c2 (K + 1) 4) (zs27.length) ((c2 - (K + 1)))⟩, ⟨[0, 1, 2, 3, 4, 5, 6, 7, 8], [4, 8], [], [81], fun f => f 81 = .slice (sla (f 81)) ((zs19 ++ zs27).length) (slc (f 81))⟩, ⟨[0, 1, 2, 3, 4, 5, 6, 7, 8, 9], [9], [], [20, 81], fun f => f 20 = .slice (sla (f 81)) ((zs19 ++ zs27).length) (slc (f 81))⟩] [⟨none, none, [], [], fun _ => rowF VecF 28 p9 c10 way11⟩, ⟨none, none, [], [], fun _ => pt b8 (.cells #[Ix (p5.x), Ix (p5.y)] 28)⟩, ⟨none, none, [], [], fun _ => pt b7 (.cells #[Ix (p3.x), Ix (p3.y)] 28)⟩, ⟨(some 0), (some 4), [4], [72], fun f => pt (blk (f 72)) (.cells #[] 43)⟩, ⟨(some 4), (some 9), [9], [76], fun f => rowF AreaF 43 (sla (f 76)) (slc (f 76)) zs19⟩, ⟨(some 9), none, [], [81], fun f => rowF AreaF 43 (sla (f 81)) (slc (f 81)) (zs19 ++ zs27)⟩] [(13, .slice p1 (l.length) (c2)), (19, Nx (K)), (4, .int .i16 (a4)), (5, .int .i16 (a5)), (14, .pointer (some ⟨b7, 0, none⟩)), (15, .pointer (some ⟨b8, 0, none⟩)), (17, Nx (n12)), (18, Ix (e13))] [2, 3, 0, 4, 5, 6, 7, 1] [] (by kernel_rfl) (by kernel_rfl) (by kernel_rfl) (by kernel_rfl) rfl ⟨rfl, rfl, rfl, rfl, rfl, rfl, rfl, rfl, trivial⟩ ⟨?_, ?_, ?_, ?_, ?_, ?_, ?_, ?_, ?_, ?_, ?_, trivial⟩ ?_
    · rintro f M - -
      refine ob_start (L' := M) (by rfl) rfl ?_
      refine l_mv rfl rfl rfl (m_slice0 tp14) ?_
      rintro _ _ ⟨b18, rfl, rfl⟩
      refine l_nil ?_
      exact f_owes_d rfl rfl (perm_front 0 rfl)
    · rintro f M - ⟨i0, -⟩
      have hs13 : f 13 = .slice p1 (l.length) (c2) := i0
      refine ob_start (L' := M) (by rfl) (up_cons rfl hs13) ?_
      refine l_val (v := .slice p1 (l.length) (c2)) rfl rfl rfl (e_move) ?_
      refine l_nil ?_
      exact f_owes_d (up_cons rfl hs13) rfl (List.Perm.refl _)
    · rintro f M - ⟨i0, -⟩
      have hs19 : f 19 = Nx (K) := i0
      refine ob_start (L' := M) (by rfl) (up_cons rfl hs19) ?_
      refine l_val (v := Nx (K)) rfl rfl rfl (e_move) ?_
      refine l_nil ?_
      exact f_owes_d (up_cons rfl hs19) rfl (List.Perm.refl _)
    · rintro f M ⟨k0, k1, -⟩ -
      have hs73 : f 73 = .slice p1 (l.length) (c2) := k0
      have hs74 : f 74 = Nx (K) := k1
      refine ob_start (L' := M) (by rfl) (up_cons (up_cons rfl hs73) hs74) ?_
      refine l_val (v := .slice p1 (zs19.length) (c2)) rfl rfl rfl (ev_eq (by rw [show zs19.length = K by omega]) (e_slice_hi (a := p1) (len := l.length) (cap := c2) (h := K) tp14 rfl rfl (by omega))) ?_
      refine l_nil ?_
      exact f_owes_d (up_cons (up_cons rfl hs73) hs74) rfl (List.Perm.refl _)
    · rintro f M ⟨k0, k1, -⟩ -
      have hs72 : f 72 = .slice (some ⟨(blk (f 72)), 0, none⟩) 0 0 := k0
      have hs75 : f 75 = .slice p1 (zs19.length) (c2) := k1
      refine ob_start (L' := pt (blk (f 72)) (.cells #[] 43) :: M) (by rfl) (up_cons (up_cons rfl hs72) hs75) ?_
      refine l_conseq 0 (r' := rowF AreaF 43 (some ⟨(blk (f 72)), 0, none⟩) 0 []) rfl (fun a h => pt_row (m := 0) (by decide) rfl a h) ?_
      refine l_mv rfl rfl rfl (m_appendFlN (F := AreaF) 0 tp14 sa119 (p := (some ⟨(blk (f 72)), 0, none⟩)) (m := 0) (xs := []) (ys := zs19) (ao := p1) (k := zs19.length) (c := c2) rfl rfl rfl rfl rfl (Knows.of_base (Elems.mono _ _ _) ze22) (by first | omega | simp only [List.length_nil, List.length_cons, List.length_append, List.length_set]; omega) (by first | omega | simp only [List.length_nil, List.length_cons, List.length_append, List.length_set]; omega)) ?_
      rintro _ _ ⟨rp25, rc26, rfl, rfl⟩
      refine l_nil ?_
      exact f_owes_d (up_cons (up_cons rfl hs72) hs75) rfl (perm_front 0 rfl)
    · rintro f M - ⟨i0, -⟩
      have hs13 : f 13 = .slice p1 (l.length) (c2) := i0
      refine ob_start (L' := M) (by rfl) (up_cons rfl hs13) ?_
      refine l_val (v := .slice p1 (l.length) (c2)) rfl rfl rfl (e_move) ?_
      refine l_nil ?_
      exact f_owes_d (up_cons rfl hs13) rfl (List.Perm.refl _)
    · rintro f M - ⟨i0, -⟩
      have hs19 : f 19 = Nx (K) := i0
      refine ob_start (L' := M) (by rfl) (up_cons rfl hs19) ?_
      refine l_val (v := Nx (K)) rfl rfl rfl (e_move) ?_
      refine l_nil ?_
      exact f_owes_d (up_cons rfl hs19) rfl (List.Perm.refl _)
    · rintro f M ⟨k0, -⟩ -
      have hs78 : f 78 = Nx (K) := k0
      refine ob_start (L' := M) (by rfl) (up_cons rfl hs78) ?_
      refine l_val (v := Nx (K + 1)) rfl rfl rfl (e_add (a := ((K : Nat) : Int)) (b := (1 : Int)) rfl rfl (i64n (by omega) (by omega))) ?_
      refine l_nil ?_
      exact f_owes_d (up_cons rfl hs78) rfl (List.Perm.refl _)
    · rintro f M ⟨k0, k1, -⟩ -
      have hs77 : f 77 = .slice p1 (l.length) (c2) := k0
      have hs79 : f 79 = Nx (K + 1) := k1
      refine ob_start (L' := M) (by rfl) (up_cons (up_cons rfl hs77) hs79) ?_
      refine l_val (v := .slice (adv p1 c2 (K + 1) 4) (zs27.length) ((c2 - (K + 1)))) rfl rfl rfl (ev_eq (by rw [show zs27.length = l.length - (K + 1) by omega]) (e_slice_lo (a := p1) (len := l.length) (cap := c2) (l := K + 1) tp14 rfl rfl (by omega))) ?_
      refine l_nil ?_
      exact f_owes_d (up_cons (up_cons rfl hs77) hs79) rfl (List.Perm.refl _)
    · rintro f M ⟨k0, k1, -⟩ -
      have hs76 : f 76 = .slice (sla (f 76)) (zs19.length) (slc (f 76)) := k0
      have hs80 : f 80 = .slice (adv p1 c2 (K + 1) 4) (zs27.length) ((c2 - (K + 1))) := k1
      refine ob_start (L' := rowF AreaF 43 (sla (f 76)) (slc (f 76)) zs19 :: M) (by rfl) (up_cons (up_cons rfl hs76) hs80) ?_
      refine l_mv rfl rfl rfl (m_appendFlN (F := AreaF) 0 tp14 sa119 (p := (sla (f 76))) (m := zs19.length) (xs := zs19) (ys := zs27) (ao := (adv p1 c2 (K + 1) 4)) (k := zs27.length) (c := (c2 - (K + 1))) rfl rfl rfl rfl rfl (Knows.of_base (Elems.mono _ _ _) ze30) (by first | omega | simp only [List.length_nil, List.length_cons, List.length_append, List.length_set]; omega) (by first | omega | simp only [List.length_nil, List.length_cons, List.length_append, List.length_set]; omega)) ?_
      rintro _ _ ⟨rp33, rc34, rfl, rfl⟩
      refine l_nil ?_
      exact f_owes_d (up_cons (up_cons rfl hs76) hs80) rfl (perm_front 0 rfl)
    · rintro f M ⟨k0, -⟩ -
      have hs81 : f 81 = .slice (sla (f 81)) ((zs19 ++ zs27).length) (slc (f 81)) := k0
      refine ob_start (L' := M) (by rfl) (up_cons rfl hs81) ?_
      refine l_val (v := .slice (sla (f 81)) ((zs19 ++ zs27).length) (slc (f 81))) rfl rfl rfl (e_assign) ?_
      refine l_nil ?_
      exact f_owes_d (up_cons rfl hs81) rfl (List.Perm.refl _)
    rintro fa35 ⟨-, -, -, -, -, -, -, -, -, -, k10, -⟩ ⟨j0, j1, j2, j3, j4, j5, j6, j7, -⟩
    refine f_re (L' := [rowF VecF 28 p9 c10 way11, pt b8 (.cells #[Ix (p5.x), Ix (p5.y)] 28), pt b7 (.cells #[Ix (p3.x), Ix (p3.y)] 28), rowF AreaF 43 (sla (fa35 81)) (slc (fa35 81)) (zs19 ++ zs27)]) (by rfl) ?_
    refine f_rebase (d := 4) (v := .int .i16 (a4)) j0 ?_
    refine f_rebase (d := 5) (v := .int .i16 (a5)) j1 ?_
    refine f_rebase (d := 13) (v := .slice p1 (l.length) (c2)) j2 ?_
    refine f_rebase (d := 14) (v := .pointer (some ⟨b7, 0, none⟩)) j3 ?_
    refine f_rebase (d := 15) (v := .pointer (some ⟨b8, 0, none⟩)) j4 ?_
    refine f_rebase (d := 17) (v := Nx (n12)) j5 ?_
    refine f_rebase (d := 18) (v := Ix (e13)) j6 ?_
    refine f_rebase (d := 19) (v := Nx (K)) j7 ?_
    refine f_rebase (d := 20) (v := .slice (sla (fa35 81)) ((zs19 ++ zs27).length) (slc (fa35 81))) k10 ?_
    refine f_then ?_
    refine c_seq ?_
    refine c_region ?_
    refine l_val (v := .slice (sla (fa35 81)) ((zs19 ++ zs27).length) (slc (fa35 81))) rfl rfl rfl (e_move) ?_
    refine l_val (v := .agg #[Ix (p3.x), Ix (p3.y)]) rfl rfl rfl (e_load tp7 (cs := [Ix (p3.x), Ix (p3.y)]) rfl (k_pt 2 (cs := #[Ix (p3.x), Ix (p3.y)]) (vs := [Ix (p3.x), Ix (p3.y)]) rfl rfl) rfl) ?_
    refine l_val (v := .agg #[Ix (p5.x), Ix (p5.y)]) rfl rfl rfl (e_load tp7 (cs := [Ix (p5.x), Ix (p5.y)]) rfl (k_pt 1 (cs := #[Ix (p5.x), Ix (p5.y)]) (vs := [Ix (p5.x), Ix (p5.y)]) rfl rfl) rfl) ?_
    refine l_call rfl rfl rfl (cl_value (fst := []) (cap := []) (vs := [.slice (sla (fa35 81)) ((zs19 ++ zs27).length) (slc (fa35 81)), .agg #[Ix (p3.x), Ix (p3.y)], .agg #[Ix (p5.x), Ix (p5.y)]]) (all := [.slice (sla (fa35 81)) ((zs19 ++ zs27).length) (slc (fa35 81)), .agg #[Ix (p3.x), Ix (p3.y)], .agg #[Ix (p5.x), Ix (p5.y)]]) ty103 rfl rfl rfl) ?_
    intro w hw
    obtain ⟨β1, sb, kn, hw1, back⟩ := St.frame_all hw
    refine (find_ok β1 w hw1 _ (zs19 ++ zs27) (kn _ (k_flN 3 (F := AreaF) (m := (zs19 ++ zs27).length) rfl rfl)) p3 p5).mono ?_
    rintro e w' ⟨p36, c37, way38, n39, e40, rfl, hF41, hnb42, hw'⟩
    refine ⟨_, rfl, _, back _ _ hw', ?_⟩
    clear hw hw1 hw' back kn sb
    refine l_val (v := .tuple #[.slice p36 (way38.length) c37, Nx (n39), Ix (e40)]) rfl rfl rfl (e_move) ?_
    refine l_val (v := .slice p36 (way38.length) c37) rfl rfl rfl (e_extract (vs := #[.slice p36 (way38.length) c37, Nx (n39), Ix (e40)]) rfl rfl) ?_
    refine l_val (v := Nx (n39)) rfl rfl rfl (e_extract (vs := #[.slice p36 (way38.length) c37, Nx (n39), Ix (e40)]) rfl rfl) ?_
    refine l_val (v := Ix (e40)) rfl rfl rfl (e_extract (vs := #[.slice p36 (way38.length) c37, Nx (n39), Ix (e40)]) rfl rfl) ?_
    refine l_val (v := .slice p36 (way38.length) c37) rfl rfl rfl (e_assign) ?_
    refine l_val (v := Nx (n39)) rfl rfl rfl (e_assign) ?_
    refine l_val (v := Ix (e40)) rfl rfl rfl (e_assign) ?_
    refine l_nil ?_
    refine f_then ?_
    have hfL : FindR (l.take K ++ l.drop (K + 1)) p3 p5 way38 n39 e40 := by have h := hF41; rwa [hz20, hz28] at h
    have hML := (hB.less K).okM
    have hls := find_sub hML hM (fun _ ha => (less_sub l K).subset ha) hfL hF14
    have hle := find_err hML hfL
    refine c_seq_cut (fun (f : Fm) (L : List Res) => ∃ (zz : Unit), (f 4 = .int .i16 (a4) ∧ f 5 = .int .i16 (a5) ∧ f 13 = .slice p1 (l.length) (c2) ∧ f 14 = .pointer (some ⟨b7, 0, none⟩) ∧ f 15 = .pointer (some ⟨b8, 0, none⟩) ∧ f 17 = Nx (n12) ∧ f 18 = Ix (e13) ∧ f 19 = Nx (K)) ∧ L = [rowF VecF 28 p36 c37 way38, rowF VecF 28 p9 c10 way11, pt b8 (.cells #[Ix (p5.x), Ix (p5.y)] 28), pt b7 (.cells #[Ix (p3.x), Ix (p3.y)] 28), rowF AreaF 43 (sla (fa35 81)) (slc (fa35 81)) (zs19 ++ zs27)] ∧ (True)) ?_ ?_
    ·
      refine c_seq ?_
      refine c_region ?_
      refine l_val (v := Ix (e40)) rfl rfl rfl (e_move) ?_
      refine l_val (v := .bool (decide ((e40) = (0 : Int)))) rfl rfl rfl (e_eql (a := (e40)) (b := (0 : Int)) rfl rfl) ?_
      refine l_val (v := .bool (decide ((e40) = (0 : Int)))) rfl rfl rfl (e_move) ?_
      refine l_split (s := 92) (p := (e40) = (0 : Int)) rfl (fun hg43 => ?_) (fun hg43 => ?_)
      ·
        refine g_val (v := Ix (e13)) rfl rfl rfl rfl rfl (e_move) ?_
        refine g_val (v := .bool (decide ((e13) ≠ (0 : Int)))) rfl rfl rfl rfl rfl (e_neq (a := (e13)) (b := (0 : Int)) rfl rfl) ?_
        refine g_val (v := .bool (decide ((e13) ≠ (0 : Int)))) rfl rfl rfl rfl rfl (e_move) ?_
        refine l_split (s := 95) (p := (e13) ≠ (0 : Int)) rfl (fun h => ?_) (fun h => ?_)
        exact absurd h (by omega)
        refine g_val (v := Nx (n39)) rfl rfl rfl rfl rfl (e_move) ?_
        refine g_val (v := Nx (n12)) rfl rfl rfl rfl rfl (e_move) ?_
        refine g_val (v := .bool (decide (((n39 : Nat) : Int) < ((n12 : Nat) : Int)))) rfl rfl rfl rfl rfl (e_lss (a := ((n39 : Nat) : Int)) (b := ((n12 : Nat) : Int)) rfl rfl) ?_
        refine g_val (v := .bool (decide (((n39 : Nat) : Int) < ((n12 : Nat) : Int)))) rfl rfl rfl rfl rfl (e_pick_f rfl) ?_
        refine l_val (v := .bool (decide (((n39 : Nat) : Int) < ((n12 : Nat) : Int)))) rfl rfl rfl (e_pick_t rfl) ?_
        refine l_val (v := .bool (decide (((n39 : Nat) : Int) < ((n12 : Nat) : Int)))) rfl rfl rfl (e_move) ?_
        refine l_split (s := 101) (p := ((n39 : Nat) : Int) < ((n12 : Nat) : Int)) rfl (fun h => ?_) (fun h => ?_)
        exact absurd h (by omega)
        refine g_val (v := Ix (e40)) rfl rfl rfl rfl rfl (e_move) ?_
        refine g_val (v := .bool (decide ((e40) ≠ (0 : Int)))) rfl rfl rfl rfl rfl (e_neq (a := (e40)) (b := (0 : Int)) rfl rfl) ?_
        refine g_val (v := .bool (decide ((e40) ≠ (0 : Int)))) rfl rfl rfl rfl rfl (e_move) ?_
        refine l_split (s := 104) (p := (e40) ≠ (0 : Int)) rfl (fun hg44 => ?_) (fun hg44 => ?_)
        ·
          refine g_val (v := Ix (e40)) rfl rfl rfl rfl rfl (e_move) ?_
          refine g_val (v := .bool (decide ((e40) ≠ (6 : Int)))) rfl rfl rfl rfl rfl (e_neq (a := (e40)) (b := (6 : Int)) rfl rfl) ?_
          refine g_val (v := .bool (decide ((e40) ≠ (6 : Int)))) rfl rfl rfl rfl rfl (e_pick_t rfl) ?_
          refine l_val (v := .bool (decide ((e40) ≠ (6 : Int)))) rfl rfl rfl (e_pick_f rfl) ?_
          refine l_nil ?_
          refine f_then ?_
          refine c_if ((e40) ≠ (6 : Int)) rfl (fun hc45 => ?_) (fun hc45 => ?_)
          ·
            exact absurd hc45 (by omega)
          ·
            refine c_skip ?_
            exact f_cut ⟨(), ⟨rfl, rfl, rfl, rfl, rfl, rfl, rfl, rfl⟩, rfl, trivial⟩
        ·
          refine l_skip rfl rfl rfl rfl rfl rfl ?_
          refine l_skip rfl rfl rfl rfl rfl rfl ?_
          refine g_val (v := .bool false) rfl rfl rfl rfl rfl (e_pick_f rfl) ?_
          refine l_val (v := .bool false) rfl rfl rfl (e_pick_f rfl) ?_
          refine l_nil ?_
          refine f_then ?_
          refine c_no rfl ?_
          refine c_skip ?_
          exact f_cut ⟨(), ⟨rfl, rfl, rfl, rfl, rfl, rfl, rfl, rfl⟩, rfl, trivial⟩
      ·
        refine l_skip rfl rfl rfl rfl rfl rfl ?_
        refine l_skip rfl rfl rfl rfl rfl rfl ?_
        refine l_skip rfl rfl rfl rfl rfl rfl ?_
        refine l_skip_u rfl rfl rfl rfl rfl ?_
        refine l_skip_u rfl rfl rfl rfl rfl ?_
        refine l_skip_u rfl rfl rfl rfl rfl ?_
        refine l_skip rfl rfl rfl rfl rfl rfl ?_
        refine l_val (v := .bool false) rfl rfl rfl (e_pick_f rfl) ?_
        refine l_val (v := .bool false) rfl rfl rfl (e_move) ?_
        refine g_val (v := Ix (e40)) rfl rfl rfl rfl rfl (e_move) ?_
        refine g_val (v := .bool (decide ((e40) ≠ (0 : Int)))) rfl rfl rfl rfl rfl (e_neq (a := (e40)) (b := (0 : Int)) rfl rfl) ?_
        refine g_val (v := .bool (decide ((e40) ≠ (0 : Int)))) rfl rfl rfl rfl rfl (e_move) ?_
        refine l_split (s := 104) (p := (e40) ≠ (0 : Int)) rfl (fun hg46 => ?_) (fun hg46 => ?_)
        ·
          refine g_val (v := Ix (e40)) rfl rfl rfl rfl rfl (e_move) ?_
          refine g_val (v := .bool (decide ((e40) ≠ (6 : Int)))) rfl rfl rfl rfl rfl (e_neq (a := (e40)) (b := (6 : Int)) rfl rfl) ?_
          refine g_val (v := .bool (decide ((e40) ≠ (6 : Int)))) rfl rfl rfl rfl rfl (e_pick_t rfl) ?_
          refine l_val (v := .bool (decide ((e40) ≠ (6 : Int)))) rfl rfl rfl (e_pick_f rfl) ?_
          refine l_nil ?_
          refine f_then ?_
          refine c_if ((e40) ≠ (6 : Int)) rfl (fun hc47 => ?_) (fun hc47 => ?_)
          ·
            exact absurd hc47 (by omega)
          ·
            refine c_skip ?_
            exact f_cut ⟨(), ⟨rfl, rfl, rfl, rfl, rfl, rfl, rfl, rfl⟩, rfl, trivial⟩
        ·
          refine l_skip rfl rfl rfl rfl rfl rfl ?_
          refine l_skip rfl rfl rfl rfl rfl rfl ?_
          refine g_val (v := .bool false) rfl rfl rfl rfl rfl (e_pick_f rfl) ?_
          refine l_val (v := .bool false) rfl rfl rfl (e_pick_f rfl) ?_
          refine l_nil ?_
          refine f_then ?_
          refine c_no rfl ?_
          refine c_skip ?_
          exact f_cut ⟨(), ⟨rfl, rfl, rfl, rfl, rfl, rfl, rfl, rfl⟩, rfl, trivial⟩
    rintro f0 L0 ⟨zz, ⟨hs4, hs5, hs13, hs14, hs15, hs17, hs18, hs19⟩, hL, -⟩
    subst L0
    refine rebase (d := 4) hs4 ?_
    refine rebase (d := 5) hs5 ?_
    refine rebase (d := 13) hs13 ?_
    refine rebase (d := 14) hs14 ?_
    refine rebase (d := 15) hs15 ?_
    refine rebase (d := 17) hs17 ?_
    refine rebase (d := 18) hs18 ?_
    refine rebase (d := 19) hs19 ?_
    clear hs4 hs5 hs13 hs14 hs15 hs17 hs18 hs19
    refine c_seq ?_
    obtain ⟨zs50, hz51⟩ : ∃ zs, zs = (l.drop K) := ⟨_, rfl⟩
    have zl52 : zs50.length = (l).length - K := by rw [hz51]; simp; try omega
    have ze53 := (Elems.drop (cap := c2) K (by first | omega | (simp; omega)) le)
    rw [← hz51] at ze53
    obtain ⟨zs58, hz59⟩ : ∃ zs, zs = (l.take K) := ⟨_, rfl⟩
    have zl60 : zs58.length = min K (l).length - 0 := by rw [hz59]; simp; try omega
    have ze61 := (Elems.take K le)
    rw [← hz59] at ze61
    refine c_any [⟨[], [], [], [109], fun f => f 109 = .slice (some ⟨(blk (f 109)), 0, none⟩) 0 0⟩, ⟨[], [], [0], [110], fun f => f 110 = .slice p1 (l.length) (c2)⟩, ⟨[], [], [1], [111], fun f => f 111 = Nx (K)⟩, ⟨[1, 2], [1, 2], [], [112], fun f => f 112 = .slice (adv p1 c2 K 4) (zs50.length) ((c2 - K))⟩, ⟨[0, 1, 2, 3], [0, 3], [], [113], fun f => f 113 = .slice (sla (f 113)) (zs50.length) (slc (f 113))⟩, ⟨[], [], [0], [114], fun f => f 114 = .slice p1 (l.length) (c2)⟩, ⟨[], [], [1], [115], fun f => f 115 = Nx (K)⟩, ⟨[5, 6], [5, 6], [], [116], fun f => f 116 = .slice p1 (zs58.length) (c2)⟩, ⟨[0, 1, 2, 3, 4, 5, 6, 7], [4, 7], [], [117], fun f => f 117 = .slice (sla (f 117)) ((zs50 ++ zs58).length) (slc (f 117))⟩, ⟨[0, 1, 2, 3, 4, 5, 6, 7, 8], [8], [], [24, 117], fun f => f 24 = .slice (sla (f 117)) ((zs50 ++ zs58).length) (slc (f 117))⟩] [⟨none, none, [], [], fun _ => rowF VecF 28 p36 c37 way38⟩, ⟨none, none, [], [], fun _ => rowF VecF 28 p9 c10 way11⟩, ⟨none, none, [], [], fun _ => pt b8 (.cells #[Ix (p5.x), Ix (p5.y)] 28)⟩, ⟨none, none, [], [], fun _ => pt b7 (.cells #[Ix (p3.x), Ix (p3.y)] 28)⟩, ⟨none, none, [], [], fun _ => rowF AreaF 43 (sla (fa35 81)) (slc (fa35 81)) (zs19 ++ zs27)⟩, ⟨(some 0), (some 4), [4], [109], fun f => pt (blk (f 109)) (.cells #[] 43)⟩, ⟨(some 4), (some 8), [8], [113], fun f => rowF AreaF 43 (sla (f 113)) (slc (f 113)) zs50⟩, ⟨(some 8), none, [], [117], fun f => rowF AreaF 43 (sla (f 117)) (slc (f 117)) (zs50 ++ zs58)⟩] [(13, .slice p1 (l.length) (c2)), (19, Nx (K)), (4, .int .i16 (a4)), (5, .int .i16 (a5)), (14, .pointer (some ⟨b7, 0, none⟩)), (15, .pointer (some ⟨b8, 0, none⟩)), (17, Nx (n12)), (18, Ix (e13))] [2, 3, 0, 4, 5, 6, 7] [] (by kernel_rfl) (by kernel_rfl) (by kernel_rfl) (by kernel_rfl) rfl ⟨rfl, rfl, rfl, rfl, rfl, rfl, rfl, rfl, trivial⟩ ⟨?_, ?_, ?_, ?_, ?_, ?_, ?_, ?_, ?_, ?_, trivial⟩ ?_
    · rintro f M - -
      refine ob_start (L' := M) (by rfl) rfl ?_
      refine l_mv rfl rfl rfl (m_slice0 tp14) ?_
      rintro _ _ ⟨b49, rfl, rfl⟩
      refine l_nil ?_
      exact f_owes_d rfl rfl (perm_front 0 rfl)
    · rintro f M - ⟨i0, -⟩
      have hs13 : f 13 = .slice p1 (l.length) (c2) := i0
      refine ob_start (L' := M) (by rfl) (up_cons rfl hs13) ?_
      refine l_val (v := .slice p1 (l.length) (c2)) rfl rfl rfl (e_move) ?_
      refine l_nil ?_
      exact f_owes_d (up_cons rfl hs13) rfl (List.Perm.refl _)
    · rintro f M - ⟨i0, -⟩
      have hs19 : f 19 = Nx (K) := i0
      refine ob_start (L' := M) (by rfl) (up_cons rfl hs19) ?_
      refine l_val (v := Nx (K)) rfl rfl rfl (e_move) ?_
      refine l_nil ?_
      exact f_owes_d (up_cons rfl hs19) rfl (List.Perm.refl _)
    · rintro f M ⟨k0, k1, -⟩ -
      have hs110 : f 110 = .slice p1 (l.length) (c2) := k0
      have hs111 : f 111 = Nx (K) := k1
      refine ob_start (L' := M) (by rfl) (up_cons (up_cons rfl hs110) hs111) ?_
      refine l_val (v := .slice (adv p1 c2 K 4) (zs50.length) ((c2 - K))) rfl rfl rfl (ev_eq (by rw [show zs50.length = l.length - K by omega]) (e_slice_lo (a := p1) (len := l.length) (cap := c2) (l := K) tp14 rfl rfl (by omega))) ?_
      refine l_nil ?_
      exact f_owes_d (up_cons (up_cons rfl hs110) hs111) rfl (List.Perm.refl _)
    · rintro f M ⟨k0, k1, -⟩ -
      have hs109 : f 109 = .slice (some ⟨(blk (f 109)), 0, none⟩) 0 0 := k0
      have hs112 : f 112 = .slice (adv p1 c2 K 4) (zs50.length) ((c2 - K)) := k1
      refine ob_start (L' := pt (blk (f 109)) (.cells #[] 43) :: M) (by rfl) (up_cons (up_cons rfl hs109) hs112) ?_
      refine l_conseq 0 (r' := rowF AreaF 43 (some ⟨(blk (f 109)), 0, none⟩) 0 []) rfl (fun a h => pt_row (m := 0) (by decide) rfl a h) ?_
      refine l_mv rfl rfl rfl (m_appendFlN (F := AreaF) 0 tp14 sa119 (p := (some ⟨(blk (f 109)), 0, none⟩)) (m := 0) (xs := []) (ys := zs50) (ao := (adv p1 c2 K 4)) (k := zs50.length) (c := (c2 - K)) rfl rfl rfl rfl rfl (Knows.of_base (Elems.mono _ _ _) ze53) (by first | omega | simp only [List.length_nil, List.length_cons, List.length_append, List.length_set]; omega) (by first | omega | simp only [List.length_nil, List.length_cons, List.length_append, List.length_set]; omega)) ?_
      rintro _ _ ⟨rp56, rc57, rfl, rfl⟩
      refine l_nil ?_
      exact f_owes_d (up_cons (up_cons rfl hs109) hs112) rfl (perm_front 0 rfl)
    · rintro f M - ⟨i0, -⟩
      have hs13 : f 13 = .slice p1 (l.length) (c2) := i0
      refine ob_start (L' := M) (by rfl) (up_cons rfl hs13) ?_
      refine l_val (v := .slice p1 (l.length) (c2)) rfl rfl rfl (e_move) ?_
      refine l_nil ?_
      exact f_owes_d (up_cons rfl hs13) rfl (List.Perm.refl _)
    · rintro f M - ⟨i0, -⟩
      have hs19 : f 19 = Nx (K) := i0
      refine ob_start (L' := M) (by rfl) (up_cons rfl hs19) ?_
      refine l_val (v := Nx (K)) rfl rfl rfl (e_move) ?_
      refine l_nil ?_
      exact f_owes_d (up_cons rfl hs19) rfl (List.Perm.refl _)
    · rintro f M ⟨k0, k1, -⟩ -
      have hs114 : f 114 = .slice p1 (l.length) (c2) := k0
      have hs115 : f 115 = Nx (K) := k1
      refine ob_start (L' := M) (by rfl) (up_cons (up_cons rfl hs114) hs115) ?_
      refine l_val (v := .slice p1 (zs58.length) (c2)) rfl rfl rfl (ev_eq (by rw [show zs58.length = K by omega]) (e_slice_hi (a := p1) (len := l.length) (cap := c2) (h := K) tp14 rfl rfl (by omega))) ?_
      refine l_nil ?_
      exact f_owes_d (up_cons (up_cons rfl hs114) hs115) rfl (List.Perm.refl _)
    · rintro f M ⟨k0, k1, -⟩ -
      have hs113 : f 113 = .slice (sla (f 113)) (zs50.length) (slc (f 113)) := k0
      have hs116 : f 116 = .slice p1 (zs58.length) (c2) := k1
      refine ob_start (L' := rowF AreaF 43 (sla (f 113)) (slc (f 113)) zs50 :: M) (by rfl) (up_cons (up_cons rfl hs113) hs116) ?_
      refine l_mv rfl rfl rfl (m_appendFlN (F := AreaF) 0 tp14 sa119 (p := (sla (f 113))) (m := zs50.length) (xs := zs50) (ys := zs58) (ao := p1) (k := zs58.length) (c := c2) rfl rfl rfl rfl rfl (Knows.of_base (Elems.mono _ _ _) ze61) (by first | omega | simp only [List.length_nil, List.length_cons, List.length_append, List.length_set]; omega) (by first | omega | simp only [List.length_nil, List.length_cons, List.length_append, List.length_set]; omega)) ?_
      rintro _ _ ⟨rp64, rc65, rfl, rfl⟩
      refine l_nil ?_
      exact f_owes_d (up_cons (up_cons rfl hs113) hs116) rfl (perm_front 0 rfl)
    · rintro f M ⟨k0, -⟩ -
      have hs117 : f 117 = .slice (sla (f 117)) ((zs50 ++ zs58).length) (slc (f 117)) := k0
      refine ob_start (L' := M) (by rfl) (up_cons rfl hs117) ?_
      refine l_val (v := .slice (sla (f 117)) ((zs50 ++ zs58).length) (slc (f 117))) rfl rfl rfl (e_assign) ?_
      refine l_nil ?_
      exact f_owes_d (up_cons rfl hs117) rfl (List.Perm.refl _)
    rintro fa66 ⟨-, -, -, -, -, -, -, -, -, k9, -⟩ ⟨j0, j1, j2, j3, j4, j5, j6, -⟩
    refine f_re (L' := [rowF VecF 28 p36 c37 way38, rowF VecF 28 p9 c10 way11, pt b8 (.cells #[Ix (p5.x), Ix (p5.y)] 28), pt b7 (.cells #[Ix (p3.x), Ix (p3.y)] 28), rowF AreaF 43 (sla (fa35 81)) (slc (fa35 81)) (zs19 ++ zs27), rowF AreaF 43 (sla (fa66 117)) (slc (fa66 117)) (zs50 ++ zs58)]) (by rfl) ?_
    refine f_rebase (d := 4) (v := .int .i16 (a4)) j0 ?_
    refine f_rebase (d := 5) (v := .int .i16 (a5)) j1 ?_
    refine f_rebase (d := 13) (v := .slice p1 (l.length) (c2)) j2 ?_
    refine f_rebase (d := 14) (v := .pointer (some ⟨b7, 0, none⟩)) j3 ?_
    refine f_rebase (d := 15) (v := .pointer (some ⟨b8, 0, none⟩)) j4 ?_
    refine f_rebase (d := 17) (v := Nx (n12)) j5 ?_
    refine f_rebase (d := 18) (v := Ix (e13)) j6 ?_
    refine f_rebase (d := 24) (v := .slice (sla (fa66 117)) ((zs50 ++ zs58).length) (slc (fa66 117))) k9 ?_
    refine f_then ?_
    refine c_seq ?_
    refine c_region ?_
    refine l_val (v := .slice (sla (fa66 117)) ((zs50 ++ zs58).length) (slc (fa66 117))) rfl rfl rfl (e_move) ?_
    refine l_val (v := .agg #[Ix (p3.x), Ix (p3.y)]) rfl rfl rfl (e_load tp7 (cs := [Ix (p3.x), Ix (p3.y)]) rfl (k_pt 3 (cs := #[Ix (p3.x), Ix (p3.y)]) (vs := [Ix (p3.x), Ix (p3.y)]) rfl rfl) rfl) ?_
    refine l_val (v := .agg #[Ix (p5.x), Ix (p5.y)]) rfl rfl rfl (e_load tp7 (cs := [Ix (p5.x), Ix (p5.y)]) rfl (k_pt 2 (cs := #[Ix (p5.x), Ix (p5.y)]) (vs := [Ix (p5.x), Ix (p5.y)]) rfl rfl) rfl) ?_
    refine l_call rfl rfl rfl (cl_value (fst := []) (cap := []) (vs := [.slice (sla (fa66 117)) ((zs50 ++ zs58).length) (slc (fa66 117)), .agg #[Ix (p3.x), Ix (p3.y)], .agg #[Ix (p5.x), Ix (p5.y)]]) (all := [.slice (sla (fa66 117)) ((zs50 ++ zs58).length) (slc (fa66 117)), .agg #[Ix (p3.x), Ix (p3.y)], .agg #[Ix (p5.x), Ix (p5.y)]]) ty103 rfl rfl rfl) ?_
    intro w hw
    obtain ⟨β1, sb, kn, hw1, back⟩ := St.frame_all hw
    refine (find_ok β1 w hw1 _ (zs50 ++ zs58) (kn _ (k_flN 5 (F := AreaF) (m := (zs50 ++ zs58).length) rfl rfl)) p3 p5).mono ?_
    rintro e w' ⟨p67, c68, way69, n70, e71, rfl, hF72, hnb73, hw'⟩
    refine ⟨_, rfl, _, back _ _ hw', ?_⟩
    clear hw hw1 hw' back kn sb
    refine l_val (v := .tuple #[.slice p67 (way69.length) c68, Nx (n70), Ix (e71)]) rfl rfl rfl (e_move) ?_
    refine l_val (v := .slice p67 (way69.length) c68) rfl rfl rfl (e_extract (vs := #[.slice p67 (way69.length) c68, Nx (n70), Ix (e71)]) rfl rfl) ?_
    refine l_val (v := Nx (n70)) rfl rfl rfl (e_extract (vs := #[.slice p67 (way69.length) c68, Nx (n70), Ix (e71)]) rfl rfl) ?_
    refine l_val (v := Ix (e71)) rfl rfl rfl (e_extract (vs := #[.slice p67 (way69.length) c68, Nx (n70), Ix (e71)]) rfl rfl) ?_
    refine l_val (v := .slice p67 (way69.length) c68) rfl rfl rfl (e_assign) ?_
    refine l_val (v := Nx (n70)) rfl rfl rfl (e_assign) ?_
    refine l_val (v := Ix (e71)) rfl rfl rfl (e_assign) ?_
    refine l_nil ?_
    refine f_then ?_
    refine c_seq ?_
    obtain ⟨dx, hdx⟩ : ∃ z, z = a4 := ⟨_, rfl⟩
    obtain ⟨dy, hdy⟩ : ∃ z, z = a5 := ⟨_, rfl⟩
    have hd1 : -32768 ≤ dx := by omega
    have hd2 : dx ≤ 32767 := by omega
    have hd3 : -32768 ≤ dy := by omega
    have hd4 : dy ≤ 32767 := by omega
    rw [← hdx, ← hdy]
    refine c_region ?_
    refine l_val (v := .int .i16 (dx)) rfl rfl rfl (e_move) ?_
    refine l_val (v := Ix (dx)) rfl rfl rfl (e_conv (a := (dx)) rfl ⟨_, sd123⟩ tu40 (i64w (by omega))) ?_
    refine l_val (v := .int .i16 (dy)) rfl rfl rfl (e_move) ?_
    refine l_val (v := Ix (dy)) rfl rfl rfl (e_conv (a := (dy)) rfl ⟨_, sd123⟩ tu40 (i64w (by omega))) ?_
    refine l_call rfl rfl rfl (cl_value (fst := []) (cap := []) (vs := [Ix (dx), Ix (dy)]) (all := [Ix (dx), Ix (dy)]) ty102 rfl rfl rfl) ?_
    intro w hw
    obtain ⟨β1, sb, kn, hw1, back⟩ := St.frame_all hw
    refine (point_ok β1 w hw1 (dx) (dy)).mono ?_
    rintro e w' ⟨rfl, hw'⟩
    refine ⟨_, rfl, _, back _ _ hw', ?_⟩
    clear hw hw1 hw' back kn sb
    refine l_mv rfl rfl rfl (m_alloc tp5) ?_
    rintro _ _ ⟨b74, rfl, rfl⟩
    refine l_mu rfl rfl (m_store 0 tp7 (b := b74) (o := 0) (T := 28) (cs := #[.int .i64 (0), .int .i64 (0)]) (cs' := #[Ix (dx), Ix (dy)]) (v := .agg #[Ix (dx), Ix (dy)]) rfl rfl rfl rfl rfl rfl rfl) ?_
    refine l_nil ?_
    refine f_then ?_
    refine c_seq ?_
    refine c_region ?_
    refine l_val (v := .func (.func 15) #[] #[.pointer (some ⟨b74, 0, none⟩)]) rfl rfl rfl (e_func (u := []) (v := [.pointer (some ⟨b74, 0, none⟩)]) rfl rfl) ?_
    refine l_val (v := .func (.func 15) #[] #[.pointer (some ⟨b74, 0, none⟩)]) rfl rfl rfl (e_assign) ?_
    refine l_nil ?_
    refine f_then ?_
    refine c_seq ?_
    refine c_region ?_
    refine l_val (v := .slice none 0 0) rfl rfl rfl (e_assign) ?_
    refine l_val (v := .slice none 0 0) rfl rfl rfl (e_assign) ?_
    refine l_nil ?_
    refine f_then ?_
    refine c_seq ?_
    refine c_seq ?_
    refine c_emp (r := rowF AreaF 43 none 0 []) (row_nil _ _ _) ?_
    refine c_emp (r := rowF AreaF 43 none 0 []) (row_nil _ _ _) ?_
    refine c_region ?_
    refine l_val (v := .slice p1 (l.length) (c2)) rfl rfl rfl (e_move) ?_
    refine l_val (v := Nx (l.length)) rfl rfl rfl (e_len (a := p1) (n := l.length) (c := c2) rfl tp13) ?_
    refine l_val (v := .int .i64 (0)) rfl rfl rfl (e_move) ?_
    refine l_nil ?_
    refine f_then ?_
    refine c_block ?_
    refine c_loop (fun (x_ : Nat × List KA × Option Addr × Nat × List KA × Option Addr × Nat) (f : Fm) (L : List Res) => match x_ with | (k, ms, ma, mc, ws, wa, wc) => (f 13 = .slice p1 (l.length) (c2) ∧ f 14 = .pointer (some ⟨b7, 0, none⟩) ∧ f 15 = .pointer (some ⟨b8, 0, none⟩) ∧ f 17 = Nx (n12) ∧ f 18 = Ix (e13) ∧ f 26 = Nx (n70) ∧ f 27 = Ix (e71) ∧ f 29 = .func (.func 15) #[] #[.pointer (some ⟨b74, 0, none⟩)] ∧ f 30 = .slice ma (ms.length) mc ∧ f 31 = .slice wa (ws.length) wc ∧ f 132 = .slice p1 (l.length) (c2) ∧ f 133 = Nx (l.length) ∧ f 134 = Nx (k)) ∧ L = [rowF AreaF 43 ma mc ms, rowF AreaF 43 wa wc ws, pt b74 (.cells #[Ix (dx), Ix (dy)] 28), rowF VecF 28 p67 c68 way69, rowF VecF 28 p36 c37 way38, rowF VecF 28 p9 c10 way11, pt b8 (.cells #[Ix (p5.x), Ix (p5.y)] 28), pt b7 (.cells #[Ix (p3.x), Ix (p3.y)] 28), rowF AreaF 43 (sla (fa35 81)) (slc (fa35 81)) (zs19 ++ zs27), rowF AreaF 43 (sla (fa66 117)) (slc (fa66 117)) (zs50 ++ zs58)] ∧ (k ≤ l.length ∧ ms = (l.take k).map (shA dx dy) ∧ ws = (l.take k).map swA)) (fun (x_ : Nat × List KA × Option Addr × Nat × List KA × Option Addr × Nat) => match x_ with | (k, ms, ma, mc, ws, wa, wc) => l.length - k) (0, [], none, 0, [], none, 0) ?_ ?_
    · exact ⟨⟨rfl, rfl, rfl, rfl, rfl, rfl, rfl, rfl, rfl, rfl, rfl, rfl, rfl⟩, rfl, ⟨by omega, rfl, rfl⟩⟩
    rintro ⟨k, ms, ma, mc, ws, wa, wc⟩ f0 L0 ⟨⟨hs13, hs14, hs15, hs17, hs18, hs26, hs27, hs29, hs30, hs31, hs132, hs133, hs134⟩, hL, ⟨hk, hms, hws⟩⟩
    subst L0
    refine rebase (d := 13) hs13 ?_
    refine rebase (d := 14) hs14 ?_
    refine rebase (d := 15) hs15 ?_
    refine rebase (d := 17) hs17 ?_
    refine rebase (d := 18) hs18 ?_
    refine rebase (d := 26) hs26 ?_
    refine rebase (d := 27) hs27 ?_
    refine rebase (d := 29) hs29 ?_
    refine rebase (d := 30) hs30 ?_
    refine rebase (d := 31) hs31 ?_
    refine rebase (d := 132) hs132 ?_
    refine rebase (d := 133) hs133 ?_
    refine rebase (d := 134) hs134 ?_
    clear hs13 hs14 hs15 hs17 hs18 hs26 hs27 hs29 hs30 hs31 hs132 hs133 hs134
    have hml : ms.length = k := by rw [hms, List.length_map, List.length_take]; omega
    have hwl : ws.length = k := by rw [hws, List.length_map, List.length_take]; omega
    refine c_seq ?_
    refine c_region ?_
    refine l_val (v := .bool (decide (((k : Nat) : Int) < ((l.length : Nat) : Int)))) rfl rfl rfl (e_lss (a := ((k : Nat) : Int)) (b := ((l.length : Nat) : Int)) rfl rfl) ?_
    refine l_nil ?_
    refine f_then ?_
    refine c_seq ?_
    refine c_if (((k : Nat) : Int) < ((l.length : Nat) : Int)) rfl (fun hc75 => ?_) (fun hc75 => ?_)
    ·
      refine c_skip ?_
      refine f_then ?_
      refine c_seq ?_
      refine c_block ?_
      refine c_seq ?_
      refine c_region ?_
      obtain ⟨x76, hx77⟩ : ∃ x_, (l)[k]? = some x_ := ⟨_, List.getElem?_eq_getElem (by omega)⟩
      obtain ⟨ha78, cs79, hc80, rfl⟩ := le _ _ hx77
      refine l_val (v := .pointer (some ((ba p1).add (k * 4)))) rfl rfl rfl (e_indexAddr (k := k) (len := l.length) (cap := c2) (a := p1) rfl rfl tp14 (by omega) ha78) ?_
      refine l_val (v := .agg (aC x76)) rfl rfl rfl (e_load tp10 (cs := (areaE x76)) rfl (Knows.of_base (Cs.mono _ _) hc80) rfl) ?_
      refine l_mv rfl rfl rfl (m_alloc tp8) ?_
      rintro _ _ ⟨b82, rfl, rfl⟩
      refine l_mu rfl rfl (m_store 0 tp10 (b := b82) (o := 0) (T := 43) (cs := #[.int .i64 (0), .int .i64 (0), .int .i64 (0), .int .i64 (0)]) (cs' := (aC x76)) (v := .agg (aC x76)) rfl rfl rfl rfl rfl rfl rfl) ?_
      refine l_nil ?_
      refine f_then ?_
      refine c_seq ?_
      have hsx := hsm x76 (List.mem_of_getElem? hx77)
      unfold smallA at hsx
      refine c_any [⟨[], [], [0], [138], fun f => f 138 = .slice ma (ms.length) mc⟩, ⟨[], [], [1], [139], fun f => f 139 = .func (.func 15) #[] #[.pointer (some ⟨b74, 0, none⟩)]⟩, ⟨[], [], [2], [140], fun f => f 140 = .pointer (some ⟨b82, 0, none⟩)⟩, ⟨[2], [2], [], [141], fun f => f 141 = .agg #[Ix (x76.lx), Ix (x76.ly)]⟩, ⟨[1, 2, 3], [1, 3], [], [142], fun f => f 142 = .agg #[Ix (x76.lx + dx), Ix (x76.ly + dy)]⟩, ⟨[], [], [1], [143], fun f => f 143 = .func (.func 15) #[] #[.pointer (some ⟨b74, 0, none⟩)]⟩, ⟨[], [], [2], [144], fun f => f 144 = .pointer (some ⟨b82, 2, none⟩)⟩, ⟨[6], [6], [], [145], fun f => f 145 = .agg #[Ix (x76.hx), Ix (x76.hy)]⟩, ⟨[1, 2, 3, 4, 5, 6, 7], [5, 7], [], [146], fun f => f 146 = .agg #[Ix (x76.hx + dx), Ix (x76.hy + dy)]⟩, ⟨[1, 2, 3, 4, 5, 6, 7, 8], [4, 8], [], [147], fun f => f 147 = .agg #[Ix (x76.lx + dx), Ix (x76.ly + dy), Ix (x76.hx + dx), Ix (x76.hy + dy)]⟩, ⟨[1, 2, 3, 4, 5, 6, 7, 8, 9], [9], [], [148], fun f => f 148 = .slice (some ⟨(blk (f 148)), 0, none⟩) 1 1⟩, ⟨[0, 1, 2, 3, 4, 5, 6, 7, 8, 9, 10], [0, 10], [], [149], fun f => f 149 = .slice (sla (f 149)) ((ms ++ [(⟨x76.lx + dx, x76.ly + dy, x76.hx + dx, x76.hy + dy⟩ : KA)]).length) (slc (f 149))⟩, ⟨[0, 1, 2, 3, 4, 5, 6, 7, 8, 9, 10, 11], [11], [], [30, 149], fun f => f 30 = .slice (sla (f 149)) ((ms ++ [(⟨x76.lx + dx, x76.ly + dy, x76.hx + dx, x76.hy + dy⟩ : KA)]).length) (slc (f 149))⟩] [⟨none, none, [3, 7], [], fun _ => pt b82 (.cells (aC x76) 43)⟩, ⟨none, (some 11), [11], [], fun _ => rowF AreaF 43 ma mc ms⟩, ⟨none, none, [], [], fun _ => rowF AreaF 43 wa wc ws⟩, ⟨none, none, [4, 8], [], fun _ => pt b74 (.cells #[Ix (dx), Ix (dy)] 28)⟩, ⟨none, none, [], [], fun _ => rowF VecF 28 p67 c68 way69⟩, ⟨none, none, [], [], fun _ => rowF VecF 28 p36 c37 way38⟩, ⟨none, none, [], [], fun _ => rowF VecF 28 p9 c10 way11⟩, ⟨none, none, [], [], fun _ => pt b8 (.cells #[Ix (p5.x), Ix (p5.y)] 28)⟩, ⟨none, none, [], [], fun _ => pt b7 (.cells #[Ix (p3.x), Ix (p3.y)] 28)⟩, ⟨none, none, [], [], fun _ => rowF AreaF 43 (sla (fa35 81)) (slc (fa35 81)) (zs19 ++ zs27)⟩, ⟨none, none, [], [], fun _ => rowF AreaF 43 (sla (fa66 117)) (slc (fa66 117)) (zs50 ++ zs58)⟩, ⟨(some 10), none, [11], [148], fun f => pt (blk (f 148)) (.cells #[Ix (x76.lx + dx), Ix (x76.ly + dy), Ix (x76.hx + dx), Ix (x76.hy + dy)] 43)⟩, ⟨(some 11), none, [], [149], fun f => rowF AreaF 43 (sla (f 149)) (slc (f 149)) (ms ++ [(⟨x76.lx + dx, x76.ly + dy, x76.hx + dx, x76.hy + dy⟩ : KA)])⟩] [(30, .slice ma (ms.length) mc), (29, .func (.func 15) #[] #[.pointer (some ⟨b74, 0, none⟩)]), (33, .pointer (some ⟨b82, 0, none⟩)), (13, .slice p1 (l.length) (c2)), (14, .pointer (some ⟨b7, 0, none⟩)), (15, .pointer (some ⟨b8, 0, none⟩)), (17, Nx (n12)), (18, Ix (e13)), (26, Nx (n70)), (27, Ix (e71)), (31, .slice wa (ws.length) wc), (132, .slice p1 (l.length) (c2)), (133, Nx (l.length)), (134, Nx (k))] [3, 4, 5, 6, 7, 8, 9, 1, 10, 2, 11, 12, 13] [] (by kernel_rfl) (by kernel_rfl) (by kernel_rfl) (by kernel_rfl) rfl ⟨rfl, rfl, rfl, rfl, rfl, rfl, rfl, rfl, rfl, rfl, rfl, rfl, rfl, rfl, trivial⟩ ⟨?_, ?_, ?_, ?_, ?_, ?_, ?_, ?_, ?_, ?_, ?_, ?_, ?_, trivial⟩ ?_
      · rintro f M - ⟨i0, -⟩
        have hs30 : f 30 = .slice ma (ms.length) mc := i0
        refine ob_start (L' := M) (by rfl) (up_cons rfl hs30) ?_
        refine l_val (v := .slice ma (ms.length) mc) rfl rfl rfl (e_move) ?_
        refine l_nil ?_
        exact f_owes_d (up_cons rfl hs30) rfl (List.Perm.refl _)
      · rintro f M - ⟨i0, -⟩
        have hs29 : f 29 = .func (.func 15) #[] #[.pointer (some ⟨b74, 0, none⟩)] := i0
        refine ob_start (L' := M) (by rfl) (up_cons rfl hs29) ?_
        refine l_val (v := .func (.func 15) #[] #[.pointer (some ⟨b74, 0, none⟩)]) rfl rfl rfl (e_move) ?_
        refine l_nil ?_
        exact f_owes_d (up_cons rfl hs29) rfl (List.Perm.refl _)
      · rintro f M - ⟨i0, -⟩
        have hs33 : f 33 = .pointer (some ⟨b82, 0, none⟩) := i0
        refine ob_start (L' := M) (by rfl) (up_cons rfl hs33) ?_
        refine l_val (v := .pointer (some ⟨b82, 0, none⟩)) rfl rfl rfl (e_fieldPt (b := b82) (o := 0) rfl tp0) ?_
        refine l_nil ?_
        exact f_owes_d (up_cons rfl hs33) rfl (List.Perm.refl _)
      · rintro f M ⟨k0, -⟩ -
        have hs140 : f 140 = .pointer (some ⟨b82, 0, none⟩) := k0
        refine ob_start (L' := pt b82 (.cells (aC x76) 43) :: M) (by rfl) (up_cons rfl hs140) ?_
        refine l_val (v := .agg #[Ix (x76.lx), Ix (x76.ly)]) rfl rfl rfl (e_load tp7 (cs := [Ix (x76.lx), Ix (x76.ly)]) rfl (k_pt 0 (cs := (aC x76)) (vs := [Ix (x76.lx), Ix (x76.ly)]) rfl rfl) rfl) ?_
        refine l_nil ?_
        exact f_owes_d (up_cons rfl hs140) rfl (perm_front 0 rfl)
      · rintro f M ⟨k0, k1, -⟩ -
        have hs139 : f 139 = .func (.func 15) #[] #[.pointer (some ⟨b74, 0, none⟩)] := k0
        have hs141 : f 141 = .agg #[Ix (x76.lx), Ix (x76.ly)] := k1
        refine ob_start (L' := pt b74 (.cells #[Ix (dx), Ix (dy)] 28) :: M) (by rfl) (up_cons (up_cons rfl hs139) hs141) ?_
        refine l_call rfl rfl rfl (cl_value (fst := []) (cap := [.pointer (some ⟨b74, 0, none⟩)]) (vs := [.agg #[Ix (x76.lx), Ix (x76.ly)]]) (all := [.agg #[Ix (x76.lx), Ix (x76.ly)], .pointer (some ⟨b74, 0, none⟩)]) sd124 rfl rfl rfl) ?_
        intro w hw
        obtain ⟨β1, sb, kn, hw1, back⟩ := St.frame_all hw
        refine (move_ok β1 w hw1 b74 ⟨x76.lx, x76.ly⟩ dx dy (by show -1000 ≤ x76.lx ∧ x76.lx ≤ 1000 ∧ -1000 ≤ x76.ly ∧ x76.ly ≤ 1000; omega) hd1 hd2 hd3 hd4 (kn _ (k_pt 0 (o := 0) (cs := #[Ix (dx), Ix (dy)]) (vs := [Ix (dx), Ix (dy)]) rfl rfl))).mono ?_
        rintro e w' ⟨rfl, hw'⟩
        refine ⟨_, rfl, _, back _ _ hw', ?_⟩
        clear hw hw1 hw' back kn sb
        refine l_nil ?_
        exact f_owes_d (up_cons (up_cons rfl hs139) hs141) rfl (perm_front 0 rfl)
      · rintro f M - ⟨i0, -⟩
        have hs29 : f 29 = .func (.func 15) #[] #[.pointer (some ⟨b74, 0, none⟩)] := i0
        refine ob_start (L' := M) (by rfl) (up_cons rfl hs29) ?_
        refine l_val (v := .func (.func 15) #[] #[.pointer (some ⟨b74, 0, none⟩)]) rfl rfl rfl (e_move) ?_
        refine l_nil ?_
        exact f_owes_d (up_cons rfl hs29) rfl (List.Perm.refl _)
      · rintro f M - ⟨i0, -⟩
        have hs33 : f 33 = .pointer (some ⟨b82, 0, none⟩) := i0
        refine ob_start (L' := M) (by rfl) (up_cons rfl hs33) ?_
        refine l_val (v := .pointer (some ⟨b82, 2, none⟩)) rfl rfl rfl (e_fieldPt (b := b82) (o := 0) rfl tp3) ?_
        refine l_nil ?_
        exact f_owes_d (up_cons rfl hs33) rfl (List.Perm.refl _)
      · rintro f M ⟨k0, -⟩ -
        have hs144 : f 144 = .pointer (some ⟨b82, 2, none⟩) := k0
        refine ob_start (L' := pt b82 (.cells (aC x76) 43) :: M) (by rfl) (up_cons rfl hs144) ?_
        refine l_val (v := .agg #[Ix (x76.hx), Ix (x76.hy)]) rfl rfl rfl (e_load tp7 (cs := [Ix (x76.hx), Ix (x76.hy)]) rfl (k_pt 0 (cs := (aC x76)) (vs := [Ix (x76.hx), Ix (x76.hy)]) rfl rfl) rfl) ?_
        refine l_nil ?_
        exact f_owes_d (up_cons rfl hs144) rfl (perm_front 0 rfl)
      · rintro f M ⟨k0, k1, -⟩ -
        have hs143 : f 143 = .func (.func 15) #[] #[.pointer (some ⟨b74, 0, none⟩)] := k0
        have hs145 : f 145 = .agg #[Ix (x76.hx), Ix (x76.hy)] := k1
        refine ob_start (L' := pt b74 (.cells #[Ix (dx), Ix (dy)] 28) :: M) (by rfl) (up_cons (up_cons rfl hs143) hs145) ?_
        refine l_call rfl rfl rfl (cl_value (fst := []) (cap := [.pointer (some ⟨b74, 0, none⟩)]) (vs := [.agg #[Ix (x76.hx), Ix (x76.hy)]]) (all := [.agg #[Ix (x76.hx), Ix (x76.hy)], .pointer (some ⟨b74, 0, none⟩)]) sd124 rfl rfl rfl) ?_
        intro w hw
        obtain ⟨β1, sb, kn, hw1, back⟩ := St.frame_all hw
        refine (move_ok β1 w hw1 b74 ⟨x76.hx, x76.hy⟩ dx dy (by show -1000 ≤ x76.hx ∧ x76.hx ≤ 1000 ∧ -1000 ≤ x76.hy ∧ x76.hy ≤ 1000; omega) hd1 hd2 hd3 hd4 (kn _ (k_pt 0 (o := 0) (cs := #[Ix (dx), Ix (dy)]) (vs := [Ix (dx), Ix (dy)]) rfl rfl))).mono ?_
        rintro e w' ⟨rfl, hw'⟩
        refine ⟨_, rfl, _, back _ _ hw', ?_⟩
        clear hw hw1 hw' back kn sb
        refine l_nil ?_
        exact f_owes_d (up_cons (up_cons rfl hs143) hs145) rfl (perm_front 0 rfl)
      · rintro f M ⟨k0, k1, -⟩ -
        have hs142 : f 142 = .agg #[Ix (x76.lx + dx), Ix (x76.ly + dy)] := k0
        have hs146 : f 146 = .agg #[Ix (x76.hx + dx), Ix (x76.hy + dy)] := k1
        refine ob_start (L' := M) (by rfl) (up_cons (up_cons rfl hs142) hs146) ?_
        refine l_val (v := .agg #[Ix (x76.lx + dx), Ix (x76.ly + dy), Ix (x76.hx + dx), Ix (x76.hy + dy)]) rfl rfl rfl (e_build tp8 tp9 (vs := [(0, .agg #[Ix (x76.lx + dx), Ix (x76.ly + dy)]), (1, .agg #[Ix (x76.hx + dx), Ix (x76.hy + dy)])]) (cells := #[Ix (x76.lx + dx), Ix (x76.ly + dy), Ix (x76.hx + dx), Ix (x76.hy + dy)]) rfl rfl) ?_
        refine l_nil ?_
        exact f_owes_d (up_cons (up_cons rfl hs142) hs146) rfl (List.Perm.refl _)
      · rintro f M ⟨k0, -⟩ -
        have hs147 : f 147 = .agg #[Ix (x76.lx + dx), Ix (x76.ly + dy), Ix (x76.hx + dx), Ix (x76.hy + dy)] := k0
        refine ob_start (L' := M) (by rfl) (up_cons rfl hs147) ?_
        refine l_mv rfl rfl rfl (m_slices tp14 tp8 (vs := [(0, .agg #[Ix (x76.lx + dx), Ix (x76.ly + dy), Ix (x76.hx + dx), Ix (x76.hy + dy)])]) (cells := #[Ix (x76.lx + dx), Ix (x76.ly + dy), Ix (x76.hx + dx), Ix (x76.hy + dy)]) rfl rfl rfl rfl) ?_
        rintro _ _ ⟨b84, rfl, rfl⟩
        refine l_nil ?_
        exact f_owes_d (up_cons rfl hs147) rfl (perm_front 0 rfl)
      · rintro f M ⟨k0, k1, -⟩ -
        have hs138 : f 138 = .slice ma (ms.length) mc := k0
        have hs148 : f 148 = .slice (some ⟨(blk (f 148)), 0, none⟩) 1 1 := k1
        refine ob_start (L' := rowF AreaF 43 ma mc ms :: pt (blk (f 148)) (.cells #[Ix (x76.lx + dx), Ix (x76.ly + dy), Ix (x76.hx + dx), Ix (x76.hy + dy)] 43) :: M) (by rfl) (up_cons (up_cons rfl hs138) hs148) ?_
        refine l_mv rfl rfl rfl (m_appendFlN (F := AreaF) 0 tp14 sa119 (p := ma) (m := ms.length) (xs := ms) (ys := [(⟨x76.lx + dx, x76.ly + dy, x76.hx + dx, x76.hy + dy⟩ : KA)]) (ao := (some ⟨(blk (f 148)), 0, none⟩)) (k := 1) (c := 1) rfl rfl rfl rfl rfl (k_ptFl (z := (⟨x76.lx + dx, x76.ly + dy, x76.hx + dx, x76.hy + dy⟩ : KA)) 1 rfl rfl) (by first | omega | simp only [List.length_nil, List.length_cons, List.length_append, List.length_set]; omega) (by first | omega | simp only [List.length_nil, List.length_cons, List.length_append, List.length_set]; omega)) ?_
        rintro _ _ ⟨rp87, rc88, rfl, rfl⟩
        refine l_nil ?_
        exact f_owes_d (up_cons (up_cons rfl hs138) hs148) rfl ((perm_front 0 rfl).trans (perm_front 1 rfl))
      · rintro f M ⟨k0, -⟩ -
        have hs149 : f 149 = .slice (sla (f 149)) ((ms ++ [(⟨x76.lx + dx, x76.ly + dy, x76.hx + dx, x76.hy + dy⟩ : KA)]).length) (slc (f 149)) := k0
        refine ob_start (L' := M) (by rfl) (up_cons rfl hs149) ?_
        refine l_val (v := .slice (sla (f 149)) ((ms ++ [(⟨x76.lx + dx, x76.ly + dy, x76.hx + dx, x76.hy + dy⟩ : KA)]).length) (slc (f 149))) rfl rfl rfl (e_assign) ?_
        refine l_nil ?_
        exact f_owes_d (up_cons rfl hs149) rfl (List.Perm.refl _)
      rintro fa89 ⟨-, -, -, -, -, -, -, -, -, -, -, -, k12, -⟩ ⟨j0, j1, j2, j3, j4, j5, j6, j7, j8, j9, j10, j11, j12, -⟩
      refine f_re (L' := [pt b82 (.cells (aC x76) 43), rowF AreaF 43 wa wc ws, pt b74 (.cells #[Ix (dx), Ix (dy)] 28), rowF VecF 28 p67 c68 way69, rowF VecF 28 p36 c37 way38, rowF VecF 28 p9 c10 way11, pt b8 (.cells #[Ix (p5.x), Ix (p5.y)] 28), pt b7 (.cells #[Ix (p3.x), Ix (p3.y)] 28), rowF AreaF 43 (sla (fa35 81)) (slc (fa35 81)) (zs19 ++ zs27), rowF AreaF 43 (sla (fa66 117)) (slc (fa66 117)) (zs50 ++ zs58), pt (blk (fa89 148)) (.cells #[Ix (x76.lx + dx), Ix (x76.ly + dy), Ix (x76.hx + dx), Ix (x76.hy + dy)] 43), rowF AreaF 43 (sla (fa89 149)) (slc (fa89 149)) (ms ++ [(⟨x76.lx + dx, x76.ly + dy, x76.hx + dx, x76.hy + dy⟩ : KA)])]) (by rfl) ?_
      refine f_rebase (d := 13) (v := .slice p1 (l.length) (c2)) j0 ?_
      refine f_rebase (d := 14) (v := .pointer (some ⟨b7, 0, none⟩)) j1 ?_
      refine f_rebase (d := 15) (v := .pointer (some ⟨b8, 0, none⟩)) j2 ?_
      refine f_rebase (d := 17) (v := Nx (n12)) j3 ?_
      refine f_rebase (d := 18) (v := Ix (e13)) j4 ?_
      refine f_rebase (d := 26) (v := Nx (n70)) j5 ?_
      refine f_rebase (d := 27) (v := Ix (e71)) j6 ?_
      refine f_rebase (d := 29) (v := .func (.func 15) #[] #[.pointer (some ⟨b74, 0, none⟩)]) j7 ?_
      refine f_rebase (d := 30) (v := .slice (sla (fa89 149)) ((ms ++ [(⟨x76.lx + dx, x76.ly + dy, x76.hx + dx, x76.hy + dy⟩ : KA)]).length) (slc (fa89 149))) k12 ?_
      refine f_rebase (d := 31) (v := .slice wa (ws.length) wc) j8 ?_
      refine f_rebase (d := 33) (v := .pointer (some ⟨b82, 0, none⟩)) j9 ?_
      refine f_rebase (d := 132) (v := .slice p1 (l.length) (c2)) j10 ?_
      refine f_rebase (d := 133) (v := Nx (l.length)) j11 ?_
      refine f_rebase (d := 134) (v := Nx (k)) j12 ?_
      refine f_then ?_
      refine c_region ?_
      refine l_val (v := .slice wa (ws.length) wc) rfl rfl rfl (e_move) ?_
      refine l_val (v := .pointer (some ⟨b82, 0, none⟩)) rfl rfl rfl (e_fieldPt (b := b82) (o := 0) rfl tp0) ?_
      refine l_val (v := .pointer (some ⟨b82, 1, none⟩)) rfl rfl rfl (e_fieldPt (b := b82) (o := 0) rfl tp4) ?_
      refine l_val (v := Ix (x76.ly)) rfl rfl rfl (e_load1 tp2 (v := Ix (x76.ly)) rfl (k_pt 0 (cs := (aC x76)) (vs := [Ix (x76.ly)]) rfl rfl)) ?_
      refine l_val (v := .pointer (some ⟨b82, 0, none⟩)) rfl rfl rfl (e_fieldPt (b := b82) (o := 0) rfl tp0) ?_
      refine l_val (v := .pointer (some ⟨b82, 0, none⟩)) rfl rfl rfl (e_fieldPt (b := b82) (o := 0) rfl tp1) ?_
      refine l_val (v := Ix (x76.lx)) rfl rfl rfl (e_load1 tp2 (v := Ix (x76.lx)) rfl (k_pt 0 (cs := (aC x76)) (vs := [Ix (x76.lx)]) rfl rfl)) ?_
      refine l_val (v := .pointer (some ⟨b82, 2, none⟩)) rfl rfl rfl (e_fieldPt (b := b82) (o := 0) rfl tp3) ?_
      refine l_val (v := .pointer (some ⟨b82, 3, none⟩)) rfl rfl rfl (e_fieldPt (b := b82) (o := 2) rfl tp4) ?_
      refine l_val (v := Ix (x76.hy)) rfl rfl rfl (e_load1 tp2 (v := Ix (x76.hy)) rfl (k_pt 0 (cs := (aC x76)) (vs := [Ix (x76.hy)]) rfl rfl)) ?_
      refine l_val (v := .pointer (some ⟨b82, 2, none⟩)) rfl rfl rfl (e_fieldPt (b := b82) (o := 0) rfl tp3) ?_
      refine l_val (v := .pointer (some ⟨b82, 2, none⟩)) rfl rfl rfl (e_fieldPt (b := b82) (o := 2) rfl tp1) ?_
      refine l_val (v := Ix (x76.hx)) rfl rfl rfl (e_load1 tp2 (v := Ix (x76.hx)) rfl (k_pt 0 (cs := (aC x76)) (vs := [Ix (x76.hx)]) rfl rfl)) ?_
      refine l_call rfl rfl rfl (cl_value (fst := []) (cap := []) (vs := [Ix (x76.ly), Ix (x76.lx), Ix (x76.hy), Ix (x76.hx)]) (all := [Ix (x76.ly), Ix (x76.lx), Ix (x76.hy), Ix (x76.hx)]) ty100 rfl rfl rfl) ?_
      intro w hw
      obtain ⟨β1, sb, kn, hw1, back⟩ := St.frame_all hw
      refine (room_ok β1 w hw1 (x76.ly) (x76.lx) (x76.hy) (x76.hx)).mono ?_
      rintro e w' ⟨rfl, hw'⟩
      refine ⟨_, rfl, _, back _ _ hw', ?_⟩
      clear hw hw1 hw' back kn sb
      refine l_mv rfl rfl rfl (m_slices tp14 tp8 (vs := [(0, .agg #[Ix (x76.ly), Ix (x76.lx), Ix (x76.hy), Ix (x76.hx)])]) (cells := #[Ix (x76.ly), Ix (x76.lx), Ix (x76.hy), Ix (x76.hx)]) rfl rfl rfl rfl) ?_
      rintro _ _ ⟨b90, rfl, rfl⟩
      refine l_mv rfl rfl rfl (m_appendFlN (F := AreaF) 2 tp14 sa119 (p := wa) (m := ws.length) (xs := ws) (ys := [(⟨x76.ly, x76.lx, x76.hy, x76.hx⟩ : KA)]) (ao := (some ⟨b90, 0, none⟩)) (k := 1) (c := 1) rfl rfl rfl rfl rfl (k_ptFl (z := (⟨x76.ly, x76.lx, x76.hy, x76.hx⟩ : KA)) 0 rfl rfl) (by first | omega | simp only [List.length_nil, List.length_cons, List.length_append, List.length_set]; omega) (by first | omega | simp only [List.length_nil, List.length_cons, List.length_append, List.length_set]; omega)) ?_
      rintro _ _ ⟨rp91, rc92, rfl, rfl⟩
      refine l_val (v := .slice rp91 ((ws ++ [(⟨x76.ly, x76.lx, x76.hy, x76.hx⟩ : KA)]).length) rc92) rfl rfl rfl (e_assign) ?_
      refine l_nil ?_
      refine f_block ?_
      refine f_then ?_
      refine c_region ?_
      refine l_val (v := Nx (k + 1)) rfl rfl rfl (e_add (a := ((k : Nat) : Int)) (b := (1 : Int)) rfl rfl (i64n (by omega) (by omega))) ?_
      refine l_val (v := Nx (k + 1)) rfl rfl rfl (e_move) ?_
      refine l_nil ?_
      refine f_perm (L' := [rowF AreaF 43 (sla (fa89 149)) (slc (fa89 149)) (ms ++ [(⟨x76.lx + dx, x76.ly + dy, x76.hx + dx, x76.hy + dy⟩ : KA)]), rowF AreaF 43 rp91 rc92 (ws ++ [(⟨x76.ly, x76.lx, x76.hy, x76.hx⟩ : KA)]), pt b74 (.cells #[Ix (dx), Ix (dy)] 28), rowF VecF 28 p67 c68 way69, rowF VecF 28 p36 c37 way38, rowF VecF 28 p9 c10 way11, pt b8 (.cells #[Ix (p5.x), Ix (p5.y)] 28), pt b7 (.cells #[Ix (p3.x), Ix (p3.y)] 28), rowF AreaF 43 (sla (fa35 81)) (slc (fa35 81)) (zs19 ++ zs27), rowF AreaF 43 (sla (fa66 117)) (slc (fa66 117)) (zs50 ++ zs58), pt b90 (.cells #[Ix (x76.ly), Ix (x76.lx), Ix (x76.hy), Ix (x76.hx)] 43), pt b82 (.cells (aC x76) 43), pt (blk (fa89 148)) (.cells #[Ix (x76.lx + dx), Ix (x76.ly + dy), Ix (x76.hx + dx), Ix (x76.hy + dy)] 43)]) (perm_ix [12, 2, 3, 4, 5, 6, 7, 8, 9, 10, 0, 1, 11] 13 rfl (by kernel_rfl) (by kernel_rfl)) ?_
      refine f_mask (L' := [rowF AreaF 43 (sla (fa89 149)) (slc (fa89 149)) (ms ++ [(⟨x76.lx + dx, x76.ly + dy, x76.hx + dx, x76.hy + dy⟩ : KA)]), rowF AreaF 43 rp91 rc92 (ws ++ [(⟨x76.ly, x76.lx, x76.hy, x76.hx⟩ : KA)]), pt b74 (.cells #[Ix (dx), Ix (dy)] 28), rowF VecF 28 p67 c68 way69, rowF VecF 28 p36 c37 way38, rowF VecF 28 p9 c10 way11, pt b8 (.cells #[Ix (p5.x), Ix (p5.y)] 28), pt b7 (.cells #[Ix (p3.x), Ix (p3.y)] 28), rowF AreaF 43 (sla (fa35 81)) (slc (fa35 81)) (zs19 ++ zs27), rowF AreaF 43 (sla (fa66 117)) (slc (fa66 117)) (zs50 ++ zs58)]) [true, true, true, true, true, true, true, true, true, true, false, false, false] rfl ?_
      exact f_cut ⟨(k + 1, (ms ++ [(⟨x76.lx + dx, x76.ly + dy, x76.hx + dx, x76.hy + dy⟩ : KA)]), (sla (fa89 149)), (slc (fa89 149)), (ws ++ [(⟨x76.ly, x76.lx, x76.hy, x76.hx⟩ : KA)]), rp91, rc92), ⟨⟨rfl, rfl, rfl, rfl, rfl, rfl, rfl, rfl, rfl, rfl, rfl, rfl, rfl⟩, rfl, ⟨by omega, by rw [hms, map_next _ hx77]; rfl, by rw [hws, map_next _ hx77]; rfl⟩⟩, (show l.length - (k + 1) < l.length - k from by omega)⟩
    ·
      refine c_exit ?_
      refine f_then_exit ?_
      refine f_then_exit ?_
      refine f_exit ?_
      refine f_then ?_
      refine c_seq ?_
      rw [List.take_of_length_le (by omega)] at hms hws
      have hnp1 := hnp4
      have hnp2 := hnp6
      unfold nearP at hnp1 hnp2
      refine c_any [⟨[], [], [0], [168], fun f => f 168 = .slice ma (ms.length) mc⟩, ⟨[], [], [1], [169], fun f => f 169 = .func (.func 15) #[] #[.pointer (some ⟨b74, 0, none⟩)]⟩, ⟨[], [], [2], [170], fun f => f 170 = .agg #[Ix (p3.x), Ix (p3.y)]⟩, ⟨[1, 2], [1, 2], [], [171], fun f => f 171 = .agg #[Ix (p3.x + dx), Ix (p3.y + dy)]⟩, ⟨[], [], [1], [172], fun f => f 172 = .func (.func 15) #[] #[.pointer (some ⟨b74, 0, none⟩)]⟩, ⟨[], [], [3], [173], fun f => f 173 = .agg #[Ix (p5.x), Ix (p5.y)]⟩, ⟨[1, 2, 3, 4, 5], [4, 5], [], [174], fun f => f 174 = .agg #[Ix (p5.x + dx), Ix (p5.y + dy)]⟩, ⟨[0, 1, 2, 3, 4, 5, 6], [0, 3, 6], [], [175], fun f => f 175 = .tuple #[.slice (fdC (f 175)) ((fdL (f 175))) (fdD (f 175)), Nx ((fdN (f 175))), Ix ((fdE (f 175)))]⟩, ⟨[0, 1, 2, 3, 4, 5, 6, 7], [7], [], [167, 175], fun f => f 167 = .tuple #[.slice (fdC (f 175)) ((fdL (f 175))) (fdD (f 175)), Nx ((fdN (f 175))), Ix ((fdE (f 175)))]⟩, ⟨[0, 1, 2, 3, 4, 5, 6, 7, 8], [8], [], [175, 176], fun f => f 176 = .slice (fdC (f 175)) ((fdL (f 175))) (fdD (f 175))⟩, ⟨[0, 1, 2, 3, 4, 5, 6, 7, 8], [8], [], [175, 177], fun f => f 177 = Nx ((fdN (f 175)))⟩, ⟨[0, 1, 2, 3, 4, 5, 6, 7, 8], [8], [], [175, 178], fun f => f 178 = Ix ((fdE (f 175)))⟩, ⟨[0, 1, 2, 3, 4, 5, 6, 7, 8, 9], [9], [], [34, 175], fun f => f 34 = .slice (fdC (f 175)) ((fdL (f 175))) (fdD (f 175))⟩, ⟨[0, 1, 2, 3, 4, 5, 6, 7, 8, 9, 10, 12], [10], [], [35, 175], fun f => f 35 = Nx ((fdN (f 175)))⟩, ⟨[0, 1, 2, 3, 4, 5, 6, 7, 8, 9, 10, 11, 12, 13], [11], [], [36, 175], fun f => f 36 = Ix ((fdE (f 175)))⟩] [⟨none, none, [7], [], fun _ => rowF AreaF 43 ma mc ms⟩, ⟨none, none, [], [], fun _ => rowF AreaF 43 wa wc ws⟩, ⟨none, none, [3, 6], [], fun _ => pt b74 (.cells #[Ix (dx), Ix (dy)] 28)⟩, ⟨none, none, [], [], fun _ => rowF VecF 28 p67 c68 way69⟩, ⟨none, none, [], [], fun _ => rowF VecF 28 p36 c37 way38⟩, ⟨none, none, [], [], fun _ => rowF VecF 28 p9 c10 way11⟩, ⟨none, none, [5], [], fun _ => pt b8 (.cells #[Ix (p5.x), Ix (p5.y)] 28)⟩, ⟨none, none, [2], [], fun _ => pt b7 (.cells #[Ix (p3.x), Ix (p3.y)] 28)⟩, ⟨none, none, [], [], fun _ => rowF AreaF 43 (sla (fa35 81)) (slc (fa35 81)) (zs19 ++ zs27)⟩, ⟨none, none, [], [], fun _ => rowF AreaF 43 (sla (fa66 117)) (slc (fa66 117)) (zs50 ++ zs58)⟩, ⟨(some 7), none, [], [175], fun f => findRes ms (⟨p3.x + dx, p3.y + dy⟩ : KV) (⟨p5.x + dx, p5.y + dy⟩ : KV) (fdC (f 175)) (fdL (f 175)) (fdD (f 175)) (fdN (f 175)) (fdE (f 175))⟩] [(30, .slice ma (ms.length) mc), (29, .func (.func 15) #[] #[.pointer (some ⟨b74, 0, none⟩)]), (14, .pointer (some ⟨b7, 0, none⟩)), (15, .pointer (some ⟨b8, 0, none⟩)), (13, .slice p1 (l.length) (c2)), (17, Nx (n12)), (18, Ix (e13)), (26, Nx (n70)), (27, Ix (e71)), (31, .slice wa (ws.length) wc)] [4, 2, 3, 5, 6, 7, 8, 1, 9] [] (by kernel_rfl) (by kernel_rfl) (by kernel_rfl) (by kernel_rfl) rfl ⟨rfl, rfl, rfl, rfl, rfl, rfl, rfl, rfl, rfl, rfl, trivial⟩ ⟨?_, ?_, ?_, ?_, ?_, ?_, ?_, ?_, ?_, ?_, ?_, ?_, ?_, ?_, ?_, trivial⟩ ?_
      · rintro f M - ⟨i0, -⟩
        have hs30 : f 30 = .slice ma (ms.length) mc := i0
        refine ob_start (L' := M) (by rfl) (up_cons rfl hs30) ?_
        refine l_val (v := .slice ma (ms.length) mc) rfl rfl rfl (e_move) ?_
        refine l_nil ?_
        exact f_owes_d (up_cons rfl hs30) rfl (List.Perm.refl _)
      · rintro f M - ⟨i0, -⟩
        have hs29 : f 29 = .func (.func 15) #[] #[.pointer (some ⟨b74, 0, none⟩)] := i0
        refine ob_start (L' := M) (by rfl) (up_cons rfl hs29) ?_
        refine l_val (v := .func (.func 15) #[] #[.pointer (some ⟨b74, 0, none⟩)]) rfl rfl rfl (e_move) ?_
        refine l_nil ?_
        exact f_owes_d (up_cons rfl hs29) rfl (List.Perm.refl _)
      · rintro f M - ⟨i0, -⟩
        have hs14 : f 14 = .pointer (some ⟨b7, 0, none⟩) := i0
        refine ob_start (L' := pt b7 (.cells #[Ix (p3.x), Ix (p3.y)] 28) :: M) (by rfl) (up_cons rfl hs14) ?_
        refine l_val (v := .agg #[Ix (p3.x), Ix (p3.y)]) rfl rfl rfl (e_load tp7 (cs := [Ix (p3.x), Ix (p3.y)]) rfl (k_pt 0 (cs := #[Ix (p3.x), Ix (p3.y)]) (vs := [Ix (p3.x), Ix (p3.y)]) rfl rfl) rfl) ?_
        refine l_nil ?_
        exact f_owes_d (up_cons rfl hs14) rfl (perm_front 0 rfl)
      · rintro f M ⟨k0, k1, -⟩ -
        have hs169 : f 169 = .func (.func 15) #[] #[.pointer (some ⟨b74, 0, none⟩)] := k0
        have hs170 : f 170 = .agg #[Ix (p3.x), Ix (p3.y)] := k1
        refine ob_start (L' := pt b74 (.cells #[Ix (dx), Ix (dy)] 28) :: M) (by rfl) (up_cons (up_cons rfl hs169) hs170) ?_
        refine l_call rfl rfl rfl (cl_value (fst := []) (cap := [.pointer (some ⟨b74, 0, none⟩)]) (vs := [.agg #[Ix (p3.x), Ix (p3.y)]]) (all := [.agg #[Ix (p3.x), Ix (p3.y)], .pointer (some ⟨b74, 0, none⟩)]) sd124 rfl rfl rfl) ?_
        intro w hw
        obtain ⟨β1, sb, kn, hw1, back⟩ := St.frame_all hw
        refine (move_ok β1 w hw1 b74 ⟨p3.x, p3.y⟩ dx dy (by show -1000 ≤ p3.x ∧ p3.x ≤ 1000 ∧ -1000 ≤ p3.y ∧ p3.y ≤ 1000; omega) hd1 hd2 hd3 hd4 (kn _ (k_pt 0 (o := 0) (cs := #[Ix (dx), Ix (dy)]) (vs := [Ix (dx), Ix (dy)]) rfl rfl))).mono ?_
        rintro e w' ⟨rfl, hw'⟩
        refine ⟨_, rfl, _, back _ _ hw', ?_⟩
        clear hw hw1 hw' back kn sb
        refine l_nil ?_
        exact f_owes_d (up_cons (up_cons rfl hs169) hs170) rfl (perm_front 0 rfl)
      · rintro f M - ⟨i0, -⟩
        have hs29 : f 29 = .func (.func 15) #[] #[.pointer (some ⟨b74, 0, none⟩)] := i0
        refine ob_start (L' := M) (by rfl) (up_cons rfl hs29) ?_
        refine l_val (v := .func (.func 15) #[] #[.pointer (some ⟨b74, 0, none⟩)]) rfl rfl rfl (e_move) ?_
        refine l_nil ?_
        exact f_owes_d (up_cons rfl hs29) rfl (List.Perm.refl _)
      · rintro f M - ⟨i0, -⟩
        have hs15 : f 15 = .pointer (some ⟨b8, 0, none⟩) := i0
        refine ob_start (L' := pt b8 (.cells #[Ix (p5.x), Ix (p5.y)] 28) :: M) (by rfl) (up_cons rfl hs15) ?_
        refine l_val (v := .agg #[Ix (p5.x), Ix (p5.y)]) rfl rfl rfl (e_load tp7 (cs := [Ix (p5.x), Ix (p5.y)]) rfl (k_pt 0 (cs := #[Ix (p5.x), Ix (p5.y)]) (vs := [Ix (p5.x), Ix (p5.y)]) rfl rfl) rfl) ?_
        refine l_nil ?_
        exact f_owes_d (up_cons rfl hs15) rfl (perm_front 0 rfl)
      · rintro f M ⟨k0, k1, -⟩ -
        have hs172 : f 172 = .func (.func 15) #[] #[.pointer (some ⟨b74, 0, none⟩)] := k0
        have hs173 : f 173 = .agg #[Ix (p5.x), Ix (p5.y)] := k1
        refine ob_start (L' := pt b74 (.cells #[Ix (dx), Ix (dy)] 28) :: M) (by rfl) (up_cons (up_cons rfl hs172) hs173) ?_
        refine l_call rfl rfl rfl (cl_value (fst := []) (cap := [.pointer (some ⟨b74, 0, none⟩)]) (vs := [.agg #[Ix (p5.x), Ix (p5.y)]]) (all := [.agg #[Ix (p5.x), Ix (p5.y)], .pointer (some ⟨b74, 0, none⟩)]) sd124 rfl rfl rfl) ?_
        intro w hw
        obtain ⟨β1, sb, kn, hw1, back⟩ := St.frame_all hw
        refine (move_ok β1 w hw1 b74 ⟨p5.x, p5.y⟩ dx dy (by show -1000 ≤ p5.x ∧ p5.x ≤ 1000 ∧ -1000 ≤ p5.y ∧ p5.y ≤ 1000; omega) hd1 hd2 hd3 hd4 (kn _ (k_pt 0 (o := 0) (cs := #[Ix (dx), Ix (dy)]) (vs := [Ix (dx), Ix (dy)]) rfl rfl))).mono ?_
        rintro e w' ⟨rfl, hw'⟩
        refine ⟨_, rfl, _, back _ _ hw', ?_⟩
        clear hw hw1 hw' back kn sb
        refine l_nil ?_
        exact f_owes_d (up_cons (up_cons rfl hs172) hs173) rfl (perm_front 0 rfl)
      · rintro f M ⟨k0, k1, k2, -⟩ -
        have hs168 : f 168 = .slice ma (ms.length) mc := k0
        have hs171 : f 171 = .agg #[Ix (p3.x + dx), Ix (p3.y + dy)] := k1
        have hs174 : f 174 = .agg #[Ix (p5.x + dx), Ix (p5.y + dy)] := k2
        refine ob_start (L' := rowF AreaF 43 ma mc ms :: M) (by rfl) (up_cons (up_cons (up_cons rfl hs168) hs171) hs174) ?_
        refine l_call rfl rfl rfl (cl_value (fst := []) (cap := []) (vs := [.slice ma (ms.length) mc, .agg #[Ix (p3.x + dx), Ix (p3.y + dy)], .agg #[Ix (p5.x + dx), Ix (p5.y + dy)]]) (all := [.slice ma (ms.length) mc, .agg #[Ix (p3.x + dx), Ix (p3.y + dy)], .agg #[Ix (p5.x + dx), Ix (p5.y + dy)]]) ty103 rfl rfl rfl) ?_
        intro w hw
        obtain ⟨β1, sb, kn, hw1, back⟩ := St.frame_all hw
        refine (findG_ok β1 w hw1 _ ms (kn _ (k_flN 0 (F := AreaF) (m := ms.length) rfl rfl)) (⟨p3.x + dx, p3.y + dy⟩ : KV) (⟨p5.x + dx, p5.y + dy⟩ : KV)).mono ?_
        rintro e w' ⟨p98, L99, c100, n101, e102, rfl, hw'⟩
        refine ⟨_, rfl, _, back _ _ hw', ?_⟩
        clear hw hw1 hw' back kn sb
        refine l_nil ?_
        exact f_owes_d (up_cons (up_cons (up_cons rfl hs168) hs171) hs174) rfl ((perm_front 0 rfl).trans (perm_front 1 rfl))
      · rintro f M ⟨k0, -⟩ -
        have hs175 : f 175 = .tuple #[.slice (fdC (f 175)) ((fdL (f 175))) (fdD (f 175)), Nx ((fdN (f 175))), Ix ((fdE (f 175)))] := k0
        refine ob_start (L' := M) (by rfl) (up_cons rfl hs175) ?_
        refine l_val (v := .tuple #[.slice (fdC (f 175)) ((fdL (f 175))) (fdD (f 175)), Nx ((fdN (f 175))), Ix ((fdE (f 175)))]) rfl rfl rfl (e_move) ?_
        refine l_nil ?_
        exact f_owes_d (up_cons rfl hs175) rfl (List.Perm.refl _)
      · rintro f M ⟨k0, -⟩ -
        have hs167 : f 167 = .tuple #[.slice (fdC (f 175)) ((fdL (f 175))) (fdD (f 175)), Nx ((fdN (f 175))), Ix ((fdE (f 175)))] := k0
        refine ob_start (L' := M) (by rfl) (up_cons rfl hs167) ?_
        refine l_val (v := .slice (fdC (f 175)) ((fdL (f 175))) (fdD (f 175))) rfl rfl rfl (e_extract (vs := #[.slice (fdC (f 175)) ((fdL (f 175))) (fdD (f 175)), Nx ((fdN (f 175))), Ix ((fdE (f 175)))]) rfl rfl) ?_
        refine l_nil ?_
        exact f_owes_d (up_cons rfl hs167) rfl (List.Perm.refl _)
      · rintro f M ⟨k0, -⟩ -
        have hs167 : f 167 = .tuple #[.slice (fdC (f 175)) ((fdL (f 175))) (fdD (f 175)), Nx ((fdN (f 175))), Ix ((fdE (f 175)))] := k0
        refine ob_start (L' := M) (by rfl) (up_cons rfl hs167) ?_
        refine l_val (v := Nx ((fdN (f 175)))) rfl rfl rfl (e_extract (vs := #[.slice (fdC (f 175)) ((fdL (f 175))) (fdD (f 175)), Nx ((fdN (f 175))), Ix ((fdE (f 175)))]) rfl rfl) ?_
        refine l_nil ?_
        exact f_owes_d (up_cons rfl hs167) rfl (List.Perm.refl _)
      · rintro f M ⟨k0, -⟩ -
        have hs167 : f 167 = .tuple #[.slice (fdC (f 175)) ((fdL (f 175))) (fdD (f 175)), Nx ((fdN (f 175))), Ix ((fdE (f 175)))] := k0
        refine ob_start (L' := M) (by rfl) (up_cons rfl hs167) ?_
        refine l_val (v := Ix ((fdE (f 175)))) rfl rfl rfl (e_extract (vs := #[.slice (fdC (f 175)) ((fdL (f 175))) (fdD (f 175)), Nx ((fdN (f 175))), Ix ((fdE (f 175)))]) rfl rfl) ?_
        refine l_nil ?_
        exact f_owes_d (up_cons rfl hs167) rfl (List.Perm.refl _)
      · rintro f M ⟨k0, -⟩ -
        have hs176 : f 176 = .slice (fdC (f 175)) ((fdL (f 175))) (fdD (f 175)) := k0
        refine ob_start (L' := M) (by rfl) (up_cons rfl hs176) ?_
        refine l_val (v := .slice (fdC (f 175)) ((fdL (f 175))) (fdD (f 175))) rfl rfl rfl (e_assign) ?_
        refine l_nil ?_
        exact f_owes_d (up_cons rfl hs176) rfl (List.Perm.refl _)
      · rintro f M ⟨k0, -⟩ -
        have hs177 : f 177 = Nx ((fdN (f 175))) := k0
        refine ob_start (L' := M) (by rfl) (up_cons rfl hs177) ?_
        refine l_val (v := Nx ((fdN (f 175)))) rfl rfl rfl (e_assign) ?_
        refine l_nil ?_
        exact f_owes_d (up_cons rfl hs177) rfl (List.Perm.refl _)
      · rintro f M ⟨k0, -⟩ -
        have hs178 : f 178 = Ix ((fdE (f 175))) := k0
        refine ob_start (L' := M) (by rfl) (up_cons rfl hs178) ?_
        refine l_val (v := Ix ((fdE (f 175)))) rfl rfl rfl (e_assign) ?_
        refine l_nil ?_
        exact f_owes_d (up_cons rfl hs178) rfl (List.Perm.refl _)
      rintro fa103 ⟨-, -, -, -, -, -, -, -, -, -, -, -, k12, k13, k14, -⟩ ⟨j0, j1, j2, j3, j4, j5, j6, j7, j8, -⟩
      refine f_re (L' := [rowF AreaF 43 ma mc ms, rowF AreaF 43 wa wc ws, pt b74 (.cells #[Ix (dx), Ix (dy)] 28), rowF VecF 28 p67 c68 way69, rowF VecF 28 p36 c37 way38, rowF VecF 28 p9 c10 way11, pt b8 (.cells #[Ix (p5.x), Ix (p5.y)] 28), pt b7 (.cells #[Ix (p3.x), Ix (p3.y)] 28), rowF AreaF 43 (sla (fa35 81)) (slc (fa35 81)) (zs19 ++ zs27), rowF AreaF 43 (sla (fa66 117)) (slc (fa66 117)) (zs50 ++ zs58), findRes ms (⟨p3.x + dx, p3.y + dy⟩ : KV) (⟨p5.x + dx, p5.y + dy⟩ : KV) (fdC (fa103 175)) (fdL (fa103 175)) (fdD (fa103 175)) (fdN (fa103 175)) (fdE (fa103 175))]) (by rfl) ?_
      refine f_rebase (d := 13) (v := .slice p1 (l.length) (c2)) j0 ?_
      refine f_rebase (d := 14) (v := .pointer (some ⟨b7, 0, none⟩)) j1 ?_
      refine f_rebase (d := 15) (v := .pointer (some ⟨b8, 0, none⟩)) j2 ?_
      refine f_rebase (d := 17) (v := Nx (n12)) j3 ?_
      refine f_rebase (d := 18) (v := Ix (e13)) j4 ?_
      refine f_rebase (d := 26) (v := Nx (n70)) j5 ?_
      refine f_rebase (d := 27) (v := Ix (e71)) j6 ?_
      refine f_rebase (d := 29) (v := .func (.func 15) #[] #[.pointer (some ⟨b74, 0, none⟩)]) j7 ?_
      refine f_rebase (d := 31) (v := .slice wa (ws.length) wc) j8 ?_
      refine f_rebase (d := 34) (v := .slice (fdC (fa103 175)) ((fdL (fa103 175))) (fdD (fa103 175))) k12 ?_
      refine f_rebase (d := 35) (v := Nx ((fdN (fa103 175)))) k13 ?_
      refine f_rebase (d := 36) (v := Ix ((fdE (fa103 175)))) k14 ?_
      refine f_then ?_
      refine c_seq ?_
      refine c_perm (L' := [findRes ms (⟨p3.x + dx, p3.y + dy⟩ : KV) (⟨p5.x + dx, p5.y + dy⟩ : KV) (fdC (fa103 175)) (fdL (fa103 175)) (fdD (fa103 175)) (fdN (fa103 175)) (fdE (fa103 175)), rowF AreaF 43 ma mc ms, rowF AreaF 43 wa wc ws, pt b74 (.cells #[Ix (dx), Ix (dy)] 28), rowF VecF 28 p67 c68 way69, rowF VecF 28 p36 c37 way38, rowF VecF 28 p9 c10 way11, pt b8 (.cells #[Ix (p5.x), Ix (p5.y)] 28), pt b7 (.cells #[Ix (p3.x), Ix (p3.y)] 28), rowF AreaF 43 (sla (fa35 81)) (slc (fa35 81)) (zs19 ++ zs27), rowF AreaF 43 (sla (fa66 117)) (slc (fa66 117)) (zs50 ++ zs58)]) (perm_ix [10, 0, 1, 2, 3, 4, 5, 6, 7, 8, 9] 11 rfl (by kernel_rfl) (by kernel_rfl)) ?_
      refine c_openF rfl (fun way104 hwy105 hF106 hnb107 => ?_)
      refine c_region ?_
      refine l_val (v := .slice p1 (l.length) (c2)) rfl rfl rfl (e_move) ?_
      refine l_val (v := .agg #[Ix (p3.x), Ix (p3.y)]) rfl rfl rfl (e_load tp7 (cs := [Ix (p3.x), Ix (p3.y)]) rfl (k_pt 8 (cs := #[Ix (p3.x), Ix (p3.y)]) (vs := [Ix (p3.x), Ix (p3.y)]) rfl rfl) rfl) ?_
      refine l_val (v := .agg #[Ix (p5.x), Ix (p5.y)]) rfl rfl rfl (e_load tp7 (cs := [Ix (p5.x), Ix (p5.y)]) rfl (k_pt 7 (cs := #[Ix (p5.x), Ix (p5.y)]) (vs := [Ix (p5.x), Ix (p5.y)]) rfl rfl) rfl) ?_
      refine l_call rfl rfl rfl (cl_value (fst := []) (cap := []) (vs := [.slice p1 (l.length) (c2), .agg #[Ix (p3.x), Ix (p3.y)], .agg #[Ix (p5.x), Ix (p5.y)]]) (all := [.slice p1 (l.length) (c2), .agg #[Ix (p3.x), Ix (p3.y)], .agg #[Ix (p5.x), Ix (p5.y)]]) ty103 rfl rfl rfl) ?_
      intro w hw
      obtain ⟨β1, sb, kn, hw1, back⟩ := St.frame_all hw
      refine (find_ok β1 w hw1 _ l (Sl.mono _ _ _ _ _ sb hlS) p3 p5).mono ?_
      rintro e w' ⟨p108, c109, way110, n111, e112, rfl, hF113, hnb114, hw'⟩
      refine ⟨_, rfl, _, back _ _ hw', ?_⟩
      clear hw hw1 hw' back kn sb
      refine l_val (v := .tuple #[.slice p108 (way110.length) c109, Nx (n111), Ix (e112)]) rfl rfl rfl (e_move) ?_
      refine l_val (v := .slice p108 (way110.length) c109) rfl rfl rfl (e_extract (vs := #[.slice p108 (way110.length) c109, Nx (n111), Ix (e112)]) rfl rfl) ?_
      refine l_val (v := Nx (n111)) rfl rfl rfl (e_extract (vs := #[.slice p108 (way110.length) c109, Nx (n111), Ix (e112)]) rfl rfl) ?_
      refine l_val (v := Ix (e112)) rfl rfl rfl (e_extract (vs := #[.slice p108 (way110.length) c109, Nx (n111), Ix (e112)]) rfl rfl) ?_
      refine l_val (v := .slice p108 (way110.length) c109) rfl rfl rfl (e_assign) ?_
      refine l_val (v := Nx (n111)) rfl rfl rfl (e_assign) ?_
      refine l_val (v := Ix (e112)) rfl rfl rfl (e_assign) ?_
      refine l_nil ?_
      refine f_then ?_
      refine c_seq ?_
      refine c_any [⟨[], [], [0], [188], fun f => f 188 = .slice wa (ws.length) wc⟩, ⟨[], [], [1], [189], fun f => f 189 = .pointer (some ⟨b7, 1, none⟩)⟩, ⟨[1], [1], [], [190], fun f => f 190 = Ix (p3.y)⟩, ⟨[], [], [1], [191], fun f => f 191 = .pointer (some ⟨b7, 0, none⟩)⟩, ⟨[3], [3], [], [192], fun f => f 192 = Ix (p3.x)⟩, ⟨[1, 2, 3, 4], [2, 4], [], [193], fun f => f 193 = .agg #[Ix (p3.y), Ix (p3.x)]⟩, ⟨[], [], [2], [194], fun f => f 194 = .pointer (some ⟨b8, 1, none⟩)⟩, ⟨[6], [6], [], [195], fun f => f 195 = Ix (p5.y)⟩, ⟨[], [], [2], [196], fun f => f 196 = .pointer (some ⟨b8, 0, none⟩)⟩, ⟨[8], [8], [], [197], fun f => f 197 = Ix (p5.x)⟩, ⟨[1, 2, 3, 4, 5, 6, 7, 8, 9], [7, 9], [], [198], fun f => f 198 = .agg #[Ix (p5.y), Ix (p5.x)]⟩, ⟨[0, 1, 2, 3, 4, 5, 6, 7, 8, 9, 10], [0, 5, 10], [], [199], fun f => f 199 = .tuple #[.slice (fdC (f 199)) ((fdL (f 199))) (fdD (f 199)), Nx ((fdN (f 199))), Ix ((fdE (f 199)))]⟩, ⟨[0, 1, 2, 3, 4, 5, 6, 7, 8, 9, 10, 11], [11], [], [187, 199], fun f => f 187 = .tuple #[.slice (fdC (f 199)) ((fdL (f 199))) (fdD (f 199)), Nx ((fdN (f 199))), Ix ((fdE (f 199)))]⟩, ⟨[0, 1, 2, 3, 4, 5, 6, 7, 8, 9, 10, 11, 12], [12], [], [199, 200], fun f => f 200 = .slice (fdC (f 199)) ((fdL (f 199))) (fdD (f 199))⟩, ⟨[0, 1, 2, 3, 4, 5, 6, 7, 8, 9, 10, 11, 12], [12], [], [199, 201], fun f => f 201 = Nx ((fdN (f 199)))⟩, ⟨[0, 1, 2, 3, 4, 5, 6, 7, 8, 9, 10, 11, 12], [12], [], [199, 202], fun f => f 202 = Ix ((fdE (f 199)))⟩, ⟨[0, 1, 2, 3, 4, 5, 6, 7, 8, 9, 10, 11, 12, 13], [13], [], [40, 199], fun f => f 40 = .slice (fdC (f 199)) ((fdL (f 199))) (fdD (f 199))⟩, ⟨[0, 1, 2, 3, 4, 5, 6, 7, 8, 9, 10, 11, 12, 13, 14, 16], [14], [], [41, 199], fun f => f 41 = Nx ((fdN (f 199)))⟩, ⟨[0, 1, 2, 3, 4, 5, 6, 7, 8, 9, 10, 11, 12, 13, 14, 15, 16, 17], [15], [], [42, 199], fun f => f 42 = Ix ((fdE (f 199)))⟩] [⟨none, none, [], [], fun _ => rowF VecF 28 p108 c109 way110⟩, ⟨none, none, [], [], fun _ => rowF VecF 28 (fdC (fa103 175)) (fdD (fa103 175)) way104⟩, ⟨none, none, [], [], fun _ => rowF AreaF 43 ma mc ms⟩, ⟨none, none, [11], [], fun _ => rowF AreaF 43 wa wc ws⟩, ⟨none, none, [], [], fun _ => pt b74 (.cells #[Ix (dx), Ix (dy)] 28)⟩, ⟨none, none, [], [], fun _ => rowF VecF 28 p67 c68 way69⟩, ⟨none, none, [], [], fun _ => rowF VecF 28 p36 c37 way38⟩, ⟨none, none, [], [], fun _ => rowF VecF 28 p9 c10 way11⟩, ⟨none, none, [7, 9], [], fun _ => pt b8 (.cells #[Ix (p5.x), Ix (p5.y)] 28)⟩, ⟨none, none, [2, 4], [], fun _ => pt b7 (.cells #[Ix (p3.x), Ix (p3.y)] 28)⟩, ⟨none, none, [], [], fun _ => rowF AreaF 43 (sla (fa35 81)) (slc (fa35 81)) (zs19 ++ zs27)⟩, ⟨none, none, [], [], fun _ => rowF AreaF 43 (sla (fa66 117)) (slc (fa66 117)) (zs50 ++ zs58)⟩, ⟨(some 11), none, [], [199], fun f => findRes ws (⟨p3.y, p3.x⟩ : KV) (⟨p5.y, p5.x⟩ : KV) (fdC (f 199)) (fdL (f 199)) (fdD (f 199)) (fdN (f 199)) (fdE (f 199))⟩] [(31, .slice wa (ws.length) wc), (14, .pointer (some ⟨b7, 0, none⟩)), (15, .pointer (some ⟨b8, 0, none⟩)), (17, Nx (n12)), (18, Ix (e13)), (26, Nx (n70)), (27, Ix (e71)), (29, .func (.func 15) #[] #[.pointer (some ⟨b74, 0, none⟩)]), (34, .slice (fdC (fa103 175)) ((fdL (fa103 175))) (fdD (fa103 175))), (35, Nx ((fdN (fa103 175)))), (36, Ix ((fdE (fa103 175)))), (37, .slice p108 (way110.length) c109)] [3, 4, 5, 6, 7, 8, 9, 10, 11] [] (by kernel_rfl) (by kernel_rfl) (by kernel_rfl) (by kernel_rfl) rfl ⟨rfl, rfl, rfl, rfl, rfl, rfl, rfl, rfl, rfl, rfl, rfl, rfl, trivial⟩ ⟨?_, ?_, ?_, ?_, ?_, ?_, ?_, ?_, ?_, ?_, ?_, ?_, ?_, ?_, ?_, ?_, ?_, ?_, ?_, trivial⟩ ?_
      · rintro f M - ⟨i0, -⟩
        have hs31 : f 31 = .slice wa (ws.length) wc := i0
        refine ob_start (L' := M) (by rfl) (up_cons rfl hs31) ?_
        refine l_val (v := .slice wa (ws.length) wc) rfl rfl rfl (e_move) ?_
        refine l_nil ?_
        exact f_owes_d (up_cons rfl hs31) rfl (List.Perm.refl _)
      · rintro f M - ⟨i0, -⟩
        have hs14 : f 14 = .pointer (some ⟨b7, 0, none⟩) := i0
        refine ob_start (L' := M) (by rfl) (up_cons rfl hs14) ?_
        refine l_val (v := .pointer (some ⟨b7, 1, none⟩)) rfl rfl rfl (e_fieldPt (b := b7) (o := 0) rfl tp4) ?_
        refine l_nil ?_
        exact f_owes_d (up_cons rfl hs14) rfl (List.Perm.refl _)
      · rintro f M ⟨k0, -⟩ -
        have hs189 : f 189 = .pointer (some ⟨b7, 1, none⟩) := k0
        refine ob_start (L' := pt b7 (.cells #[Ix (p3.x), Ix (p3.y)] 28) :: M) (by rfl) (up_cons rfl hs189) ?_
        refine l_val (v := Ix (p3.y)) rfl rfl rfl (e_load1 tp2 (v := Ix (p3.y)) rfl (k_pt 0 (cs := #[Ix (p3.x), Ix (p3.y)]) (vs := [Ix (p3.y)]) rfl rfl)) ?_
        refine l_nil ?_
        exact f_owes_d (up_cons rfl hs189) rfl (perm_front 0 rfl)
      · rintro f M - ⟨i0, -⟩
        have hs14 : f 14 = .pointer (some ⟨b7, 0, none⟩) := i0
        refine ob_start (L' := M) (by rfl) (up_cons rfl hs14) ?_
        refine l_val (v := .pointer (some ⟨b7, 0, none⟩)) rfl rfl rfl (e_fieldPt (b := b7) (o := 0) rfl tp1) ?_
        refine l_nil ?_
        exact f_owes_d (up_cons rfl hs14) rfl (List.Perm.refl _)
      · rintro f M ⟨k0, -⟩ -
        have hs191 : f 191 = .pointer (some ⟨b7, 0, none⟩) := k0
        refine ob_start (L' := pt b7 (.cells #[Ix (p3.x), Ix (p3.y)] 28) :: M) (by rfl) (up_cons rfl hs191) ?_
        refine l_val (v := Ix (p3.x)) rfl rfl rfl (e_load1 tp2 (v := Ix (p3.x)) rfl (k_pt 0 (cs := #[Ix (p3.x), Ix (p3.y)]) (vs := [Ix (p3.x)]) rfl rfl)) ?_
        refine l_nil ?_
        exact f_owes_d (up_cons rfl hs191) rfl (perm_front 0 rfl)
      · rintro f M ⟨k0, k1, -⟩ -
        have hs190 : f 190 = Ix (p3.y) := k0
        have hs192 : f 192 = Ix (p3.x) := k1
        refine ob_start (L' := M) (by rfl) (up_cons (up_cons rfl hs190) hs192) ?_
        refine l_call rfl rfl rfl (cl_value (fst := []) (cap := []) (vs := [Ix (p3.y), Ix (p3.x)]) (all := [Ix (p3.y), Ix (p3.x)]) ty102 rfl rfl rfl) ?_
        intro w hw
        obtain ⟨β1, sb, kn, hw1, back⟩ := St.frame_all hw
        refine (point_ok β1 w hw1 (p3.y) (p3.x)).mono ?_
        rintro e w' ⟨rfl, hw'⟩
        refine ⟨_, rfl, _, back _ _ hw', ?_⟩
        clear hw hw1 hw' back kn sb
        refine l_nil ?_
        exact f_owes_d (up_cons (up_cons rfl hs190) hs192) rfl (List.Perm.refl _)
      · rintro f M - ⟨i0, -⟩
        have hs15 : f 15 = .pointer (some ⟨b8, 0, none⟩) := i0
        refine ob_start (L' := M) (by rfl) (up_cons rfl hs15) ?_
        refine l_val (v := .pointer (some ⟨b8, 1, none⟩)) rfl rfl rfl (e_fieldPt (b := b8) (o := 0) rfl tp4) ?_
        refine l_nil ?_
        exact f_owes_d (up_cons rfl hs15) rfl (List.Perm.refl _)
      · rintro f M ⟨k0, -⟩ -
        have hs194 : f 194 = .pointer (some ⟨b8, 1, none⟩) := k0
        refine ob_start (L' := pt b8 (.cells #[Ix (p5.x), Ix (p5.y)] 28) :: M) (by rfl) (up_cons rfl hs194) ?_
        refine l_val (v := Ix (p5.y)) rfl rfl rfl (e_load1 tp2 (v := Ix (p5.y)) rfl (k_pt 0 (cs := #[Ix (p5.x), Ix (p5.y)]) (vs := [Ix (p5.y)]) rfl rfl)) ?_
        refine l_nil ?_
        exact f_owes_d (up_cons rfl hs194) rfl (perm_front 0 rfl)
      · rintro f M - ⟨i0, -⟩
        have hs15 : f 15 = .pointer (some ⟨b8, 0, none⟩) := i0
        refine ob_start (L' := M) (by rfl) (up_cons rfl hs15) ?_
        refine l_val (v := .pointer (some ⟨b8, 0, none⟩)) rfl rfl rfl (e_fieldPt (b := b8) (o := 0) rfl tp1) ?_
        refine l_nil ?_
        exact f_owes_d (up_cons rfl hs15) rfl (List.Perm.refl _)
      · rintro f M ⟨k0, -⟩ -
        have hs196 : f 196 = .pointer (some ⟨b8, 0, none⟩) := k0
        refine ob_start (L' := pt b8 (.cells #[Ix (p5.x), Ix (p5.y)] 28) :: M) (by rfl) (up_cons rfl hs196) ?_
        refine l_val (v := Ix (p5.x)) rfl rfl rfl (e_load1 tp2 (v := Ix (p5.x)) rfl (k_pt 0 (cs := #[Ix (p5.x), Ix (p5.y)]) (vs := [Ix (p5.x)]) rfl rfl)) ?_
        refine l_nil ?_
        exact f_owes_d (up_cons rfl hs196) rfl (perm_front 0 rfl)
      · rintro f M ⟨k0, k1, -⟩ -
        have hs195 : f 195 = Ix (p5.y) := k0
        have hs197 : f 197 = Ix (p5.x) := k1
        refine ob_start (L' := M) (by rfl) (up_cons (up_cons rfl hs195) hs197) ?_
        refine l_call rfl rfl rfl (cl_value (fst := []) (cap := []) (vs := [Ix (p5.y), Ix (p5.x)]) (all := [Ix (p5.y), Ix (p5.x)]) ty102 rfl rfl rfl) ?_
        intro w hw
        obtain ⟨β1, sb, kn, hw1, back⟩ := St.frame_all hw
        refine (point_ok β1 w hw1 (p5.y) (p5.x)).mono ?_
        rintro e w' ⟨rfl, hw'⟩
        refine ⟨_, rfl, _, back _ _ hw', ?_⟩
        clear hw hw1 hw' back kn sb
        refine l_nil ?_
        exact f_owes_d (up_cons (up_cons rfl hs195) hs197) rfl (List.Perm.refl _)
      · rintro f M ⟨k0, k1, k2, -⟩ -
        have hs188 : f 188 = .slice wa (ws.length) wc := k0
        have hs193 : f 193 = .agg #[Ix (p3.y), Ix (p3.x)] := k1
        have hs198 : f 198 = .agg #[Ix (p5.y), Ix (p5.x)] := k2
        refine ob_start (L' := rowF AreaF 43 wa wc ws :: M) (by rfl) (up_cons (up_cons (up_cons rfl hs188) hs193) hs198) ?_
        refine l_call rfl rfl rfl (cl_value (fst := []) (cap := []) (vs := [.slice wa (ws.length) wc, .agg #[Ix (p3.y), Ix (p3.x)], .agg #[Ix (p5.y), Ix (p5.x)]]) (all := [.slice wa (ws.length) wc, .agg #[Ix (p3.y), Ix (p3.x)], .agg #[Ix (p5.y), Ix (p5.x)]]) ty103 rfl rfl rfl) ?_
        intro w hw
        obtain ⟨β1, sb, kn, hw1, back⟩ := St.frame_all hw
        refine (findG_ok β1 w hw1 _ ws (kn _ (k_flN 0 (F := AreaF) (m := ws.length) rfl rfl)) (⟨p3.y, p3.x⟩ : KV) (⟨p5.y, p5.x⟩ : KV)).mono ?_
        rintro e w' ⟨p120, L121, c122, n123, e124, rfl, hw'⟩
        refine ⟨_, rfl, _, back _ _ hw', ?_⟩
        clear hw hw1 hw' back kn sb
        refine l_nil ?_
        exact f_owes_d (up_cons (up_cons (up_cons rfl hs188) hs193) hs198) rfl ((perm_front 0 rfl).trans (perm_front 1 rfl))
      · rintro f M ⟨k0, -⟩ -
        have hs199 : f 199 = .tuple #[.slice (fdC (f 199)) ((fdL (f 199))) (fdD (f 199)), Nx ((fdN (f 199))), Ix ((fdE (f 199)))] := k0
        refine ob_start (L' := M) (by rfl) (up_cons rfl hs199) ?_
        refine l_val (v := .tuple #[.slice (fdC (f 199)) ((fdL (f 199))) (fdD (f 199)), Nx ((fdN (f 199))), Ix ((fdE (f 199)))]) rfl rfl rfl (e_move) ?_
        refine l_nil ?_
        exact f_owes_d (up_cons rfl hs199) rfl (List.Perm.refl _)
      · rintro f M ⟨k0, -⟩ -
        have hs187 : f 187 = .tuple #[.slice (fdC (f 199)) ((fdL (f 199))) (fdD (f 199)), Nx ((fdN (f 199))), Ix ((fdE (f 199)))] := k0
        refine ob_start (L' := M) (by rfl) (up_cons rfl hs187) ?_
        refine l_val (v := .slice (fdC (f 199)) ((fdL (f 199))) (fdD (f 199))) rfl rfl rfl (e_extract (vs := #[.slice (fdC (f 199)) ((fdL (f 199))) (fdD (f 199)), Nx ((fdN (f 199))), Ix ((fdE (f 199)))]) rfl rfl) ?_
        refine l_nil ?_
        exact f_owes_d (up_cons rfl hs187) rfl (List.Perm.refl _)
      · rintro f M ⟨k0, -⟩ -
        have hs187 : f 187 = .tuple #[.slice (fdC (f 199)) ((fdL (f 199))) (fdD (f 199)), Nx ((fdN (f 199))), Ix ((fdE (f 199)))] := k0
        refine ob_start (L' := M) (by rfl) (up_cons rfl hs187) ?_
        refine l_val (v := Nx ((fdN (f 199)))) rfl rfl rfl (e_extract (vs := #[.slice (fdC (f 199)) ((fdL (f 199))) (fdD (f 199)), Nx ((fdN (f 199))), Ix ((fdE (f 199)))]) rfl rfl) ?_
        refine l_nil ?_
        exact f_owes_d (up_cons rfl hs187) rfl (List.Perm.refl _)
      · rintro f M ⟨k0, -⟩ -
        have hs187 : f 187 = .tuple #[.slice (fdC (f 199)) ((fdL (f 199))) (fdD (f 199)), Nx ((fdN (f 199))), Ix ((fdE (f 199)))] := k0
        refine ob_start (L' := M) (by rfl) (up_cons rfl hs187) ?_
        refine l_val (v := Ix ((fdE (f 199)))) rfl rfl rfl (e_extract (vs := #[.slice (fdC (f 199)) ((fdL (f 199))) (fdD (f 199)), Nx ((fdN (f 199))), Ix ((fdE (f 199)))]) rfl rfl) ?_
        refine l_nil ?_
        exact f_owes_d (up_cons rfl hs187) rfl (List.Perm.refl _)
      · rintro f M ⟨k0, -⟩ -
        have hs200 : f 200 = .slice (fdC (f 199)) ((fdL (f 199))) (fdD (f 199)) := k0
        refine ob_start (L' := M) (by rfl) (up_cons rfl hs200) ?_
        refine l_val (v := .slice (fdC (f 199)) ((fdL (f 199))) (fdD (f 199))) rfl rfl rfl (e_assign) ?_
        refine l_nil ?_
        exact f_owes_d (up_cons rfl hs200) rfl (List.Perm.refl _)
      · rintro f M ⟨k0, -⟩ -
        have hs201 : f 201 = Nx ((fdN (f 199))) := k0
        refine ob_start (L' := M) (by rfl) (up_cons rfl hs201) ?_
        refine l_val (v := Nx ((fdN (f 199)))) rfl rfl rfl (e_assign) ?_
        refine l_nil ?_
        exact f_owes_d (up_cons rfl hs201) rfl (List.Perm.refl _)
      · rintro f M ⟨k0, -⟩ -
        have hs202 : f 202 = Ix ((fdE (f 199))) := k0
        refine ob_start (L' := M) (by rfl) (up_cons rfl hs202) ?_
        refine l_val (v := Ix ((fdE (f 199)))) rfl rfl rfl (e_assign) ?_
        refine l_nil ?_
        exact f_owes_d (up_cons rfl hs202) rfl (List.Perm.refl _)
      rintro fa125 ⟨-, -, -, -, -, -, -, -, -, -, -, -, -, -, -, -, -, k17, k18, -⟩ ⟨j0, j1, j2, j3, j4, j5, j6, j7, j8, -⟩
      refine f_re (L' := [rowF VecF 28 p108 c109 way110, rowF VecF 28 (fdC (fa103 175)) (fdD (fa103 175)) way104, rowF AreaF 43 ma mc ms, rowF AreaF 43 wa wc ws, pt b74 (.cells #[Ix (dx), Ix (dy)] 28), rowF VecF 28 p67 c68 way69, rowF VecF 28 p36 c37 way38, rowF VecF 28 p9 c10 way11, pt b8 (.cells #[Ix (p5.x), Ix (p5.y)] 28), pt b7 (.cells #[Ix (p3.x), Ix (p3.y)] 28), rowF AreaF 43 (sla (fa35 81)) (slc (fa35 81)) (zs19 ++ zs27), rowF AreaF 43 (sla (fa66 117)) (slc (fa66 117)) (zs50 ++ zs58), findRes ws (⟨p3.y, p3.x⟩ : KV) (⟨p5.y, p5.x⟩ : KV) (fdC (fa125 199)) (fdL (fa125 199)) (fdD (fa125 199)) (fdN (fa125 199)) (fdE (fa125 199))]) (by rfl) ?_
      refine f_rebase (d := 17) (v := Nx (n12)) j0 ?_
      refine f_rebase (d := 18) (v := Ix (e13)) j1 ?_
      refine f_rebase (d := 26) (v := Nx (n70)) j2 ?_
      refine f_rebase (d := 27) (v := Ix (e71)) j3 ?_
      refine f_rebase (d := 29) (v := .func (.func 15) #[] #[.pointer (some ⟨b74, 0, none⟩)]) j4 ?_
      refine f_rebase (d := 34) (v := .slice (fdC (fa103 175)) ((fdL (fa103 175))) (fdD (fa103 175))) j5 ?_
      refine f_rebase (d := 35) (v := Nx ((fdN (fa103 175)))) j6 ?_
      refine f_rebase (d := 36) (v := Ix ((fdE (fa103 175)))) j7 ?_
      refine f_rebase (d := 37) (v := .slice p108 (way110.length) c109) j8 ?_
      refine f_rebase (d := 41) (v := Nx ((fdN (fa125 199)))) k17 ?_
      refine f_rebase (d := 42) (v := Ix ((fdE (fa125 199)))) k18 ?_
      refine f_then ?_
      refine c_seq ?_
      refine c_seq ?_
      refine c_perm (L' := [findRes ws (⟨p3.y, p3.x⟩ : KV) (⟨p5.y, p5.x⟩ : KV) (fdC (fa125 199)) (fdL (fa125 199)) (fdD (fa125 199)) (fdN (fa125 199)) (fdE (fa125 199)), rowF VecF 28 p108 c109 way110, rowF VecF 28 (fdC (fa103 175)) (fdD (fa103 175)) way104, rowF AreaF 43 ma mc ms, rowF AreaF 43 wa wc ws, pt b74 (.cells #[Ix (dx), Ix (dy)] 28), rowF VecF 28 p67 c68 way69, rowF VecF 28 p36 c37 way38, rowF VecF 28 p9 c10 way11, pt b8 (.cells #[Ix (p5.x), Ix (p5.y)] 28), pt b7 (.cells #[Ix (p3.x), Ix (p3.y)] 28), rowF AreaF 43 (sla (fa35 81)) (slc (fa35 81)) (zs19 ++ zs27), rowF AreaF 43 (sla (fa66 117)) (slc (fa66 117)) (zs50 ++ zs58)]) (perm_ix [12, 0, 1, 2, 3, 4, 5, 6, 7, 8, 9, 10, 11] 13 rfl (by kernel_rfl) (by kernel_rfl)) ?_
      refine c_openF rfl (fun way126 hwy127 hF128 hnb129 => ?_)
      have hfT : FindR (l.drop K ++ l.take K) p3 p5 way69 n70 e71 := by have h := hF72; rwa [hz51, hz59] at h
      obtain ⟨ht1, ht2⟩ := find_same hM (hB.turn K).okM (fun a => ((turn_perm l K).mem_iff).symm) hF14 hfT
      have hns : ∀ i, i < (nodeL l p3 p5).length → _ := fun i hi => node_small hB hnp4 hnp6 hi
      rw [hms] at hF106
      rw [hws] at hF128
      obtain ⟨hm1, hm2, hm3⟩ := find_sim (sim_sh dx dy) hM (okM_map (sim_sh dx dy) hM fun a ha => sh_room (hsm a ha) hd1 hd2 hd3 hd4) hip hiq (fun u v ⟨i, hi, eu⟩ ⟨j, hj, ev⟩ => by rw [eu, ev]; exact len_sh (hns i hi) (hns j hj) hd1 hd2 hd3 hd4) hF113 hF106
      obtain ⟨hs1, hs2, hs3⟩ := find_sim sim_sw hM (okM_map sim_sw hM fun a ha => sw_room (hsm a ha)) hip hiq (fun u v _ _ => len_sw u v) hF113 hF128
      obtain ⟨hq1, hq2⟩ := find_same hM hM (fun _ => Iff.rfl) hF14 hF113
      have hwl3 : way104.length = way110.length := by rw [hm3, List.length_map]
      have hold := way_small hB hnp4 hnp6 hF113
      refine c_region ?_
      refine l_val (v := Ix (e71)) rfl rfl rfl (e_move) ?_
      refine l_val (v := Ix (e13)) rfl rfl rfl (e_move) ?_
      refine l_val (v := .bool (decide ((e71) ≠ (e13)))) rfl rfl rfl (e_neq (a := (e71)) (b := (e13)) rfl rfl) ?_
      refine l_val (v := .bool (decide ((e71) ≠ (e13)))) rfl rfl rfl (e_move) ?_
      refine l_split (s := 206) (p := (e71) ≠ (e13)) rfl (fun h => ?_) (fun h => ?_)
      exact absurd h (by omega)
      refine g_val (v := Nx (n70)) rfl rfl rfl rfl rfl (e_move) ?_
      refine g_val (v := Nx (n12)) rfl rfl rfl rfl rfl (e_move) ?_
      refine g_val (v := .bool (decide (((n70 : Nat) : Int) ≠ ((n12 : Nat) : Int)))) rfl rfl rfl rfl rfl (e_neq (a := ((n70 : Nat) : Int)) (b := ((n12 : Nat) : Int)) rfl rfl) ?_
      refine l_val (v := .bool (decide (((n70 : Nat) : Int) ≠ ((n12 : Nat) : Int)))) rfl rfl rfl (e_pick_f rfl) ?_
      refine l_val (v := .bool (decide (((n70 : Nat) : Int) ≠ ((n12 : Nat) : Int)))) rfl rfl rfl (e_move) ?_
      refine l_split (s := 211) (p := ((n70 : Nat) : Int) ≠ ((n12 : Nat) : Int)) rfl (fun h => ?_) (fun h => ?_)
      exact absurd h (by omega)
      refine g_val (v := Ix ((fdE (fa103 175)))) rfl rfl rfl rfl rfl (e_move) ?_
      refine g_val (v := Ix (e13)) rfl rfl rfl rfl rfl (e_move) ?_
      refine g_val (v := .bool (decide (((fdE (fa103 175))) ≠ (e13)))) rfl rfl rfl rfl rfl (e_neq (a := ((fdE (fa103 175)))) (b := (e13)) rfl rfl) ?_
      refine l_val (v := .bool (decide (((fdE (fa103 175))) ≠ (e13)))) rfl rfl rfl (e_pick_f rfl) ?_
      refine l_val (v := .bool (decide (((fdE (fa103 175))) ≠ (e13)))) rfl rfl rfl (e_move) ?_
      refine l_split (s := 216) (p := ((fdE (fa103 175))) ≠ (e13)) rfl (fun h => ?_) (fun h => ?_)
      exact absurd h (by omega)
      refine g_val (v := Nx ((fdN (fa103 175)))) rfl rfl rfl rfl rfl (e_move) ?_
      refine g_val (v := Nx (n12)) rfl rfl rfl rfl rfl (e_move) ?_
      refine g_val (v := .bool (decide ((((fdN (fa103 175)) : Nat) : Int) ≠ ((n12 : Nat) : Int)))) rfl rfl rfl rfl rfl (e_neq (a := (((fdN (fa103 175)) : Nat) : Int)) (b := ((n12 : Nat) : Int)) rfl rfl) ?_
      refine l_val (v := .bool (decide ((((fdN (fa103 175)) : Nat) : Int) ≠ ((n12 : Nat) : Int)))) rfl rfl rfl (e_pick_f rfl) ?_
      refine l_val (v := .bool (decide ((((fdN (fa103 175)) : Nat) : Int) ≠ ((n12 : Nat) : Int)))) rfl rfl rfl (e_move) ?_
      refine l_split (s := 221) (p := (((fdN (fa103 175)) : Nat) : Int) ≠ ((n12 : Nat) : Int)) rfl (fun h => ?_) (fun h => ?_)
      exact absurd h (by omega)
      refine g_val (v := Ix ((fdE (fa125 199)))) rfl rfl rfl rfl rfl (e_move) ?_
      refine g_val (v := Ix (e13)) rfl rfl rfl rfl rfl (e_move) ?_
      refine g_val (v := .bool (decide (((fdE (fa125 199))) ≠ (e13)))) rfl rfl rfl rfl rfl (e_neq (a := ((fdE (fa125 199)))) (b := (e13)) rfl rfl) ?_
      refine l_val (v := .bool (decide (((fdE (fa125 199))) ≠ (e13)))) rfl rfl rfl (e_pick_f rfl) ?_
      refine l_val (v := .bool (decide (((fdE (fa125 199))) ≠ (e13)))) rfl rfl rfl (e_move) ?_
      refine l_split (s := 226) (p := ((fdE (fa125 199))) ≠ (e13)) rfl (fun h => ?_) (fun h => ?_)
      exact absurd h (by omega)
      refine g_val (v := Nx ((fdN (fa125 199)))) rfl rfl rfl rfl rfl (e_move) ?_
      refine g_val (v := Nx (n12)) rfl rfl rfl rfl rfl (e_move) ?_
      refine g_val (v := .bool (decide ((((fdN (fa125 199)) : Nat) : Int) ≠ ((n12 : Nat) : Int)))) rfl rfl rfl rfl rfl (e_neq (a := (((fdN (fa125 199)) : Nat) : Int)) (b := ((n12 : Nat) : Int)) rfl rfl) ?_
      refine l_val (v := .bool (decide ((((fdN (fa125 199)) : Nat) : Int) ≠ ((n12 : Nat) : Int)))) rfl rfl rfl (e_pick_f rfl) ?_
      refine l_val (v := .bool (decide ((((fdN (fa125 199)) : Nat) : Int) ≠ ((n12 : Nat) : Int)))) rfl rfl rfl (e_move) ?_
      refine l_split (s := 231) (p := (((fdN (fa125 199)) : Nat) : Int) ≠ ((n12 : Nat) : Int)) rfl (fun h => ?_) (fun h => ?_)
      exact absurd h (by omega)
      refine g_val (v := .slice (fdC (fa103 175)) ((fdL (fa103 175))) (fdD (fa103 175))) rfl rfl rfl rfl rfl (e_move) ?_
      refine g_val (v := Nx ((fdL (fa103 175)))) rfl rfl rfl rfl rfl (e_len (a := (fdC (fa103 175))) (n := (fdL (fa103 175))) (c := (fdD (fa103 175))) rfl tv68) ?_
      refine g_val (v := .slice p108 (way110.length) c109) rfl rfl rfl rfl rfl (e_move) ?_
      refine g_val (v := Nx (way110.length)) rfl rfl rfl rfl rfl (e_len (a := p108) (n := way110.length) (c := c109) rfl tv68) ?_
      refine g_val (v := .bool (decide ((((fdL (fa103 175)) : Nat) : Int) ≠ ((way110.length : Nat) : Int)))) rfl rfl rfl rfl rfl (e_neq (a := (((fdL (fa103 175)) : Nat) : Int)) (b := ((way110.length : Nat) : Int)) rfl rfl) ?_
      refine l_val (v := .bool (decide ((((fdL (fa103 175)) : Nat) : Int) ≠ ((way110.length : Nat) : Int)))) rfl rfl rfl (e_pick_f rfl) ?_
      refine l_nil ?_
      refine f_then ?_
      refine c_if ((((fdL (fa103 175)) : Nat) : Int) ≠ ((way110.length : Nat) : Int)) rfl (fun hc130 => ?_) (fun hc130 => ?_)
      ·
        exact absurd hc130 (by omega)
      ·
        refine c_skip ?_
        refine f_then ?_
        refine c_seq ?_
        refine c_seq ?_
        refine c_rowcap (p := (fdC (fa103 175))) (m := way104.length) (c := (fdD (fa103 175))) (T := 28) (k := 2) (vs := _) 2 rfl (fun hcap hmaxc => ?_)
        unfold maxLen at hmaxc
        refine c_region ?_
        refine l_val (v := .slice (fdC (fa103 175)) ((fdL (fa103 175))) (fdD (fa103 175))) rfl rfl rfl (e_move) ?_
        refine l_val (v := Nx ((fdL (fa103 175)))) rfl rfl rfl (e_len (a := (fdC (fa103 175))) (n := (fdL (fa103 175))) (c := (fdD (fa103 175))) rfl tv68) ?_
        refine l_val (v := .int .i64 (0)) rfl rfl rfl (e_move) ?_
        refine l_nil ?_
        refine f_then ?_
        refine c_block ?_
        refine c_loop (fun (k : Nat) (f : Fm) (L : List Res) => (f 29 = .func (.func 15) #[] #[.pointer (some ⟨b74, 0, none⟩)] ∧ f 34 = .slice (fdC (fa103 175)) ((fdL (fa103 175))) (fdD (fa103 175)) ∧ f 37 = .slice p108 (way110.length) c109 ∧ f 239 = Nx ((fdL (fa103 175))) ∧ f 240 = Nx (k)) ∧ L = [rowF VecF 28 (fdC (fa125 199)) (fdD (fa125 199)) way126, rowF VecF 28 p108 c109 way110, rowF VecF 28 (fdC (fa103 175)) (fdD (fa103 175)) way104, rowF AreaF 43 ma mc ms, rowF AreaF 43 wa wc ws, pt b74 (.cells #[Ix (dx), Ix (dy)] 28), rowF VecF 28 p67 c68 way69, rowF VecF 28 p36 c37 way38, rowF VecF 28 p9 c10 way11, pt b8 (.cells #[Ix (p5.x), Ix (p5.y)] 28), pt b7 (.cells #[Ix (p3.x), Ix (p3.y)] 28), rowF AreaF 43 (sla (fa35 81)) (slc (fa35 81)) (zs19 ++ zs27), rowF AreaF 43 (sla (fa66 117)) (slc (fa66 117)) (zs50 ++ zs58)] ∧ (k ≤ (fdL (fa103 175)))) (fun (k : Nat) => (fdL (fa103 175)) - k) 0 ?_ ?_
        · exact ⟨⟨rfl, rfl, rfl, rfl, rfl⟩, rfl, (by omega)⟩
        rintro k f0 L0 ⟨⟨hs29, hs34, hs37, hs239, hs240⟩, hL, hk⟩
        subst L0
        refine rebase (d := 29) hs29 ?_
        refine rebase (d := 34) hs34 ?_
        refine rebase (d := 37) hs37 ?_
        refine rebase (d := 239) hs239 ?_
        refine rebase (d := 240) hs240 ?_
        clear hs29 hs34 hs37 hs239 hs240
        refine c_seq ?_
        refine c_region ?_
        refine l_val (v := .bool (decide (((k : Nat) : Int) < (((fdL (fa103 175)) : Nat) : Int)))) rfl rfl rfl (e_lss (a := ((k : Nat) : Int)) (b := (((fdL (fa103 175)) : Nat) : Int)) rfl rfl) ?_
        refine l_nil ?_
        refine f_then ?_
        refine c_seq ?_
        refine c_if (((k : Nat) : Int) < (((fdL (fa103 175)) : Nat) : Int)) rfl (fun hc131 => ?_) (fun hc131 => ?_)
        ·
          refine c_skip ?_
          refine f_then ?_
          refine c_seq ?_
          refine c_block ?_
          refine c_seq ?_
          refine c_region ?_
          refine l_val (v := Nx (k)) rfl rfl rfl (e_move) ?_
          refine l_val (v := Nx (k)) rfl rfl rfl (e_assign) ?_
          refine l_nil ?_
          refine f_then ?_
          refine c_seq ?_
          obtain ⟨x132, hx133⟩ : ∃ x_, way104[k]? = some x_ := ⟨_, List.getElem?_eq_getElem (by omega)⟩
          obtain ⟨x134, hx135⟩ : ∃ x_, way110[k]? = some x_ := ⟨_, List.getElem?_eq_getElem (by omega)⟩
          have hy1 := hold x134 (List.mem_of_getElem? hx135)
          refine c_any [⟨[], [], [0], [243], fun f => f 243 = .slice (fdC (fa103 175)) ((fdL (fa103 175))) (fdD (fa103 175))⟩, ⟨[], [], [1], [244], fun f => f 244 = Nx (k)⟩, ⟨[0, 1], [0, 1], [], [245], fun f => f 245 = .pointer (some ((ba (fdC (fa103 175))).add (k * 2)))⟩, ⟨[0, 1, 2], [2], [], [246], fun f => f 246 = .agg #[Ix (x132.x), Ix (x132.y)]⟩, ⟨[], [], [2], [247], fun f => f 247 = .func (.func 15) #[] #[.pointer (some ⟨b74, 0, none⟩)]⟩, ⟨[], [], [3], [248], fun f => f 248 = .slice p108 (way110.length) c109⟩, ⟨[], [], [1], [249], fun f => f 249 = Nx (k)⟩, ⟨[5, 6], [5, 6], [], [250], fun f => f 250 = .pointer (some ((ba p108).add (k * 2)))⟩, ⟨[5, 6, 7], [7], [], [251], fun f => f 251 = .agg #[Ix (x134.x), Ix (x134.y)]⟩, ⟨[4, 5, 6, 7, 8], [4, 8], [], [252], fun f => f 252 = .agg #[Ix (x134.x + dx), Ix (x134.y + dy)]⟩, ⟨[0, 1, 2, 3, 4, 5, 6, 7, 8, 9], [3, 9], [], [253], fun f => f 253 = .bool false⟩] [⟨none, none, [], [], fun _ => rowF VecF 28 (fdC (fa125 199)) (fdD (fa125 199)) way126⟩, ⟨none, none, [7, 8], [], fun _ => rowF VecF 28 p108 c109 way110⟩, ⟨none, none, [2, 3], [], fun _ => rowF VecF 28 (fdC (fa103 175)) (fdD (fa103 175)) way104⟩, ⟨none, none, [], [], fun _ => rowF AreaF 43 ma mc ms⟩, ⟨none, none, [], [], fun _ => rowF AreaF 43 wa wc ws⟩, ⟨none, none, [9], [], fun _ => pt b74 (.cells #[Ix (dx), Ix (dy)] 28)⟩, ⟨none, none, [], [], fun _ => rowF VecF 28 p67 c68 way69⟩, ⟨none, none, [], [], fun _ => rowF VecF 28 p36 c37 way38⟩, ⟨none, none, [], [], fun _ => rowF VecF 28 p9 c10 way11⟩, ⟨none, none, [], [], fun _ => pt b8 (.cells #[Ix (p5.x), Ix (p5.y)] 28)⟩, ⟨none, none, [], [], fun _ => pt b7 (.cells #[Ix (p3.x), Ix (p3.y)] 28)⟩, ⟨none, none, [], [], fun _ => rowF AreaF 43 (sla (fa35 81)) (slc (fa35 81)) (zs19 ++ zs27)⟩, ⟨none, none, [], [], fun _ => rowF AreaF 43 (sla (fa66 117)) (slc (fa66 117)) (zs50 ++ zs58)⟩] [(34, .slice (fdC (fa103 175)) ((fdL (fa103 175))) (fdD (fa103 175))), (43, Nx (k)), (29, .func (.func 15) #[] #[.pointer (some ⟨b74, 0, none⟩)]), (37, .slice p108 (way110.length) c109), (239, Nx ((fdL (fa103 175)))), (240, Nx (k))] [2, 0, 3, 4, 5] [] (by kernel_rfl) (by kernel_rfl) (by kernel_rfl) (by kernel_rfl) rfl ⟨rfl, rfl, rfl, rfl, rfl, rfl, trivial⟩ ⟨?_, ?_, ?_, ?_, ?_, ?_, ?_, ?_, ?_, ?_, ?_, trivial⟩ ?_
          · rintro f M - ⟨i0, -⟩
            have hs34 : f 34 = .slice (fdC (fa103 175)) ((fdL (fa103 175))) (fdD (fa103 175)) := i0
            refine ob_start (L' := M) (by rfl) (up_cons rfl hs34) ?_
            refine l_val (v := .slice (fdC (fa103 175)) ((fdL (fa103 175))) (fdD (fa103 175))) rfl rfl rfl (e_move) ?_
            refine l_nil ?_
            exact f_owes_d (up_cons rfl hs34) rfl (List.Perm.refl _)
          · rintro f M - ⟨i0, -⟩
            have hs43 : f 43 = Nx (k) := i0
            refine ob_start (L' := M) (by rfl) (up_cons rfl hs43) ?_
            refine l_val (v := Nx (k)) rfl rfl rfl (e_move) ?_
            refine l_nil ?_
            exact f_owes_d (up_cons rfl hs43) rfl (List.Perm.refl _)
          · rintro f M ⟨k0, k1, -⟩ -
            have hs243 : f 243 = .slice (fdC (fa103 175)) ((fdL (fa103 175))) (fdD (fa103 175)) := k0
            have hs244 : f 244 = Nx (k) := k1
            refine ob_start (L' := rowF VecF 28 (fdC (fa103 175)) (fdD (fa103 175)) way104 :: M) (by rfl) (up_cons (up_cons rfl hs243) hs244) ?_
            refine l_val (v := .pointer (some ((ba (fdC (fa103 175))).add (k * 2)))) rfl rfl rfl (e_indexFlN 0 (F := VecF) (j := k) (m := (fdL (fa103 175))) (xs := way104) rfl (by omega) rfl tv67 (by omega) rfl) ?_
            refine l_nil ?_
            exact f_owes_d (up_cons (up_cons rfl hs243) hs244) rfl (perm_front 0 rfl)
          · rintro f M ⟨k0, -⟩ -
            have hs245 : f 245 = .pointer (some ((ba (fdC (fa103 175))).add (k * 2))) := k0
            refine ob_start (L' := rowF VecF 28 (fdC (fa103 175)) (fdD (fa103 175)) way104 :: M) (by rfl) (up_cons rfl hs245) ?_
            refine l_val (v := .agg #[Ix (x132.x), Ix (x132.y)]) rfl rfl rfl (e_load tp7 (cs := [Ix (x132.x), Ix (x132.y)]) rfl (k_flAt 0 (F := VecF) rfl hx133) rfl) ?_
            refine l_nil ?_
            exact f_owes_d (up_cons rfl hs245) rfl (perm_front 0 rfl)
          · rintro f M - ⟨i0, -⟩
            have hs29 : f 29 = .func (.func 15) #[] #[.pointer (some ⟨b74, 0, none⟩)] := i0
            refine ob_start (L' := M) (by rfl) (up_cons rfl hs29) ?_
            refine l_val (v := .func (.func 15) #[] #[.pointer (some ⟨b74, 0, none⟩)]) rfl rfl rfl (e_move) ?_
            refine l_nil ?_
            exact f_owes_d (up_cons rfl hs29) rfl (List.Perm.refl _)
          · rintro f M - ⟨i0, -⟩
            have hs37 : f 37 = .slice p108 (way110.length) c109 := i0
            refine ob_start (L' := M) (by rfl) (up_cons rfl hs37) ?_
            refine l_val (v := .slice p108 (way110.length) c109) rfl rfl rfl (e_move) ?_
            refine l_nil ?_
            exact f_owes_d (up_cons rfl hs37) rfl (List.Perm.refl _)
          · rintro f M - ⟨i0, -⟩
            have hs43 : f 43 = Nx (k) := i0
            refine ob_start (L' := M) (by rfl) (up_cons rfl hs43) ?_
            refine l_val (v := Nx (k)) rfl rfl rfl (e_move) ?_
            refine l_nil ?_
            exact f_owes_d (up_cons rfl hs43) rfl (List.Perm.refl _)
          · rintro f M ⟨k0, k1, -⟩ -
            have hs248 : f 248 = .slice p108 (way110.length) c109 := k0
            have hs249 : f 249 = Nx (k) := k1
            refine ob_start (L' := rowF VecF 28 p108 c109 way110 :: M) (by rfl) (up_cons (up_cons rfl hs248) hs249) ?_
            refine l_val (v := .pointer (some ((ba p108).add (k * 2)))) rfl rfl rfl (e_indexFlN 0 (F := VecF) (j := k) (m := way110.length) (xs := way110) rfl rfl rfl tv67 (by omega) rfl) ?_
            refine l_nil ?_
            exact f_owes_d (up_cons (up_cons rfl hs248) hs249) rfl (perm_front 0 rfl)
          · rintro f M ⟨k0, -⟩ -
            have hs250 : f 250 = .pointer (some ((ba p108).add (k * 2))) := k0
            refine ob_start (L' := rowF VecF 28 p108 c109 way110 :: M) (by rfl) (up_cons rfl hs250) ?_
            refine l_val (v := .agg #[Ix (x134.x), Ix (x134.y)]) rfl rfl rfl (e_load tp7 (cs := [Ix (x134.x), Ix (x134.y)]) rfl (k_flAt 0 (F := VecF) rfl hx135) rfl) ?_
            refine l_nil ?_
            exact f_owes_d (up_cons rfl hs250) rfl (perm_front 0 rfl)
          · rintro f M ⟨k0, k1, -⟩ -
            have hs247 : f 247 = .func (.func 15) #[] #[.pointer (some ⟨b74, 0, none⟩)] := k0
            have hs251 : f 251 = .agg #[Ix (x134.x), Ix (x134.y)] := k1
            refine ob_start (L' := pt b74 (.cells #[Ix (dx), Ix (dy)] 28) :: M) (by rfl) (up_cons (up_cons rfl hs247) hs251) ?_
            refine l_call rfl rfl rfl (cl_value (fst := []) (cap := [.pointer (some ⟨b74, 0, none⟩)]) (vs := [.agg #[Ix (x134.x), Ix (x134.y)]]) (all := [.agg #[Ix (x134.x), Ix (x134.y)], .pointer (some ⟨b74, 0, none⟩)]) sd124 rfl rfl rfl) ?_
            intro w hw
            obtain ⟨β1, sb, kn, hw1, back⟩ := St.frame_all hw
            refine (move_ok β1 w hw1 b74 ⟨x134.x, x134.y⟩ dx dy (by show -1000 ≤ x134.x ∧ x134.x ≤ 1000 ∧ -1000 ≤ x134.y ∧ x134.y ≤ 1000; omega) hd1 hd2 hd3 hd4 (kn _ (k_pt 0 (o := 0) (cs := #[Ix (dx), Ix (dy)]) (vs := [Ix (dx), Ix (dy)]) rfl rfl))).mono ?_
            rintro e w' ⟨rfl, hw'⟩
            refine ⟨_, rfl, _, back _ _ hw', ?_⟩
            clear hw hw1 hw' back kn sb
            refine l_nil ?_
            exact f_owes_d (up_cons (up_cons rfl hs247) hs251) rfl (perm_front 0 rfl)
          · rintro f M ⟨k0, k1, -⟩ -
            have hs246 : f 246 = .agg #[Ix (x132.x), Ix (x132.y)] := k0
            have hs252 : f 252 = .agg #[Ix (x134.x + dx), Ix (x134.y + dy)] := k1
            refine ob_start (L' := M) (by rfl) (up_cons (up_cons rfl hs246) hs252) ?_
            refine l_val (v := .bool false) rfl rfl rfl ((ev_f (fun q => q (way_at hm3 hx133 hx135)) (e_neq_t (xs := veE x132) (ys := veE (⟨x134.x + dx, x134.y + dy⟩ : KV)) tu33 tu34 tu35 rfl rfl rfl rfl (not_congr (ve_eq (x := x132) (y := (⟨x134.x + dx, x134.y + dy⟩ : KV))))))) ?_
            refine l_nil ?_
            exact f_owes_d (up_cons (up_cons rfl hs246) hs252) rfl (List.Perm.refl _)
          rintro fa136 ⟨-, -, -, -, -, -, -, -, -, -, k10, -⟩ ⟨j0, j1, j2, j3, j4, -⟩
          refine f_re (L' := [rowF VecF 28 (fdC (fa125 199)) (fdD (fa125 199)) way126, rowF VecF 28 p108 c109 way110, rowF VecF 28 (fdC (fa103 175)) (fdD (fa103 175)) way104, rowF AreaF 43 ma mc ms, rowF AreaF 43 wa wc ws, pt b74 (.cells #[Ix (dx), Ix (dy)] 28), rowF VecF 28 p67 c68 way69, rowF VecF 28 p36 c37 way38, rowF VecF 28 p9 c10 way11, pt b8 (.cells #[Ix (p5.x), Ix (p5.y)] 28), pt b7 (.cells #[Ix (p3.x), Ix (p3.y)] 28), rowF AreaF 43 (sla (fa35 81)) (slc (fa35 81)) (zs19 ++ zs27), rowF AreaF 43 (sla (fa66 117)) (slc (fa66 117)) (zs50 ++ zs58)]) (by rfl) ?_
          refine f_rebase (d := 29) (v := .func (.func 15) #[] #[.pointer (some ⟨b74, 0, none⟩)]) j0 ?_
          refine f_rebase (d := 34) (v := .slice (fdC (fa103 175)) ((fdL (fa103 175))) (fdD (fa103 175))) j1 ?_
          refine f_rebase (d := 37) (v := .slice p108 (way110.length) c109) j2 ?_
          refine f_rebase (d := 239) (v := Nx ((fdL (fa103 175)))) j3 ?_
          refine f_rebase (d := 240) (v := Nx (k)) j4 ?_
          refine f_rebase (d := 253) (v := .bool false) k10 ?_
          refine f_then ?_
          refine c_no rfl ?_
          refine c_skip ?_
          refine f_block ?_
          refine f_then ?_
          refine c_region ?_
          refine l_val (v := Nx (k + 1)) rfl rfl rfl (e_add (a := ((k : Nat) : Int)) (b := (1 : Int)) rfl rfl (i64n (by omega) (by omega))) ?_
          refine l_val (v := Nx (k + 1)) rfl rfl rfl (e_move) ?_
          refine l_nil ?_
          exact f_cut ⟨k + 1, ⟨⟨rfl, rfl, rfl, rfl, rfl⟩, rfl, (by omega)⟩, (show (fdL (fa103 175)) - (k + 1) < (fdL (fa103 175)) - k from by omega)⟩
        ·
          refine c_exit ?_
          refine f_then_exit ?_
          refine f_then_exit ?_
          refine f_exit ?_
          refine f_then ?_
          refine c_seq ?_
          refine c_region ?_
          refine l_val (v := .bool true) rfl rfl rfl (e_assign) ?_
          refine l_nil ?_
          refine f_then ?_
          refine c_ret ?_
          refine ret1 Try.results5 (v := .bool true) rfl ?_
          intro w hw
          exact ⟨congrArg (fun b : Bool => Ending.returned (.bool b)) (rfl), st_mask [false] rfl (bk1 _ _ (st_mask [false, false, false, false, false, false, false, false, false, false, false, false, false] rfl hw))⟩
end Go.Proofs
