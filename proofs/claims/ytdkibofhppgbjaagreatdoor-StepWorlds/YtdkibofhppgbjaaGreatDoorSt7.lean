/-
 A step of a scene. Printed by a program of my own.
-/
import Derived.Test.YtdkibofhppgbjaaGreatDoorSt6
namespace Go.Proofs
open Go Go.Sl Go.Stp
theorem tf83 : elB Tryz.prog 52 9 64 = true := by kernel_rfl
theorem tf84 : elB Tryz.prog 78 3 24 = true := by kernel_rfl
theorem tf85 : (Tryz.prog.info? 30).bind (·.zero) = some (.agg #[.slice none 0 0, .slice none 0 0, .int .i64 (0), .int .i64 (0)]) := by kernel_rfl
theorem tf86 : tyB Tryz.prog 30 true 4 = true := by kernel_rfl
theorem tf87 : cfB Tryz.prog 36 = true := by kernel_rfl
theorem tf88 : stB Tryz.prog 30 [(0, 1), (1, 1), (2, 2)] = true := by kernel_rfl
theorem tf89 : cfB Tryz.prog 37 = true := by kernel_rfl
theorem tf90 : cfB Tryz.prog 38 = true := by kernel_rfl
theorem tf91 : cfB Tryz.prog 39 = true := by kernel_rfl
theorem tf92 : stB Tryz.prog 87 [(0, 4), (4, 9), (13, 1), (14, 1)] = true := by kernel_rfl
theorem tf93 : (Tryz.prog.info? 87).bind (·.zero) = some (.agg #[.slice none 0 0, .slice none 0 0, .int .i64 (0), .int .i64 (0), .int .i64 (0), .int .i64 (0), .int .i64 (0), .int .i64 (0), .int .i64 (0), .int .i64 (0), .int .i64 (0), .bool false, .bool false, .int .i64 (0), .int .i64 (0)]) := by kernel_rfl
theorem tf94 : cfB Tryz.prog 41 = true := by kernel_rfl
theorem tf95 : arB Tryz.prog 91 2 5 1 = true := by kernel_rfl
theorem tf96 : (Tryz.prog.info? 91).bind (·.zero) = some (.agg #[.int .u8 (0), .int .u8 (0)]) := by kernel_rfl
theorem tf97 : tyB Tryz.prog 5 false 1 = true := by kernel_rfl
theorem tf98 : stB Tryz.prog 55 [(0, 1), (1, 1), (2, 1)] = true := by kernel_rfl
theorem tf99 : (Tryz.prog.info? 55).bind (·.zero) = some (.agg #[.int .i64 (0), .int .u8 (0), .int .i64 (0)]) := by kernel_rfl
theorem tf100 : slB Tryz.prog 38 55 3 = true := by kernel_rfl
theorem tf101 : elB Tryz.prog 55 3 24 = true := by kernel_rfl
theorem cloneB_ok (β : Base) (w : World) (hw : St β [] w) (v : Value) (xs : List KB) (hs : Sl KBR β.heap v xs) (hn : xs.length ≤ 1048576) : Calls Tryz.prog 37 #[v] w fun r w' => ∃ p c, r = .returned (.slice p xs.length c) ∧ St β [rowF BodyF 52 p c xs] w' := by
 obtain ⟨va, vc, rfl, vl, vm, ve⟩ := hs.get
 refine enter (n := 8) Tryz.func37 rfl Tryz.ntmps37 rfl ?_ hw
 refine c_seq ?_
 refine c_region ?_
 refine l_val (v := .slice none 0 0) rfl rfl rfl (e_assign) ?_
 refine l_nil ?_
 refine f_then ?_
 refine c_seq ?_
 refine c_seq ?_
 refine c_region ?_
 refine l_val (v := .slice va (xs.length) (vc)) rfl rfl rfl (e_move) ?_
 refine l_val (v := .bool (va.isNone)) rfl rfl rfl (e_eql_snil (a := va) rfl rfl tf40) ?_
 refine l_nil ?_
 refine f_then ?_
 refine c_ifb (va.isNone) rfl (fun hc1 => ?_) (fun hc1 => ?_)
 ·
  refine c_seq ?_
  refine c_region ?_
  refine l_val (v := .slice none 0 0) rfl rfl rfl (e_assign) ?_
  refine l_nil ?_
  refine f_then ?_
  refine c_ret ?_
  refine f_then_ret ?_
  refine ret1 Tryz.results37 (v := .slice none 0 0) rfl ?_
  intro w hw
  obtain rfl := nil_empty ve hc1
  exact ⟨none, 0, rfl, (st_mask [] rfl hw).emp (row_nil _ _ _)⟩
 ·
  refine c_skip ?_
  refine f_then ?_
  refine c_seq ?_
  refine c_region ?_
  refine l_mv rfl rfl rfl (m_slice0 tf43) ?_
  rintro _ _ ⟨b2, rfl, rfl⟩
  refine l_val (v := .slice va (xs.length) (vc)) rfl rfl rfl (e_move) ?_
  refine l_conseq 0 (r' := rowF BodyF 52 (some ⟨b2, 0, none⟩) 0 []) rfl (fun a h => pt_row (m := 0) (by decide) rfl a h) ?_
  refine l_mv rfl rfl rfl (m_appendFlN (F := BodyF) 0 tf43 tf83 (p := (some ⟨b2, 0, none⟩)) (m := 0) (xs := []) (ys := xs) (ao := va) (k := xs.length) (c := vc) rfl rfl rfl rfl rfl (Knows.of_base (Elems.mono _ _ _) ve) (by first | omega | simp only [List.length_nil, List.length_cons, List.length_append, List.length_set]; omega) (by first | omega | simp only [List.length_nil, List.length_cons, List.length_append, List.length_set]; omega)) ?_
  rintro _ _ ⟨rp3, rc4, rfl, rfl⟩
  refine l_val (v := .slice rp3 (xs.length) rc4) rfl rfl rfl (e_assign) ?_
  refine l_nil ?_
  refine f_then ?_
  refine c_ret ?_
  refine ret1 Tryz.results37 (v := .slice rp3 (xs.length) rc4) rfl ?_
  intro w hw
  exact ⟨_, _, rfl, st_mask (L' := [rowF BodyF 52 rp3 rc4 xs]) [true] rfl hw⟩
theorem cloneR_ok (β : Base) (w : World) (hw : St β [] w) (v : Value) (xs : List KR) (hs : Sl KRR β.heap v xs) (hn : xs.length ≤ 1048576) : Calls Tryz.prog 38 #[v] w fun r w' => ∃ p c, r = .returned (.slice p xs.length c) ∧ St β [rowF RopeF 78 p c xs] w' := by
 obtain ⟨va, vc, rfl, vl, vm, ve⟩ := hs.get
 refine enter (n := 8) Tryz.func38 rfl Tryz.ntmps38 rfl ?_ hw
 refine c_seq ?_
 refine c_region ?_
 refine l_val (v := .slice none 0 0) rfl rfl rfl (e_assign) ?_
 refine l_nil ?_
 refine f_then ?_
 refine c_seq ?_
 refine c_seq ?_
 refine c_region ?_
 refine l_val (v := .slice va (xs.length) (vc)) rfl rfl rfl (e_move) ?_
 refine l_val (v := .bool (va.isNone)) rfl rfl rfl (e_eql_snil (a := va) rfl rfl tf45) ?_
 refine l_nil ?_
 refine f_then ?_
 refine c_ifb (va.isNone) rfl (fun hc1 => ?_) (fun hc1 => ?_)
 ·
  refine c_seq ?_
  refine c_region ?_
  refine l_val (v := .slice none 0 0) rfl rfl rfl (e_assign) ?_
  refine l_nil ?_
  refine f_then ?_
  refine c_ret ?_
  refine f_then_ret ?_
  refine ret1 Tryz.results38 (v := .slice none 0 0) rfl ?_
  intro w hw
  obtain rfl := nil_empty ve hc1
  exact ⟨none, 0, rfl, (st_mask [] rfl hw).emp (row_nil _ _ _)⟩
 ·
  refine c_skip ?_
  refine f_then ?_
  refine c_seq ?_
  refine c_region ?_
  refine l_mv rfl rfl rfl (m_slice0 tf46) ?_
  rintro _ _ ⟨b2, rfl, rfl⟩
  refine l_val (v := .slice va (xs.length) (vc)) rfl rfl rfl (e_move) ?_
  refine l_conseq 0 (r' := rowF RopeF 78 (some ⟨b2, 0, none⟩) 0 []) rfl (fun a h => pt_row (m := 0) (by decide) rfl a h) ?_
  refine l_mv rfl rfl rfl (m_appendFlN (F := RopeF) 0 tf46 tf84 (p := (some ⟨b2, 0, none⟩)) (m := 0) (xs := []) (ys := xs) (ao := va) (k := xs.length) (c := vc) rfl rfl rfl rfl rfl (Knows.of_base (Elems.mono _ _ _) ve) (by first | omega | simp only [List.length_nil, List.length_cons, List.length_append, List.length_set]; omega) (by first | omega | simp only [List.length_nil, List.length_cons, List.length_append, List.length_set]; omega)) ?_
  rintro _ _ ⟨rp3, rc4, rfl, rfl⟩
  refine l_val (v := .slice rp3 (xs.length) rc4) rfl rfl rfl (e_assign) ?_
  refine l_nil ?_
  refine f_then ?_
  refine c_ret ?_
  refine ret1 Tryz.results38 (v := .slice rp3 (xs.length) rc4) rfl ?_
  intro w hw
  exact ⟨_, _, rfl, st_mask (L' := [rowF RopeF 78 rp3 rc4 xs]) [true] rfl hw⟩
theorem runU_ok (β : Base) (w : World) (hw : St β [] w) (hG : GR β) (v rv : Value) (gx gy : Int) (b : KB) (y : Bool) (s : Int) (bs : List KB) (rs : List KR) (hs_ : Sl KBR β.heap v bs) (hr_ : Sl KRR β.heap rv rs) (hbs : ∀ o ∈ bs, okB o) (hrs : ∀ r ∈ rs, okR bs r) (hs : s = 1 ∨ s = -1) (hb : okB b) (hn : bs.length ≤ 1048576) (most : Nat) (hmo : most ≤ 1048576) (u : Nat × Int) (hu : runP bs rs b y s most = u) : Calls Tryz.prog 41 #[.agg (mC v rv gx gy b y s), Nx most] w fun r w' => r = .returned (.tuple #[Nx u.1, Ix u.2]) ∧ St β [] w' := by
 subst hu
 exact run_ok β w hw hG v rv gx gy b y s bs rs hs_ hr_ hbs hrs hs hb hn most hmo
theorem atC_ok (β : Base) (w : World) (hw : St β [] w) (v rv : Value) (gx gy : Int) (b : KB) (y : Bool) (s : Int) (hs : s = 1 ∨ s = -1) (hb : okB b) (n : Int) (hn : -1048576 ≤ n ∧ n ≤ 1048576) (c : KB) (hc : sh y b (s * n) = c) : Calls Tryz.prog 42 #[.agg (mC v rv gx gy b y s), Ix n] w fun r w' => r = .returned (.agg (bC c)) ∧ St β [] w' := by
 subst hc
 exact at_ok β w hw v rv gx gy b y s hs hb n hn
set_option maxHeartbeats 4000000 in
theorem step_ok (β : Base) (w : World) (hw : St β [] w) (v rv : Value) (gx gy : Int) (bs : List KB) (rs : List KR) (hs : Sl KBR β.heap v bs) (hr : Sl KRR β.heap rv rs) (hgx : -9223372036854775808 ≤ gx ∧ gx ≤ 9223372036854775807) (hgy : -9223372036854775808 ≤ gy ∧ gy ≤ 9223372036854775807) (hG : GR β) : Calls Tryz.prog 9 #[.agg #[v, rv, Ix gx, Ix gy]] w fun r w' => (okS bs rs gx gy ∧ ∃ p1 c1 p2 c2 sp sc, r = .returned (.tuple #[.agg #[.slice p1 bs.length c1, .slice p2 rs.length c2, Ix gx, Ix gy], .slice sp (stepsTo rs gx gy bs bs.length).2.length sc, .int .i64 (0)]) ∧ St β [rowF BodyF 52 p1 c1 (stepsTo rs gx gy bs bs.length).1, rowF RopeF 78 p2 c2 rs, rowF StopF 55 sp sc (stepsTo rs gx gy bs bs.length).2] w') ∨ (¬ okS bs rs gx gy ∧ r = .returned (.tuple #[.agg #[.slice none 0 0, .slice none 0 0, .int .i64 (0), .int .i64 (0)], .slice none 0 0, .int .i64 (2)]) ∧ St β [] w') := by
 obtain ⟨va, vc, rfl, vl, vm, ve⟩ := hs.get
 obtain ⟨rva, rvc, rfl, rvl, rvm, rve⟩ := hr.get
 refine enter (n := 105) Tryz.func9 rfl Tryz.ntmps9 rfl ?_ hw
 refine c_seq ?_
 refine c_region ?_
 refine l_mv rfl rfl rfl (m_box (v := .agg #[.slice va (bs.length) (vc), .slice rva (rs.length) (rvc), Ix (gx), Ix (gy)]) rfl) ?_
 rintro _ _ ⟨b1, rfl, rfl⟩
 refine l_mv rfl rfl rfl (m_alloc tf85) ?_
 rintro _ _ ⟨b2, rfl, rfl⟩
 refine l_val (v := .slice none 0 0) rfl rfl rfl (e_assign) ?_
 refine l_val (v := .int .i64 (0)) rfl rfl rfl (e_assign) ?_
 refine l_nil ?_
 refine f_then ?_
 refine c_seq ?_
 refine c_seq ?_
 refine c_region ?_
 refine l_val (v := .agg #[.slice va (bs.length) (vc), .slice rva (rs.length) (rvc), Ix (gx), Ix (gy)]) rfl rfl rfl (e_load tf86 (cs := [.slice va (bs.length) (vc), .slice rva (rs.length) (rvc), Ix (gx), Ix (gy)]) rfl (k_pt 1 (cs := #[.slice va (bs.length) (vc), .slice rva (rs.length) (rvc), Ix (gx), Ix (gy)]) (vs := [.slice va (bs.length) (vc), .slice rva (rs.length) (rvc), Ix (gx), Ix (gy)]) rfl rfl) rfl) ?_
 refine l_call rfl rfl rfl (cl_value (fst := []) (cap := []) (vs := [.agg #[.slice va (bs.length) (vc), .slice rva (rs.length) (rvc), Ix (gx), Ix (gy)]]) (all := [.agg #[.slice va (bs.length) (vc), .slice rva (rs.length) (rvc), Ix (gx), Ix (gy)]]) tf87 rfl rfl rfl) ?_
 intro w hw
 obtain ⟨β1, sb, kn, hw1, back⟩ := St.frame_all hw
 refine (ivalid_ok β1 w hw1 _ _ gx gy bs rs (Sl.mono _ _ _ _ _ sb (⟨⟨_, _, rfl, vl, vm, ve⟩⟩ : Sl KBR _ _ bs)) (Sl.mono _ _ _ _ _ sb (⟨⟨_, _, rfl, rvl, rvm, rve⟩⟩ : Sl KRR _ _ rs)) hgx hgy).mono ?_
 rintro e w' ⟨rfl, hw'⟩
 refine ⟨_, rfl, _, back _ _ hw', ?_⟩
 clear hw hw1 hw' back kn sb
 refine l_val (v := .bool (decide (¬ (okS bs rs gx gy)))) rfl rfl rfl (e_not_p (p := okS bs rs gx gy) rfl) ?_
 refine l_nil ?_
 refine f_then ?_
 refine c_if (¬ (okS bs rs gx gy)) rfl (fun hc3 => ?_) (fun hc3 => ?_)
 ·
  refine c_seq ?_
  refine c_region ?_
  refine l_val (v := .agg #[.slice none 0 0, .slice none 0 0, .int .i64 (0), .int .i64 (0)]) rfl rfl rfl (e_build tf85 tf88 (vs := []) (cells := #[.slice none 0 0, .slice none 0 0, .int .i64 (0), .int .i64 (0)]) rfl rfl) ?_
  refine l_mu rfl rfl (m_store 0 tf86 (b := b2) (o := 0) (T := 30) (cs := #[.slice none 0 0, .slice none 0 0, .int .i64 (0), .int .i64 (0)]) (cs' := #[.slice none 0 0, .slice none 0 0, .int .i64 (0), .int .i64 (0)]) (v := .agg #[.slice none 0 0, .slice none 0 0, .int .i64 (0), .int .i64 (0)]) rfl rfl rfl rfl rfl rfl rfl) ?_
  refine l_val (v := .slice none 0 0) rfl rfl rfl (e_assign) ?_
  refine l_val (v := .int .i64 (2)) rfl rfl rfl (e_assign) ?_
  refine l_nil ?_
  refine f_then ?_
  refine c_ret ?_
  refine f_then_ret ?_
  refine retG (l := [.cell 2 30, .tmp 3, .tmp 4]) (m := [.agg #[.slice none 0 0, .slice none 0 0, .int .i64 (0), .int .i64 (0)], .slice none 0 0, .int .i64 (2)]) (v := .tuple #[.agg #[.slice none 0 0, .slice none 0 0, .int .i64 (0), .int .i64 (0)], .slice none 0 0, .int .i64 (2)]) Tryz.results9 ⟨rd_cell tf86 (cs := [.slice none 0 0, .slice none 0 0, .int .i64 (0), .int .i64 (0)]) rfl (k_pt 0 (cs := #[.slice none 0 0, .slice none 0 0, .int .i64 (0), .int .i64 (0)]) (vs := [.slice none 0 0, .slice none 0 0, .int .i64 (0), .int .i64 (0)]) rfl rfl) rfl, rd_tmp (v := .slice none 0 0) rfl, rd_tmp (v := .int .i64 (2)) rfl, trivial⟩ rfl ?_
  intro w hw
  exact .inr ⟨hc3, rfl, st_mask [false, false] rfl hw⟩
 ·
  refine c_skip ?_
  refine f_then ?_
  refine c_seq ?_
  have hok := Decidable.not_not.1 hc3
  obtain ⟨o1, o2, o3, o4, o5, o6⟩ := hok
  refine c_any [⟨[], [], [0], [19], fun f => f 19 = .pointer (some ⟨b1, 0, none⟩)⟩, ⟨[0], [0], [], [20], fun f => f 20 = .slice va (bs.length) (vc)⟩, ⟨[0, 1], [1], [], [21], fun f => f 21 = .slice (sla (f 21)) (bs.length) (slc (f 21))⟩, ⟨[], [], [0], [22], fun f => f 22 = .pointer (some ⟨b1, 1, none⟩)⟩, ⟨[3], [3], [], [23], fun f => f 23 = .slice rva (rs.length) (rvc)⟩, ⟨[0, 1, 2, 3, 4], [4], [], [24], fun f => f 24 = .slice (sla (f 24)) (rs.length) (slc (f 24))⟩, ⟨[0, 1, 2, 3, 4], [], [0], [25], fun f => f 25 = .pointer (some ⟨b1, 0, none⟩)⟩, ⟨[0, 1, 2, 3, 4, 5, 6], [6, 2], [], [], fun _ => True⟩, ⟨[0, 1, 2, 3, 4, 5, 6, 7], [], [0], [26], fun f => f 26 = .pointer (some ⟨b1, 1, none⟩)⟩, ⟨[0, 1, 2, 3, 4, 5, 6, 7, 8], [8, 5], [], [], fun _ => True⟩] [⟨none, none, [], [], fun _ => pt b2 (.cells #[.slice none 0 0, .slice none 0 0, .int .i64 (0), .int .i64 (0)] 30)⟩, ⟨none, (some 7), [1, 4, 7], [], fun _ => pt b1 (.cells #[.slice va (bs.length) (vc), .slice rva (rs.length) (rvc), Ix (gx), Ix (gy)] 30)⟩, ⟨(some 2), none, [], [21], fun f => rowF BodyF 52 (sla (f 21)) (slc (f 21)) bs⟩, ⟨(some 5), none, [], [24], fun f => rowF RopeF 78 (sla (f 24)) (slc (f 24)) rs⟩, ⟨(some 7), (some 9), [9], [21], fun f => pt b1 (.cells #[.slice (sla (f 21)) (bs.length) (slc (f 21)), .slice rva (rs.length) (rvc), Ix (gx), Ix (gy)] 30)⟩, ⟨(some 9), none, [], [21, 24], fun f => pt b1 (.cells #[.slice (sla (f 21)) (bs.length) (slc (f 21)), .slice (sla (f 24)) (rs.length) (slc (f 24)), Ix (gx), Ix (gy)] 30)⟩] [(1, .pointer (some ⟨b1, 0, none⟩)), (2, .pointer (some ⟨b2, 0, none⟩))] [0, 1] [] (by kernel_rfl) (by kernel_rfl) (by kernel_rfl) (by kernel_rfl) rfl ⟨rfl, rfl, trivial⟩ ⟨?_, ?_, ?_, ?_, ?_, ?_, ?_, ?_, ?_, ?_, trivial⟩ ?_
  ·rintro f M - ⟨i0, -⟩
   have hs1 : f 1 = .pointer (some ⟨b1, 0, none⟩) := i0
   refine ob_start (L' := M) (by rfl) (up_cons rfl hs1) ?_
   refine l_val (v := .pointer (some ⟨b1, 0, none⟩)) rfl rfl rfl (e_fieldPt (b := b1) (o := 0) rfl tf49) ?_
   refine l_nil ?_
   exact f_owes_d (up_cons rfl hs1) rfl (List.Perm.refl _)
  ·rintro f M ⟨k0, -⟩ -
   have hs19 : f 19 = .pointer (some ⟨b1, 0, none⟩) := k0
   refine ob_start (L' := pt b1 (.cells #[.slice va (bs.length) (vc), .slice rva (rs.length) (rvc), Ix (gx), Ix (gy)] 30) :: M) (by rfl) (up_cons rfl hs19) ?_
   refine l_val (v := .slice va (bs.length) (vc)) rfl rfl rfl (e_load1 tf50 (v := .slice va (bs.length) (vc)) rfl (k_pt 0 (cs := #[.slice va (bs.length) (vc), .slice rva (rs.length) (rvc), Ix (gx), Ix (gy)]) (vs := [.slice va (bs.length) (vc)]) rfl rfl)) ?_
   refine l_nil ?_
   exact f_owes_d (up_cons rfl hs19) rfl (perm_front 0 rfl)
  ·rintro f M ⟨k0, -⟩ -
   have hs20 : f 20 = .slice va (bs.length) (vc) := k0
   refine ob_start (L' := M) (by rfl) (up_cons rfl hs20) ?_
   refine l_call rfl rfl rfl (cl_value (fst := []) (cap := []) (vs := [.slice va (bs.length) (vc)]) (all := [.slice va (bs.length) (vc)]) tf89 rfl rfl rfl) ?_
   intro w hw
   obtain ⟨β1, sb, kn, hw1, back⟩ := St.frame_all hw
   refine (cloneB_ok β1 w hw1 _ bs (Sl.mono _ _ _ _ _ sb (⟨⟨_, _, rfl, vl, vm, ve⟩⟩ : Sl KBR _ _ bs)) (by omega)).mono ?_
   rintro e w' ⟨p6, c7, rfl, hw'⟩
   refine ⟨_, rfl, _, back _ _ hw', ?_⟩
   clear hw hw1 hw' back kn sb
   refine l_nil ?_
   exact f_owes_d (up_cons rfl hs20) rfl (perm_front 0 rfl)
  ·rintro f M - ⟨i0, -⟩
   have hs1 : f 1 = .pointer (some ⟨b1, 0, none⟩) := i0
   refine ob_start (L' := M) (by rfl) (up_cons rfl hs1) ?_
   refine l_val (v := .pointer (some ⟨b1, 1, none⟩)) rfl rfl rfl (e_fieldPt (b := b1) (o := 0) rfl tf55) ?_
   refine l_nil ?_
   exact f_owes_d (up_cons rfl hs1) rfl (List.Perm.refl _)
  ·rintro f M ⟨k0, -⟩ -
   have hs22 : f 22 = .pointer (some ⟨b1, 1, none⟩) := k0
   refine ob_start (L' := pt b1 (.cells #[.slice va (bs.length) (vc), .slice rva (rs.length) (rvc), Ix (gx), Ix (gy)] 30) :: M) (by rfl) (up_cons rfl hs22) ?_
   refine l_val (v := .slice rva (rs.length) (rvc)) rfl rfl rfl (e_load1 tf56 (v := .slice rva (rs.length) (rvc)) rfl (k_pt 0 (cs := #[.slice va (bs.length) (vc), .slice rva (rs.length) (rvc), Ix (gx), Ix (gy)]) (vs := [.slice rva (rs.length) (rvc)]) rfl rfl)) ?_
   refine l_nil ?_
   exact f_owes_d (up_cons rfl hs22) rfl (perm_front 0 rfl)
  ·rintro f M ⟨k0, -⟩ -
   have hs23 : f 23 = .slice rva (rs.length) (rvc) := k0
   refine ob_start (L' := M) (by rfl) (up_cons rfl hs23) ?_
   refine l_call rfl rfl rfl (cl_value (fst := []) (cap := []) (vs := [.slice rva (rs.length) (rvc)]) (all := [.slice rva (rs.length) (rvc)]) tf90 rfl rfl rfl) ?_
   intro w hw
   obtain ⟨β1, sb, kn, hw1, back⟩ := St.frame_all hw
   refine (cloneR_ok β1 w hw1 _ rs (Sl.mono _ _ _ _ _ sb (⟨⟨_, _, rfl, rvl, rvm, rve⟩⟩ : Sl KRR _ _ rs)) (by omega)).mono ?_
   rintro e w' ⟨p10, c11, rfl, hw'⟩
   refine ⟨_, rfl, _, back _ _ hw', ?_⟩
   clear hw hw1 hw' back kn sb
   refine l_nil ?_
   exact f_owes_d (up_cons rfl hs23) rfl (perm_front 0 rfl)
  ·rintro f M - ⟨i0, -⟩
   have hs1 : f 1 = .pointer (some ⟨b1, 0, none⟩) := i0
   refine ob_start (L' := M) (by rfl) (up_cons rfl hs1) ?_
   refine l_val (v := .pointer (some ⟨b1, 0, none⟩)) rfl rfl rfl (e_fieldPt (b := b1) (o := 0) rfl tf49) ?_
   refine l_nil ?_
   exact f_owes_d (up_cons rfl hs1) rfl (List.Perm.refl _)
  ·rintro f M ⟨k0, k1, -⟩ -
   have hs25 : f 25 = .pointer (some ⟨b1, 0, none⟩) := k0
   have hs21 : f 21 = .slice (sla (f 21)) (bs.length) (slc (f 21)) := k1
   refine ob_start (L' := pt b1 (.cells #[.slice va (bs.length) (vc), .slice rva (rs.length) (rvc), Ix (gx), Ix (gy)] 30) :: M) (by rfl) (up_cons (up_cons rfl hs25) hs21) ?_
   refine l_mu rfl rfl (m_store 0 tf50 (b := b1) (o := 0) (T := 30) (cs := #[.slice va (bs.length) (vc), .slice rva (rs.length) (rvc), Ix (gx), Ix (gy)]) (cs' := #[.slice (sla (f 21)) (bs.length) (slc (f 21)), .slice rva (rs.length) (rvc), Ix (gx), Ix (gy)]) (v := .slice (sla (f 21)) (bs.length) (slc (f 21))) rfl rfl rfl rfl rfl rfl rfl) ?_
   refine l_nil ?_
   exact f_owes_n (up_cons (up_cons rfl hs25) hs21) trivial (perm_front 0 rfl)
  ·rintro f M - ⟨i0, -⟩
   have hs1 : f 1 = .pointer (some ⟨b1, 0, none⟩) := i0
   refine ob_start (L' := M) (by rfl) (up_cons rfl hs1) ?_
   refine l_val (v := .pointer (some ⟨b1, 1, none⟩)) rfl rfl rfl (e_fieldPt (b := b1) (o := 0) rfl tf55) ?_
   refine l_nil ?_
   exact f_owes_d (up_cons rfl hs1) rfl (List.Perm.refl _)
  ·rintro f M ⟨k0, k1, -⟩ -
   have hs26 : f 26 = .pointer (some ⟨b1, 1, none⟩) := k0
   have hs24 : f 24 = .slice (sla (f 24)) (rs.length) (slc (f 24)) := k1
   refine ob_start (L' := pt b1 (.cells #[.slice (sla (f 21)) (bs.length) (slc (f 21)), .slice rva (rs.length) (rvc), Ix (gx), Ix (gy)] 30) :: M) (by rfl) (up_cons (up_cons rfl hs26) hs24) ?_
   refine l_mu rfl rfl (m_store 0 tf56 (b := b1) (o := 1) (T := 30) (cs := #[.slice (sla (f 21)) (bs.length) (slc (f 21)), .slice rva (rs.length) (rvc), Ix (gx), Ix (gy)]) (cs' := #[.slice (sla (f 21)) (bs.length) (slc (f 21)), .slice (sla (f 24)) (rs.length) (slc (f 24)), Ix (gx), Ix (gy)]) (v := .slice (sla (f 24)) (rs.length) (slc (f 24))) rfl rfl rfl rfl rfl rfl rfl) ?_
   refine l_nil ?_
   exact f_owes_n (up_cons (up_cons rfl hs26) hs24) trivial (perm_front 0 rfl)
  rintro fa12 ⟨-, -, -, -, -, -, -, -, -, -, -⟩ ⟨j0, j1, -⟩
  refine f_re (L' := [pt b2 (.cells #[.slice none 0 0, .slice none 0 0, .int .i64 (0), .int .i64 (0)] 30), rowF BodyF 52 (sla (fa12 21)) (slc (fa12 21)) bs, rowF RopeF 78 (sla (fa12 24)) (slc (fa12 24)) rs, pt b1 (.cells #[.slice (sla (fa12 21)) (bs.length) (slc (fa12 21)), .slice (sla (fa12 24)) (rs.length) (slc (fa12 24)), Ix (gx), Ix (gy)] 30)]) (by rfl) ?_
  refine f_rebase (d := 1) (v := .pointer (some ⟨b1, 0, none⟩)) j0 ?_
  refine f_rebase (d := 2) (v := .pointer (some ⟨b2, 0, none⟩)) j1 ?_
  refine f_then ?_
  refine c_seq ?_
  generalize (sla (fa12 21)) = p1
  generalize (slc (fa12 21)) = c1
  generalize (sla (fa12 24)) = p2
  generalize (slc (fa12 24)) = c2
  refine c_region ?_
  refine l_val (v := .slice none 0 0) rfl rfl rfl (e_assign) ?_
  refine l_nil ?_
  refine f_then ?_
  refine c_seq ?_
  refine c_seq ?_
  refine c_emp (r := rowF StopF 55 none 0 []) (row_nil _ _ _) ?_
  refine c_region ?_
  refine l_val (v := .pointer (some ⟨b1, 0, none⟩)) rfl rfl rfl (e_fieldPt (b := b1) (o := 0) rfl tf49) ?_
  refine l_val (v := .slice p1 (bs.length) c1) rfl rfl rfl (e_load1 tf50 (v := .slice p1 (bs.length) c1) rfl (k_pt 4 (cs := #[.slice p1 (bs.length) c1, .slice p2 (rs.length) c2, Ix (gx), Ix (gy)]) (vs := [.slice p1 (bs.length) c1]) rfl rfl)) ?_
  refine l_val (v := Nx (bs.length)) rfl rfl rfl (e_len (a := p1) (n := bs.length) (c := c1) rfl tf40) ?_
  refine l_val (v := .int .i64 (0)) rfl rfl rfl (e_move) ?_
  refine l_nil ?_
  refine f_then ?_
  refine c_block ?_
  refine c_loop (fun (x_ : Nat × List KB × List KS × Option Addr × Nat) (f : Fm) (L : List Res) => match x_ with | (k, B, S, sp, sc) => (f 1 = .pointer (some ⟨b1, 0, none⟩) ∧ f 2 = .pointer (some ⟨b2, 0, none⟩) ∧ f 5 = .slice sp (S.length) sc ∧ f 28 = .slice p1 (bs.length) c1 ∧ f 29 = Nx (bs.length) ∧ f 30 = Nx (k)) ∧ L = [rowF StopF 55 sp sc S, pt b2 (.cells #[.slice none 0 0, .slice none 0 0, .int .i64 (0), .int .i64 (0)] 30), rowF BodyF 52 p1 c1 B, rowF RopeF 78 p2 c2 rs, pt b1 (.cells #[.slice p1 (bs.length) c1, .slice p2 (rs.length) c2, Ix (gx), Ix (gy)] 30)] ∧ (k ≤ bs.length ∧ B = (stepsTo rs gx gy bs k).1 ∧ S = (stepsTo rs gx gy bs k).2 ∧ SameIds B bs ∧ (∀ o ∈ B, okB o) ∧ S.length ≤ 2 * k)) (fun (x_ : Nat × List KB × List KS × Option Addr × Nat) => match x_ with | (k, B, S, sp, sc) => bs.length - k) (0, bs, [], none, 0) ?_ ?_
  ·exact ⟨⟨rfl, rfl, rfl, rfl, rfl, rfl⟩, rfl, ⟨by omega, rfl, rfl, rfl, o4, by simp⟩⟩
  rintro ⟨k, B, S, sp, sc⟩ f0 L0 ⟨⟨hs1, hs2, hs5, hs28, hs29, hs30⟩, hL, ⟨hk, hB, hS, hid, hBok, hSl⟩⟩
  subst L0
  refine rebase (d := 1) hs1 ?_
  refine rebase (d := 2) hs2 ?_
  refine rebase (d := 5) hs5 ?_
  refine rebase (d := 28) hs28 ?_
  refine rebase (d := 29) hs29 ?_
  refine rebase (d := 30) hs30 ?_
  clear hs1 hs2 hs5 hs28 hs29 hs30
  have hl := hid.len
  refine c_seq ?_
  refine c_region ?_
  refine l_val (v := .bool (decide (((k : Nat) : Int) < ((bs.length : Nat) : Int)))) rfl rfl rfl (e_lss (a := ((k : Nat) : Int)) (b := ((bs.length : Nat) : Int)) rfl rfl) ?_
  refine l_nil ?_
  refine f_then ?_
  refine c_seq ?_
  refine c_if (((k : Nat) : Int) < ((bs.length : Nat) : Int)) rfl (fun hc13 => ?_) (fun hc13 => ?_)
  ·
   refine c_skip ?_
   refine f_then ?_
   refine c_seq ?_
   refine c_block ?_
   refine c_seq ?_
   refine c_region ?_
   refine l_val (v := Nx (k)) rfl rfl rfl (e_move) ?_
   refine l_val (v := .pointer (some ((ba p1).add (k * 9)))) rfl rfl rfl (e_indexFlN 2 (F := BodyF) (j := k) (m := bs.length) (xs := B) rfl (by omega) rfl tf43 (by omega) rfl) ?_
   obtain ⟨x, hx⟩ : ∃ x_, B[k]? = some x_ := ⟨_, List.getElem?_eq_getElem (by omega)⟩
   refine l_val (v := .agg (bC x)) rfl rfl rfl (e_load tf22 (cs := (bodyE x)) rfl (k_flAt 2 (F := BodyF) rfl hx) rfl) ?_
   refine l_mv rfl rfl rfl (m_alloc tf58) ?_
   rintro _ _ ⟨b14, rfl, rfl⟩
   refine l_val (v := Nx (k)) rfl rfl rfl (e_assign) ?_
   refine l_mu rfl rfl (m_store 0 tf22 (b := b14) (o := 0) (T := 52) (cs := #[.int .i64 (0), .int .i64 (0), .int .i64 (0), .int .i64 (0), .int .i64 (0), .int .i64 (0), .int .i64 (0), .bool false, .bool false]) (cs' := (bC x)) (v := .agg (bC x)) rfl rfl rfl rfl rfl rfl rfl) ?_
   refine l_nil ?_
   refine f_then ?_
   refine c_seq ?_
   refine c_seq ?_
   refine c_region ?_
   refine l_val (v := .pointer (some ⟨b14, 8, none⟩)) rfl rfl rfl (e_fieldPt (b := b14) (o := 0) rfl tf14) ?_
   refine l_val (v := .bool (x.fixed)) rfl rfl rfl (e_load1 tf13 (v := .bool (x.fixed)) rfl (k_pt 0 (cs := (bC x)) (vs := [.bool (x.fixed)]) rfl rfl)) ?_
   refine l_nil ?_
   refine f_then ?_
   refine c_ifb (x.fixed) rfl (fun hc15 => ?_) (fun hc15 => ?_)
   ·
    refine c_exit ?_
    refine f_then_exit ?_
    refine f_exit ?_
    refine f_then ?_
    refine c_region ?_
    refine l_val (v := Nx (k + 1)) rfl rfl rfl (e_add (a := ((k : Nat) : Int)) (b := (1 : Int)) rfl rfl (i64n (by omega) (by omega))) ?_
    refine l_val (v := Nx (k + 1)) rfl rfl rfl (e_move) ?_
    refine l_nil ?_
    refine f_mask (L' := [rowF StopF 55 sp sc S, pt b2 (.cells #[.slice none 0 0, .slice none 0 0, .int .i64 (0), .int .i64 (0)] 30), rowF BodyF 52 p1 c1 B, rowF RopeF 78 p2 c2 rs, pt b1 (.cells #[.slice p1 (bs.length) c1, .slice p2 (rs.length) c2, Ix (gx), Ix (gy)] 30)]) [false, true, true, true, true, true] rfl ?_
    exact f_cut ⟨(k + 1, B, S, sp, sc), ⟨⟨rfl, rfl, rfl, rfl, rfl, rfl⟩, rfl, ⟨by omega, (next_fixed hB hS hx hc15).1, (next_fixed hB hS hx hc15).2, hid, hBok, by omega⟩⟩, (show bs.length - (k + 1) < bs.length - k from by omega)⟩
   ·
    refine c_skip ?_
    refine f_then ?_
    refine c_seq ?_
    refine c_region ?_
    refine l_val (v := .agg (bC x)) rfl rfl rfl (e_load tf22 (cs := (bodyE x)) rfl (k_pt 0 (cs := (bC x)) (vs := (bodyE x)) rfl rfl) rfl) ?_
    refine l_val (v := .pointer (some ⟨b1, 2, none⟩)) rfl rfl rfl (e_fieldPt (b := b1) (o := 0) rfl tf57) ?_
    refine l_val (v := .agg #[Ix (gx), Ix (gy)]) rfl rfl rfl (e_load tf15 (cs := [Ix (gx), Ix (gy)]) rfl (k_pt 5 (cs := #[.slice p1 (bs.length) c1, .slice p2 (rs.length) c2, Ix (gx), Ix (gy)]) (vs := [Ix (gx), Ix (gy)]) rfl rfl) rfl) ?_
    refine l_call rfl rfl rfl (cl_value (fst := []) (cap := []) (vs := [.agg (bC x), .agg #[Ix (gx), Ix (gy)]]) (all := [.agg (bC x), .agg #[Ix (gx), Ix (gy)]]) tf91 rfl rfl rfl) ?_
    intro w hw
    obtain ⟨β1, sb, kn, hw1, back⟩ := St.frame_all hw
    refine (speed_ok β1 w hw1 x (gx) (gy) (by omega) (by omega)).mono ?_
    rintro e w' ⟨rfl, hw'⟩
    refine ⟨_, rfl, _, back _ _ hw', ?_⟩
    clear hw hw1 hw' back kn sb
    refine l_mv rfl rfl rfl (m_alloc tf17) ?_
    rintro _ _ ⟨b16, rfl, rfl⟩
    refine l_mu rfl rfl (m_store 0 tf15 (b := b16) (o := 0) (T := 28) (cs := #[.int .i64 (0), .int .i64 (0)]) (cs' := #[Ix (speedX x (gx) (gy)), Ix (speedY x (gx) (gy))]) (v := .agg #[Ix (speedX x (gx) (gy)), Ix (speedY x (gx) (gy))]) rfl rfl rfl rfl rfl rfl rfl) ?_
    refine l_nil ?_
    refine f_then ?_
    refine c_seq ?_
    refine c_seq ?_
    obtain ⟨nx, hnx⟩ : ∃ z, z = speedX x gx gy := ⟨_, rfl⟩
    obtain ⟨ny, hny⟩ : ∃ z, z = speedY x gx gy := ⟨_, rfl⟩
    have hsp := speed_bd x gx gy
    rw [← hnx, ← hny] at hsp
    have hxok := hBok _ (List.mem_of_getElem? hx)
    rw [← hnx, ← hny]
    refine c_region ?_
    refine l_call rfl rfl rfl (cl_value (fst := []) (cap := []) (vs := [.pointer (some ⟨b16, 0, none⟩)]) (all := [.pointer (some ⟨b16, 0, none⟩)]) tf63 rfl rfl rfl) ?_
    intro w hw
    obtain ⟨β1, sb, kn, hw1, back⟩ := St.frame_all hw
    refine (axes_ok β1 w hw1 b16 0).mono ?_
    rintro e w' ⟨rfl, hw'⟩
    refine ⟨_, rfl, _, back _ _ hw', ?_⟩
    clear hw hw1 hw' back kn sb
    refine l_val (v := .int .i64 (0)) rfl rfl rfl (e_move) ?_
    refine l_nil ?_
    refine f_then ?_
    refine c_block ?_
    refine c_mask [true, true, true, true, true, true, true] rfl ?_
    refine c_loop (fun (x_ : Nat × KB × List KS × Int × Int × Option Addr × Nat) (f : Fm) (L : List Res) => match x_ with | (j, C, T, vx, vy, sp2, sc2) => (f 1 = .pointer (some ⟨b1, 0, none⟩) ∧ f 2 = .pointer (some ⟨b2, 0, none⟩) ∧ f 5 = .slice sp2 (T.length) sc2 ∧ f 6 = Nx (k) ∧ f 7 = .pointer (some ⟨b14, 0, none⟩) ∧ f 8 = .pointer (some ⟨b16, 0, none⟩) ∧ f 28 = .slice p1 (bs.length) c1 ∧ f 29 = Nx (bs.length) ∧ f 30 = Nx (k) ∧ f 41 = .agg #[.pointer (some ⟨b16, 0, none⟩), .pointer (some ⟨b16, 1, none⟩)] ∧ f 42 = Nx (j)) ∧ L = [pt b16 (.cells #[Ix (vx), Ix (vy)] 28), pt b14 (.cells (bC x) 52), rowF StopF 55 sp2 sc2 T, pt b2 (.cells #[.slice none 0 0, .slice none 0 0, .int .i64 (0), .int .i64 (0)] 30), rowF BodyF 52 p1 c1 (B.set k C), rowF RopeF 78 p2 c2 rs, pt b1 (.cells #[.slice p1 (bs.length) c1, .slice p2 (rs.length) c2, Ix (gx), Ix (gy)] 30)] ∧ (j ≤ 2 ∧ C = (innerK rs B k x nx ny j).1 ∧ T = S ++ (innerK rs B k x nx ny j).2.1 ∧ vx = (innerK rs B k x nx ny j).2.2.1 ∧ vy = (innerK rs B k x nx ny j).2.2.2 ∧ okB C ∧ C.id = x.id ∧ C.fixed = x.fixed ∧ (-4096 ≤ vx ∧ vx ≤ 4096) ∧ (-4096 ≤ vy ∧ vy ≤ 4096) ∧ T.length ≤ S.length + j)) (fun (x_ : Nat × KB × List KS × Int × Int × Option Addr × Nat) => match x_ with | (j, C, T, vx, vy, sp2, sc2) => 2 - j) (0, x, S, nx, ny, sp, sc) ?_ ?_
    ·exact ⟨⟨rfl, rfl, rfl, rfl, rfl, rfl, rfl, rfl, rfl, rfl, rfl⟩, (by rw [set_self hx]; try rfl), ⟨by omega, rfl, by simp [innerK], rfl, rfl, hxok, rfl, rfl, hsp.1, hsp.2, by omega⟩⟩
    rintro ⟨j, C, T, vx, vy, sp2, sc2⟩ f0 L0 ⟨⟨hs1, hs2, hs5, hs6, hs7, hs8, hs28, hs29, hs30, hs41, hs42⟩, hL, ⟨hj, hC, hT, hqx, hqy, hCok, hCid, hCf, hvx, hvy, hTl⟩⟩
    subst L0
    refine rebase (d := 1) hs1 ?_
    refine rebase (d := 2) hs2 ?_
    refine rebase (d := 5) hs5 ?_
    refine rebase (d := 6) hs6 ?_
    refine rebase (d := 7) hs7 ?_
    refine rebase (d := 8) hs8 ?_
    refine rebase (d := 28) hs28 ?_
    refine rebase (d := 29) hs29 ?_
    refine rebase (d := 30) hs30 ?_
    refine rebase (d := 41) hs41 ?_
    refine rebase (d := 42) hs42 ?_
    clear hs1 hs2 hs5 hs6 hs7 hs8 hs28 hs29 hs30 hs41 hs42
    refine c_seq ?_
    refine c_region ?_
    refine l_val (v := .bool (decide (((j : Nat) : Int) < (2 : Int)))) rfl rfl rfl (e_lss (a := ((j : Nat) : Int)) (b := (2 : Int)) rfl rfl) ?_
    refine l_nil ?_
    refine f_then ?_
    refine c_seq ?_
    refine c_if (((j : Nat) : Int) < (2 : Int)) rfl (fun hc17 => ?_) (fun hc17 => ?_)
    ·
     refine c_skip ?_
     refine f_then ?_
     refine c_seq ?_
     refine c_block ?_
     refine c_seq ?_
     obtain ⟨y, rfl⟩ : ∃ y : Bool, j = y.toNat := ⟨j == 1, (show j = 0 ∨ j = 1 by omega).elim (fun h => by subst h; rfl) fun h => by subst h; rfl⟩
     have hbC := okB_set (k := k) hBok hCok
     have hsC := hid.set hx hCid
     have hrC : ∀ r ∈ rs, okR (B.set k C) r := fun r hr => okR_ids hsC (o6 r hr)
     have hsk := get_set (xs := B) C (by omega : k < B.length)
     obtain ⟨n, hn⟩ : ∃ n, n = if y then vy else vx := ⟨_, rfl⟩
     have hnb : -4096 ≤ n ∧ n ≤ 4096 := by rw [hn]; split <;> omega
     obtain ⟨m, hm⟩ : ∃ m : Nat, max n (0 - n) = (m : Int) := ⟨n.natAbs, by omega⟩
     refine c_region ?_
     refine l_val (v := Nx (y.toNat)) rfl rfl rfl (e_move) ?_
     refine l_val (v := .pointer (some ⟨b16, 0 + y.toNat, none⟩)) rfl rfl rfl (ev_eq (by cases y <;> rfl) (e_index_2 (u := .pointer (some ⟨b16, 0, none⟩)) (v := .pointer (some ⟨b16, 1, none⟩)) (y := y) rfl rfl tf61 tf64)) ?_
     refine l_val (v := Nx (y.toNat)) rfl rfl rfl (e_assign) ?_
     refine l_val (v := .pointer (some ⟨b16, 0 + y.toNat, none⟩)) rfl rfl rfl (e_assign) ?_
     refine l_nil ?_
     refine f_then ?_
     refine c_seq ?_
     refine c_any [⟨[], [], [0], [46], fun f => f 46 = .agg #[.slice p1 (bs.length) c1, .slice p2 (rs.length) c2, Ix (gx), Ix (gy)]⟩, ⟨[], [], [0], [47], fun f => f 47 = .pointer (some ⟨b1, 0, none⟩)⟩, ⟨[1], [1], [], [48], fun f => f 48 = .slice p1 (bs.length) c1⟩, ⟨[], [], [1], [49], fun f => f 49 = Nx (k)⟩, ⟨[1, 2, 3], [2, 3], [], [50], fun f => f 50 = .pointer (some ((ba p1).add (k * 9)))⟩, ⟨[1, 2, 3, 4], [4], [], [51], fun f => f 51 = .agg (bC C)⟩, ⟨[], [], [2], [52], fun f => f 52 = Nx (y.toNat)⟩, ⟨[0, 1, 2, 3, 4, 5, 6], [0, 5, 6], [], [53], fun f => f 53 = .agg #[.slice p1 (bs.length) c1, .slice p2 (rs.length) c2, Ix (gx), Ix (gy), Ix (C.id), Ix (C.x), Ix (C.y), Ix (C.vx), Ix (C.vy), Ix (C.w), Ix (C.h), .bool (C.round), .bool (C.fixed), Nx (y.toNat), .int .i64 (1)]⟩, ⟨[], [], [], [11], fun f => f 11 = .pointer (some ⟨(blk (f 11)), 0, none⟩)⟩, ⟨[0, 1, 2, 3, 4, 5, 6, 7, 8], [8, 7], [], [], fun _ => True⟩] [⟨none, none, [], [], fun _ => pt b16 (.cells #[Ix (vx), Ix (vy)] 28)⟩, ⟨none, none, [], [], fun _ => pt b14 (.cells (bC x) 52)⟩, ⟨none, none, [], [], fun _ => rowF StopF 55 sp2 sc2 T⟩, ⟨none, none, [], [], fun _ => pt b2 (.cells #[.slice none 0 0, .slice none 0 0, .int .i64 (0), .int .i64 (0)] 30)⟩, ⟨none, none, [4, 5], [], fun _ => rowF BodyF 52 p1 c1 (B.set k C)⟩, ⟨none, none, [], [], fun _ => rowF RopeF 78 p2 c2 rs⟩, ⟨none, none, [0, 2], [], fun _ => pt b1 (.cells #[.slice p1 (bs.length) c1, .slice p2 (rs.length) c2, Ix (gx), Ix (gy)] 30)⟩, ⟨(some 8), (some 9), [9], [11], fun f => pt (blk (f 11)) (.cells #[.slice none 0 0, .slice none 0 0, .int .i64 (0), .int .i64 (0), .int .i64 (0), .int .i64 (0), .int .i64 (0), .int .i64 (0), .int .i64 (0), .int .i64 (0), .int .i64 (0), .bool false, .bool false, .int .i64 (0), .int .i64 (0)] 87)⟩, ⟨(some 9), none, [], [11], fun f => pt (blk (f 11)) (.cells #[.slice p1 (bs.length) c1, .slice p2 (rs.length) c2, Ix (gx), Ix (gy), Ix (C.id), Ix (C.x), Ix (C.y), Ix (C.vx), Ix (C.vy), Ix (C.w), Ix (C.h), .bool (C.round), .bool (C.fixed), Nx (y.toNat), .int .i64 (1)] 87)⟩] [(1, .pointer (some ⟨b1, 0, none⟩)), (6, Nx (k)), (9, Nx (y.toNat)), (2, .pointer (some ⟨b2, 0, none⟩)), (5, .slice sp2 (T.length) sc2), (7, .pointer (some ⟨b14, 0, none⟩)), (8, .pointer (some ⟨b16, 0, none⟩)), (10, .pointer (some ⟨b16, 0 + y.toNat, none⟩)), (28, .slice p1 (bs.length) c1), (29, Nx (bs.length)), (30, Nx (k)), (41, .agg #[.pointer (some ⟨b16, 0, none⟩), .pointer (some ⟨b16, 1, none⟩)]), (42, Nx (y.toNat))] [0, 3, 4, 1, 5, 6, 2, 7, 8, 9, 10, 11, 12] [] (by kernel_rfl) (by kernel_rfl) (by kernel_rfl) (by kernel_rfl) rfl ⟨rfl, rfl, rfl, rfl, rfl, rfl, rfl, rfl, rfl, rfl, rfl, rfl, rfl, trivial⟩ ⟨?_, ?_, ?_, ?_, ?_, ?_, ?_, ?_, ?_, ?_, trivial⟩ ?_
     ·rintro f M - ⟨i0, -⟩
      have hs1 : f 1 = .pointer (some ⟨b1, 0, none⟩) := i0
      refine ob_start (L' := pt b1 (.cells #[.slice p1 (bs.length) c1, .slice p2 (rs.length) c2, Ix (gx), Ix (gy)] 30) :: M) (by rfl) (up_cons rfl hs1) ?_
      refine l_val (v := .agg #[.slice p1 (bs.length) c1, .slice p2 (rs.length) c2, Ix (gx), Ix (gy)]) rfl rfl rfl (e_load tf86 (cs := [.slice p1 (bs.length) c1, .slice p2 (rs.length) c2, Ix (gx), Ix (gy)]) rfl (k_pt 0 (cs := #[.slice p1 (bs.length) c1, .slice p2 (rs.length) c2, Ix (gx), Ix (gy)]) (vs := [.slice p1 (bs.length) c1, .slice p2 (rs.length) c2, Ix (gx), Ix (gy)]) rfl rfl) rfl) ?_
      refine l_nil ?_
      exact f_owes_d (up_cons rfl hs1) rfl (perm_front 0 rfl)
     ·rintro f M - ⟨i0, -⟩
      have hs1 : f 1 = .pointer (some ⟨b1, 0, none⟩) := i0
      refine ob_start (L' := M) (by rfl) (up_cons rfl hs1) ?_
      refine l_val (v := .pointer (some ⟨b1, 0, none⟩)) rfl rfl rfl (e_fieldPt (b := b1) (o := 0) rfl tf49) ?_
      refine l_nil ?_
      exact f_owes_d (up_cons rfl hs1) rfl (List.Perm.refl _)
     ·rintro f M ⟨k0, -⟩ -
      have hs47 : f 47 = .pointer (some ⟨b1, 0, none⟩) := k0
      refine ob_start (L' := pt b1 (.cells #[.slice p1 (bs.length) c1, .slice p2 (rs.length) c2, Ix (gx), Ix (gy)] 30) :: M) (by rfl) (up_cons rfl hs47) ?_
      refine l_val (v := .slice p1 (bs.length) c1) rfl rfl rfl (e_load1 tf50 (v := .slice p1 (bs.length) c1) rfl (k_pt 0 (cs := #[.slice p1 (bs.length) c1, .slice p2 (rs.length) c2, Ix (gx), Ix (gy)]) (vs := [.slice p1 (bs.length) c1]) rfl rfl)) ?_
      refine l_nil ?_
      exact f_owes_d (up_cons rfl hs47) rfl (perm_front 0 rfl)
     ·rintro f M - ⟨i0, -⟩
      have hs6 : f 6 = Nx (k) := i0
      refine ob_start (L' := M) (by rfl) (up_cons rfl hs6) ?_
      refine l_val (v := Nx (k)) rfl rfl rfl (e_move) ?_
      refine l_nil ?_
      exact f_owes_d (up_cons rfl hs6) rfl (List.Perm.refl _)
     ·rintro f M ⟨k0, k1, -⟩ -
      have hs48 : f 48 = .slice p1 (bs.length) c1 := k0
      have hs49 : f 49 = Nx (k) := k1
      refine ob_start (L' := rowF BodyF 52 p1 c1 (B.set k C) :: M) (by rfl) (up_cons (up_cons rfl hs48) hs49) ?_
      refine l_val (v := .pointer (some ((ba p1).add (k * 9)))) rfl rfl rfl (e_indexFlN 0 (F := BodyF) (j := k) (m := bs.length) (xs := (B.set k C)) rfl (by rw [List.length_set]; omega) rfl tf43 (by omega) rfl) ?_
      refine l_nil ?_
      exact f_owes_d (up_cons (up_cons rfl hs48) hs49) rfl (perm_front 0 rfl)
     ·rintro f M ⟨k0, -⟩ -
      have hs50 : f 50 = .pointer (some ((ba p1).add (k * 9))) := k0
      refine ob_start (L' := rowF BodyF 52 p1 c1 (B.set k C) :: M) (by rfl) (up_cons rfl hs50) ?_
      refine l_val (v := .agg (bC C)) rfl rfl rfl (e_load tf22 (cs := (bodyE C)) rfl (k_flAt 0 (F := BodyF) rfl hsk) rfl) ?_
      refine l_nil ?_
      exact f_owes_d (up_cons rfl hs50) rfl (perm_front 0 rfl)
     ·rintro f M - ⟨i0, -⟩
      have hs9 : f 9 = Nx (y.toNat) := i0
      refine ob_start (L' := M) (by rfl) (up_cons rfl hs9) ?_
      refine l_val (v := Nx (y.toNat)) rfl rfl rfl (e_move) ?_
      refine l_nil ?_
      exact f_owes_d (up_cons rfl hs9) rfl (List.Perm.refl _)
     ·rintro f M ⟨k0, k1, k2, -⟩ -
      have hs46 : f 46 = .agg #[.slice p1 (bs.length) c1, .slice p2 (rs.length) c2, Ix (gx), Ix (gy)] := k0
      have hs51 : f 51 = .agg (bC C) := k1
      have hs52 : f 52 = Nx (y.toNat) := k2
      refine ob_start (L' := M) (by rfl) (up_cons (up_cons (up_cons rfl hs46) hs51) hs52) ?_
      refine l_val (v := .agg #[.slice p1 (bs.length) c1, .slice p2 (rs.length) c2, Ix (gx), Ix (gy), Ix (C.id), Ix (C.x), Ix (C.y), Ix (C.vx), Ix (C.vy), Ix (C.w), Ix (C.h), .bool (C.round), .bool (C.fixed), Nx (y.toNat), .int .i64 (1)]) rfl rfl rfl (e_build tf93 tf92 (vs := [(0, .agg #[.slice p1 (bs.length) c1, .slice p2 (rs.length) c2, Ix (gx), Ix (gy)]), (1, .agg (bC C)), (2, Nx (y.toNat)), (3, .int .i64 (1))]) (cells := #[.slice p1 (bs.length) c1, .slice p2 (rs.length) c2, Ix (gx), Ix (gy), Ix (C.id), Ix (C.x), Ix (C.y), Ix (C.vx), Ix (C.vy), Ix (C.w), Ix (C.h), .bool (C.round), .bool (C.fixed), Nx (y.toNat), .int .i64 (1)]) rfl (by kernel_rfl)) ?_
      refine l_nil ?_
      exact f_owes_d (up_cons (up_cons (up_cons rfl hs46) hs51) hs52) rfl (List.Perm.refl _)
     ·rintro f M - -
      refine ob_start (L' := M) (by rfl) rfl ?_
      refine l_mv rfl rfl rfl (m_alloc tf93) ?_
      rintro _ _ ⟨b19, rfl, rfl⟩
      refine l_nil ?_
      exact f_owes_d rfl rfl (perm_front 0 rfl)
     ·rintro f M ⟨k0, k1, -⟩ -
      have hs11 : f 11 = .pointer (some ⟨(blk (f 11)), 0, none⟩) := k0
      have hs53 : f 53 = .agg #[.slice p1 (bs.length) c1, .slice p2 (rs.length) c2, Ix (gx), Ix (gy), Ix (C.id), Ix (C.x), Ix (C.y), Ix (C.vx), Ix (C.vy), Ix (C.w), Ix (C.h), .bool (C.round), .bool (C.fixed), Nx (y.toNat), .int .i64 (1)] := k1
      refine ob_start (L' := pt (blk (f 11)) (.cells #[.slice none 0 0, .slice none 0 0, .int .i64 (0), .int .i64 (0), .int .i64 (0), .int .i64 (0), .int .i64 (0), .int .i64 (0), .int .i64 (0), .int .i64 (0), .int .i64 (0), .bool false, .bool false, .int .i64 (0), .int .i64 (0)] 87) :: M) (by rfl) (up_cons (up_cons rfl hs11) hs53) ?_
      refine l_mu rfl rfl (m_store 0 tf72 (b := (blk (f 11))) (o := 0) (T := 87) (cs := #[.slice none 0 0, .slice none 0 0, .int .i64 (0), .int .i64 (0), .int .i64 (0), .int .i64 (0), .int .i64 (0), .int .i64 (0), .int .i64 (0), .int .i64 (0), .int .i64 (0), .bool false, .bool false, .int .i64 (0), .int .i64 (0)]) (cs' := #[.slice p1 (bs.length) c1, .slice p2 (rs.length) c2, Ix (gx), Ix (gy), Ix (C.id), Ix (C.x), Ix (C.y), Ix (C.vx), Ix (C.vy), Ix (C.w), Ix (C.h), .bool (C.round), .bool (C.fixed), Nx (y.toNat), .int .i64 (1)]) (v := .agg #[.slice p1 (bs.length) c1, .slice p2 (rs.length) c2, Ix (gx), Ix (gy), Ix (C.id), Ix (C.x), Ix (C.y), Ix (C.vx), Ix (C.vy), Ix (C.w), Ix (C.h), .bool (C.round), .bool (C.fixed), Nx (y.toNat), .int .i64 (1)]) rfl rfl rfl rfl rfl rfl rfl) ?_
      refine l_nil ?_
      exact f_owes_n (up_cons (up_cons rfl hs11) hs53) trivial (perm_front 0 rfl)
     rintro fa20 ⟨-, -, -, -, -, -, -, -, k8, -, -⟩ ⟨j0, j1, j2, j3, j4, j5, j6, j7, j8, j9, j10, j11, j12, -⟩
     refine f_re (L' := [pt b16 (.cells #[Ix (vx), Ix (vy)] 28), pt b14 (.cells (bC x) 52), rowF StopF 55 sp2 sc2 T, pt b2 (.cells #[.slice none 0 0, .slice none 0 0, .int .i64 (0), .int .i64 (0)] 30), rowF BodyF 52 p1 c1 (B.set k C), rowF RopeF 78 p2 c2 rs, pt b1 (.cells #[.slice p1 (bs.length) c1, .slice p2 (rs.length) c2, Ix (gx), Ix (gy)] 30), pt (blk (fa20 11)) (.cells #[.slice p1 (bs.length) c1, .slice p2 (rs.length) c2, Ix (gx), Ix (gy), Ix (C.id), Ix (C.x), Ix (C.y), Ix (C.vx), Ix (C.vy), Ix (C.w), Ix (C.h), .bool (C.round), .bool (C.fixed), Nx (y.toNat), .int .i64 (1)] 87)]) (by rfl) ?_
     refine f_rebase (d := 1) (v := .pointer (some ⟨b1, 0, none⟩)) j0 ?_
     refine f_rebase (d := 2) (v := .pointer (some ⟨b2, 0, none⟩)) j1 ?_
     refine f_rebase (d := 5) (v := .slice sp2 (T.length) sc2) j2 ?_
     refine f_rebase (d := 6) (v := Nx (k)) j3 ?_
     refine f_rebase (d := 7) (v := .pointer (some ⟨b14, 0, none⟩)) j4 ?_
     refine f_rebase (d := 8) (v := .pointer (some ⟨b16, 0, none⟩)) j5 ?_
     refine f_rebase (d := 9) (v := Nx (y.toNat)) j6 ?_
     refine f_rebase (d := 10) (v := .pointer (some ⟨b16, 0 + y.toNat, none⟩)) j7 ?_
     refine f_rebase (d := 11) (v := .pointer (some ⟨(blk (fa20 11)), 0, none⟩)) k8 ?_
     refine f_rebase (d := 28) (v := .slice p1 (bs.length) c1) j8 ?_
     refine f_rebase (d := 29) (v := Nx (bs.length)) j9 ?_
     refine f_rebase (d := 30) (v := Nx (k)) j10 ?_
     refine f_rebase (d := 41) (v := .agg #[.pointer (some ⟨b16, 0, none⟩), .pointer (some ⟨b16, 1, none⟩)]) j11 ?_
     refine f_rebase (d := 42) (v := Nx (y.toNat)) j12 ?_
     refine f_then ?_
     refine c_seq_cut (fun (f : Fm) (L : List Res) => ∃ s, (f 1 = .pointer (some ⟨b1, 0, none⟩) ∧ f 2 = .pointer (some ⟨b2, 0, none⟩) ∧ f 5 = .slice sp2 (T.length) sc2 ∧ f 6 = Nx (k) ∧ f 7 = .pointer (some ⟨b14, 0, none⟩) ∧ f 8 = .pointer (some ⟨b16, 0, none⟩) ∧ f 9 = Nx (y.toNat) ∧ f 10 = .pointer (some ⟨b16, 0 + y.toNat, none⟩) ∧ f 11 = .pointer (some ⟨(blk (fa20 11)), 0, none⟩) ∧ f 28 = .slice p1 (bs.length) c1 ∧ f 29 = Nx (bs.length) ∧ f 30 = Nx (k) ∧ f 41 = .agg #[.pointer (some ⟨b16, 0, none⟩), .pointer (some ⟨b16, 1, none⟩)] ∧ f 42 = Nx (y.toNat)) ∧ L = [pt b16 (.cells #[Ix (vx), Ix (vy)] 28), pt b14 (.cells (bC x) 52), rowF StopF 55 sp2 sc2 T, pt b2 (.cells #[.slice none 0 0, .slice none 0 0, .int .i64 (0), .int .i64 (0)] 30), rowF BodyF 52 p1 c1 (B.set k C), rowF RopeF 78 p2 c2 rs, pt b1 (.cells #[.slice p1 (bs.length) c1, .slice p2 (rs.length) c2, Ix (gx), Ix (gy)] 30), pt (blk (fa20 11)) (.cells (mC (.slice p1 (bs.length) c1) (.slice p2 (rs.length) c2) gx gy C y s) 87)] ∧ s = sgn n) ?_ ?_
     ·
      refine c_seq ?_
      refine c_region ?_
      refine l_val (v := .pointer (some ⟨b16, 0 + y.toNat, none⟩)) rfl rfl rfl (e_move) ?_
      refine l_val (v := .pointer (some ⟨b16, 0 + y.toNat, none⟩)) rfl rfl rfl (e_nil (a := ⟨b16, 0 + y.toNat, none⟩) rfl) ?_
      refine l_val (v := Ix (n)) rfl rfl rfl (e_load1 tf2 (v := Ix n) rfl (k_pt 0 (cs := #[Ix (vx), Ix (vy)]) (vs := [Ix n]) rfl (by rw [hn]; cases y <;> rfl))) ?_
      refine l_val (v := .bool (decide ((n) < (0 : Int)))) rfl rfl rfl (e_lss (a := (n)) (b := (0 : Int)) rfl rfl) ?_
      refine l_nil ?_
      refine f_then ?_
      refine c_if ((n) < (0 : Int)) rfl (fun hc21 => ?_) (fun hc21 => ?_)
      ·
       refine c_region ?_
       refine l_val (v := .pointer (some ⟨(blk (fa20 11)), 14, none⟩)) rfl rfl rfl (e_fieldPt (b := (blk (fa20 11))) (o := 0) rfl tf67) ?_
       refine l_mu rfl rfl (m_store 7 tf2 (b := (blk (fa20 11))) (o := 14) (T := 87) (cs := #[.slice p1 (bs.length) c1, .slice p2 (rs.length) c2, Ix (gx), Ix (gy), Ix (C.id), Ix (C.x), Ix (C.y), Ix (C.vx), Ix (C.vy), Ix (C.w), Ix (C.h), .bool (C.round), .bool (C.fixed), Nx (y.toNat), .int .i64 (1)]) (cs' := #[.slice p1 (bs.length) c1, .slice p2 (rs.length) c2, Ix (gx), Ix (gy), Ix (C.id), Ix (C.x), Ix (C.y), Ix (C.vx), Ix (C.vy), Ix (C.w), Ix (C.h), .bool (C.round), .bool (C.fixed), Nx (y.toNat), .int .i64 (-1)]) (v := .int .i64 (-1)) rfl rfl rfl rfl rfl rfl rfl) ?_
       refine l_nil ?_
       exact f_cut ⟨-1, ⟨rfl, rfl, rfl, rfl, rfl, rfl, rfl, rfl, rfl, rfl, rfl, rfl, rfl, rfl⟩, rfl, by unfold sgn; rw [if_pos]; exact hc21⟩
      ·
       refine c_skip ?_
       exact f_cut ⟨1, ⟨rfl, rfl, rfl, rfl, rfl, rfl, rfl, rfl, rfl, rfl, rfl, rfl, rfl, rfl⟩, rfl, by unfold sgn; rw [if_neg]; exact hc21⟩
     rintro f0 L0 ⟨s, ⟨hs1, hs2, hs5, hs6, hs7, hs8, hs9, hs10, hs11, hs28, hs29, hs30, hs41, hs42⟩, hL, hsn⟩
     subst L0
     refine rebase (d := 1) hs1 ?_
     refine rebase (d := 2) hs2 ?_
     refine rebase (d := 5) hs5 ?_
     refine rebase (d := 6) hs6 ?_
     refine rebase (d := 7) hs7 ?_
     refine rebase (d := 8) hs8 ?_
     refine rebase (d := 9) hs9 ?_
     refine rebase (d := 10) hs10 ?_
     refine rebase (d := 11) hs11 ?_
     refine rebase (d := 28) hs28 ?_
     refine rebase (d := 29) hs29 ?_
     refine rebase (d := 30) hs30 ?_
     refine rebase (d := 41) hs41 ?_
     refine rebase (d := 42) hs42 ?_
     clear hs1 hs2 hs5 hs6 hs7 hs8 hs9 hs10 hs11 hs28 hs29 hs30 hs41 hs42
     have hs1 : s = 1 ∨ s = -1 := hsn ▸ sgn_or n
     refine c_seq ?_
     refine c_quiet (by kernel_rfl) (by kernel_rfl) ?_
     refine q_val (v := .pointer (some ⟨b16, 0 + y.toNat, none⟩)) rfl rfl rfl (e_move) ?_
     refine q_val (v := .pointer (some ⟨b16, 0 + y.toNat, none⟩)) rfl rfl rfl (e_nil (a := ⟨b16, 0 + y.toNat, none⟩) rfl) ?_
     refine q_val (v := Ix (n)) rfl rfl rfl (e_load1 tf2 (v := Ix n) rfl (k_pt 0 (cs := #[Ix (vx), Ix (vy)]) (vs := [Ix n]) rfl (by rw [hn]; cases y <;> rfl))) ?_
     refine q_val (v := .pointer (some ⟨b16, 0 + y.toNat, none⟩)) rfl rfl rfl (e_move) ?_
     refine q_val (v := .pointer (some ⟨b16, 0 + y.toNat, none⟩)) rfl rfl rfl (e_nil (a := ⟨b16, 0 + y.toNat, none⟩) rfl) ?_
     refine q_val (v := Ix (n)) rfl rfl rfl (e_load1 tf2 (v := Ix n) rfl (k_pt 0 (cs := #[Ix (vx), Ix (vy)]) (vs := [Ix n]) rfl (by rw [hn]; cases y <;> rfl))) ?_
     refine q_val (v := Ix (0 - (n))) rfl rfl rfl (e_neg (a := (n)) rfl (i64w (by omega))) ?_
     refine q_val (v := Nx (m)) rfl rfl rfl (ev_eq (congrArg (Value.int .i64) hm) (e_max (a := (n)) (b := (0 - (n))) rfl rfl)) ?_
     refine q_val (v := Nx (m)) rfl rfl rfl (e_assign) ?_
     refine q_nil ?_
     refine f_then ?_
     refine c_seq ?_
     refine c_region ?_
     refine l_val (v := .agg (mC (.slice p1 (bs.length) c1) (.slice p2 (rs.length) c2) gx gy C y s)) rfl rfl rfl (e_load tf72 (cs := (mC (.slice p1 (bs.length) c1) (.slice p2 (rs.length) c2) gx gy C y s).toList) rfl (k_pt 7 (cs := (mC (.slice p1 (bs.length) c1) (.slice p2 (rs.length) c2) gx gy C y s)) (vs := (mC (.slice p1 (bs.length) c1) (.slice p2 (rs.length) c2) gx gy C y s).toList) rfl rfl) rfl) ?_
     refine l_val (v := Nx (m)) rfl rfl rfl (e_move) ?_
     refine l_call rfl rfl rfl (cl_value (fst := []) (cap := []) (vs := [.agg (mC (.slice p1 (bs.length) c1) (.slice p2 (rs.length) c2) gx gy C y s), Nx (m)]) (all := [.agg (mC (.slice p1 (bs.length) c1) (.slice p2 (rs.length) c2) gx gy C y s), Nx (m)]) tf94 rfl rfl rfl) ?_
     intro w hw
     obtain ⟨β1, sb, kn, hw1, back⟩ := St.frame_all hw
     obtain ⟨u, hu⟩ : ∃ u, runP (B.set k C) rs C y s m = u := ⟨_, rfl⟩
     refine (runU_ok β1 w hw1 (GR.mono sb hG) _ _ _ _ C y s (B.set k C) rs (kn _ (k_flN 4 (F := BodyF) (m := bs.length) (xs := (B.set k C)) rfl (by rw [List.length_set]; omega))) (kn _ (k_flN 5 (F := RopeF) (m := rs.length) (xs := rs) rfl rfl)) hbC hrC hs1 hCok (by rw [List.length_set]; omega) m (by omega) u hu).mono ?_
     rintro e w' ⟨rfl, hw'⟩
     refine ⟨_, rfl, _, back _ _ hw', ?_⟩
     clear hw hw1 hw' back kn sb
     have hu1 : u.1 ≤ m := by rw [← hu]; exact (runP_M (rs := rs) hsn hm hCok hbC).1
     refine l_val (v := .tuple #[Nx (u.1), Ix (u.2)]) rfl rfl rfl (e_move) ?_
     refine l_val (v := Nx (u.1)) rfl rfl rfl (e_extract (vs := #[Nx (u.1), Ix (u.2)]) rfl rfl) ?_
     refine l_val (v := Ix (u.2)) rfl rfl rfl (e_extract (vs := #[Nx (u.1), Ix (u.2)]) rfl rfl) ?_
     refine l_val (v := Nx (u.1)) rfl rfl rfl (e_assign) ?_
     refine l_val (v := Ix (u.2)) rfl rfl rfl (e_assign) ?_
     refine l_nil ?_
     refine f_then ?_
     refine c_seq ?_
     obtain ⟨C2, hC2⟩ : ∃ z, sh y C (s * ((u.1 : Nat) : Int)) = z := ⟨_, rfl⟩
     refine c_any [⟨[], [], [0], [73], fun f => f 73 = .pointer (some ⟨b1, 0, none⟩)⟩, ⟨[0], [0], [], [74], fun f => f 74 = .slice p1 (bs.length) c1⟩, ⟨[], [], [1], [75], fun f => f 75 = Nx (k)⟩, ⟨[], [], [2], [76], fun f => f 76 = .agg (mC (.slice p1 (bs.length) c1) (.slice p2 (rs.length) c2) gx gy C y s)⟩, ⟨[], [], [3], [77], fun f => f 77 = Nx (u.1)⟩, ⟨[3, 4], [3, 4], [], [78], fun f => f 78 = .agg (bC C2)⟩, ⟨[0, 1, 2, 3, 4, 5], [1, 2], [], [79], fun f => f 79 = .pointer (some ((ba p1).add (k * 9)))⟩, ⟨[0, 1, 2, 3, 4, 5, 6], [6, 5], [], [], fun _ => True⟩] [⟨none, none, [], [], fun _ => pt b16 (.cells #[Ix (vx), Ix (vy)] 28)⟩, ⟨none, none, [], [], fun _ => pt b14 (.cells (bC x) 52)⟩, ⟨none, none, [], [], fun _ => rowF StopF 55 sp2 sc2 T⟩, ⟨none, none, [], [], fun _ => pt b2 (.cells #[.slice none 0 0, .slice none 0 0, .int .i64 (0), .int .i64 (0)] 30)⟩, ⟨none, (some 7), [6, 7], [], fun _ => rowF BodyF 52 p1 c1 (B.set k C)⟩, ⟨none, none, [], [], fun _ => rowF RopeF 78 p2 c2 rs⟩, ⟨none, none, [1], [], fun _ => pt b1 (.cells #[.slice p1 (bs.length) c1, .slice p2 (rs.length) c2, Ix (gx), Ix (gy)] 30)⟩, ⟨none, none, [3], [], fun _ => pt (blk (fa20 11)) (.cells (mC (.slice p1 (bs.length) c1) (.slice p2 (rs.length) c2) gx gy C y s) 87)⟩, ⟨(some 7), none, [], [], fun _ => rowF BodyF 52 p1 c1 (B.set k C2)⟩] [(1, .pointer (some ⟨b1, 0, none⟩)), (6, Nx (k)), (11, .pointer (some ⟨(blk (fa20 11)), 0, none⟩)), (13, Nx (u.1)), (2, .pointer (some ⟨b2, 0, none⟩)), (5, .slice sp2 (T.length) sc2), (7, .pointer (some ⟨b14, 0, none⟩)), (8, .pointer (some ⟨b16, 0, none⟩)), (9, Nx (y.toNat)), (10, .pointer (some ⟨b16, 0 + y.toNat, none⟩)), (12, Nx (m)), (14, Ix (u.2)), (28, .slice p1 (bs.length) c1), (29, Nx (bs.length)), (30, Nx (k)), (41, .agg #[.pointer (some ⟨b16, 0, none⟩), .pointer (some ⟨b16, 1, none⟩)]), (42, Nx (y.toNat))] [0, 4, 5, 1, 6, 7, 8, 9, 10, 3, 11, 12, 13, 14, 15, 16] [] (by kernel_rfl) (by kernel_rfl) (by kernel_rfl) (by kernel_rfl) rfl ⟨rfl, rfl, rfl, rfl, rfl, rfl, rfl, rfl, rfl, rfl, rfl, rfl, rfl, rfl, rfl, rfl, rfl, trivial⟩ ⟨?_, ?_, ?_, ?_, ?_, ?_, ?_, ?_, trivial⟩ ?_
     ·rintro f M - ⟨i0, -⟩
      have hs1 : f 1 = .pointer (some ⟨b1, 0, none⟩) := i0
      refine ob_start (L' := M) (by rfl) (up_cons rfl hs1) ?_
      refine l_val (v := .pointer (some ⟨b1, 0, none⟩)) rfl rfl rfl (e_fieldPt (b := b1) (o := 0) rfl tf49) ?_
      refine l_nil ?_
      exact f_owes_d (up_cons rfl hs1) rfl (List.Perm.refl _)
     ·rintro f M ⟨k0, -⟩ -
      have hs73 : f 73 = .pointer (some ⟨b1, 0, none⟩) := k0
      refine ob_start (L' := pt b1 (.cells #[.slice p1 (bs.length) c1, .slice p2 (rs.length) c2, Ix (gx), Ix (gy)] 30) :: M) (by rfl) (up_cons rfl hs73) ?_
      refine l_val (v := .slice p1 (bs.length) c1) rfl rfl rfl (e_load1 tf50 (v := .slice p1 (bs.length) c1) rfl (k_pt 0 (cs := #[.slice p1 (bs.length) c1, .slice p2 (rs.length) c2, Ix (gx), Ix (gy)]) (vs := [.slice p1 (bs.length) c1]) rfl rfl)) ?_
      refine l_nil ?_
      exact f_owes_d (up_cons rfl hs73) rfl (perm_front 0 rfl)
     ·rintro f M - ⟨i0, -⟩
      have hs6 : f 6 = Nx (k) := i0
      refine ob_start (L' := M) (by rfl) (up_cons rfl hs6) ?_
      refine l_val (v := Nx (k)) rfl rfl rfl (e_move) ?_
      refine l_nil ?_
      exact f_owes_d (up_cons rfl hs6) rfl (List.Perm.refl _)
     ·rintro f M - ⟨i0, -⟩
      have hs11 : f 11 = .pointer (some ⟨(blk (fa20 11)), 0, none⟩) := i0
      refine ob_start (L' := pt (blk (fa20 11)) (.cells (mC (.slice p1 (bs.length) c1) (.slice p2 (rs.length) c2) gx gy C y s) 87) :: M) (by rfl) (up_cons rfl hs11) ?_
      refine l_val (v := .agg (mC (.slice p1 (bs.length) c1) (.slice p2 (rs.length) c2) gx gy C y s)) rfl rfl rfl (e_load tf72 (cs := (mC (.slice p1 (bs.length) c1) (.slice p2 (rs.length) c2) gx gy C y s).toList) rfl (k_pt 0 (cs := (mC (.slice p1 (bs.length) c1) (.slice p2 (rs.length) c2) gx gy C y s)) (vs := (mC (.slice p1 (bs.length) c1) (.slice p2 (rs.length) c2) gx gy C y s).toList) rfl rfl) rfl) ?_
      refine l_nil ?_
      exact f_owes_d (up_cons rfl hs11) rfl (perm_front 0 rfl)
     ·rintro f M - ⟨i0, -⟩
      have hs13 : f 13 = Nx (u.1) := i0
      refine ob_start (L' := M) (by rfl) (up_cons rfl hs13) ?_
      refine l_val (v := Nx (u.1)) rfl rfl rfl (e_move) ?_
      refine l_nil ?_
      exact f_owes_d (up_cons rfl hs13) rfl (List.Perm.refl _)
     ·rintro f M ⟨k0, k1, -⟩ -
      have hs76 : f 76 = .agg (mC (.slice p1 (bs.length) c1) (.slice p2 (rs.length) c2) gx gy C y s) := k0
      have hs77 : f 77 = Nx (u.1) := k1
      refine ob_start (L' := M) (by rfl) (up_cons (up_cons rfl hs76) hs77) ?_
      refine l_call rfl rfl rfl (cl_value (fst := []) (cap := []) (vs := [.agg (mC (.slice p1 (bs.length) c1) (.slice p2 (rs.length) c2) gx gy C y s), Nx (u.1)]) (all := [.agg (mC (.slice p1 (bs.length) c1) (.slice p2 (rs.length) c2) gx gy C y s), Nx (u.1)]) tf73 rfl rfl rfl) ?_
      intro w hw
      obtain ⟨β1, sb, kn, hw1, back⟩ := St.frame_all hw
      refine (atC_ok β1 w hw1 _ _ _ _ C y s hs1 hCok ((u.1 : Nat) : Int) (by omega) C2 hC2).mono ?_
      rintro e w' ⟨rfl, hw'⟩
      refine ⟨_, rfl, _, back _ _ hw', ?_⟩
      clear hw hw1 hw' back kn sb
      refine l_nil ?_
      exact f_owes_d (up_cons (up_cons rfl hs76) hs77) rfl (List.Perm.refl _)
     ·rintro f M ⟨k0, k1, -⟩ -
      have hs74 : f 74 = .slice p1 (bs.length) c1 := k0
      have hs75 : f 75 = Nx (k) := k1
      refine ob_start (L' := rowF BodyF 52 p1 c1 (B.set k C) :: M) (by rfl) (up_cons (up_cons rfl hs74) hs75) ?_
      refine l_val (v := .pointer (some ((ba p1).add (k * 9)))) rfl rfl rfl (e_indexFlN 0 (F := BodyF) (j := k) (m := bs.length) (xs := (B.set k C)) rfl (by rw [List.length_set]; omega) rfl tf43 (by omega) rfl) ?_
      refine l_nil ?_
      exact f_owes_d (up_cons (up_cons rfl hs74) hs75) rfl (perm_front 0 rfl)
     ·rintro f M ⟨k0, k1, -⟩ -
      have hs79 : f 79 = .pointer (some ((ba p1).add (k * 9))) := k0
      have hs78 : f 78 = .agg (bC C2) := k1
      refine ob_start (L' := rowF BodyF 52 p1 c1 (B.set k C) :: M) (by rfl) (up_cons (up_cons rfl hs79) hs78) ?_
      refine l_mu rfl rfl (m_storeFl 0 (F := BodyF) (p := p1) (k := k) (xs := (B.set k C)) (z := C2) tf22 rfl rfl rfl rfl (by rw [List.length_set]; omega)) ?_
      refine l_re (L' := (rowF BodyF 52 p1 c1 (B.set k C2) :: M)) (by show (_ :: _ : List Res) = _; simp only [List.set_set, List.set_cons_zero, List.set_cons_succ]) ?_
      refine l_nil ?_
      exact f_owes_n (up_cons (up_cons rfl hs79) hs78) trivial (perm_front 0 rfl)
     rintro fa22 ⟨-, -, -, -, -, -, -, -, -⟩ ⟨j0, j1, j2, j3, j4, j5, j6, j7, j8, j9, j10, j11, j12, j13, j14, j15, -⟩
     refine f_re (L' := [pt b16 (.cells #[Ix (vx), Ix (vy)] 28), pt b14 (.cells (bC x) 52), rowF StopF 55 sp2 sc2 T, pt b2 (.cells #[.slice none 0 0, .slice none 0 0, .int .i64 (0), .int .i64 (0)] 30), rowF RopeF 78 p2 c2 rs, pt b1 (.cells #[.slice p1 (bs.length) c1, .slice p2 (rs.length) c2, Ix (gx), Ix (gy)] 30), pt (blk (fa20 11)) (.cells (mC (.slice p1 (bs.length) c1) (.slice p2 (rs.length) c2) gx gy C y s) 87), rowF BodyF 52 p1 c1 (B.set k C2)]) (by rfl) ?_
     refine f_rebase (d := 1) (v := .pointer (some ⟨b1, 0, none⟩)) j0 ?_
     refine f_rebase (d := 2) (v := .pointer (some ⟨b2, 0, none⟩)) j1 ?_
     refine f_rebase (d := 5) (v := .slice sp2 (T.length) sc2) j2 ?_
     refine f_rebase (d := 6) (v := Nx (k)) j3 ?_
     refine f_rebase (d := 7) (v := .pointer (some ⟨b14, 0, none⟩)) j4 ?_
     refine f_rebase (d := 8) (v := .pointer (some ⟨b16, 0, none⟩)) j5 ?_
     refine f_rebase (d := 9) (v := Nx (y.toNat)) j6 ?_
     refine f_rebase (d := 10) (v := .pointer (some ⟨b16, 0 + y.toNat, none⟩)) j7 ?_
     refine f_rebase (d := 12) (v := Nx (m)) j8 ?_
     refine f_rebase (d := 13) (v := Nx (u.1)) j9 ?_
     refine f_rebase (d := 14) (v := Ix (u.2)) j10 ?_
     refine f_rebase (d := 28) (v := .slice p1 (bs.length) c1) j11 ?_
     refine f_rebase (d := 29) (v := Nx (bs.length)) j12 ?_
     refine f_rebase (d := 30) (v := Nx (k)) j13 ?_
     refine f_rebase (d := 41) (v := .agg #[.pointer (some ⟨b16, 0, none⟩), .pointer (some ⟨b16, 1, none⟩)]) j14 ?_
     refine f_rebase (d := 42) (v := Nx (y.toNat)) j15 ?_
     refine f_then ?_
     refine c_seq ?_
     refine c_region ?_
     refine l_val (v := Nx (u.1)) rfl rfl rfl (e_move) ?_
     refine l_val (v := Nx (m)) rfl rfl rfl (e_move) ?_
     refine l_val (v := .bool (decide (((u.1 : Nat) : Int) < ((m : Nat) : Int)))) rfl rfl rfl (e_lss (a := ((u.1 : Nat) : Int)) (b := ((m : Nat) : Int)) rfl rfl) ?_
     refine l_nil ?_
     refine f_then ?_
     refine c_if (((u.1 : Nat) : Int) < ((m : Nat) : Int)) rfl (fun hc23 => ?_) (fun hc23 => ?_)
     ·
      refine c_seq ?_
      refine c_any [⟨[], [], [0], [83], fun f => f 83 = .slice sp2 (T.length) sc2⟩, ⟨[], [], [1], [84], fun f => f 84 = .pointer (some ⟨b14, 0, none⟩)⟩, ⟨[1], [1], [], [85], fun f => f 85 = Ix (x.id)⟩, ⟨[], [], [], [86], fun f => f 86 = .agg #[.int .u8 (1), .int .u8 (2)]⟩, ⟨[], [], [2], [87], fun f => f 87 = Nx (y.toNat)⟩, ⟨[3, 4], [3, 4], [], [88], fun f => f 88 = Bx (if y then 2 else 1)⟩, ⟨[], [], [3], [89], fun f => f 89 = Ix (u.2)⟩, ⟨[1, 2, 3, 4, 5, 6], [2, 5, 6], [], [90], fun f => f 90 = .agg #[Ix (x.id), Bx (if y then 2 else 1), Ix (u.2)]⟩, ⟨[1, 2, 3, 4, 5, 6, 7], [7], [], [91], fun f => f 91 = .slice (some ⟨(blk (f 91)), 0, none⟩) 1 1⟩, ⟨[0, 1, 2, 3, 4, 5, 6, 7, 8], [0, 8], [], [92], fun f => f 92 = .slice (sla (f 92)) ((T ++ [(⟨x.id, if y then 2 else 1, u.2⟩ : KS)]).length) (slc (f 92))⟩, ⟨[0, 1, 2, 3, 4, 5, 6, 7, 8, 9], [9], [], [5, 92], fun f => f 5 = .slice (sla (f 92)) ((T ++ [(⟨x.id, if y then 2 else 1, u.2⟩ : KS)]).length) (slc (f 92))⟩] [⟨none, none, [], [], fun _ => pt b16 (.cells #[Ix (vx), Ix (vy)] 28)⟩, ⟨none, none, [2], [], fun _ => pt b14 (.cells (bC x) 52)⟩, ⟨none, (some 9), [9], [], fun _ => rowF StopF 55 sp2 sc2 T⟩, ⟨none, none, [], [], fun _ => pt b2 (.cells #[.slice none 0 0, .slice none 0 0, .int .i64 (0), .int .i64 (0)] 30)⟩, ⟨none, none, [], [], fun _ => rowF RopeF 78 p2 c2 rs⟩, ⟨none, none, [], [], fun _ => pt b1 (.cells #[.slice p1 (bs.length) c1, .slice p2 (rs.length) c2, Ix (gx), Ix (gy)] 30)⟩, ⟨none, none, [], [], fun _ => pt (blk (fa20 11)) (.cells (mC (.slice p1 (bs.length) c1) (.slice p2 (rs.length) c2) gx gy C y s) 87)⟩, ⟨none, none, [], [], fun _ => rowF BodyF 52 p1 c1 (B.set k C2)⟩, ⟨(some 8), none, [9], [91], fun f => pt (blk (f 91)) (.cells #[Ix (x.id), Bx (if y then 2 else 1), Ix (u.2)] 55)⟩, ⟨(some 9), none, [], [92], fun f => rowF StopF 55 (sla (f 92)) (slc (f 92)) (T ++ [(⟨x.id, if y then 2 else 1, u.2⟩ : KS)])⟩] [(5, .slice sp2 (T.length) sc2), (7, .pointer (some ⟨b14, 0, none⟩)), (9, Nx (y.toNat)), (14, Ix (u.2)), (1, .pointer (some ⟨b1, 0, none⟩)), (2, .pointer (some ⟨b2, 0, none⟩)), (6, Nx (k)), (8, .pointer (some ⟨b16, 0, none⟩)), (10, .pointer (some ⟨b16, 0 + y.toNat, none⟩)), (28, .slice p1 (bs.length) c1), (29, Nx (bs.length)), (30, Nx (k)), (41, .agg #[.pointer (some ⟨b16, 0, none⟩), .pointer (some ⟨b16, 1, none⟩)]), (42, Nx (y.toNat))] [4, 5, 6, 1, 7, 8, 9, 10, 11, 12, 13] [] (by kernel_rfl) (by kernel_rfl) (by kernel_rfl) (by kernel_rfl) rfl ⟨rfl, rfl, rfl, rfl, rfl, rfl, rfl, rfl, rfl, rfl, rfl, rfl, rfl, rfl, trivial⟩ ⟨?_, ?_, ?_, ?_, ?_, ?_, ?_, ?_, ?_, ?_, ?_, trivial⟩ ?_
      ·rintro f M - ⟨i0, -⟩
       have hs5 : f 5 = .slice sp2 (T.length) sc2 := i0
       refine ob_start (L' := M) (by rfl) (up_cons rfl hs5) ?_
       refine l_val (v := .slice sp2 (T.length) sc2) rfl rfl rfl (e_move) ?_
       refine l_nil ?_
       exact f_owes_d (up_cons rfl hs5) rfl (List.Perm.refl _)
      ·rintro f M - ⟨i0, -⟩
       have hs7 : f 7 = .pointer (some ⟨b14, 0, none⟩) := i0
       refine ob_start (L' := M) (by rfl) (up_cons rfl hs7) ?_
       refine l_val (v := .pointer (some ⟨b14, 0, none⟩)) rfl rfl rfl (e_fieldPt (b := b14) (o := 0) rfl tf3) ?_
       refine l_nil ?_
       exact f_owes_d (up_cons rfl hs7) rfl (List.Perm.refl _)
      ·rintro f M ⟨k0, -⟩ -
       have hs84 : f 84 = .pointer (some ⟨b14, 0, none⟩) := k0
       refine ob_start (L' := pt b14 (.cells (bC x) 52) :: M) (by rfl) (up_cons rfl hs84) ?_
       refine l_val (v := Ix (x.id)) rfl rfl rfl (e_load1 tf2 (v := Ix (x.id)) rfl (k_pt 0 (cs := (bC x)) (vs := [Ix (x.id)]) rfl rfl)) ?_
       refine l_nil ?_
       exact f_owes_d (up_cons rfl hs84) rfl (perm_front 0 rfl)
      ·rintro f M - -
       refine ob_start (L' := M) (by rfl) rfl ?_
       refine l_val (v := .agg #[.int .u8 (1), .int .u8 (2)]) rfl rfl rfl (e_build_a tf96 tf95 (vs := [(0, .int .u8 (1)), (1, .int .u8 (2))]) (cells := #[.int .u8 (1), .int .u8 (2)]) rfl rfl) ?_
       refine l_nil ?_
       exact f_owes_d rfl rfl (List.Perm.refl _)
      ·rintro f M - ⟨i0, -⟩
       have hs9 : f 9 = Nx (y.toNat) := i0
       refine ob_start (L' := M) (by rfl) (up_cons rfl hs9) ?_
       refine l_val (v := Nx (y.toNat)) rfl rfl rfl (e_move) ?_
       refine l_nil ?_
       exact f_owes_d (up_cons rfl hs9) rfl (List.Perm.refl _)
      ·rintro f M ⟨k0, k1, -⟩ -
       have hs86 : f 86 = .agg #[.int .u8 (1), .int .u8 (2)] := k0
       have hs87 : f 87 = Nx (y.toNat) := k1
       refine ob_start (L' := M) (by rfl) (up_cons (up_cons rfl hs86) hs87) ?_
       refine l_val (v := Bx (if y then 2 else 1)) rfl rfl rfl (ev_eq (by cases y <;> rfl) (e_index_2 (u := .int .u8 (1)) (v := .int .u8 (2)) (y := y) rfl rfl tf95 tf97)) ?_
       refine l_nil ?_
       exact f_owes_d (up_cons (up_cons rfl hs86) hs87) rfl (List.Perm.refl _)
      ·rintro f M - ⟨i0, -⟩
       have hs14 : f 14 = Ix (u.2) := i0
       refine ob_start (L' := M) (by rfl) (up_cons rfl hs14) ?_
       refine l_val (v := Ix (u.2)) rfl rfl rfl (e_move) ?_
       refine l_nil ?_
       exact f_owes_d (up_cons rfl hs14) rfl (List.Perm.refl _)
      ·rintro f M ⟨k0, k1, k2, -⟩ -
       have hs85 : f 85 = Ix (x.id) := k0
       have hs88 : f 88 = Bx (if y then 2 else 1) := k1
       have hs89 : f 89 = Ix (u.2) := k2
       refine ob_start (L' := M) (by rfl) (up_cons (up_cons (up_cons rfl hs85) hs88) hs89) ?_
       refine l_val (v := .agg #[Ix (x.id), Bx (if y then 2 else 1), Ix (u.2)]) rfl rfl rfl (e_build tf99 tf98 (vs := [(0, Ix (x.id)), (1, Bx (if y then 2 else 1)), (2, Ix (u.2))]) (cells := #[Ix (x.id), Bx (if y then 2 else 1), Ix (u.2)]) rfl rfl) ?_
       refine l_nil ?_
       exact f_owes_d (up_cons (up_cons (up_cons rfl hs85) hs88) hs89) rfl (List.Perm.refl _)
      ·rintro f M ⟨k0, -⟩ -
       have hs90 : f 90 = .agg #[Ix (x.id), Bx (if y then 2 else 1), Ix (u.2)] := k0
       refine ob_start (L' := M) (by rfl) (up_cons rfl hs90) ?_
       refine l_mv rfl rfl rfl (m_slices tf100 tf99 (vs := [(0, .agg #[Ix (x.id), Bx (if y then 2 else 1), Ix (u.2)])]) (cells := #[Ix (x.id), Bx (if y then 2 else 1), Ix (u.2)]) rfl rfl rfl rfl) ?_
       rintro _ _ ⟨b25, rfl, rfl⟩
       refine l_nil ?_
       exact f_owes_d (up_cons rfl hs90) rfl (perm_front 0 rfl)
      ·rintro f M ⟨k0, k1, -⟩ -
       have hs83 : f 83 = .slice sp2 (T.length) sc2 := k0
       have hs91 : f 91 = .slice (some ⟨(blk (f 91)), 0, none⟩) 1 1 := k1
       refine ob_start (L' := rowF StopF 55 sp2 sc2 T :: pt (blk (f 91)) (.cells #[Ix (x.id), Bx (if y then 2 else 1), Ix (u.2)] 55) :: M) (by rfl) (up_cons (up_cons rfl hs83) hs91) ?_
       refine l_mv rfl rfl rfl (m_appendFlN (F := StopF) 0 tf100 tf101 (p := sp2) (m := T.length) (xs := T) (ys := [(⟨x.id, if y then 2 else 1, u.2⟩ : KS)]) (ao := (some ⟨(blk (f 91)), 0, none⟩)) (k := 1) (c := 1) rfl rfl rfl rfl rfl (k_ptFl (z := (⟨x.id, if y then 2 else 1, u.2⟩ : KS)) 1 rfl rfl) (by first | omega | simp only [List.length_nil, List.length_cons, List.length_append, List.length_set]; omega) (by first | omega | simp only [List.length_nil, List.length_cons, List.length_append, List.length_set]; omega)) ?_
       rintro _ _ ⟨rp28, rc29, rfl, rfl⟩
       refine l_nil ?_
       exact f_owes_d (up_cons (up_cons rfl hs83) hs91) rfl ((perm_front 0 rfl).trans (perm_front 1 rfl))
      ·rintro f M ⟨k0, -⟩ -
       have hs92 : f 92 = .slice (sla (f 92)) ((T ++ [(⟨x.id, if y then 2 else 1, u.2⟩ : KS)]).length) (slc (f 92)) := k0
       refine ob_start (L' := M) (by rfl) (up_cons rfl hs92) ?_
       refine l_val (v := .slice (sla (f 92)) ((T ++ [(⟨x.id, if y then 2 else 1, u.2⟩ : KS)]).length) (slc (f 92))) rfl rfl rfl (e_assign) ?_
       refine l_nil ?_
       exact f_owes_d (up_cons rfl hs92) rfl (List.Perm.refl _)
      rintro fa30 ⟨-, -, -, -, -, -, -, -, -, -, k10, -⟩ ⟨j0, j1, j2, j3, j4, j5, j6, j7, j8, j9, j10, -⟩
      refine f_re (L' := [pt b16 (.cells #[Ix (vx), Ix (vy)] 28), pt b14 (.cells (bC x) 52), pt b2 (.cells #[.slice none 0 0, .slice none 0 0, .int .i64 (0), .int .i64 (0)] 30), rowF RopeF 78 p2 c2 rs, pt b1 (.cells #[.slice p1 (bs.length) c1, .slice p2 (rs.length) c2, Ix (gx), Ix (gy)] 30), pt (blk (fa20 11)) (.cells (mC (.slice p1 (bs.length) c1) (.slice p2 (rs.length) c2) gx gy C y s) 87), rowF BodyF 52 p1 c1 (B.set k C2), pt (blk (fa30 91)) (.cells #[Ix (x.id), Bx (if y then 2 else 1), Ix (u.2)] 55), rowF StopF 55 (sla (fa30 92)) (slc (fa30 92)) (T ++ [(⟨x.id, if y then 2 else 1, u.2⟩ : KS)])]) (by rfl) ?_
      refine f_rebase (d := 1) (v := .pointer (some ⟨b1, 0, none⟩)) j0 ?_
      refine f_rebase (d := 2) (v := .pointer (some ⟨b2, 0, none⟩)) j1 ?_
      refine f_rebase (d := 5) (v := .slice (sla (fa30 92)) ((T ++ [(⟨x.id, if y then 2 else 1, u.2⟩ : KS)]).length) (slc (fa30 92))) k10 ?_
      refine f_rebase (d := 6) (v := Nx (k)) j2 ?_
      refine f_rebase (d := 7) (v := .pointer (some ⟨b14, 0, none⟩)) j3 ?_
      refine f_rebase (d := 8) (v := .pointer (some ⟨b16, 0, none⟩)) j4 ?_
      refine f_rebase (d := 10) (v := .pointer (some ⟨b16, 0 + y.toNat, none⟩)) j5 ?_
      refine f_rebase (d := 28) (v := .slice p1 (bs.length) c1) j6 ?_
      refine f_rebase (d := 29) (v := Nx (bs.length)) j7 ?_
      refine f_rebase (d := 30) (v := Nx (k)) j8 ?_
      refine f_rebase (d := 41) (v := .agg #[.pointer (some ⟨b16, 0, none⟩), .pointer (some ⟨b16, 1, none⟩)]) j9 ?_
      refine f_rebase (d := 42) (v := Nx (y.toNat)) j10 ?_
      refine f_then ?_
      refine c_region ?_
      refine l_val (v := .pointer (some ⟨b16, 0 + y.toNat, none⟩)) rfl rfl rfl (e_move) ?_
      refine l_val (v := .pointer (some ⟨b16, 0 + y.toNat, none⟩)) rfl rfl rfl (e_nil (a := ⟨b16, 0 + y.toNat, none⟩) rfl) ?_
      refine l_mu rfl rfl (m_store 0 tf2 (b := b16) (o := 0 + y.toNat) (T := 28) (cs := #[Ix (vx), Ix (vy)]) (cs' := #[Ix (if y then vx else 0), Ix (if y then 0 else vy)]) (v := .int .i64 (0)) rfl rfl rfl rfl (by cases y <;> rfl) rfl (by cases y <;> rfl)) ?_
      refine l_nil ?_
      refine f_block ?_
      refine f_then ?_
      refine c_region ?_
      refine l_val (v := Nx (y.toNat + 1)) rfl rfl rfl (e_add (a := ((y.toNat : Nat) : Int)) (b := (1 : Int)) rfl rfl (i64n (by omega) (by omega))) ?_
      refine l_val (v := Nx (y.toNat + 1)) rfl rfl rfl (e_move) ?_
      refine l_nil ?_
      refine f_perm (L' := [pt b16 (.cells #[Ix (if y then vx else 0), Ix (if y then 0 else vy)] 28), pt b14 (.cells (bC x) 52), rowF StopF 55 (sla (fa30 92)) (slc (fa30 92)) (T ++ [(⟨x.id, if y then 2 else 1, u.2⟩ : KS)]), pt b2 (.cells #[.slice none 0 0, .slice none 0 0, .int .i64 (0), .int .i64 (0)] 30), rowF BodyF 52 p1 c1 (B.set k C2), rowF RopeF 78 p2 c2 rs, pt b1 (.cells #[.slice p1 (bs.length) c1, .slice p2 (rs.length) c2, Ix (gx), Ix (gy)] 30), pt (blk (fa20 11)) (.cells (mC (.slice p1 (bs.length) c1) (.slice p2 (rs.length) c2) gx gy C y s) 87), pt (blk (fa30 91)) (.cells #[Ix (x.id), Bx (if y then 2 else 1), Ix (u.2)] 55)]) (perm_ix [0, 1, 8, 2, 6, 3, 4, 5, 7] 9 rfl (by kernel_rfl) (by kernel_rfl)) ?_
      refine f_mask (L' := [pt b16 (.cells #[Ix (if y then vx else 0), Ix (if y then 0 else vy)] 28), pt b14 (.cells (bC x) 52), rowF StopF 55 (sla (fa30 92)) (slc (fa30 92)) (T ++ [(⟨x.id, if y then 2 else 1, u.2⟩ : KS)]), pt b2 (.cells #[.slice none 0 0, .slice none 0 0, .int .i64 (0), .int .i64 (0)] 30), rowF BodyF 52 p1 c1 (B.set k C2), rowF RopeF 78 p2 c2 rs, pt b1 (.cells #[.slice p1 (bs.length) c1, .slice p2 (rs.length) c2, Ix (gx), Ix (gy)] 30)]) [true, true, true, true, true, true, true, false, false] rfl ?_
      have hi := inner_yes (k := k) (id := x.id) (S := S) hC hT hqx hqy hn hsn hm hu hC2 hCok hbC (by omega)
      rw [← innerK_succ] at hi
      exact f_cut ⟨(y.toNat + 1, C2, (T ++ [(⟨x.id, if y then 2 else 1, u.2⟩ : KS)]), if y then vx else 0, if y then 0 else vy, (sla (fa30 92)), (slc (fa30 92))), ⟨⟨rfl, rfl, rfl, rfl, rfl, rfl, rfl, rfl, rfl, rfl, rfl⟩, rfl, ⟨by omega, hi.1, hi.2.1, hi.2.2.1, hi.2.2.2, inner_ok hsn hm hu hC2 hCok hbC, by rw [← hC2, sh_id]; exact hCid, by rw [← hC2, (sh_vel _ _ _).2.2]; exact hCf, by split <;> omega, by split <;> omega, by rw [List.length_append]; simp only [List.length_cons, List.length_nil]; omega⟩⟩, (show 2 - (y.toNat + 1) < 2 - y.toNat by omega)⟩
     ·
      refine c_skip ?_
      refine f_block ?_
      refine f_then ?_
      refine c_region ?_
      refine l_val (v := Nx (y.toNat + 1)) rfl rfl rfl (e_add (a := ((y.toNat : Nat) : Int)) (b := (1 : Int)) rfl rfl (i64n (by omega) (by omega))) ?_
      refine l_val (v := Nx (y.toNat + 1)) rfl rfl rfl (e_move) ?_
      refine l_nil ?_
      refine f_perm (L' := [pt b16 (.cells #[Ix (vx), Ix (vy)] 28), pt b14 (.cells (bC x) 52), rowF StopF 55 sp2 sc2 T, pt b2 (.cells #[.slice none 0 0, .slice none 0 0, .int .i64 (0), .int .i64 (0)] 30), rowF BodyF 52 p1 c1 (B.set k C2), rowF RopeF 78 p2 c2 rs, pt b1 (.cells #[.slice p1 (bs.length) c1, .slice p2 (rs.length) c2, Ix (gx), Ix (gy)] 30), pt (blk (fa20 11)) (.cells (mC (.slice p1 (bs.length) c1) (.slice p2 (rs.length) c2) gx gy C y s) 87)]) (perm_ix [0, 1, 2, 3, 7, 4, 5, 6] 8 rfl (by kernel_rfl) (by kernel_rfl)) ?_
      refine f_mask (L' := [pt b16 (.cells #[Ix (vx), Ix (vy)] 28), pt b14 (.cells (bC x) 52), rowF StopF 55 sp2 sc2 T, pt b2 (.cells #[.slice none 0 0, .slice none 0 0, .int .i64 (0), .int .i64 (0)] 30), rowF BodyF 52 p1 c1 (B.set k C2), rowF RopeF 78 p2 c2 rs, pt b1 (.cells #[.slice p1 (bs.length) c1, .slice p2 (rs.length) c2, Ix (gx), Ix (gy)] 30)]) [true, true, true, true, true, true, true, false] rfl ?_
      have hi := inner_no (k := k) (id := x.id) (S := S) hC hT hqx hqy hn hsn hm hu hC2 hCok hbC (by omega)
      rw [← innerK_succ] at hi
      exact f_cut ⟨(y.toNat + 1, C2, T, vx, vy, sp2, sc2), ⟨⟨rfl, rfl, rfl, rfl, rfl, rfl, rfl, rfl, rfl, rfl, rfl⟩, rfl, ⟨by omega, hi.1, hi.2.1, hi.2.2.1, hi.2.2.2, inner_ok hsn hm hu hC2 hCok hbC, by rw [← hC2, sh_id]; exact hCid, by rw [← hC2, (sh_vel _ _ _).2.2]; exact hCf, by omega, by omega, by omega⟩⟩, (show 2 - (y.toNat + 1) < 2 - y.toNat by omega)⟩
    ·
     refine c_exit ?_
     refine f_then_exit ?_
     refine f_then_exit ?_
     refine f_exit ?_
     refine f_then ?_
     obtain rfl : j = 2 := by omega
     have hl2 : (B.set k C).length = bs.length := by rw [List.length_set]; omega
     have hsk := get_set (xs := B) C (by omega : k < B.length)
     have hnext := next_move hB hS hx hc15 hnx hny hC hT hqx hqy
     refine c_region ?_
     refine l_val (v := .pointer (some ⟨b1, 0, none⟩)) rfl rfl rfl (e_fieldPt (b := b1) (o := 0) rfl tf49) ?_
     refine l_val (v := .slice p1 (bs.length) c1) rfl rfl rfl (e_load1 tf50 (v := .slice p1 (bs.length) c1) rfl (k_pt 6 (cs := #[.slice p1 (bs.length) c1, .slice p2 (rs.length) c2, Ix (gx), Ix (gy)]) (vs := [.slice p1 (bs.length) c1]) rfl rfl)) ?_
     refine l_val (v := Nx (k)) rfl rfl rfl (e_move) ?_
     refine l_val (v := .agg #[Ix (vx), Ix (vy)]) rfl rfl rfl (e_load tf15 (cs := [Ix (vx), Ix (vy)]) rfl (k_pt 0 (cs := #[Ix (vx), Ix (vy)]) (vs := [Ix (vx), Ix (vy)]) rfl rfl) rfl) ?_
     refine l_val (v := .pointer (some ((ba p1).add (k * 9)))) rfl rfl rfl (e_indexFlN 4 (F := BodyF) (j := k) (m := bs.length) (xs := (B.set k C)) rfl (by rw [List.length_set]; omega) rfl tf43 (by omega) rfl) ?_
     refine l_val (v := .pointer (some ((ba p1).add (k * 9 + 3)))) rfl rfl rfl (ev_eq (congrArg (fun z => Value.pointer (some z)) (show ((ba p1).add (k * 9) : Addr).add 3 = (ba p1).add (k * 9 + 3) by rw [Addr.add_add'])) (e_fieldAddr (a := (ba p1).add (k * 9)) rfl tf9)) ?_
     refine l_mu rfl rfl (m_storeFlPart 4 (F := BodyF) (p := p1) (k := k) (o := 3) (xs := (B.set k C)) (z0 := C) (z := (withV C vx vy)) tf15 rfl rfl rfl rfl rfl hsk (by decide) rfl) ?_
     refine l_re (L' := [pt b16 (.cells #[Ix (vx), Ix (vy)] 28), pt b14 (.cells (bC x) 52), rowF StopF 55 sp2 sc2 T, pt b2 (.cells #[.slice none 0 0, .slice none 0 0, .int .i64 (0), .int .i64 (0)] 30), rowF BodyF 52 p1 c1 (B.set k (withV C vx vy)), rowF RopeF 78 p2 c2 rs, pt b1 (.cells #[.slice p1 (bs.length) c1, .slice p2 (rs.length) c2, Ix (gx), Ix (gy)] 30)]) (by show (_ :: _ : List Res) = _; simp only [List.set_set, List.set_cons_zero, List.set_cons_succ]) ?_
     refine l_nil ?_
     refine f_block ?_
     refine f_then ?_
     refine c_region ?_
     refine l_val (v := Nx (k + 1)) rfl rfl rfl (e_add (a := ((k : Nat) : Int)) (b := (1 : Int)) rfl rfl (i64n (by omega) (by omega))) ?_
     refine l_val (v := Nx (k + 1)) rfl rfl rfl (e_move) ?_
     refine l_nil ?_
     refine f_mask (L' := [rowF StopF 55 sp2 sc2 T, pt b2 (.cells #[.slice none 0 0, .slice none 0 0, .int .i64 (0), .int .i64 (0)] 30), rowF BodyF 52 p1 c1 (B.set k (withV C vx vy)), rowF RopeF 78 p2 c2 rs, pt b1 (.cells #[.slice p1 (bs.length) c1, .slice p2 (rs.length) c2, Ix (gx), Ix (gy)] 30)]) [false, false, true, true, true, true, true] rfl ?_
     exact f_cut ⟨(k + 1, (B.set k (withV C vx vy)), T, sp2, sc2), ⟨⟨rfl, rfl, rfl, rfl, rfl, rfl⟩, rfl, ⟨by omega, hnext.1, hnext.2, hid.set hx (show (withV C vx vy).id = x.id from hCid), okB_set hBok (okB_withV hCok (by rw [hCf]; exact hc15) hvx hvy), by omega⟩⟩, (show bs.length - (k + 1) < bs.length - k from by omega)⟩
  ·
   refine c_exit ?_
   refine f_then_exit ?_
   refine f_then_exit ?_
   refine f_exit ?_
   refine f_then ?_
   refine c_seq ?_
   refine c_region ?_
   refine l_val (v := .agg #[.slice p1 (bs.length) c1, .slice p2 (rs.length) c2, Ix (gx), Ix (gy)]) rfl rfl rfl (e_load tf86 (cs := [.slice p1 (bs.length) c1, .slice p2 (rs.length) c2, Ix (gx), Ix (gy)]) rfl (k_pt 4 (cs := #[.slice p1 (bs.length) c1, .slice p2 (rs.length) c2, Ix (gx), Ix (gy)]) (vs := [.slice p1 (bs.length) c1, .slice p2 (rs.length) c2, Ix (gx), Ix (gy)]) rfl rfl) rfl) ?_
   refine l_val (v := .slice sp (S.length) sc) rfl rfl rfl (e_move) ?_
   refine l_mu rfl rfl (m_store 1 tf86 (b := b2) (o := 0) (T := 30) (cs := #[.slice none 0 0, .slice none 0 0, .int .i64 (0), .int .i64 (0)]) (cs' := #[.slice p1 (bs.length) c1, .slice p2 (rs.length) c2, Ix (gx), Ix (gy)]) (v := .agg #[.slice p1 (bs.length) c1, .slice p2 (rs.length) c2, Ix (gx), Ix (gy)]) rfl rfl rfl rfl rfl rfl rfl) ?_
   refine l_val (v := .slice sp (S.length) sc) rfl rfl rfl (e_assign) ?_
   refine l_val (v := .int .i64 (0)) rfl rfl rfl (e_assign) ?_
   refine l_nil ?_
   refine f_then ?_
   refine c_ret ?_
   refine retG (l := [.cell 2 30, .tmp 3, .tmp 4]) (m := [.agg #[.slice p1 (bs.length) c1, .slice p2 (rs.length) c2, Ix (gx), Ix (gy)], .slice sp (S.length) sc, .int .i64 (0)]) (v := .tuple #[.agg #[.slice p1 (bs.length) c1, .slice p2 (rs.length) c2, Ix (gx), Ix (gy)], .slice sp (S.length) sc, .int .i64 (0)]) Tryz.results9 ⟨rd_cell tf86 (cs := [.slice p1 (bs.length) c1, .slice p2 (rs.length) c2, Ix (gx), Ix (gy)]) rfl (k_pt 1 (cs := #[.slice p1 (bs.length) c1, .slice p2 (rs.length) c2, Ix (gx), Ix (gy)]) (vs := [.slice p1 (bs.length) c1, .slice p2 (rs.length) c2, Ix (gx), Ix (gy)]) rfl rfl) rfl, rd_tmp (v := .slice sp (S.length) sc) rfl, rd_tmp (v := .int .i64 (0)) rfl, trivial⟩ rfl ?_
   intro w hw
   obtain rfl : k = bs.length := by omega
   subst hS
   refine .inl ⟨⟨o1, o2, o3, o4, o5, o6⟩, p1, c1, p2, c2, sp, sc, rfl, ?_⟩
   have hw2 := st_mask (L' := [rowF StopF 55 sp sc ((stepsTo rs gx gy bs bs.length).2), rowF BodyF 52 p1 c1 B, rowF RopeF 78 p2 c2 rs]) [true, false, true, true, false] rfl hw
   rw [hB] at hw2
   exact hw2.perm (perm_ix [1, 2, 0] 3 rfl (by kernel_rfl) (by kernel_rfl))
end Go.Proofs
