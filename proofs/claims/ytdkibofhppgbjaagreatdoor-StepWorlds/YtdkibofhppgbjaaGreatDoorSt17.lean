/-
 What the law's kit does: lends, keeps, writes over, compares. Printed by a program of my own.
-/
import Derived.Test.YtdkibofhppgbjaaGreatDoorSt16
import Derived.Test.YtdkibofhppgbjaaGreatDoorStLent
namespace Go.Proofs
open Go Go.Sl Go.Stp
abbrev KSR : Rp KS := StopF.R
theorem tf131 : cfB Tryz.prog 174 = true := by kernel_rfl
theorem tf132 : cfB Tryz.prog 109 = true := by kernel_rfl
theorem tf133 : lay Tryz.prog 10000 52 = some [.int .i64, .int .i64, .int .i64, .int .i64, .int .i64, .int .i64, .int .i64, .bool, .bool] := by kernel_rfl
theorem tf134 : isAggT Tryz.prog 52 = true := by kernel_rfl
theorem tf135 : Tryz.prog.eqGuardType Tryz.prog.depth 52 = false := by kernel_rfl
theorem tf136 : cfB Tryz.prog 110 = true := by kernel_rfl
theorem tf137 : lay Tryz.prog 10000 78 = some [.int .i64, .int .i64, .int .i64] := by kernel_rfl
theorem tf138 : isAggT Tryz.prog 78 = true := by kernel_rfl
theorem tf139 : Tryz.prog.eqGuardType Tryz.prog.depth 78 = false := by kernel_rfl
theorem mark_ok (β : Base) (w : World) (hw : St β [] w) (a i : Int) (ha : -1048576 ≤ a ∧ a ≤ 1048576) (hi : -1048576 ≤ i ∧ i ≤ 1048576) : Calls Tryz.prog 174 #[Ix a, Ix i] w fun r w' => r = .returned (Ix (markN a i)) ∧ St β [] w' := by
 refine enter (n := 10) Tryz.func174 rfl Tryz.ntmps174 rfl ?_ hw
 refine c_seq ?_
 refine c_region ?_
 refine l_val (v := .int .i64 (0)) rfl rfl rfl (e_assign) ?_
 refine l_nil ?_
 refine f_then ?_
 refine c_seq ?_
 refine c_region ?_
 refine l_val (v := Ix (a)) rfl rfl rfl (e_move) ?_
 refine l_val (v := Ix ((a) + (7 : Int))) rfl rfl rfl (e_add (a := (a)) (b := (7 : Int)) rfl rfl (i64w (by omega))) ?_
 refine l_val (v := Ix ((1000003 : Int) * ((a) + (7 : Int)))) rfl rfl rfl (e_mul (a := (1000003 : Int)) (b := ((a) + (7 : Int))) rfl rfl (i64w (by omega))) ?_
 refine l_val (v := Ix (i)) rfl rfl rfl (e_move) ?_
 refine l_val (v := Ix (((1000003 : Int) * ((a) + (7 : Int))) + (i))) rfl rfl rfl (e_add (a := ((1000003 : Int) * ((a) + (7 : Int)))) (b := (i)) rfl rfl (i64w (by omega))) ?_
 refine l_val (v := Ix (((1000003 : Int) * ((a) + (7 : Int))) + (i))) rfl rfl rfl (e_assign) ?_
 refine l_nil ?_
 refine f_then ?_
 refine c_ret ?_
 refine ret1 Tryz.results174 (v := Ix (((1000003 : Int) * ((a) + (7 : Int))) + (i))) rfl ?_
 intro w hw
 exact ⟨rfl, st_mask [] rfl hw⟩
theorem markB_ok (β : Base) (w : World) (hw : St β [] w) (a i : Int) (ha : -1048576 ≤ a ∧ a ≤ 1048576) (hi : -1048576 ≤ i ∧ i ≤ 1048576) : Calls Tryz.prog 109 #[Ix a, Ix i] w fun r w' => r = .returned (.agg (bC (markB a i))) ∧ St β [] w' := by
 refine enter (n := 9) Tryz.func109 rfl Tryz.ntmps109 rfl ?_ hw
 refine c_seq ?_
 refine c_region ?_
 refine l_mv rfl rfl rfl (m_alloc tf58) ?_
 rintro _ _ ⟨b1, rfl, rfl⟩
 refine l_nil ?_
 refine f_then ?_
 refine c_seq ?_
 refine c_region ?_
 refine l_val (v := Ix (a)) rfl rfl rfl (e_move) ?_
 refine l_val (v := Ix (i)) rfl rfl rfl (e_move) ?_
 refine l_call rfl rfl rfl (cl_value (fst := []) (cap := []) (vs := [Ix (a), Ix (i)]) (all := [Ix (a), Ix (i)]) tf131 rfl rfl rfl) ?_
 intro w hw
 obtain ⟨β1, sb, kn, hw1, back⟩ := St.frame_all hw
 refine (mark_ok β1 w hw1 (a) (i) (by omega) (by omega)).mono ?_
 rintro e w' ⟨rfl, hw'⟩
 refine ⟨_, rfl, _, back _ _ hw', ?_⟩
 clear hw hw1 hw' back kn sb
 refine l_val (v := .agg #[Ix (markN (a) (i)), .int .i64 (0), .int .i64 (0), .int .i64 (0), .int .i64 (0), .int .i64 (0), .int .i64 (0), .bool false, .bool false]) rfl rfl rfl (e_build tf58 tf102 (vs := [(0, Ix (markN (a) (i)))]) (cells := #[Ix (markN (a) (i)), .int .i64 (0), .int .i64 (0), .int .i64 (0), .int .i64 (0), .int .i64 (0), .int .i64 (0), .bool false, .bool false]) rfl (by kernel_rfl)) ?_
 refine l_mu rfl rfl (m_store 0 tf22 (b := b1) (o := 0) (T := 52) (cs := #[.int .i64 (0), .int .i64 (0), .int .i64 (0), .int .i64 (0), .int .i64 (0), .int .i64 (0), .int .i64 (0), .bool false, .bool false]) (cs' := #[Ix (markN (a) (i)), .int .i64 (0), .int .i64 (0), .int .i64 (0), .int .i64 (0), .int .i64 (0), .int .i64 (0), .bool false, .bool false]) (v := .agg #[Ix (markN (a) (i)), .int .i64 (0), .int .i64 (0), .int .i64 (0), .int .i64 (0), .int .i64 (0), .int .i64 (0), .bool false, .bool false]) rfl rfl rfl rfl rfl rfl rfl) ?_
 refine l_nil ?_
 refine f_then ?_
 refine c_ret ?_
 refine retG (l := [.cell 4 52]) (m := [.agg #[Ix (markN (a) (i)), .int .i64 (0), .int .i64 (0), .int .i64 (0), .int .i64 (0), .int .i64 (0), .int .i64 (0), .bool false, .bool false]]) (v := .agg #[Ix (markN (a) (i)), .int .i64 (0), .int .i64 (0), .int .i64 (0), .int .i64 (0), .int .i64 (0), .int .i64 (0), .bool false, .bool false]) Tryz.results109 ⟨rd_cell tf22 (cs := [Ix (markN (a) (i)), .int .i64 (0), .int .i64 (0), .int .i64 (0), .int .i64 (0), .int .i64 (0), .int .i64 (0), .bool false, .bool false]) rfl (k_pt 0 (cs := #[Ix (markN (a) (i)), .int .i64 (0), .int .i64 (0), .int .i64 (0), .int .i64 (0), .int .i64 (0), .int .i64 (0), .bool false, .bool false]) (vs := [Ix (markN (a) (i)), .int .i64 (0), .int .i64 (0), .int .i64 (0), .int .i64 (0), .int .i64 (0), .int .i64 (0), .bool false, .bool false]) rfl rfl) rfl, trivial⟩ rfl ?_
 intro w hw
 exact ⟨rfl, st_mask [false] rfl hw⟩
theorem markR_ok (β : Base) (w : World) (hw : St β [] w) (a i : Int) (ha : -1048576 ≤ a ∧ a ≤ 1048576) (hi : -1048576 ≤ i ∧ i ≤ 1048576) : Calls Tryz.prog 110 #[Ix a, Ix i] w fun r w' => r = .returned (.agg #[Ix ((markR a i).a), Ix ((markR a i).b), Ix ((markR a i).len)]) ∧ St β [] w' := by
 refine enter (n := 9) Tryz.func110 rfl Tryz.ntmps110 rfl ?_ hw
 refine c_seq ?_
 refine c_region ?_
 refine l_mv rfl rfl rfl (m_alloc tf77) ?_
 rintro _ _ ⟨b1, rfl, rfl⟩
 refine l_nil ?_
 refine f_then ?_
 refine c_seq ?_
 refine c_region ?_
 refine l_val (v := Ix (a)) rfl rfl rfl (e_move) ?_
 refine l_val (v := Ix (i)) rfl rfl rfl (e_move) ?_
 refine l_call rfl rfl rfl (cl_value (fst := []) (cap := []) (vs := [Ix (a), Ix (i)]) (all := [Ix (a), Ix (i)]) tf131 rfl rfl rfl) ?_
 intro w hw
 obtain ⟨β1, sb, kn, hw1, back⟩ := St.frame_all hw
 refine (mark_ok β1 w hw1 (a) (i) (by omega) (by omega)).mono ?_
 rintro e w' ⟨rfl, hw'⟩
 refine ⟨_, rfl, _, back _ _ hw', ?_⟩
 clear hw hw1 hw' back kn sb
 refine l_val (v := .agg #[.int .i64 (0), .int .i64 (0), Ix (markN (a) (i))]) rfl rfl rfl (e_build tf77 tf110 (vs := [(2, Ix (markN (a) (i)))]) (cells := #[.int .i64 (0), .int .i64 (0), Ix (markN (a) (i))]) rfl rfl) ?_
 refine l_mu rfl rfl (m_store 0 tf47 (b := b1) (o := 0) (T := 78) (cs := #[.int .i64 (0), .int .i64 (0), .int .i64 (0)]) (cs' := #[.int .i64 (0), .int .i64 (0), Ix (markN (a) (i))]) (v := .agg #[.int .i64 (0), .int .i64 (0), Ix (markN (a) (i))]) rfl rfl rfl rfl rfl rfl rfl) ?_
 refine l_nil ?_
 refine f_then ?_
 refine c_ret ?_
 refine retG (l := [.cell 4 78]) (m := [.agg #[.int .i64 (0), .int .i64 (0), Ix (markN (a) (i))]]) (v := .agg #[.int .i64 (0), .int .i64 (0), Ix (markN (a) (i))]) Tryz.results110 ⟨rd_cell tf47 (cs := [.int .i64 (0), .int .i64 (0), Ix (markN (a) (i))]) rfl (k_pt 0 (cs := #[.int .i64 (0), .int .i64 (0), Ix (markN (a) (i))]) (vs := [.int .i64 (0), .int .i64 (0), Ix (markN (a) (i))]) rfl rfl) rfl, trivial⟩ rfl ?_
 intro w hw
 exact ⟨rfl, st_mask [false] rfl hw⟩
set_option maxHeartbeats 4000000 in
theorem lentB_ok (β : Base) (w : World) (hw : St β [] w) (v : Value) (xs : List KB) (hs : Sl KBR β.heap v xs) (hn : xs.length ≤ 1048576) : Calls Tryz.prog 58 #[v] w fun r w' => ∃ p c, r = .returned (.slice p xs.length c) ∧ St β [rowF BodyF 52 p c (lentL (markB 1) xs)] w' := by
 obtain ⟨va, vc, rfl, vl, vm, ve⟩ := hs.get
 refine enter (n := 25) Tryz.func58 rfl Tryz.ntmps58 rfl ?_ hw
 refine c_seq ?_
 refine c_region ?_
 refine l_val (v := .slice none 0 0) rfl rfl rfl (e_assign) ?_
 refine l_nil ?_
 refine f_then ?_
 refine c_seq ?_
 refine c_region ?_
 refine l_val (v := .slice va (xs.length) (vc)) rfl rfl rfl (e_move) ?_
 refine l_val (v := Nx (xs.length)) rfl rfl rfl (e_len (a := va) (n := xs.length) (c := vc) rfl tf40) ?_
 refine l_val (v := Nx (xs.length + 12)) rfl rfl rfl (e_add (a := ((xs.length : Nat) : Int)) (b := (12 : Int)) rfl rfl (i64n (by omega) (by omega))) ?_
 refine l_mv rfl rfl rfl (m_make0 (c := xs.length + 12) tf43 tf83 tf58 rfl rfl (by omega) (by unfold maxLen; omega) (by omega)) ?_
 rintro _ _ ⟨b1, rfl, rfl⟩
 refine l_re (L' := [rowF BodyF 52 (some ⟨b1, 0, none⟩) (xs.length + 12) []]) (by rfl) ?_
 refine l_val (v := .slice (some ⟨b1, 0, none⟩) (0) (xs.length + 12)) rfl rfl rfl (e_assign) ?_
 refine l_nil ?_
 refine f_then ?_
 refine c_seq ?_
 refine c_region ?_
 refine l_val (v := .slice (some ⟨b1, 0, none⟩) (0) (xs.length + 12)) rfl rfl rfl (e_move) ?_
 refine l_val (v := .slice va (xs.length) (vc)) rfl rfl rfl (e_move) ?_
 refine l_mv rfl rfl rfl (m_appendFlN (F := BodyF) 0 tf43 tf83 (p := (some ⟨b1, 0, none⟩)) (m := 0) (xs := []) (ys := xs) (ao := va) (k := xs.length) (c := vc) rfl rfl rfl rfl rfl (Knows.of_base (Elems.mono _ _ _) ve) (by first | omega | simp only [List.length_nil, List.length_cons, List.length_append, List.length_set]; omega) (by first | omega | simp only [List.length_nil, List.length_cons, List.length_append, List.length_set]; omega)) ?_
 rintro _ _ ⟨rp2, rc3, rfl, rfl⟩
 refine l_val (v := .slice rp2 (xs.length) rc3) rfl rfl rfl (e_assign) ?_
 refine l_nil ?_
 refine f_then ?_
 refine c_seq ?_
 refine c_seq ?_
 refine c_region ?_
 refine l_val (v := .int .i64 (0)) rfl rfl rfl (e_assign) ?_
 refine l_nil ?_
 refine f_then ?_
 refine c_block ?_
 refine c_loop (fun (x_ : Nat × List KB × Option Addr × Nat) (f : Fm) (L : List Res) => match x_ with | (k, ys, p, c) => (f 0 = .slice va (xs.length) (vc) ∧ f 3 = .slice p (ys.length) c ∧ f 4 = Nx (k)) ∧ L = [rowF BodyF 52 p c ys] ∧ (k ≤ 12 ∧ ys = (xs ++ (List.range k).map fun i => markB 1 (i : Nat)))) (fun (x_ : Nat × List KB × Option Addr × Nat) => match x_ with | (k, ys, p, c) => 12 - k) (0, xs, rp2, rc3) ?_ ?_
 ·exact ⟨⟨rfl, rfl, rfl⟩, rfl, ⟨by omega, by simp⟩⟩
 rintro ⟨k, ys, p, c⟩ f0 L0 ⟨⟨hs0, hs3, hs4⟩, hL, ⟨hk, hys⟩⟩
 subst L0
 refine rebase (d := 0) hs0 ?_
 refine rebase (d := 3) hs3 ?_
 refine rebase (d := 4) hs4 ?_
 clear hs0 hs3 hs4
 have hyl : ys.length = xs.length + k := by rw [hys]; simp
 refine c_seq ?_
 refine c_seq ?_
 refine c_region ?_
 refine l_val (v := Nx (k)) rfl rfl rfl (e_move) ?_
 refine l_val (v := .bool (decide (((k : Nat) : Int) < (12 : Int)))) rfl rfl rfl (e_lss (a := ((k : Nat) : Int)) (b := (12 : Int)) rfl rfl) ?_
 refine l_nil ?_
 refine f_then ?_
 refine c_if (((k : Nat) : Int) < (12 : Int)) rfl (fun hc4 => ?_) (fun hc4 => ?_)
 ·
  refine c_skip ?_
  refine f_then ?_
  refine c_seq ?_
  refine c_block ?_
  refine c_region ?_
  refine l_val (v := .slice p (ys.length) c) rfl rfl rfl (e_move) ?_
  refine l_val (v := Nx (k)) rfl rfl rfl (e_move) ?_
  refine l_call rfl rfl rfl (cl_value (fst := []) (cap := []) (vs := [.int .i64 (1), Nx (k)]) (all := [.int .i64 (1), Nx (k)]) tf132 rfl rfl rfl) ?_
  intro w hw
  obtain ⟨β1, sb, kn, hw1, back⟩ := St.frame_all hw
  refine (markB_ok β1 w hw1 (1 : Int) ((k : Nat) : Int) (by omega) (by omega)).mono ?_
  rintro e w' ⟨rfl, hw'⟩
  refine ⟨_, rfl, _, back _ _ hw', ?_⟩
  clear hw hw1 hw' back kn sb
  refine l_mv rfl rfl rfl (m_slices tf43 tf58 (vs := [(0, .agg (bC (markB 1 ((k : Nat) : Int))))]) (cells := (bC (markB 1 ((k : Nat) : Int)))) rfl rfl rfl (by kernel_rfl)) ?_
  rintro _ _ ⟨b5, rfl, rfl⟩
  refine l_mv rfl rfl rfl (m_appendFlN (F := BodyF) 1 tf43 tf83 (p := p) (m := ys.length) (xs := ys) (ys := [(markB 1 ((k : Nat) : Int))]) (ao := (some ⟨b5, 0, none⟩)) (k := 1) (c := 1) rfl rfl rfl rfl rfl (k_ptFl (z := (markB 1 ((k : Nat) : Int))) 0 rfl rfl) (by first | omega | simp only [List.length_nil, List.length_cons, List.length_append, List.length_set]; omega) (by first | omega | simp only [List.length_nil, List.length_cons, List.length_append, List.length_set]; omega)) ?_
  rintro _ _ ⟨rp6, rc7, rfl, rfl⟩
  refine l_val (v := .slice rp6 ((ys ++ [(markB 1 ((k : Nat) : Int))]).length) rc7) rfl rfl rfl (e_assign) ?_
  refine l_nil ?_
  refine f_block ?_
  refine f_then ?_
  refine c_region ?_
  refine l_val (v := Nx (k)) rfl rfl rfl (e_move) ?_
  refine l_val (v := Nx (k + 1)) rfl rfl rfl (e_add (a := ((k : Nat) : Int)) (b := (1 : Int)) rfl rfl (i64n (by omega) (by omega))) ?_
  refine l_val (v := Nx (k + 1)) rfl rfl rfl (e_assign) ?_
  refine l_nil ?_
  refine f_mask (L' := [rowF BodyF 52 rp6 rc7 (ys ++ [(markB 1 ((k : Nat) : Int))])]) [false, true] rfl ?_
  exact f_cut ⟨(k + 1, (ys ++ [(markB 1 ((k : Nat) : Int))]), rp6, rc7), ⟨⟨rfl, rfl, rfl⟩, rfl, ⟨by omega, by rw [hys]; exact lentL_next (markB 1) xs k⟩⟩, (show 12 - (k + 1) < 12 - k from by omega)⟩
 ·
  refine c_exit ?_
  refine f_then_exit ?_
  refine f_then_exit ?_
  refine f_exit ?_
  refine f_then ?_
  refine c_seq ?_
  refine c_rowcap 0 rfl (fun hcl hcm => ?_)
  have hyl : ys.length = xs.length + k := by rw [hys]; simp
  refine c_region ?_
  refine l_val (v := .slice p (ys.length) c) rfl rfl rfl (e_move) ?_
  refine l_val (v := .slice va (xs.length) (vc)) rfl rfl rfl (e_move) ?_
  refine l_val (v := Nx (xs.length)) rfl rfl rfl (e_len (a := va) (n := xs.length) (c := vc) rfl tf40) ?_
  refine l_val (v := .slice p (xs.length) c) rfl rfl rfl (e_slice_hi (a := p) (len := ys.length) (cap := c) (h := xs.length) tf43 rfl rfl (by omega)) ?_
  refine l_val (v := .slice p (xs.length) c) rfl rfl rfl (e_assign) ?_
  refine l_nil ?_
  refine f_then ?_
  refine c_ret ?_
  refine ret1 Tryz.results58 (v := .slice p (xs.length) c) rfl ?_
  intro w hw
  obtain rfl : k = 12 := by omega
  have he : ys = lentL (markB 1) xs := hys
  subst he
  exact ⟨p, c, rfl, st_mask [true] rfl hw⟩
set_option maxHeartbeats 4000000 in
theorem keptB_ok (β : Base) (w : World) (hw : St β [] w) (p : Option Addr) (c : Nat) (v : Value) (xs : List KB) (hx : xs.length ≤ 1048576) (hs : Sl KBR β.heap (.slice p (lentL (markB 1) xs).length c) (lentL (markB 1) xs)) (hv : Sl KBR β.heap v xs) : Calls Tryz.prog 79 #[.slice p xs.length c, v] w fun r w' => r = .returned (.bool true) ∧ St β [] w' := by
 obtain ⟨va, vc, rfl, vl, vm, ve⟩ := hv.get
 obtain ⟨_, hpl, hpm, hpe⟩ := hs.parts
 have hll := lentL_len (markB 1) xs
 refine enter (n := 58) Tryz.func79 rfl Tryz.ntmps79 rfl ?_ hw
 refine c_seq ?_
 refine c_region ?_
 refine l_val (v := .bool false) rfl rfl rfl (e_assign) ?_
 refine l_nil ?_
 refine f_then ?_
 refine c_seq ?_
 refine c_seq ?_
 refine c_region ?_
 refine l_val (v := .slice p (xs.length) (c)) rfl rfl rfl (e_move) ?_
 refine l_val (v := Nx (xs.length)) rfl rfl rfl (e_len (a := p) (n := xs.length) (c := c) rfl tf40) ?_
 refine l_val (v := .slice va (xs.length) (vc)) rfl rfl rfl (e_move) ?_
 refine l_val (v := Nx (xs.length)) rfl rfl rfl (e_len (a := va) (n := xs.length) (c := vc) rfl tf40) ?_
 refine l_val (v := .bool (decide (((xs.length : Nat) : Int) ≠ ((xs.length : Nat) : Int)))) rfl rfl rfl (e_neq (a := ((xs.length : Nat) : Int)) (b := ((xs.length : Nat) : Int)) rfl rfl) ?_
 refine l_nil ?_
 refine f_then ?_
 refine c_if (((xs.length : Nat) : Int) ≠ ((xs.length : Nat) : Int)) rfl (fun hc1 => ?_) (fun hc1 => ?_)
 ·
  exact absurd hc1 (by omega)
 ·
  refine c_skip ?_
  refine f_then ?_
  refine c_seq ?_
  refine c_region ?_
  refine l_val (v := .slice p (xs.length) (c)) rfl rfl rfl (e_move) ?_
  refine l_val (v := .slice va (xs.length) (vc)) rfl rfl rfl (e_move) ?_
  refine l_val (v := Nx (xs.length)) rfl rfl rfl (e_len (a := va) (n := xs.length) (c := vc) rfl tf40) ?_
  refine l_val (v := Nx (xs.length + 12)) rfl rfl rfl (e_add (a := ((xs.length : Nat) : Int)) (b := (12 : Int)) rfl rfl (i64n (by omega) (by omega))) ?_
  refine l_val (v := .slice p (((lentL (markB 1) xs)).length) (c)) rfl rfl rfl (ev_eq (by rw [lentL_len]) (e_slice_hi (a := p) (len := xs.length) (cap := c) (h := xs.length + 12) tf43 rfl rfl (by omega))) ?_
  refine l_val (v := .slice p (((lentL (markB 1) xs)).length) (c)) rfl rfl rfl (e_assign) ?_
  refine l_nil ?_
  refine f_then ?_
  refine c_seq ?_
  refine c_seq ?_
  refine c_region ?_
  refine l_val (v := .int .i64 (0)) rfl rfl rfl (e_assign) ?_
  refine l_nil ?_
  refine f_then ?_
  refine c_block ?_
  refine c_loop (fun (k : Nat) (f : Fm) (L : List Res) => (f 1 = .slice va (xs.length) (vc) ∧ f 5 = .slice p (((lentL (markB 1) xs)).length) (c) ∧ f 6 = Nx (k)) ∧ L = [] ∧ (k ≤ xs.length + 12)) (fun (k : Nat) => xs.length + 12 - k) 0 ?_ ?_
  ·exact ⟨⟨rfl, rfl, rfl⟩, rfl, (by omega)⟩
  rintro k f0 L0 ⟨⟨hs1, hs5, hs6⟩, hL, hk⟩
  subst L0
  refine rebase (d := 1) hs1 ?_
  refine rebase (d := 5) hs5 ?_
  refine rebase (d := 6) hs6 ?_
  clear hs1 hs5 hs6
  refine c_seq ?_
  refine c_seq ?_
  refine c_region ?_
  refine l_val (v := Nx (k)) rfl rfl rfl (e_move) ?_
  refine l_val (v := .slice p (((lentL (markB 1) xs)).length) (c)) rfl rfl rfl (e_move) ?_
  refine l_val (v := Nx (((lentL (markB 1) xs)).length)) rfl rfl rfl (e_len (a := p) (n := ((lentL (markB 1) xs)).length) (c := c) rfl tf40) ?_
  refine l_val (v := .bool (decide (((k : Nat) : Int) < ((((lentL (markB 1) xs)).length : Nat) : Int)))) rfl rfl rfl (e_lss (a := ((k : Nat) : Int)) (b := ((((lentL (markB 1) xs)).length : Nat) : Int)) rfl rfl) ?_
  refine l_nil ?_
  refine f_then ?_
  refine c_if (((k : Nat) : Int) < ((((lentL (markB 1) xs)).length : Nat) : Int)) rfl (fun hc2 => ?_) (fun hc2 => ?_)
  ·
   refine c_skip ?_
   refine f_then ?_
   refine c_seq ?_
   refine c_block ?_
   refine c_seq ?_
   refine c_quiet (by kernel_rfl) (by kernel_rfl) ?_
   refine q_val (v := Nx (k)) rfl rfl rfl (e_move) ?_
   refine q_val (v := .slice va (xs.length) (vc)) rfl rfl rfl (e_move) ?_
   refine q_val (v := Nx (xs.length)) rfl rfl rfl (e_len (a := va) (n := xs.length) (c := vc) rfl tf40) ?_
   refine q_val (v := .bool (decide (((k : Nat) : Int) < ((xs.length : Nat) : Int)))) rfl rfl rfl (e_lss (a := ((k : Nat) : Int)) (b := ((xs.length : Nat) : Int)) rfl rfl) ?_
   refine q_val (v := .bool (decide (((k : Nat) : Int) < ((xs.length : Nat) : Int)))) rfl rfl rfl (e_move) ?_
   refine q_split (s := 27) (p := ((k : Nat) : Int) < ((xs.length : Nat) : Int)) rfl (fun hg3 => ?_) (fun hg3 => ?_)
   ·
    refine qg_val (v := .slice p (((lentL (markB 1) xs)).length) (c)) rfl rfl rfl rfl rfl (e_move) ?_
    refine qg_val (v := Nx (k)) rfl rfl rfl rfl rfl (e_move) ?_
    obtain ⟨x4, hx5⟩ : ∃ x_, ((lentL (markB 1) xs))[k]? = some x_ := ⟨_, List.getElem?_eq_getElem (by omega)⟩
    obtain ⟨ha6, cs7, hc8, rfl⟩ := hpe _ _ hx5
    refine qg_val (v := .pointer (some ((ba p).add (k * 9)))) rfl rfl rfl rfl rfl (e_indexAddr (k := k) (len := ((lentL (markB 1) xs)).length) (cap := c) (a := p) rfl rfl tf43 (by omega) ha6) ?_
    refine qg_val (v := .agg (bC x4)) rfl rfl rfl rfl rfl (e_load tf22 (cs := (bodyE x4)) rfl (Knows.of_base (Cs.mono _ _) hc8) rfl) ?_
    refine qg_val (v := .slice va (xs.length) (vc)) rfl rfl rfl rfl rfl (e_move) ?_
    refine qg_val (v := Nx (k)) rfl rfl rfl rfl rfl (e_move) ?_
    obtain ⟨x10, hx11⟩ : ∃ x_, (xs)[k]? = some x_ := ⟨_, List.getElem?_eq_getElem (by omega)⟩
    obtain ⟨ha12, cs13, hc14, rfl⟩ := ve _ _ hx11
    refine qg_val (v := .pointer (some ((ba va).add (k * 9)))) rfl rfl rfl rfl rfl (e_indexAddr (k := k) (len := xs.length) (cap := vc) (a := va) rfl rfl tf43 (by omega) ha12) ?_
    refine qg_val (v := .agg (bC x10)) rfl rfl rfl rfl rfl (e_load tf22 (cs := (bodyE x10)) rfl (Knows.of_base (Cs.mono _ _) hc14) rfl) ?_
    refine qg_val (v := .bool (decide (x4 = x10))) rfl rfl rfl rfl rfl (e_eql_t (xs := (bodyE x4)) (ys := (bodyE x10)) tf133 tf134 tf135 rfl rfl rfl rfl body_eq) ?_
    refine qg_val (v := .bool (decide (¬ (x4 = x10)))) rfl rfl rfl rfl rfl (e_not_p (p := x4 = x10) rfl) ?_
    refine q_val (v := .bool (decide (¬ (x4 = x10)))) rfl rfl rfl (e_pick_t rfl) ?_
    refine q_val (v := .bool (decide (¬ (x4 = x10)))) rfl rfl rfl (e_move) ?_
    refine q_split (s := 39) (p := ¬ (x4 = x10)) rfl (fun h => ?_) (fun h => ?_)
    exact absurd h (Decidable.not_not.2 (lentL_lo hx5 hx11))
    refine qg_val (v := Nx (k)) rfl rfl rfl rfl rfl (e_move) ?_
    refine qg_val (v := .slice va (xs.length) (vc)) rfl rfl rfl rfl rfl (e_move) ?_
    refine qg_val (v := Nx (xs.length)) rfl rfl rfl rfl rfl (e_len (a := va) (n := xs.length) (c := vc) rfl tf40) ?_
    refine qg_val (v := .bool (decide (((xs.length : Nat) : Int) ≤ ((k : Nat) : Int)))) rfl rfl rfl rfl rfl (e_geq (a := ((k : Nat) : Int)) (b := ((xs.length : Nat) : Int)) rfl rfl) ?_
    refine qg_val (v := .bool (decide (((xs.length : Nat) : Int) ≤ ((k : Nat) : Int)))) rfl rfl rfl rfl rfl (e_move) ?_
    refine q_split (s := 44) (p := ((xs.length : Nat) : Int) ≤ ((k : Nat) : Int)) rfl (fun hg16 => ?_) (fun hg16 => ?_)
    ·
     refine qg_val (v := .slice p (((lentL (markB 1) xs)).length) (c)) rfl rfl rfl rfl rfl (e_move) ?_
     refine qg_val (v := Nx (k)) rfl rfl rfl rfl rfl (e_move) ?_
     refine qg_val (v := .pointer (some ((ba p).add (k * 9)))) rfl rfl rfl rfl rfl (e_indexAddr (k := k) (len := ((lentL (markB 1) xs)).length) (cap := c) (a := p) rfl rfl tf43 (by omega) ha6) ?_
     refine qg_val (v := .agg (bC x4)) rfl rfl rfl rfl rfl (e_load tf22 (cs := (bodyE x4)) rfl (Knows.of_base (Cs.mono _ _) hc8) rfl) ?_
     refine qg_val (v := Nx (k)) rfl rfl rfl rfl rfl (e_move) ?_
     refine qg_val (v := .slice va (xs.length) (vc)) rfl rfl rfl rfl rfl (e_move) ?_
     refine qg_val (v := Nx (xs.length)) rfl rfl rfl rfl rfl (e_len (a := va) (n := xs.length) (c := vc) rfl tf40) ?_
     refine qg_val (v := Nx (k - xs.length)) rfl rfl rfl rfl rfl (ev_eq (congrArg (Value.int .i64) (by omega)) (e_sub (a := ((k : Nat) : Int)) (b := ((xs.length : Nat) : Int)) rfl rfl (i64w (by omega)))) ?_
     refine qg_call (v := .agg (bC (markB 1 ((k - xs.length : Nat) : Int)))) rfl rfl rfl rfl rfl (cl_value (fst := []) (cap := []) (vs := [.int .i64 (1), Nx (k - xs.length)]) (all := [.int .i64 (1), Nx (k - xs.length)]) tf132 rfl rfl rfl) (fun w hw => ?_) ?_
     ·obtain ⟨β1, sb, kn, hw1, back⟩ := St.frame_all hw
      exact (markB_ok β1 w hw1 (1 : Int) ((k - xs.length : Nat) : Int) (by omega) (by omega)).mono (fun e w' ⟨he, hw'⟩ => ⟨he, st_mask [] rfl (back _ _ hw')⟩)
     refine qg_val (v := .bool (decide (x4 = (markB 1 ((k - xs.length : Nat) : Int))))) rfl rfl rfl rfl rfl (e_eql_t (xs := (bodyE x4)) (ys := (bodyE (markB 1 ((k - xs.length : Nat) : Int)))) tf133 tf134 tf135 rfl rfl rfl rfl body_eq) ?_
     refine qg_val (v := .bool (decide (¬ (x4 = (markB 1 ((k - xs.length : Nat) : Int)))))) rfl rfl rfl rfl rfl (e_not_p (p := x4 = (markB 1 ((k - xs.length : Nat) : Int))) rfl) ?_
     refine qg_val (v := .bool (decide (¬ (x4 = (markB 1 ((k - xs.length : Nat) : Int)))))) rfl rfl rfl rfl rfl (e_pick_t rfl) ?_
     refine q_val (v := .bool (decide (¬ (x4 = (markB 1 ((k - xs.length : Nat) : Int)))))) rfl rfl rfl (e_pick_f rfl) ?_
     refine q_nil ?_
     refine f_then ?_
     refine c_if (¬ (x4 = (markB 1 ((k - xs.length : Nat) : Int)))) rfl (fun hc17 => ?_) (fun hc17 => ?_)
     ·
      exact absurd hc17 (Decidable.not_not.2 (lentL_hi hx5 (by omega)))
     ·
      refine c_skip ?_
      refine f_block ?_
      refine f_then ?_
      refine c_region ?_
      refine l_val (v := Nx (k)) rfl rfl rfl (e_move) ?_
      refine l_val (v := Nx (k + 1)) rfl rfl rfl (e_add (a := ((k : Nat) : Int)) (b := (1 : Int)) rfl rfl (i64n (by omega) (by omega))) ?_
      refine l_val (v := Nx (k + 1)) rfl rfl rfl (e_assign) ?_
      refine l_nil ?_
      exact f_cut ⟨k + 1, ⟨⟨rfl, rfl, rfl⟩, rfl, (by omega)⟩, (show xs.length + 12 - (k + 1) < xs.length + 12 - k from by omega)⟩
    ·
     refine q_skip rfl rfl rfl rfl rfl rfl ?_
     refine q_skip rfl rfl rfl rfl rfl rfl ?_
     refine q_skip rfl rfl rfl rfl rfl rfl ?_
     refine q_skip rfl rfl rfl rfl rfl rfl ?_
     refine q_skip rfl rfl rfl rfl rfl rfl ?_
     refine q_skip rfl rfl rfl rfl rfl rfl ?_
     refine q_skip rfl rfl rfl rfl rfl rfl ?_
     refine q_skip rfl rfl rfl rfl rfl rfl ?_
     refine q_skip rfl rfl rfl rfl rfl rfl ?_
     refine q_skip rfl rfl rfl rfl rfl rfl ?_
     refine q_skip rfl rfl rfl rfl rfl rfl ?_
     refine qg_val (v := .bool false) rfl rfl rfl rfl rfl (e_pick_f rfl) ?_
     refine q_val (v := .bool false) rfl rfl rfl (e_pick_f rfl) ?_
     refine q_nil ?_
     refine f_then ?_
     refine c_no rfl ?_
     refine c_skip ?_
     refine f_block ?_
     refine f_then ?_
     refine c_region ?_
     refine l_val (v := Nx (k)) rfl rfl rfl (e_move) ?_
     refine l_val (v := Nx (k + 1)) rfl rfl rfl (e_add (a := ((k : Nat) : Int)) (b := (1 : Int)) rfl rfl (i64n (by omega) (by omega))) ?_
     refine l_val (v := Nx (k + 1)) rfl rfl rfl (e_assign) ?_
     refine l_nil ?_
     exact f_cut ⟨k + 1, ⟨⟨rfl, rfl, rfl⟩, rfl, (by omega)⟩, (show xs.length + 12 - (k + 1) < xs.length + 12 - k from by omega)⟩
   ·
    refine q_skip rfl rfl rfl rfl rfl rfl ?_
    refine q_skip rfl rfl rfl rfl rfl rfl ?_
    refine q_skip rfl rfl rfl rfl rfl rfl ?_
    refine q_skip rfl rfl rfl rfl rfl rfl ?_
    refine q_skip rfl rfl rfl rfl rfl rfl ?_
    refine q_skip rfl rfl rfl rfl rfl rfl ?_
    refine q_skip rfl rfl rfl rfl rfl rfl ?_
    refine q_skip rfl rfl rfl rfl rfl rfl ?_
    refine q_skip rfl rfl rfl rfl rfl rfl ?_
    refine q_skip rfl rfl rfl rfl rfl rfl ?_
    refine q_val (v := .bool false) rfl rfl rfl (e_pick_f rfl) ?_
    refine q_val (v := .bool false) rfl rfl rfl (e_move) ?_
    refine qg_val (v := Nx (k)) rfl rfl rfl rfl rfl (e_move) ?_
    refine qg_val (v := .slice va (xs.length) (vc)) rfl rfl rfl rfl rfl (e_move) ?_
    refine qg_val (v := Nx (xs.length)) rfl rfl rfl rfl rfl (e_len (a := va) (n := xs.length) (c := vc) rfl tf40) ?_
    refine qg_val (v := .bool (decide (((xs.length : Nat) : Int) ≤ ((k : Nat) : Int)))) rfl rfl rfl rfl rfl (e_geq (a := ((k : Nat) : Int)) (b := ((xs.length : Nat) : Int)) rfl rfl) ?_
    refine qg_val (v := .bool (decide (((xs.length : Nat) : Int) ≤ ((k : Nat) : Int)))) rfl rfl rfl rfl rfl (e_move) ?_
    refine q_split (s := 44) (p := ((xs.length : Nat) : Int) ≤ ((k : Nat) : Int)) rfl (fun hg18 => ?_) (fun hg18 => ?_)
    ·
     refine qg_val (v := .slice p (((lentL (markB 1) xs)).length) (c)) rfl rfl rfl rfl rfl (e_move) ?_
     refine qg_val (v := Nx (k)) rfl rfl rfl rfl rfl (e_move) ?_
     obtain ⟨x19, hx20⟩ : ∃ x_, ((lentL (markB 1) xs))[k]? = some x_ := ⟨_, List.getElem?_eq_getElem (by omega)⟩
     obtain ⟨ha21, cs22, hc23, rfl⟩ := hpe _ _ hx20
     refine qg_val (v := .pointer (some ((ba p).add (k * 9)))) rfl rfl rfl rfl rfl (e_indexAddr (k := k) (len := ((lentL (markB 1) xs)).length) (cap := c) (a := p) rfl rfl tf43 (by omega) ha21) ?_
     refine qg_val (v := .agg (bC x19)) rfl rfl rfl rfl rfl (e_load tf22 (cs := (bodyE x19)) rfl (Knows.of_base (Cs.mono _ _) hc23) rfl) ?_
     refine qg_val (v := Nx (k)) rfl rfl rfl rfl rfl (e_move) ?_
     refine qg_val (v := .slice va (xs.length) (vc)) rfl rfl rfl rfl rfl (e_move) ?_
     refine qg_val (v := Nx (xs.length)) rfl rfl rfl rfl rfl (e_len (a := va) (n := xs.length) (c := vc) rfl tf40) ?_
     refine qg_val (v := Nx (k - xs.length)) rfl rfl rfl rfl rfl (ev_eq (congrArg (Value.int .i64) (by omega)) (e_sub (a := ((k : Nat) : Int)) (b := ((xs.length : Nat) : Int)) rfl rfl (i64w (by omega)))) ?_
     refine qg_call (v := .agg (bC (markB 1 ((k - xs.length : Nat) : Int)))) rfl rfl rfl rfl rfl (cl_value (fst := []) (cap := []) (vs := [.int .i64 (1), Nx (k - xs.length)]) (all := [.int .i64 (1), Nx (k - xs.length)]) tf132 rfl rfl rfl) (fun w hw => ?_) ?_
     ·obtain ⟨β1, sb, kn, hw1, back⟩ := St.frame_all hw
      exact (markB_ok β1 w hw1 (1 : Int) ((k - xs.length : Nat) : Int) (by omega) (by omega)).mono (fun e w' ⟨he, hw'⟩ => ⟨he, st_mask [] rfl (back _ _ hw')⟩)
     refine qg_val (v := .bool (decide (x19 = (markB 1 ((k - xs.length : Nat) : Int))))) rfl rfl rfl rfl rfl (e_eql_t (xs := (bodyE x19)) (ys := (bodyE (markB 1 ((k - xs.length : Nat) : Int)))) tf133 tf134 tf135 rfl rfl rfl rfl body_eq) ?_
     refine qg_val (v := .bool (decide (¬ (x19 = (markB 1 ((k - xs.length : Nat) : Int)))))) rfl rfl rfl rfl rfl (e_not_p (p := x19 = (markB 1 ((k - xs.length : Nat) : Int))) rfl) ?_
     refine qg_val (v := .bool (decide (¬ (x19 = (markB 1 ((k - xs.length : Nat) : Int)))))) rfl rfl rfl rfl rfl (e_pick_t rfl) ?_
     refine q_val (v := .bool (decide (¬ (x19 = (markB 1 ((k - xs.length : Nat) : Int)))))) rfl rfl rfl (e_pick_f rfl) ?_
     refine q_nil ?_
     refine f_then ?_
     refine c_if (¬ (x19 = (markB 1 ((k - xs.length : Nat) : Int)))) rfl (fun hc25 => ?_) (fun hc25 => ?_)
     ·
      exact absurd hc25 (Decidable.not_not.2 (lentL_hi hx20 (by omega)))
     ·
      refine c_skip ?_
      refine f_block ?_
      refine f_then ?_
      refine c_region ?_
      refine l_val (v := Nx (k)) rfl rfl rfl (e_move) ?_
      refine l_val (v := Nx (k + 1)) rfl rfl rfl (e_add (a := ((k : Nat) : Int)) (b := (1 : Int)) rfl rfl (i64n (by omega) (by omega))) ?_
      refine l_val (v := Nx (k + 1)) rfl rfl rfl (e_assign) ?_
      refine l_nil ?_
      exact f_cut ⟨k + 1, ⟨⟨rfl, rfl, rfl⟩, rfl, (by omega)⟩, (show xs.length + 12 - (k + 1) < xs.length + 12 - k from by omega)⟩
    ·
     refine q_skip rfl rfl rfl rfl rfl rfl ?_
     refine q_skip rfl rfl rfl rfl rfl rfl ?_
     refine q_skip rfl rfl rfl rfl rfl rfl ?_
     refine q_skip rfl rfl rfl rfl rfl rfl ?_
     refine q_skip rfl rfl rfl rfl rfl rfl ?_
     refine q_skip rfl rfl rfl rfl rfl rfl ?_
     refine q_skip rfl rfl rfl rfl rfl rfl ?_
     refine q_skip rfl rfl rfl rfl rfl rfl ?_
     refine q_skip rfl rfl rfl rfl rfl rfl ?_
     refine q_skip rfl rfl rfl rfl rfl rfl ?_
     refine q_skip rfl rfl rfl rfl rfl rfl ?_
     refine qg_val (v := .bool false) rfl rfl rfl rfl rfl (e_pick_f rfl) ?_
     refine q_val (v := .bool false) rfl rfl rfl (e_pick_f rfl) ?_
     refine q_nil ?_
     refine f_then ?_
     refine c_no rfl ?_
     refine c_skip ?_
     refine f_block ?_
     refine f_then ?_
     refine c_region ?_
     refine l_val (v := Nx (k)) rfl rfl rfl (e_move) ?_
     refine l_val (v := Nx (k + 1)) rfl rfl rfl (e_add (a := ((k : Nat) : Int)) (b := (1 : Int)) rfl rfl (i64n (by omega) (by omega))) ?_
     refine l_val (v := Nx (k + 1)) rfl rfl rfl (e_assign) ?_
     refine l_nil ?_
     exact f_cut ⟨k + 1, ⟨⟨rfl, rfl, rfl⟩, rfl, (by omega)⟩, (show xs.length + 12 - (k + 1) < xs.length + 12 - k from by omega)⟩
  ·
   refine c_exit ?_
   refine f_then_exit ?_
   refine f_then_exit ?_
   refine f_exit ?_
   refine f_then ?_
   refine c_seq ?_
   refine c_region ?_
   refine l_val (v := .bool true) rfl rfl rfl (e_assign) ?_
   refine l_nil ?_
   refine f_then ?_
   refine c_ret ?_
   refine ret1 Tryz.results79 (v := .bool true) rfl ?_
   intro w hw
   exact ⟨rfl, st_mask [] rfl hw⟩
theorem overB_ok (β : Base) (w : World) (p : Option Addr) (c n : Nat) (ys : List KB) (hyl : ys.length = n + 12) (hn : n ≤ 1000000) (hw : St β [rowF BodyF 52 p c ys] w) : Calls Tryz.prog 82 #[.slice p n c] w fun r w' => ∃ zs, r = .returned (.tuple #[]) ∧ St β [rowF BodyF 52 p c zs] w' := by
 refine enter (n := 23) Tryz.func82 rfl Tryz.ntmps82 rfl ?_ hw
 refine c_seq ?_
 refine c_rowcap 0 rfl (fun hcl hcm => ?_)
 have hcm2 : c ≤ 9223372036854775807 := by unfold maxLen at hcm; omega
 refine c_region ?_
 refine l_val (v := .slice p (n) c) rfl rfl rfl (e_move) ?_
 refine l_val (v := .slice p (n) c) rfl rfl rfl (e_move) ?_
 refine l_val (v := Nx (c)) rfl rfl rfl (e_cap (a := p) (n := n) (c := c) rfl tf40) ?_
 refine l_val (v := .slice p (n) c) rfl rfl rfl (e_move) ?_
 refine l_val (v := Nx (n)) rfl rfl rfl (e_len (a := p) (n := n) (c := c) rfl tf40) ?_
 refine l_val (v := Nx (n + 12)) rfl rfl rfl (e_add (a := ((n : Nat) : Int)) (b := (12 : Int)) rfl rfl (i64n (by omega) (by omega))) ?_
 refine l_val (v := Nx (min c (n + 12))) rfl rfl rfl (ev_eq (congrArg (Value.int .i64) (by omega)) (e_min (a := ((c : Nat) : Int)) (b := ((n + 12 : Nat) : Int)) rfl rfl)) ?_
 refine l_val (v := .slice p (min c (n + 12)) c) rfl rfl rfl (e_slice_hi (a := p) (len := n) (cap := c) (h := min c (n + 12)) tf43 rfl rfl (by omega)) ?_
 refine l_val (v := .slice p (min c (n + 12)) c) rfl rfl rfl (e_assign) ?_
 refine l_nil ?_
 refine f_then ?_
 refine c_seq ?_
 refine c_region ?_
 refine l_val (v := .int .i64 (0)) rfl rfl rfl (e_assign) ?_
 refine l_nil ?_
 refine f_then ?_
 refine c_block ?_
 refine c_loop (fun (x_ : Nat × List KB) (f : Fm) (L : List Res) => match x_ with | (k, zs) => (f 2 = .slice p (min c (n + 12)) c ∧ f 3 = Nx (k)) ∧ L = [rowF BodyF 52 p c zs] ∧ (k ≤ min c (n + 12) ∧ zs.length = n + 12)) (fun (x_ : Nat × List KB) => match x_ with | (k, zs) => min c (n + 12) - k) (0, ys) ?_ ?_
 ·exact ⟨⟨rfl, rfl⟩, rfl, ⟨by omega, hyl⟩⟩
 rintro ⟨k, zs⟩ f0 L0 ⟨⟨hs2, hs3⟩, hL, ⟨hk, hzl⟩⟩
 subst L0
 refine rebase (d := 2) hs2 ?_
 refine rebase (d := 3) hs3 ?_
 clear hs2 hs3
 refine c_seq ?_
 refine c_seq ?_
 refine c_region ?_
 refine l_val (v := Nx (k)) rfl rfl rfl (e_move) ?_
 refine l_val (v := .slice p (min c (n + 12)) c) rfl rfl rfl (e_move) ?_
 refine l_val (v := Nx (min c (n + 12))) rfl rfl rfl (e_len (a := p) (n := min c (n + 12)) (c := c) rfl tf40) ?_
 refine l_val (v := .bool (decide (((k : Nat) : Int) < ((min c (n + 12) : Nat) : Int)))) rfl rfl rfl (e_lss (a := ((k : Nat) : Int)) (b := ((min c (n + 12) : Nat) : Int)) rfl rfl) ?_
 refine l_nil ?_
 refine f_then ?_
 refine c_if (((k : Nat) : Int) < ((min c (n + 12) : Nat) : Int)) rfl (fun hc1 => ?_) (fun hc1 => ?_)
 ·
  refine c_skip ?_
  refine f_then ?_
  refine c_seq ?_
  refine c_block ?_
  refine c_region ?_
  refine l_val (v := .slice p (min c (n + 12)) c) rfl rfl rfl (e_move) ?_
  refine l_val (v := Nx (k)) rfl rfl rfl (e_move) ?_
  refine l_val (v := Nx (k)) rfl rfl rfl (e_move) ?_
  refine l_call rfl rfl rfl (cl_value (fst := []) (cap := []) (vs := [.int .i64 (2), Nx (k)]) (all := [.int .i64 (2), Nx (k)]) tf132 rfl rfl rfl) ?_
  intro w hw
  obtain ⟨β1, sb, kn, hw1, back⟩ := St.frame_all hw
  refine (markB_ok β1 w hw1 (2 : Int) ((k : Nat) : Int) (by omega) (by omega)).mono ?_
  rintro e w' ⟨rfl, hw'⟩
  refine ⟨_, rfl, _, back _ _ hw', ?_⟩
  clear hw hw1 hw' back kn sb
  refine l_val (v := .pointer (some ((ba p).add (k * 9)))) rfl rfl rfl (e_indexFlN 0 (F := BodyF) (j := k) (m := min c (n + 12)) (xs := zs) rfl (by omega) rfl tf43 (by omega) rfl) ?_
  refine l_mu rfl rfl (m_storeFl 0 (F := BodyF) (p := p) (k := k) (xs := zs) (z := (markB 2 ((k : Nat) : Int))) tf22 rfl rfl rfl rfl (by omega)) ?_
  refine l_nil ?_
  refine f_block ?_
  refine f_then ?_
  refine c_region ?_
  refine l_val (v := Nx (k)) rfl rfl rfl (e_move) ?_
  refine l_val (v := Nx (k + 1)) rfl rfl rfl (e_add (a := ((k : Nat) : Int)) (b := (1 : Int)) rfl rfl (i64n (by omega) (by omega))) ?_
  refine l_val (v := Nx (k + 1)) rfl rfl rfl (e_assign) ?_
  refine l_nil ?_
  exact f_cut ⟨(k + 1, (zs.set k (markB 2 ((k : Nat) : Int)))), ⟨⟨rfl, rfl⟩, rfl, ⟨by omega, by rw [List.length_set]; exact hzl⟩⟩, (show min c (n + 12) - (k + 1) < min c (n + 12) - k from by omega)⟩
 ·
  refine c_exit ?_
  refine f_then_exit ?_
  refine f_then_exit ?_
  refine f_exit ?_
  refine end0 Tryz.results82 ?_
  intro w hw
  exact ⟨zs, rfl, st_mask [true] rfl hw⟩
set_option maxHeartbeats 4000000 in
theorem lentR_ok (β : Base) (w : World) (hw : St β [] w) (v : Value) (xs : List KR) (hs : Sl KRR β.heap v xs) (hn : xs.length ≤ 1048576) : Calls Tryz.prog 59 #[v] w fun r w' => ∃ p c, r = .returned (.slice p xs.length c) ∧ St β [rowF RopeF 78 p c (lentL (markR 1) xs)] w' := by
 obtain ⟨va, vc, rfl, vl, vm, ve⟩ := hs.get
 refine enter (n := 25) Tryz.func59 rfl Tryz.ntmps59 rfl ?_ hw
 refine c_seq ?_
 refine c_region ?_
 refine l_val (v := .slice none 0 0) rfl rfl rfl (e_assign) ?_
 refine l_nil ?_
 refine f_then ?_
 refine c_seq ?_
 refine c_region ?_
 refine l_val (v := .slice va (xs.length) (vc)) rfl rfl rfl (e_move) ?_
 refine l_val (v := Nx (xs.length)) rfl rfl rfl (e_len (a := va) (n := xs.length) (c := vc) rfl tf45) ?_
 refine l_val (v := Nx (xs.length + 12)) rfl rfl rfl (e_add (a := ((xs.length : Nat) : Int)) (b := (12 : Int)) rfl rfl (i64n (by omega) (by omega))) ?_
 refine l_mv rfl rfl rfl (m_make0 (c := xs.length + 12) tf46 tf84 tf77 rfl rfl (by omega) (by unfold maxLen; omega) (by omega)) ?_
 rintro _ _ ⟨b1, rfl, rfl⟩
 refine l_re (L' := [rowF RopeF 78 (some ⟨b1, 0, none⟩) (xs.length + 12) []]) (by rfl) ?_
 refine l_val (v := .slice (some ⟨b1, 0, none⟩) (0) (xs.length + 12)) rfl rfl rfl (e_assign) ?_
 refine l_nil ?_
 refine f_then ?_
 refine c_seq ?_
 refine c_region ?_
 refine l_val (v := .slice (some ⟨b1, 0, none⟩) (0) (xs.length + 12)) rfl rfl rfl (e_move) ?_
 refine l_val (v := .slice va (xs.length) (vc)) rfl rfl rfl (e_move) ?_
 refine l_mv rfl rfl rfl (m_appendFlN (F := RopeF) 0 tf46 tf84 (p := (some ⟨b1, 0, none⟩)) (m := 0) (xs := []) (ys := xs) (ao := va) (k := xs.length) (c := vc) rfl rfl rfl rfl rfl (Knows.of_base (Elems.mono _ _ _) ve) (by first | omega | simp only [List.length_nil, List.length_cons, List.length_append, List.length_set]; omega) (by first | omega | simp only [List.length_nil, List.length_cons, List.length_append, List.length_set]; omega)) ?_
 rintro _ _ ⟨rp2, rc3, rfl, rfl⟩
 refine l_val (v := .slice rp2 (xs.length) rc3) rfl rfl rfl (e_assign) ?_
 refine l_nil ?_
 refine f_then ?_
 refine c_seq ?_
 refine c_seq ?_
 refine c_region ?_
 refine l_val (v := .int .i64 (0)) rfl rfl rfl (e_assign) ?_
 refine l_nil ?_
 refine f_then ?_
 refine c_block ?_
 refine c_loop (fun (x_ : Nat × List KR × Option Addr × Nat) (f : Fm) (L : List Res) => match x_ with | (k, ys, p, c) => (f 0 = .slice va (xs.length) (vc) ∧ f 3 = .slice p (ys.length) c ∧ f 4 = Nx (k)) ∧ L = [rowF RopeF 78 p c ys] ∧ (k ≤ 12 ∧ ys = (xs ++ (List.range k).map fun i => markR 1 (i : Nat)))) (fun (x_ : Nat × List KR × Option Addr × Nat) => match x_ with | (k, ys, p, c) => 12 - k) (0, xs, rp2, rc3) ?_ ?_
 ·exact ⟨⟨rfl, rfl, rfl⟩, rfl, ⟨by omega, by simp⟩⟩
 rintro ⟨k, ys, p, c⟩ f0 L0 ⟨⟨hs0, hs3, hs4⟩, hL, ⟨hk, hys⟩⟩
 subst L0
 refine rebase (d := 0) hs0 ?_
 refine rebase (d := 3) hs3 ?_
 refine rebase (d := 4) hs4 ?_
 clear hs0 hs3 hs4
 have hyl : ys.length = xs.length + k := by rw [hys]; simp
 refine c_seq ?_
 refine c_seq ?_
 refine c_region ?_
 refine l_val (v := Nx (k)) rfl rfl rfl (e_move) ?_
 refine l_val (v := .bool (decide (((k : Nat) : Int) < (12 : Int)))) rfl rfl rfl (e_lss (a := ((k : Nat) : Int)) (b := (12 : Int)) rfl rfl) ?_
 refine l_nil ?_
 refine f_then ?_
 refine c_if (((k : Nat) : Int) < (12 : Int)) rfl (fun hc4 => ?_) (fun hc4 => ?_)
 ·
  refine c_skip ?_
  refine f_then ?_
  refine c_seq ?_
  refine c_block ?_
  refine c_region ?_
  refine l_val (v := .slice p (ys.length) c) rfl rfl rfl (e_move) ?_
  refine l_val (v := Nx (k)) rfl rfl rfl (e_move) ?_
  refine l_call rfl rfl rfl (cl_value (fst := []) (cap := []) (vs := [.int .i64 (1), Nx (k)]) (all := [.int .i64 (1), Nx (k)]) tf136 rfl rfl rfl) ?_
  intro w hw
  obtain ⟨β1, sb, kn, hw1, back⟩ := St.frame_all hw
  refine (markR_ok β1 w hw1 (1 : Int) ((k : Nat) : Int) (by omega) (by omega)).mono ?_
  rintro e w' ⟨rfl, hw'⟩
  refine ⟨_, rfl, _, back _ _ hw', ?_⟩
  clear hw hw1 hw' back kn sb
  refine l_mv rfl rfl rfl (m_slices tf46 tf77 (vs := [(0, .agg #[Ix ((markR 1 ((k : Nat) : Int)).a), Ix ((markR 1 ((k : Nat) : Int)).b), Ix ((markR 1 ((k : Nat) : Int)).len)])]) (cells := #[Ix ((markR 1 ((k : Nat) : Int)).a), Ix ((markR 1 ((k : Nat) : Int)).b), Ix ((markR 1 ((k : Nat) : Int)).len)]) rfl rfl rfl rfl) ?_
  rintro _ _ ⟨b5, rfl, rfl⟩
  refine l_mv rfl rfl rfl (m_appendFlN (F := RopeF) 1 tf46 tf84 (p := p) (m := ys.length) (xs := ys) (ys := [(markR 1 ((k : Nat) : Int))]) (ao := (some ⟨b5, 0, none⟩)) (k := 1) (c := 1) rfl rfl rfl rfl rfl (k_ptFl (z := (markR 1 ((k : Nat) : Int))) 0 rfl rfl) (by first | omega | simp only [List.length_nil, List.length_cons, List.length_append, List.length_set]; omega) (by first | omega | simp only [List.length_nil, List.length_cons, List.length_append, List.length_set]; omega)) ?_
  rintro _ _ ⟨rp6, rc7, rfl, rfl⟩
  refine l_val (v := .slice rp6 ((ys ++ [(markR 1 ((k : Nat) : Int))]).length) rc7) rfl rfl rfl (e_assign) ?_
  refine l_nil ?_
  refine f_block ?_
  refine f_then ?_
  refine c_region ?_
  refine l_val (v := Nx (k)) rfl rfl rfl (e_move) ?_
  refine l_val (v := Nx (k + 1)) rfl rfl rfl (e_add (a := ((k : Nat) : Int)) (b := (1 : Int)) rfl rfl (i64n (by omega) (by omega))) ?_
  refine l_val (v := Nx (k + 1)) rfl rfl rfl (e_assign) ?_
  refine l_nil ?_
  refine f_mask (L' := [rowF RopeF 78 rp6 rc7 (ys ++ [(markR 1 ((k : Nat) : Int))])]) [false, true] rfl ?_
  exact f_cut ⟨(k + 1, (ys ++ [(markR 1 ((k : Nat) : Int))]), rp6, rc7), ⟨⟨rfl, rfl, rfl⟩, rfl, ⟨by omega, by rw [hys]; exact lentL_next (markR 1) xs k⟩⟩, (show 12 - (k + 1) < 12 - k from by omega)⟩
 ·
  refine c_exit ?_
  refine f_then_exit ?_
  refine f_then_exit ?_
  refine f_exit ?_
  refine f_then ?_
  refine c_seq ?_
  refine c_rowcap 0 rfl (fun hcl hcm => ?_)
  have hyl : ys.length = xs.length + k := by rw [hys]; simp
  refine c_region ?_
  refine l_val (v := .slice p (ys.length) c) rfl rfl rfl (e_move) ?_
  refine l_val (v := .slice va (xs.length) (vc)) rfl rfl rfl (e_move) ?_
  refine l_val (v := Nx (xs.length)) rfl rfl rfl (e_len (a := va) (n := xs.length) (c := vc) rfl tf45) ?_
  refine l_val (v := .slice p (xs.length) c) rfl rfl rfl (e_slice_hi (a := p) (len := ys.length) (cap := c) (h := xs.length) tf46 rfl rfl (by omega)) ?_
  refine l_val (v := .slice p (xs.length) c) rfl rfl rfl (e_assign) ?_
  refine l_nil ?_
  refine f_then ?_
  refine c_ret ?_
  refine ret1 Tryz.results59 (v := .slice p (xs.length) c) rfl ?_
  intro w hw
  obtain rfl : k = 12 := by omega
  have he : ys = lentL (markR 1) xs := hys
  subst he
  exact ⟨p, c, rfl, st_mask [true] rfl hw⟩
set_option maxHeartbeats 4000000 in
theorem keptR_ok (β : Base) (w : World) (hw : St β [] w) (p : Option Addr) (c : Nat) (v : Value) (xs : List KR) (hx : xs.length ≤ 1048576) (hs : Sl KRR β.heap (.slice p (lentL (markR 1) xs).length c) (lentL (markR 1) xs)) (hv : Sl KRR β.heap v xs) : Calls Tryz.prog 80 #[.slice p xs.length c, v] w fun r w' => r = .returned (.bool true) ∧ St β [] w' := by
 obtain ⟨va, vc, rfl, vl, vm, ve⟩ := hv.get
 obtain ⟨_, hpl, hpm, hpe⟩ := hs.parts
 have hll := lentL_len (markR 1) xs
 refine enter (n := 58) Tryz.func80 rfl Tryz.ntmps80 rfl ?_ hw
 refine c_seq ?_
 refine c_region ?_
 refine l_val (v := .bool false) rfl rfl rfl (e_assign) ?_
 refine l_nil ?_
 refine f_then ?_
 refine c_seq ?_
 refine c_seq ?_
 refine c_region ?_
 refine l_val (v := .slice p (xs.length) (c)) rfl rfl rfl (e_move) ?_
 refine l_val (v := Nx (xs.length)) rfl rfl rfl (e_len (a := p) (n := xs.length) (c := c) rfl tf45) ?_
 refine l_val (v := .slice va (xs.length) (vc)) rfl rfl rfl (e_move) ?_
 refine l_val (v := Nx (xs.length)) rfl rfl rfl (e_len (a := va) (n := xs.length) (c := vc) rfl tf45) ?_
 refine l_val (v := .bool (decide (((xs.length : Nat) : Int) ≠ ((xs.length : Nat) : Int)))) rfl rfl rfl (e_neq (a := ((xs.length : Nat) : Int)) (b := ((xs.length : Nat) : Int)) rfl rfl) ?_
 refine l_nil ?_
 refine f_then ?_
 refine c_if (((xs.length : Nat) : Int) ≠ ((xs.length : Nat) : Int)) rfl (fun hc1 => ?_) (fun hc1 => ?_)
 ·
  exact absurd hc1 (by omega)
 ·
  refine c_skip ?_
  refine f_then ?_
  refine c_seq ?_
  refine c_region ?_
  refine l_val (v := .slice p (xs.length) (c)) rfl rfl rfl (e_move) ?_
  refine l_val (v := .slice va (xs.length) (vc)) rfl rfl rfl (e_move) ?_
  refine l_val (v := Nx (xs.length)) rfl rfl rfl (e_len (a := va) (n := xs.length) (c := vc) rfl tf45) ?_
  refine l_val (v := Nx (xs.length + 12)) rfl rfl rfl (e_add (a := ((xs.length : Nat) : Int)) (b := (12 : Int)) rfl rfl (i64n (by omega) (by omega))) ?_
  refine l_val (v := .slice p (((lentL (markR 1) xs)).length) (c)) rfl rfl rfl (ev_eq (by rw [lentL_len]) (e_slice_hi (a := p) (len := xs.length) (cap := c) (h := xs.length + 12) tf46 rfl rfl (by omega))) ?_
  refine l_val (v := .slice p (((lentL (markR 1) xs)).length) (c)) rfl rfl rfl (e_assign) ?_
  refine l_nil ?_
  refine f_then ?_
  refine c_seq ?_
  refine c_seq ?_
  refine c_region ?_
  refine l_val (v := .int .i64 (0)) rfl rfl rfl (e_assign) ?_
  refine l_nil ?_
  refine f_then ?_
  refine c_block ?_
  refine c_loop (fun (k : Nat) (f : Fm) (L : List Res) => (f 1 = .slice va (xs.length) (vc) ∧ f 5 = .slice p (((lentL (markR 1) xs)).length) (c) ∧ f 6 = Nx (k)) ∧ L = [] ∧ (k ≤ xs.length + 12)) (fun (k : Nat) => xs.length + 12 - k) 0 ?_ ?_
  ·exact ⟨⟨rfl, rfl, rfl⟩, rfl, (by omega)⟩
  rintro k f0 L0 ⟨⟨hs1, hs5, hs6⟩, hL, hk⟩
  subst L0
  refine rebase (d := 1) hs1 ?_
  refine rebase (d := 5) hs5 ?_
  refine rebase (d := 6) hs6 ?_
  clear hs1 hs5 hs6
  refine c_seq ?_
  refine c_seq ?_
  refine c_region ?_
  refine l_val (v := Nx (k)) rfl rfl rfl (e_move) ?_
  refine l_val (v := .slice p (((lentL (markR 1) xs)).length) (c)) rfl rfl rfl (e_move) ?_
  refine l_val (v := Nx (((lentL (markR 1) xs)).length)) rfl rfl rfl (e_len (a := p) (n := ((lentL (markR 1) xs)).length) (c := c) rfl tf45) ?_
  refine l_val (v := .bool (decide (((k : Nat) : Int) < ((((lentL (markR 1) xs)).length : Nat) : Int)))) rfl rfl rfl (e_lss (a := ((k : Nat) : Int)) (b := ((((lentL (markR 1) xs)).length : Nat) : Int)) rfl rfl) ?_
  refine l_nil ?_
  refine f_then ?_
  refine c_if (((k : Nat) : Int) < ((((lentL (markR 1) xs)).length : Nat) : Int)) rfl (fun hc2 => ?_) (fun hc2 => ?_)
  ·
   refine c_skip ?_
   refine f_then ?_
   refine c_seq ?_
   refine c_block ?_
   refine c_seq ?_
   refine c_quiet (by kernel_rfl) (by kernel_rfl) ?_
   refine q_val (v := Nx (k)) rfl rfl rfl (e_move) ?_
   refine q_val (v := .slice va (xs.length) (vc)) rfl rfl rfl (e_move) ?_
   refine q_val (v := Nx (xs.length)) rfl rfl rfl (e_len (a := va) (n := xs.length) (c := vc) rfl tf45) ?_
   refine q_val (v := .bool (decide (((k : Nat) : Int) < ((xs.length : Nat) : Int)))) rfl rfl rfl (e_lss (a := ((k : Nat) : Int)) (b := ((xs.length : Nat) : Int)) rfl rfl) ?_
   refine q_val (v := .bool (decide (((k : Nat) : Int) < ((xs.length : Nat) : Int)))) rfl rfl rfl (e_move) ?_
   refine q_split (s := 27) (p := ((k : Nat) : Int) < ((xs.length : Nat) : Int)) rfl (fun hg3 => ?_) (fun hg3 => ?_)
   ·
    refine qg_val (v := .slice p (((lentL (markR 1) xs)).length) (c)) rfl rfl rfl rfl rfl (e_move) ?_
    refine qg_val (v := Nx (k)) rfl rfl rfl rfl rfl (e_move) ?_
    obtain ⟨x4, hx5⟩ : ∃ x_, ((lentL (markR 1) xs))[k]? = some x_ := ⟨_, List.getElem?_eq_getElem (by omega)⟩
    obtain ⟨ha6, cs7, hc8, rfl⟩ := hpe _ _ hx5
    refine qg_val (v := .pointer (some ((ba p).add (k * 3)))) rfl rfl rfl rfl rfl (e_indexAddr (k := k) (len := ((lentL (markR 1) xs)).length) (cap := c) (a := p) rfl rfl tf46 (by omega) ha6) ?_
    refine qg_val (v := .agg #[Ix (x4.a), Ix (x4.b), Ix (x4.len)]) rfl rfl rfl rfl rfl (e_load tf47 (cs := [Ix (x4.a), Ix (x4.b), Ix (x4.len)]) rfl (Knows.of_base (Cs.mono _ _) hc8) rfl) ?_
    refine qg_val (v := .slice va (xs.length) (vc)) rfl rfl rfl rfl rfl (e_move) ?_
    refine qg_val (v := Nx (k)) rfl rfl rfl rfl rfl (e_move) ?_
    obtain ⟨x10, hx11⟩ : ∃ x_, (xs)[k]? = some x_ := ⟨_, List.getElem?_eq_getElem (by omega)⟩
    obtain ⟨ha12, cs13, hc14, rfl⟩ := ve _ _ hx11
    refine qg_val (v := .pointer (some ((ba va).add (k * 3)))) rfl rfl rfl rfl rfl (e_indexAddr (k := k) (len := xs.length) (cap := vc) (a := va) rfl rfl tf46 (by omega) ha12) ?_
    refine qg_val (v := .agg #[Ix (x10.a), Ix (x10.b), Ix (x10.len)]) rfl rfl rfl rfl rfl (e_load tf47 (cs := [Ix (x10.a), Ix (x10.b), Ix (x10.len)]) rfl (Knows.of_base (Cs.mono _ _) hc14) rfl) ?_
    refine qg_val (v := .bool (decide (x4 = x10))) rfl rfl rfl rfl rfl (e_eql_t (xs := [Ix (x4.a), Ix (x4.b), Ix (x4.len)]) (ys := [Ix (x10.a), Ix (x10.b), Ix (x10.len)]) tf137 tf138 tf139 rfl rfl rfl rfl rope_eq) ?_
    refine qg_val (v := .bool (decide (¬ (x4 = x10)))) rfl rfl rfl rfl rfl (e_not_p (p := x4 = x10) rfl) ?_
    refine q_val (v := .bool (decide (¬ (x4 = x10)))) rfl rfl rfl (e_pick_t rfl) ?_
    refine q_val (v := .bool (decide (¬ (x4 = x10)))) rfl rfl rfl (e_move) ?_
    refine q_split (s := 39) (p := ¬ (x4 = x10)) rfl (fun h => ?_) (fun h => ?_)
    exact absurd h (Decidable.not_not.2 (lentL_lo hx5 hx11))
    refine qg_val (v := Nx (k)) rfl rfl rfl rfl rfl (e_move) ?_
    refine qg_val (v := .slice va (xs.length) (vc)) rfl rfl rfl rfl rfl (e_move) ?_
    refine qg_val (v := Nx (xs.length)) rfl rfl rfl rfl rfl (e_len (a := va) (n := xs.length) (c := vc) rfl tf45) ?_
    refine qg_val (v := .bool (decide (((xs.length : Nat) : Int) ≤ ((k : Nat) : Int)))) rfl rfl rfl rfl rfl (e_geq (a := ((k : Nat) : Int)) (b := ((xs.length : Nat) : Int)) rfl rfl) ?_
    refine qg_val (v := .bool (decide (((xs.length : Nat) : Int) ≤ ((k : Nat) : Int)))) rfl rfl rfl rfl rfl (e_move) ?_
    refine q_split (s := 44) (p := ((xs.length : Nat) : Int) ≤ ((k : Nat) : Int)) rfl (fun hg16 => ?_) (fun hg16 => ?_)
    ·
     refine qg_val (v := .slice p (((lentL (markR 1) xs)).length) (c)) rfl rfl rfl rfl rfl (e_move) ?_
     refine qg_val (v := Nx (k)) rfl rfl rfl rfl rfl (e_move) ?_
     refine qg_val (v := .pointer (some ((ba p).add (k * 3)))) rfl rfl rfl rfl rfl (e_indexAddr (k := k) (len := ((lentL (markR 1) xs)).length) (cap := c) (a := p) rfl rfl tf46 (by omega) ha6) ?_
     refine qg_val (v := .agg #[Ix (x4.a), Ix (x4.b), Ix (x4.len)]) rfl rfl rfl rfl rfl (e_load tf47 (cs := [Ix (x4.a), Ix (x4.b), Ix (x4.len)]) rfl (Knows.of_base (Cs.mono _ _) hc8) rfl) ?_
     refine qg_val (v := Nx (k)) rfl rfl rfl rfl rfl (e_move) ?_
     refine qg_val (v := .slice va (xs.length) (vc)) rfl rfl rfl rfl rfl (e_move) ?_
     refine qg_val (v := Nx (xs.length)) rfl rfl rfl rfl rfl (e_len (a := va) (n := xs.length) (c := vc) rfl tf45) ?_
     refine qg_val (v := Nx (k - xs.length)) rfl rfl rfl rfl rfl (ev_eq (congrArg (Value.int .i64) (by omega)) (e_sub (a := ((k : Nat) : Int)) (b := ((xs.length : Nat) : Int)) rfl rfl (i64w (by omega)))) ?_
     refine qg_call (v := .agg #[Ix ((markR 1 ((k - xs.length : Nat) : Int)).a), Ix ((markR 1 ((k - xs.length : Nat) : Int)).b), Ix ((markR 1 ((k - xs.length : Nat) : Int)).len)]) rfl rfl rfl rfl rfl (cl_value (fst := []) (cap := []) (vs := [.int .i64 (1), Nx (k - xs.length)]) (all := [.int .i64 (1), Nx (k - xs.length)]) tf136 rfl rfl rfl) (fun w hw => ?_) ?_
     ·obtain ⟨β1, sb, kn, hw1, back⟩ := St.frame_all hw
      exact (markR_ok β1 w hw1 (1 : Int) ((k - xs.length : Nat) : Int) (by omega) (by omega)).mono (fun e w' ⟨he, hw'⟩ => ⟨he, st_mask [] rfl (back _ _ hw')⟩)
     refine qg_val (v := .bool (decide (x4 = (markR 1 ((k - xs.length : Nat) : Int))))) rfl rfl rfl rfl rfl (e_eql_t (xs := [Ix (x4.a), Ix (x4.b), Ix (x4.len)]) (ys := [Ix ((markR 1 ((k - xs.length : Nat) : Int)).a), Ix ((markR 1 ((k - xs.length : Nat) : Int)).b), Ix ((markR 1 ((k - xs.length : Nat) : Int)).len)]) tf137 tf138 tf139 rfl rfl rfl rfl rope_eq) ?_
     refine qg_val (v := .bool (decide (¬ (x4 = (markR 1 ((k - xs.length : Nat) : Int)))))) rfl rfl rfl rfl rfl (e_not_p (p := x4 = (markR 1 ((k - xs.length : Nat) : Int))) rfl) ?_
     refine qg_val (v := .bool (decide (¬ (x4 = (markR 1 ((k - xs.length : Nat) : Int)))))) rfl rfl rfl rfl rfl (e_pick_t rfl) ?_
     refine q_val (v := .bool (decide (¬ (x4 = (markR 1 ((k - xs.length : Nat) : Int)))))) rfl rfl rfl (e_pick_f rfl) ?_
     refine q_nil ?_
     refine f_then ?_
     refine c_if (¬ (x4 = (markR 1 ((k - xs.length : Nat) : Int)))) rfl (fun hc17 => ?_) (fun hc17 => ?_)
     ·
      exact absurd hc17 (Decidable.not_not.2 (lentL_hi hx5 (by omega)))
     ·
      refine c_skip ?_
      refine f_block ?_
      refine f_then ?_
      refine c_region ?_
      refine l_val (v := Nx (k)) rfl rfl rfl (e_move) ?_
      refine l_val (v := Nx (k + 1)) rfl rfl rfl (e_add (a := ((k : Nat) : Int)) (b := (1 : Int)) rfl rfl (i64n (by omega) (by omega))) ?_
      refine l_val (v := Nx (k + 1)) rfl rfl rfl (e_assign) ?_
      refine l_nil ?_
      exact f_cut ⟨k + 1, ⟨⟨rfl, rfl, rfl⟩, rfl, (by omega)⟩, (show xs.length + 12 - (k + 1) < xs.length + 12 - k from by omega)⟩
    ·
     refine q_skip rfl rfl rfl rfl rfl rfl ?_
     refine q_skip rfl rfl rfl rfl rfl rfl ?_
     refine q_skip rfl rfl rfl rfl rfl rfl ?_
     refine q_skip rfl rfl rfl rfl rfl rfl ?_
     refine q_skip rfl rfl rfl rfl rfl rfl ?_
     refine q_skip rfl rfl rfl rfl rfl rfl ?_
     refine q_skip rfl rfl rfl rfl rfl rfl ?_
     refine q_skip rfl rfl rfl rfl rfl rfl ?_
     refine q_skip rfl rfl rfl rfl rfl rfl ?_
     refine q_skip rfl rfl rfl rfl rfl rfl ?_
     refine q_skip rfl rfl rfl rfl rfl rfl ?_
     refine qg_val (v := .bool false) rfl rfl rfl rfl rfl (e_pick_f rfl) ?_
     refine q_val (v := .bool false) rfl rfl rfl (e_pick_f rfl) ?_
     refine q_nil ?_
     refine f_then ?_
     refine c_no rfl ?_
     refine c_skip ?_
     refine f_block ?_
     refine f_then ?_
     refine c_region ?_
     refine l_val (v := Nx (k)) rfl rfl rfl (e_move) ?_
     refine l_val (v := Nx (k + 1)) rfl rfl rfl (e_add (a := ((k : Nat) : Int)) (b := (1 : Int)) rfl rfl (i64n (by omega) (by omega))) ?_
     refine l_val (v := Nx (k + 1)) rfl rfl rfl (e_assign) ?_
     refine l_nil ?_
     exact f_cut ⟨k + 1, ⟨⟨rfl, rfl, rfl⟩, rfl, (by omega)⟩, (show xs.length + 12 - (k + 1) < xs.length + 12 - k from by omega)⟩
   ·
    refine q_skip rfl rfl rfl rfl rfl rfl ?_
    refine q_skip rfl rfl rfl rfl rfl rfl ?_
    refine q_skip rfl rfl rfl rfl rfl rfl ?_
    refine q_skip rfl rfl rfl rfl rfl rfl ?_
    refine q_skip rfl rfl rfl rfl rfl rfl ?_
    refine q_skip rfl rfl rfl rfl rfl rfl ?_
    refine q_skip rfl rfl rfl rfl rfl rfl ?_
    refine q_skip rfl rfl rfl rfl rfl rfl ?_
    refine q_skip rfl rfl rfl rfl rfl rfl ?_
    refine q_skip rfl rfl rfl rfl rfl rfl ?_
    refine q_val (v := .bool false) rfl rfl rfl (e_pick_f rfl) ?_
    refine q_val (v := .bool false) rfl rfl rfl (e_move) ?_
    refine qg_val (v := Nx (k)) rfl rfl rfl rfl rfl (e_move) ?_
    refine qg_val (v := .slice va (xs.length) (vc)) rfl rfl rfl rfl rfl (e_move) ?_
    refine qg_val (v := Nx (xs.length)) rfl rfl rfl rfl rfl (e_len (a := va) (n := xs.length) (c := vc) rfl tf45) ?_
    refine qg_val (v := .bool (decide (((xs.length : Nat) : Int) ≤ ((k : Nat) : Int)))) rfl rfl rfl rfl rfl (e_geq (a := ((k : Nat) : Int)) (b := ((xs.length : Nat) : Int)) rfl rfl) ?_
    refine qg_val (v := .bool (decide (((xs.length : Nat) : Int) ≤ ((k : Nat) : Int)))) rfl rfl rfl rfl rfl (e_move) ?_
    refine q_split (s := 44) (p := ((xs.length : Nat) : Int) ≤ ((k : Nat) : Int)) rfl (fun hg18 => ?_) (fun hg18 => ?_)
    ·
     refine qg_val (v := .slice p (((lentL (markR 1) xs)).length) (c)) rfl rfl rfl rfl rfl (e_move) ?_
     refine qg_val (v := Nx (k)) rfl rfl rfl rfl rfl (e_move) ?_
     obtain ⟨x19, hx20⟩ : ∃ x_, ((lentL (markR 1) xs))[k]? = some x_ := ⟨_, List.getElem?_eq_getElem (by omega)⟩
     obtain ⟨ha21, cs22, hc23, rfl⟩ := hpe _ _ hx20
     refine qg_val (v := .pointer (some ((ba p).add (k * 3)))) rfl rfl rfl rfl rfl (e_indexAddr (k := k) (len := ((lentL (markR 1) xs)).length) (cap := c) (a := p) rfl rfl tf46 (by omega) ha21) ?_
     refine qg_val (v := .agg #[Ix (x19.a), Ix (x19.b), Ix (x19.len)]) rfl rfl rfl rfl rfl (e_load tf47 (cs := [Ix (x19.a), Ix (x19.b), Ix (x19.len)]) rfl (Knows.of_base (Cs.mono _ _) hc23) rfl) ?_
     refine qg_val (v := Nx (k)) rfl rfl rfl rfl rfl (e_move) ?_
     refine qg_val (v := .slice va (xs.length) (vc)) rfl rfl rfl rfl rfl (e_move) ?_
     refine qg_val (v := Nx (xs.length)) rfl rfl rfl rfl rfl (e_len (a := va) (n := xs.length) (c := vc) rfl tf45) ?_
     refine qg_val (v := Nx (k - xs.length)) rfl rfl rfl rfl rfl (ev_eq (congrArg (Value.int .i64) (by omega)) (e_sub (a := ((k : Nat) : Int)) (b := ((xs.length : Nat) : Int)) rfl rfl (i64w (by omega)))) ?_
     refine qg_call (v := .agg #[Ix ((markR 1 ((k - xs.length : Nat) : Int)).a), Ix ((markR 1 ((k - xs.length : Nat) : Int)).b), Ix ((markR 1 ((k - xs.length : Nat) : Int)).len)]) rfl rfl rfl rfl rfl (cl_value (fst := []) (cap := []) (vs := [.int .i64 (1), Nx (k - xs.length)]) (all := [.int .i64 (1), Nx (k - xs.length)]) tf136 rfl rfl rfl) (fun w hw => ?_) ?_
     ·obtain ⟨β1, sb, kn, hw1, back⟩ := St.frame_all hw
      exact (markR_ok β1 w hw1 (1 : Int) ((k - xs.length : Nat) : Int) (by omega) (by omega)).mono (fun e w' ⟨he, hw'⟩ => ⟨he, st_mask [] rfl (back _ _ hw')⟩)
     refine qg_val (v := .bool (decide (x19 = (markR 1 ((k - xs.length : Nat) : Int))))) rfl rfl rfl rfl rfl (e_eql_t (xs := [Ix (x19.a), Ix (x19.b), Ix (x19.len)]) (ys := [Ix ((markR 1 ((k - xs.length : Nat) : Int)).a), Ix ((markR 1 ((k - xs.length : Nat) : Int)).b), Ix ((markR 1 ((k - xs.length : Nat) : Int)).len)]) tf137 tf138 tf139 rfl rfl rfl rfl rope_eq) ?_
     refine qg_val (v := .bool (decide (¬ (x19 = (markR 1 ((k - xs.length : Nat) : Int)))))) rfl rfl rfl rfl rfl (e_not_p (p := x19 = (markR 1 ((k - xs.length : Nat) : Int))) rfl) ?_
     refine qg_val (v := .bool (decide (¬ (x19 = (markR 1 ((k - xs.length : Nat) : Int)))))) rfl rfl rfl rfl rfl (e_pick_t rfl) ?_
     refine q_val (v := .bool (decide (¬ (x19 = (markR 1 ((k - xs.length : Nat) : Int)))))) rfl rfl rfl (e_pick_f rfl) ?_
     refine q_nil ?_
     refine f_then ?_
     refine c_if (¬ (x19 = (markR 1 ((k - xs.length : Nat) : Int)))) rfl (fun hc25 => ?_) (fun hc25 => ?_)
     ·
      exact absurd hc25 (Decidable.not_not.2 (lentL_hi hx20 (by omega)))
     ·
      refine c_skip ?_
      refine f_block ?_
      refine f_then ?_
      refine c_region ?_
      refine l_val (v := Nx (k)) rfl rfl rfl (e_move) ?_
      refine l_val (v := Nx (k + 1)) rfl rfl rfl (e_add (a := ((k : Nat) : Int)) (b := (1 : Int)) rfl rfl (i64n (by omega) (by omega))) ?_
      refine l_val (v := Nx (k + 1)) rfl rfl rfl (e_assign) ?_
      refine l_nil ?_
      exact f_cut ⟨k + 1, ⟨⟨rfl, rfl, rfl⟩, rfl, (by omega)⟩, (show xs.length + 12 - (k + 1) < xs.length + 12 - k from by omega)⟩
    ·
     refine q_skip rfl rfl rfl rfl rfl rfl ?_
     refine q_skip rfl rfl rfl rfl rfl rfl ?_
     refine q_skip rfl rfl rfl rfl rfl rfl ?_
     refine q_skip rfl rfl rfl rfl rfl rfl ?_
     refine q_skip rfl rfl rfl rfl rfl rfl ?_
     refine q_skip rfl rfl rfl rfl rfl rfl ?_
     refine q_skip rfl rfl rfl rfl rfl rfl ?_
     refine q_skip rfl rfl rfl rfl rfl rfl ?_
     refine q_skip rfl rfl rfl rfl rfl rfl ?_
     refine q_skip rfl rfl rfl rfl rfl rfl ?_
     refine q_skip rfl rfl rfl rfl rfl rfl ?_
     refine qg_val (v := .bool false) rfl rfl rfl rfl rfl (e_pick_f rfl) ?_
     refine q_val (v := .bool false) rfl rfl rfl (e_pick_f rfl) ?_
     refine q_nil ?_
     refine f_then ?_
     refine c_no rfl ?_
     refine c_skip ?_
     refine f_block ?_
     refine f_then ?_
     refine c_region ?_
     refine l_val (v := Nx (k)) rfl rfl rfl (e_move) ?_
     refine l_val (v := Nx (k + 1)) rfl rfl rfl (e_add (a := ((k : Nat) : Int)) (b := (1 : Int)) rfl rfl (i64n (by omega) (by omega))) ?_
     refine l_val (v := Nx (k + 1)) rfl rfl rfl (e_assign) ?_
     refine l_nil ?_
     exact f_cut ⟨k + 1, ⟨⟨rfl, rfl, rfl⟩, rfl, (by omega)⟩, (show xs.length + 12 - (k + 1) < xs.length + 12 - k from by omega)⟩
  ·
   refine c_exit ?_
   refine f_then_exit ?_
   refine f_then_exit ?_
   refine f_exit ?_
   refine f_then ?_
   refine c_seq ?_
   refine c_region ?_
   refine l_val (v := .bool true) rfl rfl rfl (e_assign) ?_
   refine l_nil ?_
   refine f_then ?_
   refine c_ret ?_
   refine ret1 Tryz.results80 (v := .bool true) rfl ?_
   intro w hw
   exact ⟨rfl, st_mask [] rfl hw⟩
theorem overR_ok (β : Base) (w : World) (p : Option Addr) (c n : Nat) (ys : List KR) (hyl : ys.length = n + 12) (hn : n ≤ 1000000) (hw : St β [rowF RopeF 78 p c ys] w) : Calls Tryz.prog 83 #[.slice p n c] w fun r w' => ∃ zs, r = .returned (.tuple #[]) ∧ St β [rowF RopeF 78 p c zs] w' := by
 refine enter (n := 23) Tryz.func83 rfl Tryz.ntmps83 rfl ?_ hw
 refine c_seq ?_
 refine c_rowcap 0 rfl (fun hcl hcm => ?_)
 have hcm2 : c ≤ 9223372036854775807 := by unfold maxLen at hcm; omega
 refine c_region ?_
 refine l_val (v := .slice p (n) c) rfl rfl rfl (e_move) ?_
 refine l_val (v := .slice p (n) c) rfl rfl rfl (e_move) ?_
 refine l_val (v := Nx (c)) rfl rfl rfl (e_cap (a := p) (n := n) (c := c) rfl tf45) ?_
 refine l_val (v := .slice p (n) c) rfl rfl rfl (e_move) ?_
 refine l_val (v := Nx (n)) rfl rfl rfl (e_len (a := p) (n := n) (c := c) rfl tf45) ?_
 refine l_val (v := Nx (n + 12)) rfl rfl rfl (e_add (a := ((n : Nat) : Int)) (b := (12 : Int)) rfl rfl (i64n (by omega) (by omega))) ?_
 refine l_val (v := Nx (min c (n + 12))) rfl rfl rfl (ev_eq (congrArg (Value.int .i64) (by omega)) (e_min (a := ((c : Nat) : Int)) (b := ((n + 12 : Nat) : Int)) rfl rfl)) ?_
 refine l_val (v := .slice p (min c (n + 12)) c) rfl rfl rfl (e_slice_hi (a := p) (len := n) (cap := c) (h := min c (n + 12)) tf46 rfl rfl (by omega)) ?_
 refine l_val (v := .slice p (min c (n + 12)) c) rfl rfl rfl (e_assign) ?_
 refine l_nil ?_
 refine f_then ?_
 refine c_seq ?_
 refine c_region ?_
 refine l_val (v := .int .i64 (0)) rfl rfl rfl (e_assign) ?_
 refine l_nil ?_
 refine f_then ?_
 refine c_block ?_
 refine c_loop (fun (x_ : Nat × List KR) (f : Fm) (L : List Res) => match x_ with | (k, zs) => (f 2 = .slice p (min c (n + 12)) c ∧ f 3 = Nx (k)) ∧ L = [rowF RopeF 78 p c zs] ∧ (k ≤ min c (n + 12) ∧ zs.length = n + 12)) (fun (x_ : Nat × List KR) => match x_ with | (k, zs) => min c (n + 12) - k) (0, ys) ?_ ?_
 ·exact ⟨⟨rfl, rfl⟩, rfl, ⟨by omega, hyl⟩⟩
 rintro ⟨k, zs⟩ f0 L0 ⟨⟨hs2, hs3⟩, hL, ⟨hk, hzl⟩⟩
 subst L0
 refine rebase (d := 2) hs2 ?_
 refine rebase (d := 3) hs3 ?_
 clear hs2 hs3
 refine c_seq ?_
 refine c_seq ?_
 refine c_region ?_
 refine l_val (v := Nx (k)) rfl rfl rfl (e_move) ?_
 refine l_val (v := .slice p (min c (n + 12)) c) rfl rfl rfl (e_move) ?_
 refine l_val (v := Nx (min c (n + 12))) rfl rfl rfl (e_len (a := p) (n := min c (n + 12)) (c := c) rfl tf45) ?_
 refine l_val (v := .bool (decide (((k : Nat) : Int) < ((min c (n + 12) : Nat) : Int)))) rfl rfl rfl (e_lss (a := ((k : Nat) : Int)) (b := ((min c (n + 12) : Nat) : Int)) rfl rfl) ?_
 refine l_nil ?_
 refine f_then ?_
 refine c_if (((k : Nat) : Int) < ((min c (n + 12) : Nat) : Int)) rfl (fun hc1 => ?_) (fun hc1 => ?_)
 ·
  refine c_skip ?_
  refine f_then ?_
  refine c_seq ?_
  refine c_block ?_
  refine c_region ?_
  refine l_val (v := .slice p (min c (n + 12)) c) rfl rfl rfl (e_move) ?_
  refine l_val (v := Nx (k)) rfl rfl rfl (e_move) ?_
  refine l_val (v := Nx (k)) rfl rfl rfl (e_move) ?_
  refine l_call rfl rfl rfl (cl_value (fst := []) (cap := []) (vs := [.int .i64 (2), Nx (k)]) (all := [.int .i64 (2), Nx (k)]) tf136 rfl rfl rfl) ?_
  intro w hw
  obtain ⟨β1, sb, kn, hw1, back⟩ := St.frame_all hw
  refine (markR_ok β1 w hw1 (2 : Int) ((k : Nat) : Int) (by omega) (by omega)).mono ?_
  rintro e w' ⟨rfl, hw'⟩
  refine ⟨_, rfl, _, back _ _ hw', ?_⟩
  clear hw hw1 hw' back kn sb
  refine l_val (v := .pointer (some ((ba p).add (k * 3)))) rfl rfl rfl (e_indexFlN 0 (F := RopeF) (j := k) (m := min c (n + 12)) (xs := zs) rfl (by omega) rfl tf46 (by omega) rfl) ?_
  refine l_mu rfl rfl (m_storeFl 0 (F := RopeF) (p := p) (k := k) (xs := zs) (z := (markR 2 ((k : Nat) : Int))) tf47 rfl rfl rfl rfl (by omega)) ?_
  refine l_nil ?_
  refine f_block ?_
  refine f_then ?_
  refine c_region ?_
  refine l_val (v := Nx (k)) rfl rfl rfl (e_move) ?_
  refine l_val (v := Nx (k + 1)) rfl rfl rfl (e_add (a := ((k : Nat) : Int)) (b := (1 : Int)) rfl rfl (i64n (by omega) (by omega))) ?_
  refine l_val (v := Nx (k + 1)) rfl rfl rfl (e_assign) ?_
  refine l_nil ?_
  exact f_cut ⟨(k + 1, (zs.set k (markR 2 ((k : Nat) : Int)))), ⟨⟨rfl, rfl⟩, rfl, ⟨by omega, by rw [List.length_set]; exact hzl⟩⟩, (show min c (n + 12) - (k + 1) < min c (n + 12) - k from by omega)⟩
 ·
  refine c_exit ?_
  refine f_then_exit ?_
  refine f_then_exit ?_
  refine f_exit ?_
  refine end0 Tryz.results83 ?_
  intro w hw
  exact ⟨zs, rfl, st_mask [true] rfl hw⟩
end Go.Proofs
