/-
 A body on its way: at, least, blocked. Printed by a program of my own.
-/
import Derived.Test.YtdkibofhppgbjaaGreatDoorSt3
namespace Go.Proofs
open Go Go.Sl Go.Stp
theorem tf60 : (Tryz.prog.info? 83).bind (·.zero) = some (.agg #[.pointer none, .pointer none]) := by kernel_rfl
theorem tf61 : arB Tryz.prog 83 2 82 1 = true := by kernel_rfl
theorem tf62 : tyB Tryz.prog 83 true 2 = true := by kernel_rfl
theorem tf63 : cfB Tryz.prog 40 = true := by kernel_rfl
theorem tf64 : tyB Tryz.prog 82 false 1 = true := by kernel_rfl
theorem tf65 : fldB Tryz.prog 87 1 4 9 true = true := by kernel_rfl
theorem tf66 : fldB Tryz.prog 87 2 13 1 false = true := by kernel_rfl
theorem tf67 : fldB Tryz.prog 87 3 14 1 false = true := by kernel_rfl
theorem tf68 : cfB Tryz.prog 95 = true := by kernel_rfl
theorem tf69 : cfB Tryz.prog 146 = true := by kernel_rfl
theorem tf70 : tyB Tryz.prog 116 false 1 = true := by kernel_rfl
theorem tf71 : cfB Tryz.prog 147 = true := by kernel_rfl
theorem tf72 : tyB Tryz.prog 87 true 15 = true := by kernel_rfl
theorem tf73 : cfB Tryz.prog 42 = true := by kernel_rfl
theorem tf74 : cfB Tryz.prog 150 = true := by kernel_rfl
theorem tf75 : cfB Tryz.prog 90 = true := by kernel_rfl
theorem axes_ok (β : Base) (w : World) (hw : St β [] w) (b o : Nat) : Calls Tryz.prog 40 #[.pointer (some ⟨b, o, none⟩)] w fun r w' => r = .returned (.agg #[.pointer (some ⟨b, o, none⟩), .pointer (some ⟨b, o + 1, none⟩)]) ∧ St β [] w' := by
 refine enter (n := 10) Tryz.func40 rfl Tryz.ntmps40 rfl ?_ hw
 refine c_seq ?_
 refine c_region ?_
 refine l_mv rfl rfl rfl (m_alloc tf60) ?_
 rintro _ _ ⟨b1, rfl, rfl⟩
 refine l_nil ?_
 refine f_then ?_
 refine c_seq ?_
 refine c_any [⟨[], [], [0], [3], fun f => f 3 = .pointer (some ⟨b, o, none⟩)⟩, ⟨[0], [0], [], [4], fun f => f 4 = .pointer (some ⟨b, o, none⟩)⟩, ⟨[0, 1], [1], [], [5], fun f => f 5 = .pointer (some ⟨b, o, none⟩)⟩, ⟨[], [], [0], [6], fun f => f 6 = .pointer (some ⟨b, o, none⟩)⟩, ⟨[3], [3], [], [7], fun f => f 7 = .pointer (some ⟨b, o, none⟩)⟩, ⟨[3, 4], [4], [], [8], fun f => f 8 = .pointer (some ⟨b, o + 1, none⟩)⟩, ⟨[0, 1, 2, 3, 4, 5], [2, 5], [], [9], fun f => f 9 = .agg #[.pointer (some ⟨b, o, none⟩), .pointer (some ⟨b, o + 1, none⟩)]⟩, ⟨[0, 1, 2, 3, 4, 5, 6], [6], [1], [], fun _ => True⟩] [⟨none, (some 7), [7], [], fun _ => pt b1 (.cells #[.pointer none, .pointer none] 83)⟩, ⟨(some 7), none, [], [], fun _ => pt b1 (.cells #[.pointer (some ⟨b, o, none⟩), .pointer (some ⟨b, o + 1, none⟩)] 83)⟩] [(0, .pointer (some ⟨b, o, none⟩)), (2, .pointer (some ⟨b1, 0, none⟩))] [1] [] (by kernel_rfl) (by kernel_rfl) (by kernel_rfl) (by kernel_rfl) rfl ⟨rfl, rfl, trivial⟩ ⟨?_, ?_, ?_, ?_, ?_, ?_, ?_, ?_, trivial⟩ ?_
 ·rintro f M - ⟨i0, -⟩
  have hs0 : f 0 = .pointer (some ⟨b, o, none⟩) := i0
  refine ob_start (L' := M) (by rfl) (up_cons rfl hs0) ?_
  refine l_val (v := .pointer (some ⟨b, o, none⟩)) rfl rfl rfl (e_move) ?_
  refine l_nil ?_
  exact f_owes_d (up_cons rfl hs0) rfl (List.Perm.refl _)
 ·rintro f M ⟨k0, -⟩ -
  have hs3 : f 3 = .pointer (some ⟨b, o, none⟩) := k0
  refine ob_start (L' := M) (by rfl) (up_cons rfl hs3) ?_
  refine l_val (v := .pointer (some ⟨b, o, none⟩)) rfl rfl rfl (e_nil (a := ⟨b, o, none⟩) rfl) ?_
  refine l_nil ?_
  exact f_owes_d (up_cons rfl hs3) rfl (List.Perm.refl _)
 ·rintro f M ⟨k0, -⟩ -
  have hs4 : f 4 = .pointer (some ⟨b, o, none⟩) := k0
  refine ob_start (L' := M) (by rfl) (up_cons rfl hs4) ?_
  refine l_val (v := .pointer (some ⟨b, o, none⟩)) rfl rfl rfl (e_fieldPt (b := b) (o := o) rfl tf7) ?_
  refine l_nil ?_
  exact f_owes_d (up_cons rfl hs4) rfl (List.Perm.refl _)
 ·rintro f M - ⟨i0, -⟩
  have hs0 : f 0 = .pointer (some ⟨b, o, none⟩) := i0
  refine ob_start (L' := M) (by rfl) (up_cons rfl hs0) ?_
  refine l_val (v := .pointer (some ⟨b, o, none⟩)) rfl rfl rfl (e_move) ?_
  refine l_nil ?_
  exact f_owes_d (up_cons rfl hs0) rfl (List.Perm.refl _)
 ·rintro f M ⟨k0, -⟩ -
  have hs6 : f 6 = .pointer (some ⟨b, o, none⟩) := k0
  refine ob_start (L' := M) (by rfl) (up_cons rfl hs6) ?_
  refine l_val (v := .pointer (some ⟨b, o, none⟩)) rfl rfl rfl (e_nil (a := ⟨b, o, none⟩) rfl) ?_
  refine l_nil ?_
  exact f_owes_d (up_cons rfl hs6) rfl (List.Perm.refl _)
 ·rintro f M ⟨k0, -⟩ -
  have hs7 : f 7 = .pointer (some ⟨b, o, none⟩) := k0
  refine ob_start (L' := M) (by rfl) (up_cons rfl hs7) ?_
  refine l_val (v := .pointer (some ⟨b, o + 1, none⟩)) rfl rfl rfl (e_fieldPt (b := b) (o := o) rfl tf8) ?_
  refine l_nil ?_
  exact f_owes_d (up_cons rfl hs7) rfl (List.Perm.refl _)
 ·rintro f M ⟨k0, k1, -⟩ -
  have hs5 : f 5 = .pointer (some ⟨b, o, none⟩) := k0
  have hs8 : f 8 = .pointer (some ⟨b, o + 1, none⟩) := k1
  refine ob_start (L' := M) (by rfl) (up_cons (up_cons rfl hs5) hs8) ?_
  refine l_val (v := .agg #[.pointer (some ⟨b, o, none⟩), .pointer (some ⟨b, o + 1, none⟩)]) rfl rfl rfl (e_build_a tf60 tf61 (vs := [(0, .pointer (some ⟨b, o, none⟩)), (1, .pointer (some ⟨b, o + 1, none⟩))]) (cells := #[.pointer (some ⟨b, o, none⟩), .pointer (some ⟨b, o + 1, none⟩)]) rfl rfl) ?_
  refine l_nil ?_
  exact f_owes_d (up_cons (up_cons rfl hs5) hs8) rfl (List.Perm.refl _)
 ·rintro f M ⟨k0, -⟩ ⟨i0, -⟩
  have hs2 : f 2 = .pointer (some ⟨b1, 0, none⟩) := i0
  have hs9 : f 9 = .agg #[.pointer (some ⟨b, o, none⟩), .pointer (some ⟨b, o + 1, none⟩)] := k0
  refine ob_start (L' := pt b1 (.cells #[.pointer none, .pointer none] 83) :: M) (by rfl) (up_cons (up_cons rfl hs2) hs9) ?_
  refine l_mu rfl rfl (m_store 0 tf62 (b := b1) (o := 0) (T := 83) (cs := #[.pointer none, .pointer none]) (cs' := #[.pointer (some ⟨b, o, none⟩), .pointer (some ⟨b, o + 1, none⟩)]) (v := .agg #[.pointer (some ⟨b, o, none⟩), .pointer (some ⟨b, o + 1, none⟩)]) rfl rfl rfl rfl rfl rfl rfl) ?_
  refine l_nil ?_
  exact f_owes_n (up_cons (up_cons rfl hs2) hs9) trivial (perm_front 0 rfl)
 rintro fa2 ⟨-, -, -, -, -, -, -, -, -⟩ ⟨j0, -⟩
 refine f_re (L' := [pt b1 (.cells #[.pointer (some ⟨b, o, none⟩), .pointer (some ⟨b, o + 1, none⟩)] 83)]) (by rfl) ?_
 refine f_rebase (d := 2) (v := .pointer (some ⟨b1, 0, none⟩)) j0 ?_
 refine f_then ?_
 refine c_ret ?_
 refine retG (l := [.cell 2 83]) (m := [.agg #[.pointer (some ⟨b, o, none⟩), .pointer (some ⟨b, o + 1, none⟩)]]) (v := .agg #[.pointer (some ⟨b, o, none⟩), .pointer (some ⟨b, o + 1, none⟩)]) Tryz.results40 ⟨rd_cell tf62 (cs := [.pointer (some ⟨b, o, none⟩), .pointer (some ⟨b, o + 1, none⟩)]) rfl (k_pt 0 (cs := #[.pointer (some ⟨b, o, none⟩), .pointer (some ⟨b, o + 1, none⟩)]) (vs := [.pointer (some ⟨b, o, none⟩), .pointer (some ⟨b, o + 1, none⟩)]) rfl rfl) rfl, trivial⟩ rfl ?_
 intro w hw
 exact ⟨rfl, st_mask [false] rfl hw⟩
theorem shifted_ok (β : Base) (w : World) (hw : St β [] w) (b : KB) (y : Bool) (n : Int) (hb : -1099511627776 ≤ co y b ∧ co y b ≤ 1099511627776) (hn : -1099511627776 ≤ n ∧ n ≤ 1099511627776) : Calls Tryz.prog 95 #[.agg (bC b), Nx y.toNat, Ix n] w fun r w' => r = .returned (.agg (bC (sh y b n))) ∧ St β [] w' := by
 refine enter (n := 17) Tryz.func95 rfl Tryz.ntmps95 rfl ?_ hw
 refine c_seq ?_
 refine c_region ?_
 refine l_mv rfl rfl rfl (m_box (v := .agg (bC b)) rfl) ?_
 rintro _ _ ⟨b1, rfl, rfl⟩
 refine l_mv rfl rfl rfl (m_alloc tf58) ?_
 rintro _ _ ⟨b2, rfl, rfl⟩
 refine l_nil ?_
 refine f_then ?_
 refine c_seq ?_
 refine c_region ?_
 refine l_val (v := .pointer (some ⟨b1, 1, none⟩)) rfl rfl rfl (e_fieldPt (b := b1) (o := 0) rfl tf6) ?_
 refine l_call rfl rfl rfl (cl_value (fst := []) (cap := []) (vs := [.pointer (some ⟨b1, 1, none⟩)]) (all := [.pointer (some ⟨b1, 1, none⟩)]) tf63 rfl rfl rfl) ?_
 intro w hw
 obtain ⟨β1, sb, kn, hw1, back⟩ := St.frame_all hw
 refine (axes_ok β1 w hw1 b1 1).mono ?_
 rintro e w' ⟨rfl, hw'⟩
 refine ⟨_, rfl, _, back _ _ hw', ?_⟩
 clear hw hw1 hw' back kn sb
 refine l_val (v := Nx (y.toNat)) rfl rfl rfl (e_move) ?_
 refine l_val (v := .pointer (some ⟨b1, 1 + y.toNat, none⟩)) rfl rfl rfl (ev_eq (by cases y <;> rfl) (e_index_2 (u := .pointer (some ⟨b1, 1, none⟩)) (v := .pointer (some ⟨b1, 2, none⟩)) (y := y) rfl rfl tf61 tf64)) ?_
 refine l_val (v := .pointer (some ⟨b1, 1 + y.toNat, none⟩)) rfl rfl rfl (e_nil (a := ⟨b1, 1 + y.toNat, none⟩) rfl) ?_
 refine l_val (v := Ix (co y b)) rfl rfl rfl (e_load1 tf2 (v := Ix (co y b)) rfl (k_pt 1 (cs := (bC b)) (vs := [Ix (co y b)]) rfl (by cases y <;> rfl))) ?_
 refine l_val (v := Ix (n)) rfl rfl rfl (e_move) ?_
 refine l_val (v := Ix ((co y b) + (n))) rfl rfl rfl (e_add (a := (co y b)) (b := (n)) rfl rfl (i64w (by omega))) ?_
 refine l_val (v := .pointer (some ⟨b1, 1 + y.toNat, none⟩)) rfl rfl rfl (e_nil (a := ⟨b1, 1 + y.toNat, none⟩) rfl) ?_
 refine l_mu rfl rfl (m_store 1 tf2 (b := b1) (o := 1 + y.toNat) (T := 52) (cs := (bC b)) (cs' := (bC (sh y b (n)))) (v := Ix ((co y b) + (n))) rfl rfl rfl rfl (by cases y <;> rfl) rfl (by cases y <;> rfl)) ?_
 refine l_nil ?_
 refine f_then ?_
 refine c_seq ?_
 refine c_region ?_
 refine l_val (v := .agg (bC (sh y b (n)))) rfl rfl rfl (e_load tf22 (cs := (bodyE (sh y b (n)))) rfl (k_pt 1 (cs := (bC (sh y b (n)))) (vs := (bodyE (sh y b (n)))) rfl rfl) rfl) ?_
 refine l_mu rfl rfl (m_store 0 tf22 (b := b2) (o := 0) (T := 52) (cs := #[.int .i64 (0), .int .i64 (0), .int .i64 (0), .int .i64 (0), .int .i64 (0), .int .i64 (0), .int .i64 (0), .bool false, .bool false]) (cs' := (bC (sh y b (n)))) (v := .agg (bC (sh y b (n)))) rfl rfl rfl rfl rfl rfl rfl) ?_
 refine l_nil ?_
 refine f_then ?_
 refine c_ret ?_
 refine retG (l := [.cell 6 52]) (m := [.agg (bC (sh y b (n)))]) (v := .agg (bC (sh y b (n)))) Tryz.results95 ⟨rd_cell tf22 (cs := (bodyE (sh y b (n)))) rfl (k_pt 0 (cs := (bC (sh y b (n)))) (vs := (bodyE (sh y b (n)))) rfl rfl) rfl, trivial⟩ rfl ?_
 intro w hw
 exact ⟨rfl, st_mask [false, false] rfl hw⟩
theorem at_ok (β : Base) (w : World) (hw : St β [] w) (v rv : Value) (gx gy : Int) (b : KB) (y : Bool) (s : Int) (hs : s = 1 ∨ s = -1) (hb : okB b) (n : Int) (hn : -1048576 ≤ n ∧ n ≤ 1048576) : Calls Tryz.prog 42 #[.agg (mC v rv gx gy b y s), Ix n] w fun r w' => r = .returned (.agg (bC (sh y b (s * n)))) ∧ St β [] w' := by
 have hsn := sgn_mul hs hn
 have hco := hb.co y
 refine enter (n := 14) Tryz.func42 rfl Tryz.ntmps42 rfl ?_ hw
 refine c_seq ?_
 refine c_region ?_
 refine l_mv rfl rfl rfl (m_box (v := .agg (mC v rv gx gy b y s)) rfl) ?_
 rintro _ _ ⟨b1, rfl, rfl⟩
 refine l_mv rfl rfl rfl (m_alloc tf58) ?_
 rintro _ _ ⟨b2, rfl, rfl⟩
 refine l_nil ?_
 refine f_then ?_
 refine c_seq ?_
 refine c_region ?_
 refine l_val (v := .pointer (some ⟨b1, 4, none⟩)) rfl rfl rfl (e_fieldPt (b := b1) (o := 0) rfl tf65) ?_
 refine l_val (v := .agg (bC b)) rfl rfl rfl (e_load tf22 (cs := (bodyE b)) rfl (k_pt 1 (cs := (mC v rv gx gy b y s)) (vs := (bodyE b)) rfl rfl) rfl) ?_
 refine l_val (v := .pointer (some ⟨b1, 13, none⟩)) rfl rfl rfl (e_fieldPt (b := b1) (o := 0) rfl tf66) ?_
 refine l_val (v := Nx (y.toNat)) rfl rfl rfl (e_load1 tf2 (v := Nx (y.toNat)) rfl (k_pt 1 (cs := (mC v rv gx gy b y s)) (vs := [Nx (y.toNat)]) rfl rfl)) ?_
 refine l_val (v := .pointer (some ⟨b1, 14, none⟩)) rfl rfl rfl (e_fieldPt (b := b1) (o := 0) rfl tf67) ?_
 refine l_val (v := Ix (s)) rfl rfl rfl (e_load1 tf2 (v := Ix (s)) rfl (k_pt 1 (cs := (mC v rv gx gy b y s)) (vs := [Ix (s)]) rfl rfl)) ?_
 refine l_val (v := Ix (n)) rfl rfl rfl (e_move) ?_
 refine l_val (v := Ix ((s) * (n))) rfl rfl rfl (e_mul (a := (s)) (b := (n)) rfl rfl (i64w (by omega))) ?_
 refine l_call rfl rfl rfl (cl_value (fst := []) (cap := []) (vs := [.agg (bC b), Nx (y.toNat), Ix ((s) * (n))]) (all := [.agg (bC b), Nx (y.toNat), Ix ((s) * (n))]) tf68 rfl rfl rfl) ?_
 intro w hw
 obtain ⟨β1, sb, kn, hw1, back⟩ := St.frame_all hw
 refine (shifted_ok β1 w hw1 b y ((s) * (n)) (by omega) (by omega)).mono ?_
 rintro e w' ⟨rfl, hw'⟩
 refine ⟨_, rfl, _, back _ _ hw', ?_⟩
 clear hw hw1 hw' back kn sb
 refine l_mu rfl rfl (m_store 0 tf22 (b := b2) (o := 0) (T := 52) (cs := #[.int .i64 (0), .int .i64 (0), .int .i64 (0), .int .i64 (0), .int .i64 (0), .int .i64 (0), .int .i64 (0), .bool false, .bool false]) (cs' := (bC (sh y b ((s) * (n))))) (v := .agg (bC (sh y b ((s) * (n))))) rfl rfl rfl rfl rfl rfl rfl) ?_
 refine l_nil ?_
 refine f_then ?_
 refine c_ret ?_
 refine retG (l := [.cell 4 52]) (m := [.agg (bC (sh y b ((s) * (n))))]) (v := .agg (bC (sh y b ((s) * (n))))) Tryz.results42 ⟨rd_cell tf22 (cs := (bodyE (sh y b ((s) * (n))))) rfl (k_pt 0 (cs := (bC (sh y b ((s) * (n))))) (vs := (bodyE (sh y b ((s) * (n))))) rfl rfl) rfl, trivial⟩ rfl ?_
 intro w hw
 exact ⟨rfl, st_mask [false, false] rfl hw⟩
theorem sq_ok (β : Base) (w : World) (hw : St β [] w) (x : Int) (hx : 0 ≤ x * x ∧ x * x ≤ 1152921504606846976) : Calls Tryz.prog 146 #[Ix x] w fun r w' => r = .returned (Ix (x * x)) ∧ St β [] w' := by
 refine enter (n := 6) Tryz.func146 rfl Tryz.ntmps146 rfl ?_ hw
 refine c_seq ?_
 refine c_region ?_
 refine l_val (v := .int .i64 (0)) rfl rfl rfl (e_assign) ?_
 refine l_nil ?_
 refine f_then ?_
 refine c_seq ?_
 refine c_region ?_
 refine l_val (v := Ix (x)) rfl rfl rfl (e_move) ?_
 refine l_val (v := Ix (x)) rfl rfl rfl (e_move) ?_
 refine l_val (v := Ix ((x) * (x))) rfl rfl rfl (e_mul (a := (x)) (b := (x)) rfl rfl (i64w (by omega))) ?_
 refine l_val (v := Ix ((x) * (x))) rfl rfl rfl (e_assign) ?_
 refine l_nil ?_
 refine f_then ?_
 refine c_ret ?_
 refine ret1 Tryz.results146 (v := Ix ((x) * (x))) rfl ?_
 intro w hw
 exact ⟨rfl, st_mask [] rfl hw⟩
theorem dist_ok (β : Base) (w : World) (hw : St β [] w) (a b : KB) (ha : midB a) (hb : midB b) : Calls Tryz.prog 92 #[.agg (bC a), .agg (bC b)] w fun r w' => r = .returned (Ix (dist a b)) ∧ St β [] w' := by
 obtain ⟨a1, a2⟩ := ha
 obtain ⟨b1, b2⟩ := hb
 have q1 := sq_bd (x := a.x - b.x) (B := 4194304) (by omega) (by omega)
 have q2 := sq_bd (x := a.y - b.y) (B := 4194304) (by omega) (by omega)
 refine enter (n := 22) Tryz.func92 rfl Tryz.ntmps92 rfl ?_ hw
 refine c_seq ?_
 refine c_region ?_
 refine l_mv rfl rfl rfl (m_box (v := .agg (bC a)) rfl) ?_
 rintro _ _ ⟨b1, rfl, rfl⟩
 refine l_mv rfl rfl rfl (m_box (v := .agg (bC b)) rfl) ?_
 rintro _ _ ⟨b2, rfl, rfl⟩
 refine l_val (v := .int .i64 (0)) rfl rfl rfl (e_assign) ?_
 refine l_nil ?_
 refine f_then ?_
 refine c_seq ?_
 refine c_quiet (by kernel_rfl) (by kernel_rfl) ?_
 refine q_val (v := .pointer (some ⟨b1, 1, none⟩)) rfl rfl rfl (e_fieldPt (b := b1) (o := 0) rfl tf6) ?_
 refine q_val (v := .pointer (some ⟨b1, 1, none⟩)) rfl rfl rfl (e_fieldPt (b := b1) (o := 1) rfl tf7) ?_
 refine q_val (v := Ix (a.x)) rfl rfl rfl (e_load1 tf2 (v := Ix (a.x)) rfl (k_pt 1 (cs := (bC a)) (vs := [Ix (a.x)]) rfl rfl)) ?_
 refine q_val (v := .pointer (some ⟨b2, 1, none⟩)) rfl rfl rfl (e_fieldPt (b := b2) (o := 0) rfl tf6) ?_
 refine q_val (v := .pointer (some ⟨b2, 1, none⟩)) rfl rfl rfl (e_fieldPt (b := b2) (o := 1) rfl tf7) ?_
 refine q_val (v := Ix (b.x)) rfl rfl rfl (e_load1 tf2 (v := Ix (b.x)) rfl (k_pt 0 (cs := (bC b)) (vs := [Ix (b.x)]) rfl rfl)) ?_
 refine q_val (v := Ix ((a.x) - (b.x))) rfl rfl rfl (e_sub (a := (a.x)) (b := (b.x)) rfl rfl (i64w (by omega))) ?_
 refine q_call (v := Ix (((a.x) - (b.x)) * ((a.x) - (b.x)))) rfl rfl rfl (cl_value (fst := []) (cap := []) (vs := [Ix ((a.x) - (b.x))]) (all := [Ix ((a.x) - (b.x))]) tf69 rfl rfl rfl) (fun w hw => ?_) ?_
 ·obtain ⟨β1, sb, kn, hw1, back⟩ := St.frame_all hw
  exact (sq_ok β1 w hw1 ((a.x) - (b.x)) (by omega)).mono (fun e w' ⟨he, hw'⟩ => ⟨he, st_mask [true, true] rfl (back _ _ hw')⟩)
 refine q_val (v := .pointer (some ⟨b1, 1, none⟩)) rfl rfl rfl (e_fieldPt (b := b1) (o := 0) rfl tf6) ?_
 refine q_val (v := .pointer (some ⟨b1, 2, none⟩)) rfl rfl rfl (e_fieldPt (b := b1) (o := 1) rfl tf8) ?_
 refine q_val (v := Ix (a.y)) rfl rfl rfl (e_load1 tf2 (v := Ix (a.y)) rfl (k_pt 1 (cs := (bC a)) (vs := [Ix (a.y)]) rfl rfl)) ?_
 refine q_val (v := .pointer (some ⟨b2, 1, none⟩)) rfl rfl rfl (e_fieldPt (b := b2) (o := 0) rfl tf6) ?_
 refine q_val (v := .pointer (some ⟨b2, 2, none⟩)) rfl rfl rfl (e_fieldPt (b := b2) (o := 1) rfl tf8) ?_
 refine q_val (v := Ix (b.y)) rfl rfl rfl (e_load1 tf2 (v := Ix (b.y)) rfl (k_pt 0 (cs := (bC b)) (vs := [Ix (b.y)]) rfl rfl)) ?_
 refine q_val (v := Ix ((a.y) - (b.y))) rfl rfl rfl (e_sub (a := (a.y)) (b := (b.y)) rfl rfl (i64w (by omega))) ?_
 refine q_call (v := Ix (((a.y) - (b.y)) * ((a.y) - (b.y)))) rfl rfl rfl (cl_value (fst := []) (cap := []) (vs := [Ix ((a.y) - (b.y))]) (all := [Ix ((a.y) - (b.y))]) tf69 rfl rfl rfl) (fun w hw => ?_) ?_
 ·obtain ⟨β1, sb, kn, hw1, back⟩ := St.frame_all hw
  exact (sq_ok β1 w hw1 ((a.y) - (b.y)) (by omega)).mono (fun e w' ⟨he, hw'⟩ => ⟨he, st_mask [true, true] rfl (back _ _ hw')⟩)
 refine q_val (v := Ix ((((a.x) - (b.x)) * ((a.x) - (b.x))) + (((a.y) - (b.y)) * ((a.y) - (b.y))))) rfl rfl rfl (e_add (a := (((a.x) - (b.x)) * ((a.x) - (b.x)))) (b := (((a.y) - (b.y)) * ((a.y) - (b.y)))) rfl rfl (i64w (by omega))) ?_
 refine q_val (v := Ix ((((a.x) - (b.x)) * ((a.x) - (b.x))) + (((a.y) - (b.y)) * ((a.y) - (b.y))))) rfl rfl rfl (e_assign) ?_
 refine q_nil ?_
 refine f_then ?_
 refine c_ret ?_
 refine ret1 Tryz.results92 (v := Ix ((((a.x) - (b.x)) * ((a.x) - (b.x))) + (((a.y) - (b.y)) * ((a.y) - (b.y))))) rfl ?_
 intro w hw
 exact ⟨rfl, st_mask [false, false] rfl hw⟩
set_option maxHeartbeats 4000000 in
theorem search_ok (β : Base) (w : World) (hw : St β [] w) (fn : Value) (n : Nat) (hn : n ≤ 1048576) (p : Nat → Bool) (hm : ∀ i j, i ≤ j → j < n → p i = true → p j = true) (hfn : FnV Tryz.prog β fn (fun z : Nat => [Nx z]) (· < n) (fun z => .bool (p z))) : Calls Tryz.prog 147 #[Nx n, fn] w fun r w' => r = .returned (Nx (searchN p n 0)) ∧ St β [] w' := by
 obtain ⟨gg, fst, cap, rfl, hcf, hf⟩ := hfn
 refine enter (n := 26) Tryz.func147 rfl Tryz.ntmps147 rfl ?_ hw
 refine c_seq ?_
 refine c_region ?_
 refine l_val (v := .int .i64 (0)) rfl rfl rfl (e_assign) ?_
 refine l_nil ?_
 refine f_then ?_
 refine c_seq ?_
 refine c_region ?_
 refine l_val (v := Nx (n)) rfl rfl rfl (e_move) ?_
 refine l_val (v := .int .i64 (0)) rfl rfl rfl (e_assign) ?_
 refine l_val (v := Nx (n)) rfl rfl rfl (e_assign) ?_
 refine l_nil ?_
 refine f_then ?_
 refine c_seq ?_
 refine c_block ?_
 refine c_loop (fun (x_ : Nat × Nat) (f : Fm) (L : List Res) => match x_ with | (i, j) => (f 1 = .func (.func gg) fst.toArray cap.toArray ∧ f 5 = Nx (i) ∧ f 6 = Nx (j)) ∧ L = [] ∧ (i ≤ j ∧ j ≤ n ∧ (∀ t, t < i → p t = false) ∧ (j < n → p j = true))) (fun (x_ : Nat × Nat) => match x_ with | (i, j) => j - i) (0, n) ?_ ?_
 ·exact ⟨⟨rfl, rfl, rfl⟩, rfl, ⟨by omega, by omega, fun t ht => by omega, fun h => by omega⟩⟩
 rintro ⟨i, j⟩ f0 L0 ⟨⟨hs1, hs5, hs6⟩, hL, ⟨h1, h2, hp1, hp2⟩⟩
 subst L0
 refine rebase (d := 1) hs1 ?_
 refine rebase (d := 5) hs5 ?_
 refine rebase (d := 6) hs6 ?_
 clear hs1 hs5 hs6
 obtain ⟨h, hh⟩ : ∃ h, h = (U (((i + j : Nat)) : Int) >>> (1 : UInt64)).toNat := ⟨_, rfl⟩
 have hh2 := half_toNat (m := i + j) (by omega)
 refine c_seq ?_
 refine c_seq ?_
 refine c_region ?_
 refine l_val (v := Nx (i)) rfl rfl rfl (e_move) ?_
 refine l_val (v := Nx (j)) rfl rfl rfl (e_move) ?_
 refine l_val (v := .bool (decide (((i : Nat) : Int) < ((j : Nat) : Int)))) rfl rfl rfl (e_lss (a := ((i : Nat) : Int)) (b := ((j : Nat) : Int)) rfl rfl) ?_
 refine l_nil ?_
 refine f_then ?_
 refine c_if (((i : Nat) : Int) < ((j : Nat) : Int)) rfl (fun hc1 => ?_) (fun hc1 => ?_)
 ·
  refine c_skip ?_
  refine f_then ?_
  refine c_block ?_
  refine c_seq ?_
  refine c_region ?_
  refine l_val (v := Nx (i)) rfl rfl rfl (e_move) ?_
  refine l_val (v := Nx (j)) rfl rfl rfl (e_move) ?_
  refine l_val (v := Nx (i + j)) rfl rfl rfl (e_add (a := ((i : Nat) : Int)) (b := ((j : Nat) : Int)) rfl rfl (i64n (by omega) (by omega))) ?_
  refine l_val (v := Ux (U ((i + j : Nat) : Int))) rfl rfl rfl (e_conv (a := ((i + j : Nat) : Int)) rfl ⟨_, tf41⟩ tf42 (ux_of _)) ?_
  refine l_val (v := Ux ((U ((i + j : Nat) : Int)) >>> (1 : UInt64))) rfl rfl rfl (e_shr (a := ((U ((i + j : Nat) : Int)).toNat : Int)) (b := ((1 : Nat) : Int)) rfl rfl (by decide) (ux_shr _ 1 (by decide))) ?_
  refine l_val (v := Nx (h)) rfl rfl rfl (e_conv (a := (((U ((i + j : Nat) : Int)) >>> (1 : UInt64)).toNat : Int)) rfl ⟨_, tf42⟩ tf41 (i64n (by rw [hh]) (by omega))) ?_
  refine l_val (v := Nx (h)) rfl rfl rfl (e_assign) ?_
  refine l_nil ?_
  refine f_then ?_
  refine c_seq ?_
  refine c_region ?_
  refine l_val (v := .func (.func gg) fst.toArray cap.toArray) rfl rfl rfl (e_move) ?_
  refine l_val (v := Nx (h)) rfl rfl rfl (e_move) ?_
  refine l_call rfl rfl rfl (cl_value (fst := fst) (cap := cap) (vs := [Nx (h)]) (all := fst ++ [Nx (h)] ++ cap) hcf rfl rfl rfl) ?_
  intro w hw
  obtain ⟨β1, sb, kn, hw1, back⟩ := St.frame_all hw
  refine (hf β1 sb h (by omega) w hw1).mono ?_
  rintro e w' ⟨rfl, hw'⟩
  refine ⟨_, rfl, _, back _ _ hw', ?_⟩
  clear hw hw1 hw' back kn sb
  refine l_val (v := .bool (!(p h))) rfl rfl rfl (e_not rfl) ?_
  refine l_nil ?_
  refine f_then ?_
  refine c_ifb (!(p h)) rfl (fun hc2 => ?_) (fun hc2 => ?_)
  ·
   refine c_region ?_
   refine l_val (v := Nx (h)) rfl rfl rfl (e_move) ?_
   refine l_val (v := Nx (h + 1)) rfl rfl rfl (e_add (a := ((h : Nat) : Int)) (b := (1 : Int)) rfl rfl (i64n (by omega) (by omega))) ?_
   refine l_val (v := Nx (h + 1)) rfl rfl rfl (e_assign) ?_
   refine l_nil ?_
   refine f_block ?_
   exact f_cut ⟨(h + 1, j), ⟨⟨rfl, rfl, rfl⟩, rfl, ⟨by omega, by omega, fun t ht => by cases hq : p t with | false => rfl | true => exact absurd (hm t h (by omega) (by omega) hq) (by have q := hc2; simp_all), hp2⟩⟩, (show j - (h + 1) < j - i from by omega)⟩
  ·
   refine c_region ?_
   refine l_val (v := Nx (h)) rfl rfl rfl (e_move) ?_
   refine l_val (v := Nx (h)) rfl rfl rfl (e_assign) ?_
   refine l_nil ?_
   refine f_block ?_
   exact f_cut ⟨(i, h), ⟨⟨rfl, rfl, rfl⟩, rfl, ⟨by omega, by omega, hp1, fun _ => by have q := hc2; simp_all⟩⟩, (show h - i < j - i from by omega)⟩
 ·
  refine c_exit ?_
  refine f_then_exit ?_
  refine f_then_exit ?_
  refine f_exit ?_
  refine f_then ?_
  refine c_seq ?_
  refine c_region ?_
  refine l_val (v := Nx (i)) rfl rfl rfl (e_move) ?_
  refine l_val (v := Nx (i)) rfl rfl rfl (e_assign) ?_
  refine l_nil ?_
  refine f_then ?_
  refine c_ret ?_
  refine ret1 Tryz.results147 (v := Nx (i)) rfl ?_
  intro w hw
  exact ⟨congrArg (fun z : Nat => Ending.returned (Nx z)) (searchN_eq (n := n) (i := 0) (by omega) (by omega) (fun t _ ht => hp1 t ht) (fun ht => by rw [show i = j by omega]; exact hp2 (by omega))).symm, st_mask [] rfl hw⟩
theorem least1_fn (β : Base) (c : Nat) (fn : Value) (n : Nat) (hn : n ≤ 1048576) (q : Nat → Bool) (hfn : FnV Tryz.prog β fn (fun z : Nat => [Nx z]) (fun z => 1 ≤ z ∧ z ≤ n) (fun z => .bool (q z))) (hc : Cs β.heap ⟨c, 0, none⟩ [fn]) : FnV Tryz.prog β (.func (.func 148) #[] #[.pointer (some ⟨c, 0, none⟩)]) (fun z : Nat => [Nx z]) (· < n) (fun z => .bool (q (z + 1))) := by
 refine ⟨148, [], [.pointer (some (⟨c, 0, none⟩))], rfl, by kernel_rfl, fun β₁ sb0 z_ hz_ w hw => ?_⟩
 have hc1 := Cs.mono _ _ _ _ sb0 hc
 obtain ⟨gg, fst, cap, rfl, hcf, hf⟩ := hfn.mono sb0
 obtain ⟨i, hi⟩ : ∃ i, i = z_ := ⟨_, rfl⟩
 subst hi
 refine enter (n := 8) Tryz.func148 rfl Tryz.ntmps148 rfl ?_ hw
 refine c_seq ?_
 refine c_region ?_
 refine l_val (v := .bool false) rfl rfl rfl (e_assign) ?_
 refine l_nil ?_
 refine f_then ?_
 refine c_seq ?_
 refine c_region ?_
 refine l_val (v := .func (.func gg) fst.toArray cap.toArray) rfl rfl rfl (e_load1 tf70 (v := .func (.func gg) fst.toArray cap.toArray) rfl (Knows.of_base (Cs.mono _ _) hc1)) ?_
 refine l_val (v := Nx (i)) rfl rfl rfl (e_move) ?_
 refine l_val (v := Nx (i + 1)) rfl rfl rfl (e_add (a := ((i : Nat) : Int)) (b := (1 : Int)) rfl rfl (i64n (by omega) (by omega))) ?_
 refine l_call rfl rfl rfl (cl_value (fst := fst) (cap := cap) (vs := [Nx (i + 1)]) (all := fst ++ [Nx (i + 1)] ++ cap) hcf rfl rfl rfl) ?_
 intro w hw
 obtain ⟨β1, sb, kn, hw1, back⟩ := St.frame_all hw
 refine (hf β1 sb (i + 1) (show 1 ≤ _ ∧ _ ≤ n by omega) w hw1).mono ?_
 rintro e w' ⟨rfl, hw'⟩
 refine ⟨_, rfl, _, back _ _ hw', ?_⟩
 clear hw hw1 hw' back kn sb
 refine l_val (v := .bool (q (i + 1))) rfl rfl rfl (e_assign) ?_
 refine l_nil ?_
 refine f_then ?_
 refine c_ret ?_
 refine ret1 Tryz.results148 (v := .bool (q (i + 1))) rfl ?_
 intro w hw
 exact ⟨rfl, st_mask [] rfl hw⟩
theorem least_ok (β : Base) (w : World) (hw : St β [] w) (fn : Value) (n : Nat) (hn : n ≤ 1048576) (q : Nat → Bool) (hm : ∀ i j, 1 ≤ i → i ≤ j → j ≤ n → q i = true → q j = true) (hfn : FnV Tryz.prog β fn (fun z : Nat => [Nx z]) (fun z => 1 ≤ z ∧ z ≤ n) (fun z => .bool (q z))) : Calls Tryz.prog 90 #[Nx n, fn] w fun r w' => r = .returned (Nx (leastN n q)) ∧ St β [] w' := by
 have hfn0 := hfn
 obtain ⟨gg, fst, cap, rfl, hcf, hf⟩ := hfn
 have hsb := (searchN_spec (p := fun z => q (z + 1)) n 0).2.1
 refine enter (n := 9) Tryz.func90 rfl Tryz.ntmps90 rfl ?_ hw
 refine c_seq ?_
 refine c_region ?_
 refine l_mv rfl rfl rfl (m_box (v := .func (.func gg) fst.toArray cap.toArray) rfl) ?_
 rintro _ _ ⟨b1, rfl, rfl⟩
 refine l_val (v := .int .i64 (0)) rfl rfl rfl (e_assign) ?_
 refine l_nil ?_
 refine f_then ?_
 refine c_seq ?_
 refine c_region ?_
 refine l_val (v := Nx (n)) rfl rfl rfl (e_move) ?_
 refine l_val (v := .func (.func 148) #[] #[.pointer (some ⟨b1, 0, none⟩)]) rfl rfl rfl (e_func (u := []) (v := [.pointer (some ⟨b1, 0, none⟩)]) rfl rfl) ?_
 refine l_call rfl rfl rfl (cl_value (fst := []) (cap := []) (vs := [Nx (n), .func (.func 148) #[] #[.pointer (some ⟨b1, 0, none⟩)]]) (all := [Nx (n), .func (.func 148) #[] #[.pointer (some ⟨b1, 0, none⟩)]]) tf71 rfl rfl rfl) ?_
 intro w hw
 obtain ⟨β1, sb, kn, hw1, back⟩ := St.frame_all hw
 refine (search_ok β1 w hw1 _ n hn (fun z => q (z + 1)) (fun i j h1 h2 => hm (i + 1) (j + 1) (by omega) (by omega) (by omega)) (least1_fn β1 b1 _ n hn q (hfn0.mono sb) (kn _ (k_pt 0 (o := 0) (cs := #[.func (.func gg) fst.toArray cap.toArray]) (vs := [.func (.func gg) fst.toArray cap.toArray]) rfl rfl)))).mono ?_
 rintro e w' ⟨rfl, hw'⟩
 refine ⟨_, rfl, _, back _ _ hw', ?_⟩
 clear hw hw1 hw' back kn sb
 refine l_val (v := Nx (1 + (searchN (fun z => q (z + 1)) n 0))) rfl rfl rfl (e_add (a := (1 : Int)) (b := ((searchN (fun z => q (z + 1)) n 0 : Nat) : Int)) rfl rfl (i64n (by omega) (by omega))) ?_
 refine l_val (v := Nx (1 + (searchN (fun z => q (z + 1)) n 0))) rfl rfl rfl (e_assign) ?_
 refine l_nil ?_
 refine f_then ?_
 refine c_ret ?_
 refine ret1 Tryz.results90 (v := Nx (1 + (searchN (fun z => q (z + 1)) n 0))) rfl ?_
 intro w hw
 exact ⟨rfl, st_mask [false] rfl hw⟩
theorem blocked1_fn (β : Base) (hG : GR β) (c e : Nat) (v rv : Value) (gx gy : Int) (b : KB) (y : Bool) (s : Int) (hs : s = 1 ∨ s = -1) (hb : okB b) (o : KB) (n : Nat) (hn : n ≤ 1048576) (hc : Cs β.heap ⟨c, 0, none⟩ (mC v rv gx gy b y s).toList) (he : Cs β.heap ⟨e, 0, none⟩ (bodyE o)) : FnV Tryz.prog β (.func (.func 151) #[] #[.pointer (some ⟨c, 0, none⟩), .pointer (some ⟨e, 0, none⟩)]) (fun z : Nat => [Nx z]) (fun z => 1 ≤ z ∧ z ≤ n) (fun z => .bool (decide (Stp.over (sh y b (s * z)) o))) := by
 refine ⟨151, [], [.pointer (some ⟨c, 0, none⟩), .pointer (some ⟨e, 0, none⟩)], rfl, by kernel_rfl, fun β₁ sb0 z_ hz_ w hw => ?_⟩
 have hc1 := Cs.mono _ _ _ _ sb0 hc
 have he1 := Cs.mono _ _ _ _ sb0 he
 have hG := GR.mono sb0 hG
 obtain ⟨i, hi⟩ : ∃ i, i = z_ := ⟨_, rfl⟩
 subst hi
 refine enter (n := 10) Tryz.func151 rfl Tryz.ntmps151 rfl ?_ hw
 refine c_seq ?_
 refine c_region ?_
 refine l_val (v := .bool false) rfl rfl rfl (e_assign) ?_
 refine l_nil ?_
 refine f_then ?_
 refine c_seq ?_
 refine c_quiet (by kernel_rfl) (by kernel_rfl) ?_
 refine q_val (v := .agg (mC v rv gx gy b y s)) rfl rfl rfl (e_load tf72 (cs := (mC v rv gx gy b y s).toList) rfl (Knows.of_base (Cs.mono _ _) hc1) rfl) ?_
 refine q_val (v := Nx (i)) rfl rfl rfl (e_move) ?_
 refine q_call (v := .agg #[Ix ((sh y b (s * ((i : Nat) : Int))).id), Ix ((sh y b (s * ((i : Nat) : Int))).x), Ix ((sh y b (s * ((i : Nat) : Int))).y), Ix ((sh y b (s * ((i : Nat) : Int))).vx), Ix ((sh y b (s * ((i : Nat) : Int))).vy), Ix ((sh y b (s * ((i : Nat) : Int))).w), Ix ((sh y b (s * ((i : Nat) : Int))).h), .bool ((sh y b (s * ((i : Nat) : Int))).round), .bool ((sh y b (s * ((i : Nat) : Int))).fixed)]) rfl rfl rfl (cl_value (fst := []) (cap := []) (vs := [.agg (mC v rv gx gy b y s), Nx (i)]) (all := [.agg (mC v rv gx gy b y s), Nx (i)]) tf73 rfl rfl rfl) (fun w hw => ?_) ?_
 ·obtain ⟨β1, sb, kn, hw1, back⟩ := St.frame_all hw
  exact (at_ok β1 w hw1 _ _ _ _ b y s hs hb ((i : Nat) : Int) (by omega)).mono (fun e w' ⟨he, hw'⟩ => ⟨he, st_mask [] rfl (back _ _ hw')⟩)
 refine q_val (v := .agg (bC o)) rfl rfl rfl (e_load tf22 (cs := (bodyE o)) rfl (Knows.of_base (Cs.mono _ _) he1) rfl) ?_
 refine q_call (v := .bool (decide (Stp.over (sh y b (s * ((i : Nat) : Int))) o))) rfl rfl rfl (cl_value (fst := []) (cap := []) (vs := [.agg #[Ix ((sh y b (s * ((i : Nat) : Int))).id), Ix ((sh y b (s * ((i : Nat) : Int))).x), Ix ((sh y b (s * ((i : Nat) : Int))).y), Ix ((sh y b (s * ((i : Nat) : Int))).vx), Ix ((sh y b (s * ((i : Nat) : Int))).vy), Ix ((sh y b (s * ((i : Nat) : Int))).w), Ix ((sh y b (s * ((i : Nat) : Int))).h), .bool ((sh y b (s * ((i : Nat) : Int))).round), .bool ((sh y b (s * ((i : Nat) : Int))).fixed)], .agg (bC o)]) (all := [.agg #[Ix ((sh y b (s * ((i : Nat) : Int))).id), Ix ((sh y b (s * ((i : Nat) : Int))).x), Ix ((sh y b (s * ((i : Nat) : Int))).y), Ix ((sh y b (s * ((i : Nat) : Int))).vx), Ix ((sh y b (s * ((i : Nat) : Int))).vy), Ix ((sh y b (s * ((i : Nat) : Int))).w), Ix ((sh y b (s * ((i : Nat) : Int))).h), .bool ((sh y b (s * ((i : Nat) : Int))).round), .bool ((sh y b (s * ((i : Nat) : Int))).fixed)], .agg (bC o)]) tf74 rfl rfl rfl) (fun w hw => ?_) ?_
 ·obtain ⟨β1, sb, kn, hw1, back⟩ := St.frame_all hw
  have hG1 := GR.mono sb hG
  exact (over_ok β1 w hw1 hG1 (sh y b (s * ((i : Nat) : Int))) o).mono (fun e w' ⟨he, hw'⟩ => ⟨he, st_mask [] rfl (back _ _ hw')⟩)
 refine q_val (v := .bool (decide (Stp.over (sh y b (s * ((i : Nat) : Int))) o))) rfl rfl rfl (e_assign) ?_
 refine q_nil ?_
 refine f_then ?_
 refine c_ret ?_
 refine ret1 Tryz.results151 (v := .bool (decide (Stp.over (sh y b (s * ((i : Nat) : Int))) o))) rfl ?_
 intro w hw
 exact ⟨rfl, st_mask [] rfl hw⟩
set_option maxHeartbeats 4000000 in
theorem blocked_ok (β : Base) (w : World) (hw : St β [] w) (hG : GR β) (v rv : Value) (gx gy : Int) (b : KB) (y : Bool) (s : Int) (hs : s = 1 ∨ s = -1) (hb : okB b) (o : KB) (ho : okB o) (hno : ¬ Stp.over b o) (most : Nat) (hmo : most ≤ 1048576) : Calls Tryz.prog 94 #[.agg (mC v rv gx gy b y s), .agg (bC o), Nx most] w fun r w' => r = .returned (Nx (blockN y b s most o)) ∧ St β [] w' := by
 have hco := hb.co y
 have hcp := ho.co y
 have hsn := sgn_mul (B := 2097152) (n := co y o - co y b) hs (by omega)
 have hsn2 := fun n : Nat => (leastN_least n (fun z => decide (Stp.over (sh y b (s * z)) o))).2.1
 refine enter (n := 45) Tryz.func94 rfl Tryz.ntmps94 rfl ?_ hw
 refine c_seq ?_
 refine c_region ?_
 refine l_mv rfl rfl rfl (m_box (v := .agg (mC v rv gx gy b y s)) rfl) ?_
 rintro _ _ ⟨b1, rfl, rfl⟩
 refine l_mv rfl rfl rfl (m_box (v := .agg (bC o)) rfl) ?_
 rintro _ _ ⟨b2, rfl, rfl⟩
 refine l_val (v := .int .i64 (0)) rfl rfl rfl (e_assign) ?_
 refine l_nil ?_
 refine f_then ?_
 refine c_seq ?_
 refine c_quiet (by kernel_rfl) (by kernel_rfl) ?_
 refine q_val (v := .pointer (some ⟨b1, 14, none⟩)) rfl rfl rfl (e_fieldPt (b := b1) (o := 0) rfl tf67) ?_
 refine q_val (v := Ix (s)) rfl rfl rfl (e_load1 tf2 (v := Ix (s)) rfl (k_pt 1 (cs := (mC v rv gx gy b y s)) (vs := [Ix (s)]) rfl rfl)) ?_
 refine q_val (v := .pointer (some ⟨b2, 1, none⟩)) rfl rfl rfl (e_fieldPt (b := b2) (o := 0) rfl tf6) ?_
 refine q_call (v := .agg #[.pointer (some ⟨b2, 1, none⟩), .pointer (some ⟨b2, 2, none⟩)]) rfl rfl rfl (cl_value (fst := []) (cap := []) (vs := [.pointer (some ⟨b2, 1, none⟩)]) (all := [.pointer (some ⟨b2, 1, none⟩)]) tf63 rfl rfl rfl) (fun w hw => ?_) ?_
 ·obtain ⟨β1, sb, kn, hw1, back⟩ := St.frame_all hw
  exact (axes_ok β1 w hw1 b2 1).mono (fun e w' ⟨he, hw'⟩ => ⟨he, st_mask [true, true] rfl (back _ _ hw')⟩)
 refine q_val (v := .pointer (some ⟨b1, 13, none⟩)) rfl rfl rfl (e_fieldPt (b := b1) (o := 0) rfl tf66) ?_
 refine q_val (v := Nx (y.toNat)) rfl rfl rfl (e_load1 tf2 (v := Nx (y.toNat)) rfl (k_pt 1 (cs := (mC v rv gx gy b y s)) (vs := [Nx (y.toNat)]) rfl rfl)) ?_
 refine q_val (v := .pointer (some ⟨b2, 1 + y.toNat, none⟩)) rfl rfl rfl (ev_eq (by cases y <;> rfl) (e_index_2 (u := .pointer (some ⟨b2, 1, none⟩)) (v := .pointer (some ⟨b2, 2, none⟩)) (y := y) rfl rfl tf61 tf64)) ?_
 refine q_val (v := .pointer (some ⟨b2, 1 + y.toNat, none⟩)) rfl rfl rfl (e_nil (a := ⟨b2, 1 + y.toNat, none⟩) rfl) ?_
 refine q_val (v := Ix (co y o)) rfl rfl rfl (e_load1 tf2 (v := Ix (co y o)) rfl (k_pt 0 (cs := (bC o)) (vs := [Ix (co y o)]) rfl (by cases y <;> rfl))) ?_
 refine q_val (v := .pointer (some ⟨b1, 4, none⟩)) rfl rfl rfl (e_fieldPt (b := b1) (o := 0) rfl tf65) ?_
 refine q_val (v := .pointer (some ⟨b1, 5, none⟩)) rfl rfl rfl (e_fieldPt (b := b1) (o := 4) rfl tf6) ?_
 refine q_call (v := .agg #[.pointer (some ⟨b1, 5, none⟩), .pointer (some ⟨b1, 6, none⟩)]) rfl rfl rfl (cl_value (fst := []) (cap := []) (vs := [.pointer (some ⟨b1, 5, none⟩)]) (all := [.pointer (some ⟨b1, 5, none⟩)]) tf63 rfl rfl rfl) (fun w hw => ?_) ?_
 ·obtain ⟨β1, sb, kn, hw1, back⟩ := St.frame_all hw
  exact (axes_ok β1 w hw1 b1 5).mono (fun e w' ⟨he, hw'⟩ => ⟨he, st_mask [true, true] rfl (back _ _ hw')⟩)
 refine q_val (v := .pointer (some ⟨b1, 13, none⟩)) rfl rfl rfl (e_fieldPt (b := b1) (o := 0) rfl tf66) ?_
 refine q_val (v := Nx (y.toNat)) rfl rfl rfl (e_load1 tf2 (v := Nx (y.toNat)) rfl (k_pt 1 (cs := (mC v rv gx gy b y s)) (vs := [Nx (y.toNat)]) rfl rfl)) ?_
 refine q_val (v := .pointer (some ⟨b1, 5 + y.toNat, none⟩)) rfl rfl rfl (ev_eq (by cases y <;> rfl) (e_index_2 (u := .pointer (some ⟨b1, 5, none⟩)) (v := .pointer (some ⟨b1, 6, none⟩)) (y := y) rfl rfl tf61 tf64)) ?_
 refine q_val (v := .pointer (some ⟨b1, 5 + y.toNat, none⟩)) rfl rfl rfl (e_nil (a := ⟨b1, 5 + y.toNat, none⟩) rfl) ?_
 refine q_val (v := Ix (co y b)) rfl rfl rfl (e_load1 tf2 (v := Ix (co y b)) rfl (k_pt 1 (cs := (mC v rv gx gy b y s)) (vs := [Ix (co y b)]) rfl (by cases y <;> rfl))) ?_
 refine q_val (v := Ix ((co y o) - (co y b))) rfl rfl rfl (e_sub (a := (co y o)) (b := (co y b)) rfl rfl (i64w (by omega))) ?_
 refine q_val (v := Ix ((s) * ((co y o) - (co y b)))) rfl rfl rfl (e_mul (a := (s)) (b := ((co y o) - (co y b))) rfl rfl (i64w (by omega))) ?_
 refine q_val (v := Ix ((s) * ((co y o) - (co y b)))) rfl rfl rfl (e_assign) ?_
 refine q_nil ?_
 refine f_then ?_
 refine c_seq ?_
 refine c_seq ?_
 refine c_region ?_
 refine l_val (v := Ix ((s) * ((co y o) - (co y b)))) rfl rfl rfl (e_move) ?_
 refine l_val (v := .bool (decide (((s) * ((co y o) - (co y b))) ≤ (0 : Int)))) rfl rfl rfl (e_leq (a := ((s) * ((co y o) - (co y b)))) (b := (0 : Int)) rfl rfl) ?_
 refine l_nil ?_
 refine f_then ?_
 refine c_if (((s) * ((co y o) - (co y b))) ≤ (0 : Int)) rfl (fun hc3 => ?_) (fun hc3 => ?_)
 ·
  refine c_seq ?_
  refine c_region ?_
  refine l_val (v := Nx (most)) rfl rfl rfl (e_move) ?_
  refine l_val (v := Nx (most + 1)) rfl rfl rfl (e_add (a := ((most : Nat) : Int)) (b := (1 : Int)) rfl rfl (i64n (by omega) (by omega))) ?_
  refine l_val (v := Nx (most + 1)) rfl rfl rfl (e_assign) ?_
  refine l_nil ?_
  refine f_then ?_
  refine c_ret ?_
  refine f_then_ret ?_
  refine ret1 Tryz.results94 (v := Nx (most + 1)) rfl ?_
  intro w hw
  exact ⟨congrArg (fun z : Nat => Ending.returned (Nx z)) (blockN_eq (blocked_none hs hb hno hc3)).symm, st_mask [false, false] rfl hw⟩
 ·
  refine c_skip ?_
  refine f_then ?_
  refine c_seq ?_
  obtain ⟨n, hn⟩ : ∃ n : Nat, min (s * (co y o - co y b)) ((most : Nat) : Int) = ((n : Nat) : Int) := ⟨(min (s * (co y o - co y b)) ((most : Nat) : Int)).toNat, by omega⟩
  refine c_region ?_
  refine l_val (v := Ix ((s) * ((co y o) - (co y b)))) rfl rfl rfl (e_move) ?_
  refine l_val (v := Nx (most)) rfl rfl rfl (e_move) ?_
  refine l_val (v := Nx (n)) rfl rfl rfl (ev_eq (congrArg (Value.int .i64) hn) (e_min (a := ((s) * ((co y o) - (co y b)))) (b := ((most : Nat) : Int)) rfl rfl)) ?_
  refine l_val (v := Nx (n)) rfl rfl rfl (e_assign) ?_
  refine l_nil ?_
  refine f_then ?_
  refine c_seq ?_
  refine c_seq ?_
  refine c_region ?_
  refine l_val (v := Nx (n)) rfl rfl rfl (e_move) ?_
  refine l_val (v := .func (.func 151) #[] #[.pointer (some ⟨b1, 0, none⟩), .pointer (some ⟨b2, 0, none⟩)]) rfl rfl rfl (e_func (u := []) (v := [.pointer (some ⟨b1, 0, none⟩), .pointer (some ⟨b2, 0, none⟩)]) rfl rfl) ?_
  refine l_call rfl rfl rfl (cl_value (fst := []) (cap := []) (vs := [Nx (n), .func (.func 151) #[] #[.pointer (some ⟨b1, 0, none⟩), .pointer (some ⟨b2, 0, none⟩)]]) (all := [Nx (n), .func (.func 151) #[] #[.pointer (some ⟨b1, 0, none⟩), .pointer (some ⟨b2, 0, none⟩)]]) tf75 rfl rfl rfl) ?_
  intro w hw
  obtain ⟨β1, sb, kn, hw1, back⟩ := St.frame_all hw
  refine (least_ok β1 w hw1 _ n (by omega) (fun z => decide (Stp.over (sh y b (s * z)) o)) (fun i j h1 h2 h3 h4 => decide_eq_true (over_on hs (by omega) (by omega) (by omega) (of_decide_eq_true h4))) (blocked1_fn β1 (GR.mono sb hG) b1 b2 _ _ _ _ b y s hs hb o n (by omega) (kn _ (k_pt 1 (o := 0) (cs := (mC v rv gx gy b y s)) (vs := (mC v rv gx gy b y s).toList) rfl rfl)) (kn _ (k_pt 0 (o := 0) (cs := (bC o)) (vs := (bodyE o)) rfl rfl)))).mono ?_
  rintro e w' ⟨rfl, hw'⟩
  refine ⟨_, rfl, _, back _ _ hw', ?_⟩
  clear hw hw1 hw' back kn sb
  refine l_val (v := Nx (leastN n (fun z => decide (Stp.over (sh y b (s * z)) o)))) rfl rfl rfl (e_assign) ?_
  refine l_nil ?_
  refine f_then ?_
  refine c_seq ?_
  refine c_region ?_
  refine l_val (v := Nx (leastN n (fun z => decide (Stp.over (sh y b (s * z)) o)))) rfl rfl rfl (e_move) ?_
  refine l_val (v := Nx (n)) rfl rfl rfl (e_move) ?_
  refine l_val (v := .bool (decide (((leastN n (fun z => decide (Stp.over (sh y b (s * z)) o)) : Nat) : Int) ≤ ((n : Nat) : Int)))) rfl rfl rfl (e_leq (a := ((leastN n (fun z => decide (Stp.over (sh y b (s * z)) o)) : Nat) : Int)) (b := ((n : Nat) : Int)) rfl rfl) ?_
  refine l_nil ?_
  refine f_then ?_
  refine c_if (((leastN n (fun z => decide (Stp.over (sh y b (s * z)) o)) : Nat) : Int) ≤ ((n : Nat) : Int)) rfl (fun hc4 => ?_) (fun hc4 => ?_)
  ·
   refine c_seq ?_
   refine c_region ?_
   refine l_val (v := Nx (leastN n (fun z => decide (Stp.over (sh y b (s * z)) o)))) rfl rfl rfl (e_move) ?_
   refine l_val (v := Nx (leastN n (fun z => decide (Stp.over (sh y b (s * z)) o)))) rfl rfl rfl (e_assign) ?_
   refine l_nil ?_
   refine f_then ?_
   refine c_ret ?_
   refine f_then_ret ?_
   refine ret1 Tryz.results94 (v := Nx (leastN n (fun z => decide (Stp.over (sh y b (s * z)) o)))) rfl ?_
   intro w hw
   exact ⟨congrArg (fun z : Nat => Ending.returned (Nx z)) (blockN_eq (by have h := blocked_some (most := most) hs hb ho (by omega) hn.symm (blockN_least y b s n o); rw [if_pos (show  blockN y b s n o ≤ n by unfold blockN; omega)] at h; exact h)).symm, st_mask [false, false] rfl hw⟩
  ·
   refine c_skip ?_
   refine f_then ?_
   refine c_seq ?_
   refine c_region ?_
   refine l_val (v := Nx (most)) rfl rfl rfl (e_move) ?_
   refine l_val (v := Nx (most + 1)) rfl rfl rfl (e_add (a := ((most : Nat) : Int)) (b := (1 : Int)) rfl rfl (i64n (by omega) (by omega))) ?_
   refine l_val (v := Nx (most + 1)) rfl rfl rfl (e_assign) ?_
   refine l_nil ?_
   refine f_then ?_
   refine c_ret ?_
   refine ret1 Tryz.results94 (v := Nx (most + 1)) rfl ?_
   intro w hw
   exact ⟨congrArg (fun z : Nat => Ending.returned (Nx z)) (blockN_eq (by have h := blocked_some (most := most) hs hb ho (by omega) hn.symm (blockN_least y b s n o); rw [if_neg (show ¬  blockN y b s n o ≤ n by unfold blockN; omega)] at h; exact h)).symm, st_mask [false, false] rfl hw⟩
end Go.Proofs
