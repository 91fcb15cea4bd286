/-
 What a script's steps are made of: walked. Printed by a program of my own.
-/
import Derived.Test.YtjejfkajcbdgjaaGreatTd14
import Derived.Test.YtjejfkajcbdgjaaGreatTdFit
namespace Go.Td
open Go Go.Sl
section
variable {x : KAct}
theorem fitA_5 (h : ((fitK x).toNat : Int) = ((5 : UInt8).toNat : Int)) : fitA x = ⟨fitK x, 0, 0, 1 + pickN x.hold 12, zeroA⟩ := if_pos h
theorem fitA_6 (h5 : ¬ ((fitK x).toNat : Int) = ((5 : UInt8).toNat : Int)) (h : ((fitK x).toNat : Int) = ((6 : UInt8).toNat : Int)) : fitA x = ⟨fitK x, 0, 1 + pickN x.other 5, 1 + pickN x.hold 12, zeroA⟩ := by unfold fitA; rw [if_neg h5, if_pos h]
theorem fitA_3 (h5 : ¬ ((fitK x).toNat : Int) = ((5 : UInt8).toNat : Int)) (h6 : ¬ ((fitK x).toNat : Int) = ((6 : UInt8).toNat : Int)) (h : ((fitK x).toNat : Int) = ((3 : UInt8).toNat : Int)) : fitA x = ⟨fitK x, fitW x, 1 + Int.tmod (fitW x + pickN x.other 4) 5, 0, fitM x⟩ := by unfold fitA; rw [if_neg h5, if_neg h6, if_pos h]
theorem fitA_0 (h5 : ¬ ((fitK x).toNat : Int) = ((5 : UInt8).toNat : Int)) (h6 : ¬ ((fitK x).toNat : Int) = ((6 : UInt8).toNat : Int)) (h : ¬ ((fitK x).toNat : Int) = ((3 : UInt8).toNat : Int)) : fitA x = ⟨fitK x, fitW x, 0, 0, fitM x⟩ := by unfold fitA; rw [if_neg h5, if_neg h6, if_neg h]
end
end Go.Td
namespace Go.Proofs
open Go Go.Sl Go.Td Go.Jn
theorem tt165 : (Tryz.prog.info? 32).bind (·.zero) = some (.agg #[.int .u8 (0), .int .i64 (0), .int .i64 (0), .slice none 0 0]) := by kernel_rfl
theorem tt166 : fldB Tryz.prog 32 0 0 1 false = true := by kernel_rfl
theorem tt167 : fldB Tryz.prog 32 1 1 1 false = true := by kernel_rfl
theorem tt168 : cfB Tryz.prog 28 = true := by kernel_rfl
theorem tt169 : stB Tryz.prog 32 [(0, 1), (1, 1), (2, 1), (3, 1)] = true := by kernel_rfl
theorem tt170 : tyB Tryz.prog 32 true 4 = true := by kernel_rfl
theorem tt171 : fldB Tryz.prog 32 3 3 1 false = true := by kernel_rfl
theorem tt172 : cfB Tryz.prog 20 = true := by kernel_rfl
theorem tt173 : Tryz.prog.underlying 4 = some .bool := by kernel_rfl
theorem tt174 : cfB Tryz.prog 16 = true := by kernel_rfl
theorem pick_ok (β : Base) (w : World) (hw : St β [] w) (x m : Int) (hm : 1 ≤ m ∧ m ≤ 1000000000) : Calls Tryz.prog 28 #[Ix x, Ix m] w fun r w' => r = .returned (Ix (pickN x m)) ∧ St β [] w' := by
 have htm := tmod_bd x (n := m) (by omega)
 refine enter (n := 16) Tryz.func28 rfl Tryz.ntmps28 rfl ?_ hw
 refine c_seq ?_
 refine c_region ?_
 refine l_val (v := .int .i64 (0)) rfl rfl rfl (e_assign) ?_
 refine l_nil ?_
 refine f_then ?_
 refine c_seq ?_
 refine c_seq ?_
 refine c_region ?_
 refine l_val (v := Ix (m)) rfl rfl rfl (e_move) ?_
 refine l_val (v := .bool (decide ((m) < (1 : Int)))) rfl rfl rfl (e_lss (a := (m)) (b := (1 : Int)) rfl rfl) ?_
 refine l_nil ?_
 refine f_then ?_
 refine c_if ((m) < (1 : Int)) rfl (fun hc1 => ?_) (fun hc1 => ?_)
 ·
  refine c_seq ?_
  refine c_region ?_
  refine l_val (v := .int .i64 (0)) rfl rfl rfl (e_assign) ?_
  refine l_nil ?_
  refine f_then ?_
  refine c_ret ?_
  refine f_then_ret ?_
  refine ret1 Tryz.results28 (v := .int .i64 (0)) rfl ?_
  intro w hw
  exact absurd hc1 (by omega)
 ·
  refine c_skip ?_
  refine f_then ?_
  refine c_seq ?_
  refine c_region ?_
  refine l_val (v := Ix (x)) rfl rfl rfl (e_move) ?_
  refine l_val (v := Ix (m)) rfl rfl rfl (e_move) ?_
  refine l_val (v := Ix (Int.tmod (x) (m))) rfl rfl rfl (e_rem (a := (x)) (b := (m)) rfl rfl (by omega) rfl) ?_
  refine l_val (v := Ix (Int.tmod (x) (m))) rfl rfl rfl (e_assign) ?_
  refine l_nil ?_
  refine f_then ?_
  refine c_seq ?_
  refine c_seq ?_
  refine c_region ?_
  refine l_val (v := Ix (Int.tmod (x) (m))) rfl rfl rfl (e_move) ?_
  refine l_val (v := .bool (decide ((Int.tmod (x) (m)) < (0 : Int)))) rfl rfl rfl (e_lss (a := (Int.tmod (x) (m))) (b := (0 : Int)) rfl rfl) ?_
  refine l_nil ?_
  refine f_then ?_
  refine c_if ((Int.tmod (x) (m)) < (0 : Int)) rfl (fun hc2 => ?_) (fun hc2 => ?_)
  ·
   refine c_region ?_
   refine l_val (v := Ix (Int.tmod (x) (m))) rfl rfl rfl (e_move) ?_
   refine l_val (v := Ix (m)) rfl rfl rfl (e_move) ?_
   refine l_val (v := Ix ((Int.tmod (x) (m)) + (m))) rfl rfl rfl (e_add (a := (Int.tmod (x) (m))) (b := (m)) rfl rfl (i64w (by omega))) ?_
   refine l_val (v := Ix ((Int.tmod (x) (m)) + (m))) rfl rfl rfl (e_assign) ?_
   refine l_nil ?_
   refine f_then ?_
   refine c_seq ?_
   refine c_region ?_
   refine l_val (v := Ix ((Int.tmod (x) (m)) + (m))) rfl rfl rfl (e_move) ?_
   refine l_val (v := Ix ((Int.tmod (x) (m)) + (m))) rfl rfl rfl (e_assign) ?_
   refine l_nil ?_
   refine f_then ?_
   refine c_ret ?_
   refine ret1 Tryz.results28 (v := Ix ((Int.tmod (x) (m)) + (m))) rfl ?_
   intro w hw
   exact ⟨congrArg (fun z : Int => Ending.returned (Ix z)) (show _ = pickN x m by unfold pickN; rw [if_neg hc1, if_pos hc2]), st_mask [] rfl hw⟩
  ·
   refine c_skip ?_
   refine f_then ?_
   refine c_seq ?_
   refine c_region ?_
   refine l_val (v := Ix (Int.tmod (x) (m))) rfl rfl rfl (e_move) ?_
   refine l_val (v := Ix (Int.tmod (x) (m))) rfl rfl rfl (e_assign) ?_
   refine l_nil ?_
   refine f_then ?_
   refine c_ret ?_
   refine ret1 Tryz.results28 (v := Ix (Int.tmod (x) (m))) rfl ?_
   intro w hw
   exact ⟨congrArg (fun z : Int => Ending.returned (Ix z)) (show _ = pickN x m by unfold pickN; rw [if_neg hc1, if_neg hc2]), st_mask [] rfl hw⟩
theorem act_ok (β : Base) (w : World) (hw : St β [] w) (k : UInt8) (o p h g : Int) : Calls Tryz.prog 20 #[Bx k, Ix o, Ix p, Ix h, Ix g] w fun r w' => r = .returned (.agg (actE ⟨k, o, p, h, ⟨g, 0, 0, 0⟩⟩).toArray) ∧ St β [] w' := by
 refine enter (n := 18) Tryz.func20 rfl Tryz.ntmps20 rfl ?_ hw
 refine c_seq ?_
 refine c_region ?_
 refine l_mv rfl rfl rfl (m_alloc tt47) ?_
 rintro _ _ ⟨b1, rfl, rfl⟩
 refine l_nil ?_
 refine f_then ?_
 refine c_seq ?_
 refine c_region ?_
 refine l_val (v := Bx (k)) rfl rfl rfl (e_move) ?_
 refine l_val (v := Ix (o)) rfl rfl rfl (e_move) ?_
 refine l_val (v := Ix (p)) rfl rfl rfl (e_move) ?_
 refine l_val (v := Ix (h)) rfl rfl rfl (e_move) ?_
 refine l_val (v := Ix (g)) rfl rfl rfl (e_move) ?_
 refine l_val (v := .agg #[Ix (g), .int .i64 (0), .int .i64 (0), .int .i64 (0)]) rfl rfl rfl (e_build_a tt3 tt1 (vs := [(0, Ix (g))]) (cells := #[Ix (g), .int .i64 (0), .int .i64 (0), .int .i64 (0)]) rfl rfl) ?_
 refine l_val (v := .agg #[Bx (k), Ix (o), Ix (p), Ix (h), Ix (g), .int .i64 (0), .int .i64 (0), .int .i64 (0)]) rfl rfl rfl (e_build tt47 tt46 (vs := [(0, Bx (k)), (1, Ix (o)), (2, Ix (p)), (3, Ix (h)), (4, .agg #[Ix (g), .int .i64 (0), .int .i64 (0), .int .i64 (0)])]) (cells := #[Bx (k), Ix (o), Ix (p), Ix (h), Ix (g), .int .i64 (0), .int .i64 (0), .int .i64 (0)]) rfl (by kernel_rfl)) ?_
 refine l_mu rfl rfl (m_store 0 tt17 (b := b1) (o := 0) (T := 47) (cs := #[.int .u8 (0), .int .i64 (0), .int .i64 (0), .int .i64 (0), .int .i64 (0), .int .i64 (0), .int .i64 (0), .int .i64 (0)]) (cs' := #[Bx (k), Ix (o), Ix (p), Ix (h), Ix (g), .int .i64 (0), .int .i64 (0), .int .i64 (0)]) (v := .agg #[Bx (k), Ix (o), Ix (p), Ix (h), Ix (g), .int .i64 (0), .int .i64 (0), .int .i64 (0)]) rfl rfl rfl rfl rfl rfl rfl) ?_
 refine l_nil ?_
 refine f_then ?_
 refine c_ret ?_
 refine retG (l := [.cell 10 47]) (m := [.agg #[Bx (k), Ix (o), Ix (p), Ix (h), Ix (g), .int .i64 (0), .int .i64 (0), .int .i64 (0)]]) (v := .agg #[Bx (k), Ix (o), Ix (p), Ix (h), Ix (g), .int .i64 (0), .int .i64 (0), .int .i64 (0)]) Tryz.results20 ⟨rd_cell tt17 (cs := [Bx (k), Ix (o), Ix (p), Ix (h), Ix (g), .int .i64 (0), .int .i64 (0), .int .i64 (0)]) rfl (k_pt 0 (cs := #[Bx (k), Ix (o), Ix (p), Ix (h), Ix (g), .int .i64 (0), .int .i64 (0), .int .i64 (0)]) (vs := [Bx (k), Ix (o), Ix (p), Ix (h), Ix (g), .int .i64 (0), .int .i64 (0), .int .i64 (0)]) rfl rfl) rfl, trivial⟩ rfl ?_
 intro w hw
 exact ⟨rfl, st_mask [false] rfl hw⟩
set_option maxHeartbeats 4000000 in
theorem fit_ok (β : Base) (w : World) (hw : St β [] w) (o : TOp) (v : Value) (hs : Sl ActF.R β.heap v o.acts) (n : Int) : Calls Tryz.prog 11 #[.agg #[Bx o.kind, Ix o.author, Ix o.number, v], Ix n] w fun r w' => ∃ p c, r = .returned (.agg #[Bx o.kind, Ix (fitAu o), Ix n, .slice p (fitL o).length c]) ∧ St β [rowF ActF 47 p c (fitL o)] w' := by
 obtain ⟨va, vc, rfl, vl, vm, ve⟩ := hs.get
 refine enter (n := 100) Tryz.func11 rfl Tryz.ntmps11 rfl ?_ hw
 refine c_seq ?_
 refine c_region ?_
 refine l_mv rfl rfl rfl (m_box (v := .agg #[Bx (o.kind), Ix (o.author), Ix (o.number), .slice va (o.acts.length) (vc)]) rfl) ?_
 rintro _ _ ⟨b1, rfl, rfl⟩
 refine l_mv rfl rfl rfl (m_alloc tt165) ?_
 rintro _ _ ⟨b2, rfl, rfl⟩
 refine l_nil ?_
 refine f_then ?_
 refine c_seq ?_
 have hpk2 := pickN_bd (o.author) (n := 4) (by decide)
 have hpk3 := pickN_bd (o.author) (n := 4) (by decide)
 refine c_any [⟨[], [], [0], [10], fun f => f 10 = .pointer (some ⟨b1, 0, none⟩)⟩, ⟨[0], [0], [], [11], fun f => f 11 = Bx (o.kind)⟩, ⟨[], [], [0], [12], fun f => f 12 = .pointer (some ⟨b1, 1, none⟩)⟩, ⟨[2], [2], [], [13], fun f => f 13 = Ix (o.author)⟩, ⟨[2, 3], [3], [], [14], fun f => f 14 = Ix (pickN (o.author) 4)⟩, ⟨[2, 3, 4], [4], [], [15], fun f => f 15 = Ix ((1 : Int) + (pickN (o.author) 4))⟩, ⟨[], [], [1], [16], fun f => f 16 = Ix (n)⟩, ⟨[0, 1, 2, 3, 4, 5, 6], [1, 5, 6], [], [17], fun f => f 17 = .agg #[Bx (o.kind), Ix ((1 : Int) + (pickN (o.author) 4)), Ix (n), .slice none 0 0]⟩, ⟨[], [], [], [5], fun f => f 5 = .pointer (some ⟨(blk (f 5)), 0, none⟩)⟩, ⟨[0, 1, 2, 3, 4, 5, 6, 7, 8], [8, 7], [], [], fun _ => True⟩] [⟨none, none, [], [], fun _ => pt b2 (.cells #[.int .u8 (0), .int .i64 (0), .int .i64 (0), .slice none 0 0] 32)⟩, ⟨none, none, [1, 3], [], fun _ => pt b1 (.cells #[Bx (o.kind), Ix (o.author), Ix (o.number), .slice va (o.acts.length) (vc)] 32)⟩, ⟨(some 8), (some 9), [9], [5], fun f => pt (blk (f 5)) (.cells #[.int .u8 (0), .int .i64 (0), .int .i64 (0), .slice none 0 0] 32)⟩, ⟨(some 9), none, [], [5], fun f => pt (blk (f 5)) (.cells #[Bx (o.kind), Ix ((1 : Int) + (pickN (o.author) 4)), Ix (n), .slice none 0 0] 32)⟩] [(2, .pointer (some ⟨b1, 0, none⟩)), (1, Ix (n)), (4, .pointer (some ⟨b2, 0, none⟩))] [0, 2] [] (by kernel_rfl) (by kernel_rfl) (by kernel_rfl) (by kernel_rfl) rfl ⟨rfl, rfl, rfl, trivial⟩ ⟨?_, ?_, ?_, ?_, ?_, ?_, ?_, ?_, ?_, ?_, trivial⟩ ?_
 ·rintro f M - ⟨i0, -⟩
  have hs2 : f 2 = .pointer (some ⟨b1, 0, none⟩) := i0
  refine ob_start (L' := M) (by rfl) (up_cons rfl hs2) ?_
  refine l_val (v := .pointer (some ⟨b1, 0, none⟩)) rfl rfl rfl (e_fieldPt (b := b1) (o := 0) rfl tt166) ?_
  refine l_nil ?_
  exact f_owes_d (up_cons rfl hs2) rfl (List.Perm.refl _)
 ·rintro f M ⟨k0, -⟩ -
  have hs10 : f 10 = .pointer (some ⟨b1, 0, none⟩) := k0
  refine ob_start (L' := pt b1 (.cells #[Bx (o.kind), Ix (o.author), Ix (o.number), .slice va (o.acts.length) (vc)] 32) :: M) (by rfl) (up_cons rfl hs10) ?_
  refine l_val (v := Bx (o.kind)) rfl rfl rfl (e_load1 tt5 (v := Bx (o.kind)) rfl (k_pt 0 (cs := #[Bx (o.kind), Ix (o.author), Ix (o.number), .slice va (o.acts.length) (vc)]) (vs := [Bx (o.kind)]) rfl rfl)) ?_
  refine l_nil ?_
  exact f_owes_d (up_cons rfl hs10) rfl (perm_front 0 rfl)
 ·rintro f M - ⟨i0, -⟩
  have hs2 : f 2 = .pointer (some ⟨b1, 0, none⟩) := i0
  refine ob_start (L' := M) (by rfl) (up_cons rfl hs2) ?_
  refine l_val (v := .pointer (some ⟨b1, 1, none⟩)) rfl rfl rfl (e_fieldPt (b := b1) (o := 0) rfl tt167) ?_
  refine l_nil ?_
  exact f_owes_d (up_cons rfl hs2) rfl (List.Perm.refl _)
 ·rintro f M ⟨k0, -⟩ -
  have hs12 : f 12 = .pointer (some ⟨b1, 1, none⟩) := k0
  refine ob_start (L' := pt b1 (.cells #[Bx (o.kind), Ix (o.author), Ix (o.number), .slice va (o.acts.length) (vc)] 32) :: M) (by rfl) (up_cons rfl hs12) ?_
  refine l_val (v := Ix (o.author)) rfl rfl rfl (e_load1 tt2 (v := Ix (o.author)) rfl (k_pt 0 (cs := #[Bx (o.kind), Ix (o.author), Ix (o.number), .slice va (o.acts.length) (vc)]) (vs := [Ix (o.author)]) rfl rfl)) ?_
  refine l_nil ?_
  exact f_owes_d (up_cons rfl hs12) rfl (perm_front 0 rfl)
 ·rintro f M ⟨k0, -⟩ -
  have hs13 : f 13 = Ix (o.author) := k0
  refine ob_start (L' := M) (by rfl) (up_cons rfl hs13) ?_
  refine l_call rfl rfl rfl (cl_value (fst := []) (cap := []) (vs := [Ix (o.author), .int .i64 (4)]) (all := [Ix (o.author), .int .i64 (4)]) tt168 rfl rfl rfl) ?_
  intro w hw
  obtain ⟨β1, sb, kn, hw1, back⟩ := St.frame_all hw
  refine (pick_ok β1 w hw1 (o.author) 4 (by decide)).mono ?_
  rintro e w' ⟨rfl, hw'⟩
  refine ⟨_, rfl, _, back _ _ hw', ?_⟩
  clear hw hw1 hw' back kn sb
  refine l_nil ?_
  exact f_owes_d (up_cons rfl hs13) rfl (List.Perm.refl _)
 ·rintro f M ⟨k0, -⟩ -
  have hs14 : f 14 = Ix (pickN (o.author) 4) := k0
  refine ob_start (L' := M) (by rfl) (up_cons rfl hs14) ?_
  refine l_val (v := Ix ((1 : Int) + (pickN (o.author) 4))) rfl rfl rfl (e_add (a := (1 : Int)) (b := (pickN (o.author) 4)) rfl rfl (i64w (by omega))) ?_
  refine l_nil ?_
  exact f_owes_d (up_cons rfl hs14) rfl (List.Perm.refl _)
 ·rintro f M - ⟨i0, -⟩
  have hs1 : f 1 = Ix (n) := i0
  refine ob_start (L' := M) (by rfl) (up_cons rfl hs1) ?_
  refine l_val (v := Ix (n)) rfl rfl rfl (e_move) ?_
  refine l_nil ?_
  exact f_owes_d (up_cons rfl hs1) rfl (List.Perm.refl _)
 ·rintro f M ⟨k0, k1, k2, -⟩ -
  have hs11 : f 11 = Bx (o.kind) := k0
  have hs15 : f 15 = Ix ((1 : Int) + (pickN (o.author) 4)) := k1
  have hs16 : f 16 = Ix (n) := k2
  refine ob_start (L' := M) (by rfl) (up_cons (up_cons (up_cons rfl hs11) hs15) hs16) ?_
  refine l_val (v := .agg #[Bx (o.kind), Ix ((1 : Int) + (pickN (o.author) 4)), Ix (n), .slice none 0 0]) rfl rfl rfl (e_build tt165 tt169 (vs := [(0, Bx (o.kind)), (1, Ix ((1 : Int) + (pickN (o.author) 4))), (2, Ix (n))]) (cells := #[Bx (o.kind), Ix ((1 : Int) + (pickN (o.author) 4)), Ix (n), .slice none 0 0]) rfl rfl) ?_
  refine l_nil ?_
  exact f_owes_d (up_cons (up_cons (up_cons rfl hs11) hs15) hs16) rfl (List.Perm.refl _)
 ·rintro f M - -
  refine ob_start (L' := M) (by rfl) rfl ?_
  refine l_mv rfl rfl rfl (m_alloc tt165) ?_
  rintro _ _ ⟨b6, rfl, rfl⟩
  refine l_nil ?_
  exact f_owes_d rfl rfl (perm_front 0 rfl)
 ·rintro f M ⟨k0, k1, -⟩ -
  have hs5 : f 5 = .pointer (some ⟨(blk (f 5)), 0, none⟩) := k0
  have hs17 : f 17 = .agg #[Bx (o.kind), Ix ((1 : Int) + (pickN (o.author) 4)), Ix (n), .slice none 0 0] := k1
  refine ob_start (L' := pt (blk (f 5)) (.cells #[.int .u8 (0), .int .i64 (0), .int .i64 (0), .slice none 0 0] 32) :: M) (by rfl) (up_cons (up_cons rfl hs5) hs17) ?_
  refine l_mu rfl rfl (m_store 0 tt170 (b := (blk (f 5))) (o := 0) (T := 32) (cs := #[.int .u8 (0), .int .i64 (0), .int .i64 (0), .slice none 0 0]) (cs' := #[Bx (o.kind), Ix ((1 : Int) + (pickN (o.author) 4)), Ix (n), .slice none 0 0]) (v := .agg #[Bx (o.kind), Ix ((1 : Int) + (pickN (o.author) 4)), Ix (n), .slice none 0 0]) rfl rfl rfl rfl rfl rfl rfl) ?_
  refine l_nil ?_
  exact f_owes_n (up_cons (up_cons rfl hs5) hs17) trivial (perm_front 0 rfl)
 rintro fa7 ⟨-, -, -, -, -, -, -, -, k8, -, -⟩ ⟨j0, j1, -⟩
 refine f_re (L' := [pt b2 (.cells #[.int .u8 (0), .int .i64 (0), .int .i64 (0), .slice none 0 0] 32), pt b1 (.cells #[Bx (o.kind), Ix (o.author), Ix (o.number), .slice va (o.acts.length) (vc)] 32), pt (blk (fa7 5)) (.cells #[Bx (o.kind), Ix ((1 : Int) + (pickN (o.author) 4)), Ix (n), .slice none 0 0] 32)]) (by rfl) ?_
 refine f_rebase (d := 2) (v := .pointer (some ⟨b1, 0, none⟩)) j0 ?_
 refine f_rebase (d := 4) (v := .pointer (some ⟨b2, 0, none⟩)) j1 ?_
 refine f_rebase (d := 5) (v := .pointer (some ⟨(blk (fa7 5)), 0, none⟩)) k8 ?_
 refine f_then ?_
 refine c_seq ?_
 refine c_seq ?_
 refine c_emp (r := rowF ActF 47 none 0 []) (row_nil _ _ _) ?_
 refine c_region ?_
 refine l_val (v := .pointer (some ⟨b1, 3, none⟩)) rfl rfl rfl (e_fieldPt (b := b1) (o := 0) rfl tt171) ?_
 refine l_val (v := .slice va (o.acts.length) (vc)) rfl rfl rfl (e_load1 tt23 (v := .slice va (o.acts.length) (vc)) rfl (k_pt 2 (cs := #[Bx (o.kind), Ix (o.author), Ix (o.number), .slice va (o.acts.length) (vc)]) (vs := [.slice va (o.acts.length) (vc)]) rfl rfl)) ?_
 refine l_val (v := .pointer (some ⟨b1, 3, none⟩)) rfl rfl rfl (e_fieldPt (b := b1) (o := 0) rfl tt171) ?_
 refine l_val (v := .slice va (o.acts.length) (vc)) rfl rfl rfl (e_load1 tt23 (v := .slice va (o.acts.length) (vc)) rfl (k_pt 2 (cs := #[Bx (o.kind), Ix (o.author), Ix (o.number), .slice va (o.acts.length) (vc)]) (vs := [.slice va (o.acts.length) (vc)]) rfl rfl)) ?_
 refine l_val (v := Nx (o.acts.length)) rfl rfl rfl (e_len (a := va) (n := o.acts.length) (c := vc) rfl tt15) ?_
 refine l_val (v := Nx (min o.acts.length 8)) rfl rfl rfl (ev_eq (congrArg (Value.int .i64) (by omega)) (e_min (a := ((o.acts.length : Nat) : Int)) (b := (8 : Int)) rfl rfl)) ?_
 obtain ⟨zs8, hz9⟩ : ∃ zs, zs = (o.acts.take (min o.acts.length 8)) := ⟨_, rfl⟩
 have zl10 : zs8.length = min (min o.acts.length 8) (o.acts).length - 0 := by rw [hz9]; simp; try omega
 have ze11 := (Elems.take (min o.acts.length 8) ve)
 rw [← hz9] at ze11
 refine l_val (v := .slice va (zs8.length) (vc)) rfl rfl rfl (ev_eq (by rw [show zs8.length = min o.acts.length 8 by omega]) (e_slice_hi (a := va) (len := o.acts.length) (cap := vc) (h := min o.acts.length 8) tt16 rfl rfl (by omega))) ?_
 refine l_val (v := Nx (zs8.length)) rfl rfl rfl (e_len (a := va) (n := zs8.length) (c := vc) rfl tt15) ?_
 refine l_val (v := .int .i64 (0)) rfl rfl rfl (e_move) ?_
 refine l_nil ?_
 refine f_then ?_
 refine c_block ?_
 refine c_loop (fun (x_ : Nat × List KAct × Option Addr × Nat) (f : Fm) (L : List Res) => match x_ with | (k, ys, p, c) => (f 4 = .pointer (some ⟨b2, 0, none⟩) ∧ f 5 = .pointer (some ⟨(blk (fa7 5)), 0, none⟩) ∧ f 24 = .slice va (zs8.length) (vc) ∧ f 25 = Nx (zs8.length) ∧ f 26 = Nx (k)) ∧ L = [rowF ActF 47 p c ys, pt b2 (.cells #[.int .u8 (0), .int .i64 (0), .int .i64 (0), .slice none 0 0] 32), pt b1 (.cells #[Bx (o.kind), Ix (o.author), Ix (o.number), .slice va (o.acts.length) (vc)] 32), pt (blk (fa7 5)) (.cells #[Bx (o.kind), Ix ((1 : Int) + (pickN (o.author) 4)), Ix (n), .slice p (ys.length) c] 32)] ∧ (k ≤ zs8.length ∧ ys = (zs8.take k).map fitA)) (fun (x_ : Nat × List KAct × Option Addr × Nat) => match x_ with | (k, ys, p, c) => zs8.length - k) (0, [], none, 0) ?_ ?_
 ·exact ⟨⟨rfl, rfl, rfl, rfl, rfl⟩, rfl, ⟨Nat.zero_le _, rfl⟩⟩
 rintro ⟨k, ys, p, c⟩ f0 L0 ⟨⟨hs4, hs5, hs24, hs25, hs26⟩, hL, ⟨hk, hys⟩⟩
 subst L0
 refine rebase (d := 4) hs4 ?_
 refine rebase (d := 5) hs5 ?_
 refine rebase (d := 24) hs24 ?_
 refine rebase (d := 25) hs25 ?_
 refine rebase (d := 26) hs26 ?_
 clear hs4 hs5 hs24 hs25 hs26
 have hyl : ys.length ≤ 8 := by rw [hys, List.length_map, List.length_take]; omega
 refine c_seq ?_
 refine c_region ?_
 refine l_val (v := .bool (decide (((k : Nat) : Int) < ((zs8.length : Nat) : Int)))) rfl rfl rfl (e_lss (a := ((k : Nat) : Int)) (b := ((zs8.length : Nat) : Int)) rfl rfl) ?_
 refine l_nil ?_
 refine f_then ?_
 refine c_seq ?_
 refine c_if (((k : Nat) : Int) < ((zs8.length : Nat) : Int)) rfl (fun hc12 => ?_) (fun hc12 => ?_)
 ·
  refine c_skip ?_
  refine f_then ?_
  refine c_seq ?_
  refine c_block ?_
  refine c_seq ?_
  refine c_region ?_
  obtain ⟨x13, hx14⟩ : ∃ x_, (zs8)[k]? = some x_ := ⟨_, List.getElem?_eq_getElem (by omega)⟩
  obtain ⟨ha15, cs16, hc17, rfl⟩ := ze11 _ _ hx14
  refine l_val (v := .pointer (some ((ba va).add (k * 8)))) rfl rfl rfl (e_indexAddr (k := k) (len := zs8.length) (cap := vc) (a := va) rfl rfl tt16 (by omega) ha15) ?_
  refine l_val (v := .agg #[Bx (x13.kind), Ix (x13.owner), Ix (x13.other), Ix (x13.hold), Ix (x13.a.a0), Ix (x13.a.a1), Ix (x13.a.a2), Ix (x13.a.a3)]) rfl rfl rfl (e_load tt17 (cs := [Bx (x13.kind), Ix (x13.owner), Ix (x13.other), Ix (x13.hold), Ix (x13.a.a0), Ix (x13.a.a1), Ix (x13.a.a2), Ix (x13.a.a3)]) rfl (Knows.of_base (Cs.mono _ _) hc17) rfl) ?_
  refine l_mv rfl rfl rfl (m_alloc tt47) ?_
  rintro _ _ ⟨b19, rfl, rfl⟩
  refine l_mu rfl rfl (m_store 0 tt17 (b := b19) (o := 0) (T := 47) (cs := #[.int .u8 (0), .int .i64 (0), .int .i64 (0), .int .i64 (0), .int .i64 (0), .int .i64 (0), .int .i64 (0), .int .i64 (0)]) (cs' := #[Bx (x13.kind), Ix (x13.owner), Ix (x13.other), Ix (x13.hold), Ix (x13.a.a0), Ix (x13.a.a1), Ix (x13.a.a2), Ix (x13.a.a3)]) (v := .agg #[Bx (x13.kind), Ix (x13.owner), Ix (x13.other), Ix (x13.hold), Ix (x13.a.a0), Ix (x13.a.a1), Ix (x13.a.a2), Ix (x13.a.a3)]) rfl rfl rfl rfl rfl rfl rfl) ?_
  refine l_nil ?_
  refine f_then ?_
  refine c_seq ?_
  refine c_region ?_
  refine l_val (v := .pointer (some ⟨b19, 0, none⟩)) rfl rfl rfl (e_fieldPt (b := b19) (o := 0) rfl tt4) ?_
  refine l_val (v := Bx (x13.kind)) rfl rfl rfl (e_load1 tt5 (v := Bx (x13.kind)) rfl (k_pt 0 (cs := #[Bx (x13.kind), Ix (x13.owner), Ix (x13.other), Ix (x13.hold), Ix (x13.a.a0), Ix (x13.a.a1), Ix (x13.a.a2), Ix (x13.a.a3)]) (vs := [Bx (x13.kind)]) rfl rfl)) ?_
  refine l_val (v := Bx (x13.kind % 7)) rfl rfl rfl (e_rem (a := ((x13.kind).toNat : Int)) (b := (((7 : UInt8)).toNat : Int)) rfl rfl (by decide) (bx_rem _ _)) ?_
  refine l_val (v := Bx ((1 : UInt8) + (x13.kind % 7))) rfl rfl rfl (e_add (a := ((1 : UInt8).toNat : Int)) (b := ((x13.kind % 7).toNat : Int)) rfl rfl (bx_add _ _)) ?_
  refine l_val (v := .agg #[Bx ((1 : UInt8) + (x13.kind % 7)), .int .i64 (0), .int .i64 (0), .int .i64 (0), .int .i64 (0), .int .i64 (0), .int .i64 (0), .int .i64 (0)]) rfl rfl rfl (e_build tt47 tt46 (vs := [(0, Bx ((1 : UInt8) + (x13.kind % 7)))]) (cells := #[Bx ((1 : UInt8) + (x13.kind % 7)), .int .i64 (0), .int .i64 (0), .int .i64 (0), .int .i64 (0), .int .i64 (0), .int .i64 (0), .int .i64 (0)]) rfl (by kernel_rfl)) ?_
  refine l_mv rfl rfl rfl (m_alloc tt47) ?_
  rintro _ _ ⟨b20, rfl, rfl⟩
  refine l_mu rfl rfl (m_store 0 tt17 (b := b20) (o := 0) (T := 47) (cs := #[.int .u8 (0), .int .i64 (0), .int .i64 (0), .int .i64 (0), .int .i64 (0), .int .i64 (0), .int .i64 (0), .int .i64 (0)]) (cs' := #[Bx ((1 : UInt8) + (x13.kind % 7)), .int .i64 (0), .int .i64 (0), .int .i64 (0), .int .i64 (0), .int .i64 (0), .int .i64 (0), .int .i64 (0)]) (v := .agg #[Bx ((1 : UInt8) + (x13.kind % 7)), .int .i64 (0), .int .i64 (0), .int .i64 (0), .int .i64 (0), .int .i64 (0), .int .i64 (0), .int .i64 (0)]) rfl rfl rfl rfl rfl rfl rfl) ?_
  refine l_nil ?_
  refine f_then ?_
  refine c_seq ?_
  refine c_seq ?_
  refine c_re (L' := [pt b20 (.cells #[Bx (fitK x13), .int .i64 (0), .int .i64 (0), .int .i64 (0), .int .i64 (0), .int .i64 (0), .int .i64 (0), .int .i64 (0)] 47), pt b19 (.cells #[Bx (x13.kind), Ix (x13.owner), Ix (x13.other), Ix (x13.hold), Ix (x13.a.a0), Ix (x13.a.a1), Ix (x13.a.a2), Ix (x13.a.a3)] 47), rowF ActF 47 p c ys, pt b2 (.cells #[.int .u8 (0), .int .i64 (0), .int .i64 (0), .slice none 0 0] 32), pt b1 (.cells #[Bx (o.kind), Ix (o.author), Ix (o.number), .slice va (o.acts.length) (vc)] 32), pt (blk (fa7 5)) (.cells #[Bx (o.kind), Ix ((1 : Int) + (pickN (o.author) 4)), Ix (n), .slice p (ys.length) c] 32)]) (by rfl) ?_
  refine c_region ?_
  refine l_val (v := .pointer (some ⟨b20, 0, none⟩)) rfl rfl rfl (e_fieldPt (b := b20) (o := 0) rfl tt4) ?_
  refine l_val (v := Bx (fitK x13)) rfl rfl rfl (e_load1 tt5 (v := Bx (fitK x13)) rfl (k_pt 0 (cs := #[Bx (fitK x13), .int .i64 (0), .int .i64 (0), .int .i64 (0), .int .i64 (0), .int .i64 (0), .int .i64 (0), .int .i64 (0)]) (vs := [Bx (fitK x13)]) rfl rfl)) ?_
  refine l_nil ?_
  refine f_then ?_
  refine c_block ?_
  refine c_seq ?_
  refine c_region ?_
  refine l_val (v := .bool (decide (((fitK x13).toNat : Int) = (5 : Int)))) rfl rfl rfl (e_eql (a := ((fitK x13).toNat : Int)) (b := (5 : Int)) rfl rfl) ?_
  refine l_val (v := .bool (decide (((fitK x13).toNat : Int) = (5 : Int)))) rfl rfl rfl (e_assign) ?_
  refine l_nil ?_
  refine f_then ?_
  refine c_if (((fitK x13).toNat : Int) = (5 : Int)) rfl (fun hc21 => ?_) (fun hc21 => ?_)
  ·
   refine c_region ?_
   refine l_val (v := .pointer (some ⟨b19, 3, none⟩)) rfl rfl rfl (e_fieldPt (b := b19) (o := 0) rfl tt9) ?_
   refine l_val (v := Ix (x13.hold)) rfl rfl rfl (e_load1 tt2 (v := Ix (x13.hold)) rfl (k_pt 1 (cs := #[Bx (x13.kind), Ix (x13.owner), Ix (x13.other), Ix (x13.hold), Ix (x13.a.a0), Ix (x13.a.a1), Ix (x13.a.a2), Ix (x13.a.a3)]) (vs := [Ix (x13.hold)]) rfl rfl)) ?_
   have hpk21 := pickN_bd (x13.hold) (n := 12) (by decide)
   refine l_call rfl rfl rfl (cl_value (fst := []) (cap := []) (vs := [Ix (x13.hold), .int .i64 (12)]) (all := [Ix (x13.hold), .int .i64 (12)]) tt168 rfl rfl rfl) ?_
   intro w hw
   obtain ⟨β1, sb, kn, hw1, back⟩ := St.frame_all hw
   refine (pick_ok β1 w hw1 (x13.hold) 12 (by decide)).mono ?_
   rintro e w' ⟨rfl, hw'⟩
   refine ⟨_, rfl, _, back _ _ hw', ?_⟩
   clear hw hw1 hw' back kn sb
   refine l_val (v := Ix ((1 : Int) + (pickN (x13.hold) 12))) rfl rfl rfl (e_add (a := (1 : Int)) (b := (pickN (x13.hold) 12)) rfl rfl (i64w (by omega))) ?_
   refine l_val (v := .pointer (some ⟨b20, 3, none⟩)) rfl rfl rfl (e_fieldPt (b := b20) (o := 0) rfl tt9) ?_
   refine l_mu rfl rfl (m_store 0 tt2 (b := b20) (o := 3) (T := 47) (cs := #[Bx (fitK x13), .int .i64 (0), .int .i64 (0), .int .i64 (0), .int .i64 (0), .int .i64 (0), .int .i64 (0), .int .i64 (0)]) (cs' := #[Bx (fitK x13), .int .i64 (0), .int .i64 (0), Ix ((1 : Int) + (pickN (x13.hold) 12)), .int .i64 (0), .int .i64 (0), .int .i64 (0), .int .i64 (0)]) (v := Ix ((1 : Int) + (pickN (x13.hold) 12))) rfl rfl rfl rfl rfl rfl rfl) ?_
   refine l_nil ?_
   refine f_block ?_
   refine f_then ?_
   refine c_region ?_
   refine l_val (v := .pointer (some ⟨(blk (fa7 5)), 3, none⟩)) rfl rfl rfl (e_fieldPt (b := (blk (fa7 5))) (o := 0) rfl tt171) ?_
   refine l_val (v := .slice p (ys.length) c) rfl rfl rfl (e_load1 tt23 (v := .slice p (ys.length) c) rfl (k_pt 5 (cs := #[Bx (o.kind), Ix ((1 : Int) + (pickN (o.author) 4)), Ix (n), .slice p (ys.length) c]) (vs := [.slice p (ys.length) c]) rfl rfl)) ?_
   refine l_val (v := .agg #[Bx (fitK x13), .int .i64 (0), .int .i64 (0), Ix ((1 : Int) + (pickN (x13.hold) 12)), .int .i64 (0), .int .i64 (0), .int .i64 (0), .int .i64 (0)]) rfl rfl rfl (e_load tt17 (cs := [Bx (fitK x13), .int .i64 (0), .int .i64 (0), Ix ((1 : Int) + (pickN (x13.hold) 12)), .int .i64 (0), .int .i64 (0), .int .i64 (0), .int .i64 (0)]) rfl (k_pt 0 (cs := #[Bx (fitK x13), .int .i64 (0), .int .i64 (0), Ix ((1 : Int) + (pickN (x13.hold) 12)), .int .i64 (0), .int .i64 (0), .int .i64 (0), .int .i64 (0)]) (vs := [Bx (fitK x13), .int .i64 (0), .int .i64 (0), Ix ((1 : Int) + (pickN (x13.hold) 12)), .int .i64 (0), .int .i64 (0), .int .i64 (0), .int .i64 (0)]) rfl rfl) rfl) ?_
   refine l_mv rfl rfl rfl (m_slices tt16 tt47 (vs := [(0, .agg #[Bx (fitK x13), .int .i64 (0), .int .i64 (0), Ix ((1 : Int) + (pickN (x13.hold) 12)), .int .i64 (0), .int .i64 (0), .int .i64 (0), .int .i64 (0)])]) (cells := #[Bx (fitK x13), .int .i64 (0), .int .i64 (0), Ix ((1 : Int) + (pickN (x13.hold) 12)), .int .i64 (0), .int .i64 (0), .int .i64 (0), .int .i64 (0)]) rfl rfl rfl (by kernel_rfl)) ?_
   rintro _ _ ⟨b23, rfl, rfl⟩
   refine l_mv rfl rfl rfl (m_appendFlN (F := ActF) 3 tt16 tt30 (p := p) (m := ys.length) (xs := ys) (ys := [(⟨fitK x13, 0, 0, (1 : Int) + (pickN (x13.hold) 12), zeroA⟩ : KAct)]) (ao := (some ⟨b23, 0, none⟩)) (k := 1) (c := 1) rfl rfl rfl rfl rfl (k_ptFl (z := (⟨fitK x13, 0, 0, (1 : Int) + (pickN (x13.hold) 12), zeroA⟩ : KAct)) 0 rfl rfl) (by first | omega | simp only [List.length_nil, List.length_cons, List.length_append, List.length_set]; omega) (by first | omega | simp only [List.length_nil, List.length_cons, List.length_append, List.length_set]; omega)) ?_
   rintro _ _ ⟨rp24, rc25, rfl, rfl⟩
   refine l_val (v := .pointer (some ⟨(blk (fa7 5)), 3, none⟩)) rfl rfl rfl (e_fieldPt (b := (blk (fa7 5))) (o := 0) rfl tt171) ?_
   refine l_mu rfl rfl (m_store 6 tt23 (b := (blk (fa7 5))) (o := 3) (T := 32) (cs := #[Bx (o.kind), Ix ((1 : Int) + (pickN (o.author) 4)), Ix (n), .slice p (ys.length) c]) (cs' := #[Bx (o.kind), Ix ((1 : Int) + (pickN (o.author) 4)), Ix (n), .slice rp24 ((ys ++ [(⟨fitK x13, 0, 0, (1 : Int) + (pickN (x13.hold) 12), zeroA⟩ : KAct)]).length) rc25]) (v := .slice rp24 ((ys ++ [(⟨fitK x13, 0, 0, (1 : Int) + (pickN (x13.hold) 12), zeroA⟩ : KAct)]).length) rc25) rfl rfl rfl rfl rfl rfl rfl) ?_
   refine l_nil ?_
   refine f_block ?_
   refine f_then ?_
   refine c_region ?_
   refine l_val (v := Nx (k + 1)) rfl rfl rfl (e_add (a := ((k : Nat) : Int)) (b := (1 : Int)) rfl rfl (i64n (by omega) (by omega))) ?_
   refine l_val (v := Nx (k + 1)) rfl rfl rfl (e_move) ?_
   refine l_nil ?_
   refine f_mask (L' := [rowF ActF 47 rp24 rc25 (ys ++ [(⟨fitK x13, 0, 0, (1 : Int) + (pickN (x13.hold) 12), zeroA⟩ : KAct)]), pt b2 (.cells #[.int .u8 (0), .int .i64 (0), .int .i64 (0), .slice none 0 0] 32), pt b1 (.cells #[Bx (o.kind), Ix (o.author), Ix (o.number), .slice va (o.acts.length) (vc)] 32), pt (blk (fa7 5)) (.cells #[Bx (o.kind), Ix ((1 : Int) + (pickN (o.author) 4)), Ix (n), .slice rp24 ((ys ++ [(⟨fitK x13, 0, 0, (1 : Int) + (pickN (x13.hold) 12), zeroA⟩ : KAct)]).length) rc25] 32)]) [false, false, false, true, true, true, true] rfl ?_
   exact f_cut ⟨(k + 1, (ys ++ [(⟨fitK x13, 0, 0, (1 : Int) + (pickN (x13.hold) 12), zeroA⟩ : KAct)]), rp24, rc25), ⟨⟨rfl, rfl, rfl, rfl, rfl⟩, rfl, ⟨by omega, by rw [hys, ← tk_next hx14, List.map_append, show List.map fitA [x13] = [fitA x13] from rfl, fitA_5 hc21] <;> rfl⟩⟩, (show zs8.length - (k + 1) < zs8.length - k from by omega)⟩
  ·
   refine c_seq ?_
   refine c_region ?_
   refine l_val (v := .bool (decide (((fitK x13).toNat : Int) = (6 : Int)))) rfl rfl rfl (e_eql (a := ((fitK x13).toNat : Int)) (b := (6 : Int)) rfl rfl) ?_
   refine l_val (v := .bool (decide (((fitK x13).toNat : Int) = (6 : Int)))) rfl rfl rfl (e_assign) ?_
   refine l_nil ?_
   refine f_then ?_
   refine c_if (((fitK x13).toNat : Int) = (6 : Int)) rfl (fun hc26 => ?_) (fun hc26 => ?_)
   ·
    have hpk26 := pickN_bd (x13.hold) (n := 12) (by decide)
    have hpk27 := pickN_bd (x13.hold) (n := 12) (by decide)
    have hpk28 := pickN_bd (x13.other) (n := 5) (by decide)
    have hpk29 := pickN_bd (x13.other) (n := 5) (by decide)
    refine c_any [⟨[], [], [0], [75], fun f => f 75 = .pointer (some ⟨b19, 3, none⟩)⟩, ⟨[0], [0], [], [76], fun f => f 76 = Ix (x13.hold)⟩, ⟨[0, 1], [1], [], [77], fun f => f 77 = Ix (pickN (x13.hold) 12)⟩, ⟨[0, 1, 2], [2], [], [78], fun f => f 78 = Ix ((1 : Int) + (pickN (x13.hold) 12))⟩, ⟨[], [], [0], [79], fun f => f 79 = .pointer (some ⟨b19, 2, none⟩)⟩, ⟨[4], [4], [], [80], fun f => f 80 = Ix (x13.other)⟩, ⟨[0, 1, 2, 4, 5], [5], [], [81], fun f => f 81 = Ix (pickN (x13.other) 5)⟩, ⟨[0, 1, 2, 4, 5, 6], [6], [], [82], fun f => f 82 = Ix ((1 : Int) + (pickN (x13.other) 5))⟩, ⟨[0, 1, 2, 3], [], [1], [83], fun f => f 83 = .pointer (some ⟨b20, 3, none⟩)⟩, ⟨[0, 1, 2, 3, 4, 5, 6, 8], [8, 3], [], [], fun _ => True⟩, ⟨[0, 1, 2, 3, 4, 5, 6, 7, 8, 9], [], [1], [84], fun f => f 84 = .pointer (some ⟨b20, 2, none⟩)⟩, ⟨[0, 1, 2, 3, 4, 5, 6, 7, 8, 9, 10], [10, 7], [], [], fun _ => True⟩] [⟨none, (some 9), [9], [], fun _ => pt b20 (.cells #[Bx (fitK x13), .int .i64 (0), .int .i64 (0), .int .i64 (0), .int .i64 (0), .int .i64 (0), .int .i64 (0), .int .i64 (0)] 47)⟩, ⟨none, none, [1, 5], [], fun _ => pt b19 (.cells #[Bx (x13.kind), Ix (x13.owner), Ix (x13.other), Ix (x13.hold), Ix (x13.a.a0), Ix (x13.a.a1), Ix (x13.a.a2), Ix (x13.a.a3)] 47)⟩, ⟨none, none, [], [], fun _ => rowF ActF 47 p c ys⟩, ⟨none, none, [], [], fun _ => pt b2 (.cells #[.int .u8 (0), .int .i64 (0), .int .i64 (0), .slice none 0 0] 32)⟩, ⟨none, none, [], [], fun _ => pt b1 (.cells #[Bx (o.kind), Ix (o.author), Ix (o.number), .slice va (o.acts.length) (vc)] 32)⟩, ⟨none, none, [], [], fun _ => pt (blk (fa7 5)) (.cells #[Bx (o.kind), Ix ((1 : Int) + (pickN (o.author) 4)), Ix (n), .slice p (ys.length) c] 32)⟩, ⟨(some 9), (some 11), [11], [], fun _ => pt b20 (.cells #[Bx (fitK x13), .int .i64 (0), .int .i64 (0), Ix ((1 : Int) + (pickN (x13.hold) 12)), .int .i64 (0), .int .i64 (0), .int .i64 (0), .int .i64 (0)] 47)⟩, ⟨(some 11), none, [], [], fun _ => pt b20 (.cells #[Bx (fitK x13), .int .i64 (0), Ix ((1 : Int) + (pickN (x13.other) 5)), Ix ((1 : Int) + (pickN (x13.hold) 12)), .int .i64 (0), .int .i64 (0), .int .i64 (0), .int .i64 (0)] 47)⟩] [(7, .pointer (some ⟨b19, 0, none⟩)), (8, .pointer (some ⟨b20, 0, none⟩)), (4, .pointer (some ⟨b2, 0, none⟩)), (5, .pointer (some ⟨(blk (fa7 5)), 0, none⟩)), (24, .slice va (zs8.length) (vc)), (25, Nx (zs8.length)), (26, Nx (k))] [2, 3, 1, 4, 5, 6] [] (by kernel_rfl) (by kernel_rfl) (by kernel_rfl) (by kernel_rfl) rfl ⟨rfl, rfl, rfl, rfl, rfl, rfl, rfl, trivial⟩ ⟨?_, ?_, ?_, ?_, ?_, ?_, ?_, ?_, ?_, ?_, ?_, ?_, trivial⟩ ?_
    ·rintro f M - ⟨i0, -⟩
     have hs7 : f 7 = .pointer (some ⟨b19, 0, none⟩) := i0
     refine ob_start (L' := M) (by rfl) (up_cons rfl hs7) ?_
     refine l_val (v := .pointer (some ⟨b19, 3, none⟩)) rfl rfl rfl (e_fieldPt (b := b19) (o := 0) rfl tt9) ?_
     refine l_nil ?_
     exact f_owes_d (up_cons rfl hs7) rfl (List.Perm.refl _)
    ·rintro f M ⟨k0, -⟩ -
     have hs75 : f 75 = .pointer (some ⟨b19, 3, none⟩) := k0
     refine ob_start (L' := pt b19 (.cells #[Bx (x13.kind), Ix (x13.owner), Ix (x13.other), Ix (x13.hold), Ix (x13.a.a0), Ix (x13.a.a1), Ix (x13.a.a2), Ix (x13.a.a3)] 47) :: M) (by rfl) (up_cons rfl hs75) ?_
     refine l_val (v := Ix (x13.hold)) rfl rfl rfl (e_load1 tt2 (v := Ix (x13.hold)) rfl (k_pt 0 (cs := #[Bx (x13.kind), Ix (x13.owner), Ix (x13.other), Ix (x13.hold), Ix (x13.a.a0), Ix (x13.a.a1), Ix (x13.a.a2), Ix (x13.a.a3)]) (vs := [Ix (x13.hold)]) rfl rfl)) ?_
     refine l_nil ?_
     exact f_owes_d (up_cons rfl hs75) rfl (perm_front 0 rfl)
    ·rintro f M ⟨k0, -⟩ -
     have hs76 : f 76 = Ix (x13.hold) := k0
     refine ob_start (L' := M) (by rfl) (up_cons rfl hs76) ?_
     refine l_call rfl rfl rfl (cl_value (fst := []) (cap := []) (vs := [Ix (x13.hold), .int .i64 (12)]) (all := [Ix (x13.hold), .int .i64 (12)]) tt168 rfl rfl rfl) ?_
     intro w hw
     obtain ⟨β1, sb, kn, hw1, back⟩ := St.frame_all hw
     refine (pick_ok β1 w hw1 (x13.hold) 12 (by decide)).mono ?_
     rintro e w' ⟨rfl, hw'⟩
     refine ⟨_, rfl, _, back _ _ hw', ?_⟩
     clear hw hw1 hw' back kn sb
     refine l_nil ?_
     exact f_owes_d (up_cons rfl hs76) rfl (List.Perm.refl _)
    ·rintro f M ⟨k0, -⟩ -
     have hs77 : f 77 = Ix (pickN (x13.hold) 12) := k0
     refine ob_start (L' := M) (by rfl) (up_cons rfl hs77) ?_
     refine l_val (v := Ix ((1 : Int) + (pickN (x13.hold) 12))) rfl rfl rfl (e_add (a := (1 : Int)) (b := (pickN (x13.hold) 12)) rfl rfl (i64w (by omega))) ?_
     refine l_nil ?_
     exact f_owes_d (up_cons rfl hs77) rfl (List.Perm.refl _)
    ·rintro f M - ⟨i0, -⟩
     have hs7 : f 7 = .pointer (some ⟨b19, 0, none⟩) := i0
     refine ob_start (L' := M) (by rfl) (up_cons rfl hs7) ?_
     refine l_val (v := .pointer (some ⟨b19, 2, none⟩)) rfl rfl rfl (e_fieldPt (b := b19) (o := 0) rfl tt8) ?_
     refine l_nil ?_
     exact f_owes_d (up_cons rfl hs7) rfl (List.Perm.refl _)
    ·rintro f M ⟨k0, -⟩ -
     have hs79 : f 79 = .pointer (some ⟨b19, 2, none⟩) := k0
     refine ob_start (L' := pt b19 (.cells #[Bx (x13.kind), Ix (x13.owner), Ix (x13.other), Ix (x13.hold), Ix (x13.a.a0), Ix (x13.a.a1), Ix (x13.a.a2), Ix (x13.a.a3)] 47) :: M) (by rfl) (up_cons rfl hs79) ?_
     refine l_val (v := Ix (x13.other)) rfl rfl rfl (e_load1 tt2 (v := Ix (x13.other)) rfl (k_pt 0 (cs := #[Bx (x13.kind), Ix (x13.owner), Ix (x13.other), Ix (x13.hold), Ix (x13.a.a0), Ix (x13.a.a1), Ix (x13.a.a2), Ix (x13.a.a3)]) (vs := [Ix (x13.other)]) rfl rfl)) ?_
     refine l_nil ?_
     exact f_owes_d (up_cons rfl hs79) rfl (perm_front 0 rfl)
    ·rintro f M ⟨k0, -⟩ -
     have hs80 : f 80 = Ix (x13.other) := k0
     refine ob_start (L' := M) (by rfl) (up_cons rfl hs80) ?_
     refine l_call rfl rfl rfl (cl_value (fst := []) (cap := []) (vs := [Ix (x13.other), .int .i64 (5)]) (all := [Ix (x13.other), .int .i64 (5)]) tt168 rfl rfl rfl) ?_
     intro w hw
     obtain ⟨β1, sb, kn, hw1, back⟩ := St.frame_all hw
     refine (pick_ok β1 w hw1 (x13.other) 5 (by decide)).mono ?_
     rintro e w' ⟨rfl, hw'⟩
     refine ⟨_, rfl, _, back _ _ hw', ?_⟩
     clear hw hw1 hw' back kn sb
     refine l_nil ?_
     exact f_owes_d (up_cons rfl hs80) rfl (List.Perm.refl _)
    ·rintro f M ⟨k0, -⟩ -
     have hs81 : f 81 = Ix (pickN (x13.other) 5) := k0
     refine ob_start (L' := M) (by rfl) (up_cons rfl hs81) ?_
     refine l_val (v := Ix ((1 : Int) + (pickN (x13.other) 5))) rfl rfl rfl (e_add (a := (1 : Int)) (b := (pickN (x13.other) 5)) rfl rfl (i64w (by omega))) ?_
     refine l_nil ?_
     exact f_owes_d (up_cons rfl hs81) rfl (List.Perm.refl _)
    ·rintro f M - ⟨i0, -⟩
     have hs8 : f 8 = .pointer (some ⟨b20, 0, none⟩) := i0
     refine ob_start (L' := M) (by rfl) (up_cons rfl hs8) ?_
     refine l_val (v := .pointer (some ⟨b20, 3, none⟩)) rfl rfl rfl (e_fieldPt (b := b20) (o := 0) rfl tt9) ?_
     refine l_nil ?_
     exact f_owes_d (up_cons rfl hs8) rfl (List.Perm.refl _)
    ·rintro f M ⟨k0, k1, -⟩ -
     have hs83 : f 83 = .pointer (some ⟨b20, 3, none⟩) := k0
     have hs78 : f 78 = Ix ((1 : Int) + (pickN (x13.hold) 12)) := k1
     refine ob_start (L' := pt b20 (.cells #[Bx (fitK x13), .int .i64 (0), .int .i64 (0), .int .i64 (0), .int .i64 (0), .int .i64 (0), .int .i64 (0), .int .i64 (0)] 47) :: M) (by rfl) (up_cons (up_cons rfl hs83) hs78) ?_
     refine l_mu rfl rfl (m_store 0 tt2 (b := b20) (o := 3) (T := 47) (cs := #[Bx (fitK x13), .int .i64 (0), .int .i64 (0), .int .i64 (0), .int .i64 (0), .int .i64 (0), .int .i64 (0), .int .i64 (0)]) (cs' := #[Bx (fitK x13), .int .i64 (0), .int .i64 (0), Ix ((1 : Int) + (pickN (x13.hold) 12)), .int .i64 (0), .int .i64 (0), .int .i64 (0), .int .i64 (0)]) (v := Ix ((1 : Int) + (pickN (x13.hold) 12))) rfl rfl rfl rfl rfl rfl rfl) ?_
     refine l_nil ?_
     exact f_owes_n (up_cons (up_cons rfl hs83) hs78) trivial (perm_front 0 rfl)
    ·rintro f M - ⟨i0, -⟩
     have hs8 : f 8 = .pointer (some ⟨b20, 0, none⟩) := i0
     refine ob_start (L' := M) (by rfl) (up_cons rfl hs8) ?_
     refine l_val (v := .pointer (some ⟨b20, 2, none⟩)) rfl rfl rfl (e_fieldPt (b := b20) (o := 0) rfl tt8) ?_
     refine l_nil ?_
     exact f_owes_d (up_cons rfl hs8) rfl (List.Perm.refl _)
    ·rintro f M ⟨k0, k1, -⟩ -
     have hs84 : f 84 = .pointer (some ⟨b20, 2, none⟩) := k0
     have hs82 : f 82 = Ix ((1 : Int) + (pickN (x13.other) 5)) := k1
     refine ob_start (L' := pt b20 (.cells #[Bx (fitK x13), .int .i64 (0), .int .i64 (0), Ix ((1 : Int) + (pickN (x13.hold) 12)), .int .i64 (0), .int .i64 (0), .int .i64 (0), .int .i64 (0)] 47) :: M) (by rfl) (up_cons (up_cons rfl hs84) hs82) ?_
     refine l_mu rfl rfl (m_store 0 tt2 (b := b20) (o := 2) (T := 47) (cs := #[Bx (fitK x13), .int .i64 (0), .int .i64 (0), Ix ((1 : Int) + (pickN (x13.hold) 12)), .int .i64 (0), .int .i64 (0), .int .i64 (0), .int .i64 (0)]) (cs' := #[Bx (fitK x13), .int .i64 (0), Ix ((1 : Int) + (pickN (x13.other) 5)), Ix ((1 : Int) + (pickN (x13.hold) 12)), .int .i64 (0), .int .i64 (0), .int .i64 (0), .int .i64 (0)]) (v := Ix ((1 : Int) + (pickN (x13.other) 5))) rfl rfl rfl rfl rfl rfl rfl) ?_
     refine l_nil ?_
     exact f_owes_n (up_cons (up_cons rfl hs84) hs82) trivial (perm_front 0 rfl)
    rintro fa31 ⟨-, -, -, -, -, -, -, -, -, -, -, -, -⟩ ⟨j0, j1, j2, j3, j4, j5, -⟩
    refine f_re (L' := [pt b19 (.cells #[Bx (x13.kind), Ix (x13.owner), Ix (x13.other), Ix (x13.hold), Ix (x13.a.a0), Ix (x13.a.a1), Ix (x13.a.a2), Ix (x13.a.a3)] 47), rowF ActF 47 p c ys, pt b2 (.cells #[.int .u8 (0), .int .i64 (0), .int .i64 (0), .slice none 0 0] 32), pt b1 (.cells #[Bx (o.kind), Ix (o.author), Ix (o.number), .slice va (o.acts.length) (vc)] 32), pt (blk (fa7 5)) (.cells #[Bx (o.kind), Ix ((1 : Int) + (pickN (o.author) 4)), Ix (n), .slice p (ys.length) c] 32), pt b20 (.cells #[Bx (fitK x13), .int .i64 (0), Ix ((1 : Int) + (pickN (x13.other) 5)), Ix ((1 : Int) + (pickN (x13.hold) 12)), .int .i64 (0), .int .i64 (0), .int .i64 (0), .int .i64 (0)] 47)]) (by rfl) ?_
    refine f_rebase (d := 4) (v := .pointer (some ⟨b2, 0, none⟩)) j0 ?_
    refine f_rebase (d := 5) (v := .pointer (some ⟨(blk (fa7 5)), 0, none⟩)) j1 ?_
    refine f_rebase (d := 8) (v := .pointer (some ⟨b20, 0, none⟩)) j2 ?_
    refine f_rebase (d := 24) (v := .slice va (zs8.length) (vc)) j3 ?_
    refine f_rebase (d := 25) (v := Nx (zs8.length)) j4 ?_
    refine f_rebase (d := 26) (v := Nx (k)) j5 ?_
    refine f_block ?_
    refine f_then ?_
    refine c_region ?_
    refine l_val (v := .pointer (some ⟨(blk (fa7 5)), 3, none⟩)) rfl rfl rfl (e_fieldPt (b := (blk (fa7 5))) (o := 0) rfl tt171) ?_
    refine l_val (v := .slice p (ys.length) c) rfl rfl rfl (e_load1 tt23 (v := .slice p (ys.length) c) rfl (k_pt 4 (cs := #[Bx (o.kind), Ix ((1 : Int) + (pickN (o.author) 4)), Ix (n), .slice p (ys.length) c]) (vs := [.slice p (ys.length) c]) rfl rfl)) ?_
    refine l_val (v := .agg #[Bx (fitK x13), .int .i64 (0), Ix ((1 : Int) + (pickN (x13.other) 5)), Ix ((1 : Int) + (pickN (x13.hold) 12)), .int .i64 (0), .int .i64 (0), .int .i64 (0), .int .i64 (0)]) rfl rfl rfl (e_load tt17 (cs := [Bx (fitK x13), .int .i64 (0), Ix ((1 : Int) + (pickN (x13.other) 5)), Ix ((1 : Int) + (pickN (x13.hold) 12)), .int .i64 (0), .int .i64 (0), .int .i64 (0), .int .i64 (0)]) rfl (k_pt 5 (cs := #[Bx (fitK x13), .int .i64 (0), Ix ((1 : Int) + (pickN (x13.other) 5)), Ix ((1 : Int) + (pickN (x13.hold) 12)), .int .i64 (0), .int .i64 (0), .int .i64 (0), .int .i64 (0)]) (vs := [Bx (fitK x13), .int .i64 (0), Ix ((1 : Int) + (pickN (x13.other) 5)), Ix ((1 : Int) + (pickN (x13.hold) 12)), .int .i64 (0), .int .i64 (0), .int .i64 (0), .int .i64 (0)]) rfl rfl) rfl) ?_
    refine l_mv rfl rfl rfl (m_slices tt16 tt47 (vs := [(0, .agg #[Bx (fitK x13), .int .i64 (0), Ix ((1 : Int) + (pickN (x13.other) 5)), Ix ((1 : Int) + (pickN (x13.hold) 12)), .int .i64 (0), .int .i64 (0), .int .i64 (0), .int .i64 (0)])]) (cells := #[Bx (fitK x13), .int .i64 (0), Ix ((1 : Int) + (pickN (x13.other) 5)), Ix ((1 : Int) + (pickN (x13.hold) 12)), .int .i64 (0), .int .i64 (0), .int .i64 (0), .int .i64 (0)]) rfl rfl rfl (by kernel_rfl)) ?_
    rintro _ _ ⟨b32, rfl, rfl⟩
    refine l_mv rfl rfl rfl (m_appendFlN (F := ActF) 2 tt16 tt30 (p := p) (m := ys.length) (xs := ys) (ys := [(⟨fitK x13, 0, (1 : Int) + (pickN (x13.other) 5), (1 : Int) + (pickN (x13.hold) 12), zeroA⟩ : KAct)]) (ao := (some ⟨b32, 0, none⟩)) (k := 1) (c := 1) rfl rfl rfl rfl rfl (k_ptFl (z := (⟨fitK x13, 0, (1 : Int) + (pickN (x13.other) 5), (1 : Int) + (pickN (x13.hold) 12), zeroA⟩ : KAct)) 0 rfl rfl) (by first | omega | simp only [List.length_nil, List.length_cons, List.length_append, List.length_set]; omega) (by first | omega | simp only [List.length_nil, List.length_cons, List.length_append, List.length_set]; omega)) ?_
    rintro _ _ ⟨rp33, rc34, rfl, rfl⟩
    refine l_val (v := .pointer (some ⟨(blk (fa7 5)), 3, none⟩)) rfl rfl rfl (e_fieldPt (b := (blk (fa7 5))) (o := 0) rfl tt171) ?_
    refine l_mu rfl rfl (m_store 5 tt23 (b := (blk (fa7 5))) (o := 3) (T := 32) (cs := #[Bx (o.kind), Ix ((1 : Int) + (pickN (o.author) 4)), Ix (n), .slice p (ys.length) c]) (cs' := #[Bx (o.kind), Ix ((1 : Int) + (pickN (o.author) 4)), Ix (n), .slice rp33 ((ys ++ [(⟨fitK x13, 0, (1 : Int) + (pickN (x13.other) 5), (1 : Int) + (pickN (x13.hold) 12), zeroA⟩ : KAct)]).length) rc34]) (v := .slice rp33 ((ys ++ [(⟨fitK x13, 0, (1 : Int) + (pickN (x13.other) 5), (1 : Int) + (pickN (x13.hold) 12), zeroA⟩ : KAct)]).length) rc34) rfl rfl rfl rfl rfl rfl rfl) ?_
    refine l_nil ?_
    refine f_block ?_
    refine f_then ?_
    refine c_region ?_
    refine l_val (v := Nx (k + 1)) rfl rfl rfl (e_add (a := ((k : Nat) : Int)) (b := (1 : Int)) rfl rfl (i64n (by omega) (by omega))) ?_
    refine l_val (v := Nx (k + 1)) rfl rfl rfl (e_move) ?_
    refine l_nil ?_
    refine f_mask (L' := [rowF ActF 47 rp33 rc34 (ys ++ [(⟨fitK x13, 0, (1 : Int) + (pickN (x13.other) 5), (1 : Int) + (pickN (x13.hold) 12), zeroA⟩ : KAct)]), pt b2 (.cells #[.int .u8 (0), .int .i64 (0), .int .i64 (0), .slice none 0 0] 32), pt b1 (.cells #[Bx (o.kind), Ix (o.author), Ix (o.number), .slice va (o.acts.length) (vc)] 32), pt (blk (fa7 5)) (.cells #[Bx (o.kind), Ix ((1 : Int) + (pickN (o.author) 4)), Ix (n), .slice rp33 ((ys ++ [(⟨fitK x13, 0, (1 : Int) + (pickN (x13.other) 5), (1 : Int) + (pickN (x13.hold) 12), zeroA⟩ : KAct)]).length) rc34] 32)]) [false, false, true, true, true, true, false] rfl ?_
    exact f_cut ⟨(k + 1, (ys ++ [(⟨fitK x13, 0, (1 : Int) + (pickN (x13.other) 5), (1 : Int) + (pickN (x13.hold) 12), zeroA⟩ : KAct)]), rp33, rc34), ⟨⟨rfl, rfl, rfl, rfl, rfl⟩, rfl, ⟨by omega, by rw [hys, ← tk_next hx14, List.map_append, show List.map fitA [x13] = [fitA x13] from rfl, fitA_6 hc21 hc26] <;> rfl⟩⟩, (show zs8.length - (k + 1) < zs8.length - k from by omega)⟩
   ·
    refine c_seq ?_
    refine c_region ?_
    refine l_val (v := .pointer (some ⟨b19, 1, none⟩)) rfl rfl rfl (e_fieldPt (b := b19) (o := 0) rfl tt6) ?_
    refine l_val (v := Ix (x13.owner)) rfl rfl rfl (e_load1 tt2 (v := Ix (x13.owner)) rfl (k_pt 1 (cs := #[Bx (x13.kind), Ix (x13.owner), Ix (x13.other), Ix (x13.hold), Ix (x13.a.a0), Ix (x13.a.a1), Ix (x13.a.a2), Ix (x13.a.a3)]) (vs := [Ix (x13.owner)]) rfl rfl)) ?_
    have hpk34 := pickN_bd (x13.owner) (n := 5) (by decide)
    refine l_call rfl rfl rfl (cl_value (fst := []) (cap := []) (vs := [Ix (x13.owner), .int .i64 (5)]) (all := [Ix (x13.owner), .int .i64 (5)]) tt168 rfl rfl rfl) ?_
    intro w hw
    obtain ⟨β1, sb, kn, hw1, back⟩ := St.frame_all hw
    refine (pick_ok β1 w hw1 (x13.owner) 5 (by decide)).mono ?_
    rintro e w' ⟨rfl, hw'⟩
    refine ⟨_, rfl, _, back _ _ hw', ?_⟩
    clear hw hw1 hw' back kn sb
    refine l_val (v := Ix ((1 : Int) + (pickN (x13.owner) 5))) rfl rfl rfl (e_add (a := (1 : Int)) (b := (pickN (x13.owner) 5)) rfl rfl (i64w (by omega))) ?_
    refine l_val (v := .pointer (some ⟨b20, 1, none⟩)) rfl rfl rfl (e_fieldPt (b := b20) (o := 0) rfl tt6) ?_
    refine l_mu rfl rfl (m_store 0 tt2 (b := b20) (o := 1) (T := 47) (cs := #[Bx (fitK x13), .int .i64 (0), .int .i64 (0), .int .i64 (0), .int .i64 (0), .int .i64 (0), .int .i64 (0), .int .i64 (0)]) (cs' := #[Bx (fitK x13), Ix ((1 : Int) + (pickN (x13.owner) 5)), .int .i64 (0), .int .i64 (0), .int .i64 (0), .int .i64 (0), .int .i64 (0), .int .i64 (0)]) (v := Ix ((1 : Int) + (pickN (x13.owner) 5))) rfl rfl rfl rfl rfl rfl rfl) ?_
    refine l_nil ?_
    refine f_then ?_
    refine c_seq ?_
    refine c_seq ?_
    refine c_region ?_
    refine l_val (v := .int .i64 (0)) rfl rfl rfl (e_move) ?_
    refine l_nil ?_
    refine f_then ?_
    refine c_block ?_
    refine c_unroll 5 ?_
    refine un_succ 4 ?_
    refine c_seq ?_
    refine c_region ?_
    refine l_val (v := .bool true) rfl rfl rfl (e_lss (a := (0 : Int)) (b := (4 : Int)) rfl rfl) ?_
    refine l_nil ?_
    refine f_then ?_
    refine c_seq ?_
    refine c_yes rfl ?_
    refine c_skip ?_
    refine f_then ?_
    refine c_seq ?_
    refine c_block ?_
    refine c_seq ?_
    refine c_region ?_
    refine l_val (v := .int .i64 (0)) rfl rfl rfl (e_move) ?_
    refine l_val (v := .int .i64 (0)) rfl rfl rfl (e_assign) ?_
    refine l_nil ?_
    refine f_then ?_
    refine c_region ?_
    refine l_val (v := .int .i64 (0)) rfl rfl rfl (e_move) ?_
    refine l_val (v := .int .i64 (0)) rfl rfl rfl (e_move) ?_
    refine l_val (v := .pointer (some ⟨b19, 4, none⟩)) rfl rfl rfl (e_fieldPt (b := b19) (o := 0) rfl tt10) ?_
    refine l_val (v := .pointer (some ⟨b19, 4, none⟩)) rfl rfl rfl (e_indexArrK (b := b19) (o := 4) (k := 0) rfl rfl tt1 (by decide)) ?_
    refine l_val (v := Ix (x13.a.a0)) rfl rfl rfl (e_load1 tt2 (v := Ix (x13.a.a0)) rfl (k_pt 1 (cs := #[Bx (x13.kind), Ix (x13.owner), Ix (x13.other), Ix (x13.hold), Ix (x13.a.a0), Ix (x13.a.a1), Ix (x13.a.a2), Ix (x13.a.a3)]) (vs := [Ix (x13.a.a0)]) rfl rfl)) ?_
    have hpk35 := pickN_bd (x13.a.a0) (n := 1001) (by decide)
    refine l_call rfl rfl rfl (cl_value (fst := []) (cap := []) (vs := [Ix (x13.a.a0), .int .i64 (1001)]) (all := [Ix (x13.a.a0), .int .i64 (1001)]) tt168 rfl rfl rfl) ?_
    intro w hw
    obtain ⟨β1, sb, kn, hw1, back⟩ := St.frame_all hw
    refine (pick_ok β1 w hw1 (x13.a.a0) 1001 (by decide)).mono ?_
    rintro e w' ⟨rfl, hw'⟩
    refine ⟨_, rfl, _, back _ _ hw', ?_⟩
    clear hw hw1 hw' back kn sb
    refine l_val (v := .pointer (some ⟨b20, 4, none⟩)) rfl rfl rfl (e_fieldPt (b := b20) (o := 0) rfl tt10) ?_
    refine l_val (v := .pointer (some ⟨b20, 4, none⟩)) rfl rfl rfl (e_indexArrK (b := b20) (o := 4) (k := 0) rfl rfl tt1 (by decide)) ?_
    refine l_mu rfl rfl (m_store 0 tt2 (b := b20) (o := 4) (T := 47) (cs := #[Bx (fitK x13), Ix ((1 : Int) + (pickN (x13.owner) 5)), .int .i64 (0), .int .i64 (0), .int .i64 (0), .int .i64 (0), .int .i64 (0), .int .i64 (0)]) (cs' := #[Bx (fitK x13), Ix ((1 : Int) + (pickN (x13.owner) 5)), .int .i64 (0), .int .i64 (0), Ix (pickN (x13.a.a0) 1001), .int .i64 (0), .int .i64 (0), .int .i64 (0)]) (v := Ix (pickN (x13.a.a0) 1001)) rfl rfl rfl rfl rfl rfl rfl) ?_
    refine l_nil ?_
    refine f_block ?_
    refine f_then ?_
    refine c_region ?_
    refine l_val (v := .int .i64 (1)) rfl rfl rfl (e_add (a := (0 : Int)) (b := (1 : Int)) rfl rfl (by decide)) ?_
    refine l_val (v := .int .i64 (1)) rfl rfl rfl (e_move) ?_
    refine l_nil ?_
    refine f_cut ?_
    refine un_succ 3 ?_
    refine c_seq ?_
    refine c_region ?_
    refine l_val (v := .bool true) rfl rfl rfl (e_lss (a := (1 : Int)) (b := (4 : Int)) rfl rfl) ?_
    refine l_nil ?_
    refine f_then ?_
    refine c_seq ?_
    refine c_yes rfl ?_
    refine c_skip ?_
    refine f_then ?_
    refine c_seq ?_
    refine c_block ?_
    refine c_seq ?_
    refine c_region ?_
    refine l_val (v := .int .i64 (1)) rfl rfl rfl (e_move) ?_
    refine l_val (v := .int .i64 (1)) rfl rfl rfl (e_assign) ?_
    refine l_nil ?_
    refine f_then ?_
    refine c_region ?_
    refine l_val (v := .int .i64 (1)) rfl rfl rfl (e_move) ?_
    refine l_val (v := .int .i64 (1)) rfl rfl rfl (e_move) ?_
    refine l_val (v := .pointer (some ⟨b19, 4, none⟩)) rfl rfl rfl (e_fieldPt (b := b19) (o := 0) rfl tt10) ?_
    refine l_val (v := .pointer (some ⟨b19, 5, none⟩)) rfl rfl rfl (e_indexArrK (b := b19) (o := 4) (k := 1) rfl rfl tt1 (by decide)) ?_
    refine l_val (v := Ix (x13.a.a1)) rfl rfl rfl (e_load1 tt2 (v := Ix (x13.a.a1)) rfl (k_pt 1 (cs := #[Bx (x13.kind), Ix (x13.owner), Ix (x13.other), Ix (x13.hold), Ix (x13.a.a0), Ix (x13.a.a1), Ix (x13.a.a2), Ix (x13.a.a3)]) (vs := [Ix (x13.a.a1)]) rfl rfl)) ?_
    have hpk36 := pickN_bd (x13.a.a1) (n := 1001) (by decide)
    refine l_call rfl rfl rfl (cl_value (fst := []) (cap := []) (vs := [Ix (x13.a.a1), .int .i64 (1001)]) (all := [Ix (x13.a.a1), .int .i64 (1001)]) tt168 rfl rfl rfl) ?_
    intro w hw
    obtain ⟨β1, sb, kn, hw1, back⟩ := St.frame_all hw
    refine (pick_ok β1 w hw1 (x13.a.a1) 1001 (by decide)).mono ?_
    rintro e w' ⟨rfl, hw'⟩
    refine ⟨_, rfl, _, back _ _ hw', ?_⟩
    clear hw hw1 hw' back kn sb
    refine l_val (v := .pointer (some ⟨b20, 4, none⟩)) rfl rfl rfl (e_fieldPt (b := b20) (o := 0) rfl tt10) ?_
    refine l_val (v := .pointer (some ⟨b20, 5, none⟩)) rfl rfl rfl (e_indexArrK (b := b20) (o := 4) (k := 1) rfl rfl tt1 (by decide)) ?_
    refine l_mu rfl rfl (m_store 0 tt2 (b := b20) (o := 5) (T := 47) (cs := #[Bx (fitK x13), Ix ((1 : Int) + (pickN (x13.owner) 5)), .int .i64 (0), .int .i64 (0), Ix (pickN (x13.a.a0) 1001), .int .i64 (0), .int .i64 (0), .int .i64 (0)]) (cs' := #[Bx (fitK x13), Ix ((1 : Int) + (pickN (x13.owner) 5)), .int .i64 (0), .int .i64 (0), Ix (pickN (x13.a.a0) 1001), Ix (pickN (x13.a.a1) 1001), .int .i64 (0), .int .i64 (0)]) (v := Ix (pickN (x13.a.a1) 1001)) rfl rfl rfl rfl rfl rfl rfl) ?_
    refine l_nil ?_
    refine f_block ?_
    refine f_then ?_
    refine c_region ?_
    refine l_val (v := .int .i64 (2)) rfl rfl rfl (e_add (a := (1 : Int)) (b := (1 : Int)) rfl rfl (by decide)) ?_
    refine l_val (v := .int .i64 (2)) rfl rfl rfl (e_move) ?_
    refine l_nil ?_
    refine f_cut ?_
    refine un_succ 2 ?_
    refine c_seq ?_
    refine c_region ?_
    refine l_val (v := .bool true) rfl rfl rfl (e_lss (a := (2 : Int)) (b := (4 : Int)) rfl rfl) ?_
    refine l_nil ?_
    refine f_then ?_
    refine c_seq ?_
    refine c_yes rfl ?_
    refine c_skip ?_
    refine f_then ?_
    refine c_seq ?_
    refine c_block ?_
    refine c_seq ?_
    refine c_region ?_
    refine l_val (v := .int .i64 (2)) rfl rfl rfl (e_move) ?_
    refine l_val (v := .int .i64 (2)) rfl rfl rfl (e_assign) ?_
    refine l_nil ?_
    refine f_then ?_
    refine c_region ?_
    refine l_val (v := .int .i64 (2)) rfl rfl rfl (e_move) ?_
    refine l_val (v := .int .i64 (2)) rfl rfl rfl (e_move) ?_
    refine l_val (v := .pointer (some ⟨b19, 4, none⟩)) rfl rfl rfl (e_fieldPt (b := b19) (o := 0) rfl tt10) ?_
    refine l_val (v := .pointer (some ⟨b19, 6, none⟩)) rfl rfl rfl (e_indexArrK (b := b19) (o := 4) (k := 2) rfl rfl tt1 (by decide)) ?_
    refine l_val (v := Ix (x13.a.a2)) rfl rfl rfl (e_load1 tt2 (v := Ix (x13.a.a2)) rfl (k_pt 1 (cs := #[Bx (x13.kind), Ix (x13.owner), Ix (x13.other), Ix (x13.hold), Ix (x13.a.a0), Ix (x13.a.a1), Ix (x13.a.a2), Ix (x13.a.a3)]) (vs := [Ix (x13.a.a2)]) rfl rfl)) ?_
    have hpk37 := pickN_bd (x13.a.a2) (n := 1001) (by decide)
    refine l_call rfl rfl rfl (cl_value (fst := []) (cap := []) (vs := [Ix (x13.a.a2), .int .i64 (1001)]) (all := [Ix (x13.a.a2), .int .i64 (1001)]) tt168 rfl rfl rfl) ?_
    intro w hw
    obtain ⟨β1, sb, kn, hw1, back⟩ := St.frame_all hw
    refine (pick_ok β1 w hw1 (x13.a.a2) 1001 (by decide)).mono ?_
    rintro e w' ⟨rfl, hw'⟩
    refine ⟨_, rfl, _, back _ _ hw', ?_⟩
    clear hw hw1 hw' back kn sb
    refine l_val (v := .pointer (some ⟨b20, 4, none⟩)) rfl rfl rfl (e_fieldPt (b := b20) (o := 0) rfl tt10) ?_
    refine l_val (v := .pointer (some ⟨b20, 6, none⟩)) rfl rfl rfl (e_indexArrK (b := b20) (o := 4) (k := 2) rfl rfl tt1 (by decide)) ?_
    refine l_mu rfl rfl (m_store 0 tt2 (b := b20) (o := 6) (T := 47) (cs := #[Bx (fitK x13), Ix ((1 : Int) + (pickN (x13.owner) 5)), .int .i64 (0), .int .i64 (0), Ix (pickN (x13.a.a0) 1001), Ix (pickN (x13.a.a1) 1001), .int .i64 (0), .int .i64 (0)]) (cs' := #[Bx (fitK x13), Ix ((1 : Int) + (pickN (x13.owner) 5)), .int .i64 (0), .int .i64 (0), Ix (pickN (x13.a.a0) 1001), Ix (pickN (x13.a.a1) 1001), Ix (pickN (x13.a.a2) 1001), .int .i64 (0)]) (v := Ix (pickN (x13.a.a2) 1001)) rfl rfl rfl rfl rfl rfl rfl) ?_
    refine l_nil ?_
    refine f_block ?_
    refine f_then ?_
    refine c_region ?_
    refine l_val (v := .int .i64 (3)) rfl rfl rfl (e_add (a := (2 : Int)) (b := (1 : Int)) rfl rfl (by decide)) ?_
    refine l_val (v := .int .i64 (3)) rfl rfl rfl (e_move) ?_
    refine l_nil ?_
    refine f_cut ?_
    refine un_succ 1 ?_
    refine c_seq ?_
    refine c_region ?_
    refine l_val (v := .bool true) rfl rfl rfl (e_lss (a := (3 : Int)) (b := (4 : Int)) rfl rfl) ?_
    refine l_nil ?_
    refine f_then ?_
    refine c_seq ?_
    refine c_yes rfl ?_
    refine c_skip ?_
    refine f_then ?_
    refine c_seq ?_
    refine c_block ?_
    refine c_seq ?_
    refine c_region ?_
    refine l_val (v := .int .i64 (3)) rfl rfl rfl (e_move) ?_
    refine l_val (v := .int .i64 (3)) rfl rfl rfl (e_assign) ?_
    refine l_nil ?_
    refine f_then ?_
    refine c_region ?_
    refine l_val (v := .int .i64 (3)) rfl rfl rfl (e_move) ?_
    refine l_val (v := .int .i64 (3)) rfl rfl rfl (e_move) ?_
    refine l_val (v := .pointer (some ⟨b19, 4, none⟩)) rfl rfl rfl (e_fieldPt (b := b19) (o := 0) rfl tt10) ?_
    refine l_val (v := .pointer (some ⟨b19, 7, none⟩)) rfl rfl rfl (e_indexArrK (b := b19) (o := 4) (k := 3) rfl rfl tt1 (by decide)) ?_
    refine l_val (v := Ix (x13.a.a3)) rfl rfl rfl (e_load1 tt2 (v := Ix (x13.a.a3)) rfl (k_pt 1 (cs := #[Bx (x13.kind), Ix (x13.owner), Ix (x13.other), Ix (x13.hold), Ix (x13.a.a0), Ix (x13.a.a1), Ix (x13.a.a2), Ix (x13.a.a3)]) (vs := [Ix (x13.a.a3)]) rfl rfl)) ?_
    have hpk38 := pickN_bd (x13.a.a3) (n := 1001) (by decide)
    refine l_call rfl rfl rfl (cl_value (fst := []) (cap := []) (vs := [Ix (x13.a.a3), .int .i64 (1001)]) (all := [Ix (x13.a.a3), .int .i64 (1001)]) tt168 rfl rfl rfl) ?_
    intro w hw
    obtain ⟨β1, sb, kn, hw1, back⟩ := St.frame_all hw
    refine (pick_ok β1 w hw1 (x13.a.a3) 1001 (by decide)).mono ?_
    rintro e w' ⟨rfl, hw'⟩
    refine ⟨_, rfl, _, back _ _ hw', ?_⟩
    clear hw hw1 hw' back kn sb
    refine l_val (v := .pointer (some ⟨b20, 4, none⟩)) rfl rfl rfl (e_fieldPt (b := b20) (o := 0) rfl tt10) ?_
    refine l_val (v := .pointer (some ⟨b20, 7, none⟩)) rfl rfl rfl (e_indexArrK (b := b20) (o := 4) (k := 3) rfl rfl tt1 (by decide)) ?_
    refine l_mu rfl rfl (m_store 0 tt2 (b := b20) (o := 7) (T := 47) (cs := #[Bx (fitK x13), Ix ((1 : Int) + (pickN (x13.owner) 5)), .int .i64 (0), .int .i64 (0), Ix (pickN (x13.a.a0) 1001), Ix (pickN (x13.a.a1) 1001), Ix (pickN (x13.a.a2) 1001), .int .i64 (0)]) (cs' := #[Bx (fitK x13), Ix ((1 : Int) + (pickN (x13.owner) 5)), .int .i64 (0), .int .i64 (0), Ix (pickN (x13.a.a0) 1001), Ix (pickN (x13.a.a1) 1001), Ix (pickN (x13.a.a2) 1001), Ix (pickN (x13.a.a3) 1001)]) (v := Ix (pickN (x13.a.a3) 1001)) rfl rfl rfl rfl rfl rfl rfl) ?_
    refine l_nil ?_
    refine f_block ?_
    refine f_then ?_
    refine c_region ?_
    refine l_val (v := .int .i64 (4)) rfl rfl rfl (e_add (a := (3 : Int)) (b := (1 : Int)) rfl rfl (by decide)) ?_
    refine l_val (v := .int .i64 (4)) rfl rfl rfl (e_move) ?_
    refine l_nil ?_
    refine f_cut ?_
    refine un_succ 0 ?_
    refine c_seq ?_
    refine c_region ?_
    refine l_val (v := .bool false) rfl rfl rfl (e_lss (a := (4 : Int)) (b := (4 : Int)) rfl rfl) ?_
    refine l_nil ?_
    refine f_then ?_
    refine c_seq ?_
    refine c_no rfl ?_
    refine c_exit ?_
    refine f_then_exit ?_
    refine f_then_exit ?_
    refine f_exit ?_
    refine f_then ?_
    refine c_seq ?_
    refine c_region ?_
    refine l_val (v := .pointer (some ⟨b20, 0, none⟩)) rfl rfl rfl (e_fieldPt (b := b20) (o := 0) rfl tt4) ?_
    refine l_val (v := Bx (fitK x13)) rfl rfl rfl (e_load1 tt5 (v := Bx (fitK x13)) rfl (k_pt 0 (cs := #[Bx (fitK x13), Ix ((1 : Int) + (pickN (x13.owner) 5)), .int .i64 (0), .int .i64 (0), Ix (pickN (x13.a.a0) 1001), Ix (pickN (x13.a.a1) 1001), Ix (pickN (x13.a.a2) 1001), Ix (pickN (x13.a.a3) 1001)]) (vs := [Bx (fitK x13)]) rfl rfl)) ?_
    refine l_val (v := .bool (decide (((fitK x13).toNat : Int) = (3 : Int)))) rfl rfl rfl (e_eql (a := ((fitK x13).toNat : Int)) (b := (3 : Int)) rfl rfl) ?_
    refine l_nil ?_
    refine f_then ?_
    refine c_if (((fitK x13).toNat : Int) = (3 : Int)) rfl (fun hc40 => ?_) (fun hc40 => ?_)
    ·
     have hpk40 := pickN_bd (x13.other) (n := 4) (by decide)
     have hpk41 := pickN_bd (x13.other) (n := 4) (by decide)
     have htm42 := tmod_bd (((1 : Int) + (pickN (x13.owner) 5)) + (pickN (x13.other) 4)) (n := 5) (by decide)
     have htm43 := tmod_bd (((1 : Int) + (pickN (x13.owner) 5)) + (pickN (x13.other) 4)) (n := 5) (by decide)
     refine c_any [⟨[], [], [0], [57], fun f => f 57 = .pointer (some ⟨b20, 1, none⟩)⟩, ⟨[0], [0], [], [58], fun f => f 58 = Ix ((1 : Int) + (pickN (x13.owner) 5))⟩, ⟨[], [], [1], [59], fun f => f 59 = .pointer (some ⟨b19, 2, none⟩)⟩, ⟨[2], [2], [], [60], fun f => f 60 = Ix (x13.other)⟩, ⟨[2, 3], [3], [], [61], fun f => f 61 = Ix (pickN (x13.other) 4)⟩, ⟨[0, 1, 2, 3, 4], [1, 4], [], [62], fun f => f 62 = Ix (((1 : Int) + (pickN (x13.owner) 5)) + (pickN (x13.other) 4))⟩, ⟨[0, 1, 2, 3, 4, 5], [5], [], [63], fun f => f 63 = Ix (Int.tmod (((1 : Int) + (pickN (x13.owner) 5)) + (pickN (x13.other) 4)) 5)⟩, ⟨[0, 1, 2, 3, 4, 5, 6], [6], [], [64], fun f => f 64 = Ix ((1 : Int) + (Int.tmod (((1 : Int) + (pickN (x13.owner) 5)) + (pickN (x13.other) 4)) 5))⟩, ⟨[0, 1, 2, 3, 4, 5, 6, 7], [], [0], [65], fun f => f 65 = .pointer (some ⟨b20, 2, none⟩)⟩, ⟨[0, 1, 2, 3, 4, 5, 6, 7, 8], [8, 7], [], [], fun _ => True⟩] [⟨none, (some 9), [1, 9], [], fun _ => pt b20 (.cells #[Bx (fitK x13), Ix ((1 : Int) + (pickN (x13.owner) 5)), .int .i64 (0), .int .i64 (0), Ix (pickN (x13.a.a0) 1001), Ix (pickN (x13.a.a1) 1001), Ix (pickN (x13.a.a2) 1001), Ix (pickN (x13.a.a3) 1001)] 47)⟩, ⟨none, none, [3], [], fun _ => pt b19 (.cells #[Bx (x13.kind), Ix (x13.owner), Ix (x13.other), Ix (x13.hold), Ix (x13.a.a0), Ix (x13.a.a1), Ix (x13.a.a2), Ix (x13.a.a3)] 47)⟩, ⟨none, none, [], [], fun _ => rowF ActF 47 p c ys⟩, ⟨none, none, [], [], fun _ => pt b2 (.cells #[.int .u8 (0), .int .i64 (0), .int .i64 (0), .slice none 0 0] 32)⟩, ⟨none, none, [], [], fun _ => pt b1 (.cells #[Bx (o.kind), Ix (o.author), Ix (o.number), .slice va (o.acts.length) (vc)] 32)⟩, ⟨none, none, [], [], fun _ => pt (blk (fa7 5)) (.cells #[Bx (o.kind), Ix ((1 : Int) + (pickN (o.author) 4)), Ix (n), .slice p (ys.length) c] 32)⟩, ⟨(some 9), none, [], [], fun _ => pt b20 (.cells #[Bx (fitK x13), Ix ((1 : Int) + (pickN (x13.owner) 5)), Ix ((1 : Int) + (Int.tmod (((1 : Int) + (pickN (x13.owner) 5)) + (pickN (x13.other) 4)) 5)), .int .i64 (0), Ix (pickN (x13.a.a0) 1001), Ix (pickN (x13.a.a1) 1001), Ix (pickN (x13.a.a2) 1001), Ix (pickN (x13.a.a3) 1001)] 47)⟩] [(8, .pointer (some ⟨b20, 0, none⟩)), (7, .pointer (some ⟨b19, 0, none⟩)), (4, .pointer (some ⟨b2, 0, none⟩)), (5, .pointer (some ⟨(blk (fa7 5)), 0, none⟩)), (24, .slice va (zs8.length) (vc)), (25, Nx (zs8.length)), (26, Nx (k))] [2, 3, 0, 4, 5, 6] [] (by kernel_rfl) (by kernel_rfl) (by kernel_rfl) (by kernel_rfl) rfl ⟨rfl, rfl, rfl, rfl, rfl, rfl, rfl, trivial⟩ ⟨?_, ?_, ?_, ?_, ?_, ?_, ?_, ?_, ?_, ?_, trivial⟩ ?_
     ·rintro f M - ⟨i0, -⟩
      have hs8 : f 8 = .pointer (some ⟨b20, 0, none⟩) := i0
      refine ob_start (L' := M) (by rfl) (up_cons rfl hs8) ?_
      refine l_val (v := .pointer (some ⟨b20, 1, none⟩)) rfl rfl rfl (e_fieldPt (b := b20) (o := 0) rfl tt6) ?_
      refine l_nil ?_
      exact f_owes_d (up_cons rfl hs8) rfl (List.Perm.refl _)
     ·rintro f M ⟨k0, -⟩ -
      have hs57 : f 57 = .pointer (some ⟨b20, 1, none⟩) := k0
      refine ob_start (L' := pt b20 (.cells #[Bx (fitK x13), Ix ((1 : Int) + (pickN (x13.owner) 5)), .int .i64 (0), .int .i64 (0), Ix (pickN (x13.a.a0) 1001), Ix (pickN (x13.a.a1) 1001), Ix (pickN (x13.a.a2) 1001), Ix (pickN (x13.a.a3) 1001)] 47) :: M) (by rfl) (up_cons rfl hs57) ?_
      refine l_val (v := Ix ((1 : Int) + (pickN (x13.owner) 5))) rfl rfl rfl (e_load1 tt2 (v := Ix ((1 : Int) + (pickN (x13.owner) 5))) rfl (k_pt 0 (cs := #[Bx (fitK x13), Ix ((1 : Int) + (pickN (x13.owner) 5)), .int .i64 (0), .int .i64 (0), Ix (pickN (x13.a.a0) 1001), Ix (pickN (x13.a.a1) 1001), Ix (pickN (x13.a.a2) 1001), Ix (pickN (x13.a.a3) 1001)]) (vs := [Ix ((1 : Int) + (pickN (x13.owner) 5))]) rfl rfl)) ?_
      refine l_nil ?_
      exact f_owes_d (up_cons rfl hs57) rfl (perm_front 0 rfl)
     ·rintro f M - ⟨i0, -⟩
      have hs7 : f 7 = .pointer (some ⟨b19, 0, none⟩) := i0
      refine ob_start (L' := M) (by rfl) (up_cons rfl hs7) ?_
      refine l_val (v := .pointer (some ⟨b19, 2, none⟩)) rfl rfl rfl (e_fieldPt (b := b19) (o := 0) rfl tt8) ?_
      refine l_nil ?_
      exact f_owes_d (up_cons rfl hs7) rfl (List.Perm.refl _)
     ·rintro f M ⟨k0, -⟩ -
      have hs59 : f 59 = .pointer (some ⟨b19, 2, none⟩) := k0
      refine ob_start (L' := pt b19 (.cells #[Bx (x13.kind), Ix (x13.owner), Ix (x13.other), Ix (x13.hold), Ix (x13.a.a0), Ix (x13.a.a1), Ix (x13.a.a2), Ix (x13.a.a3)] 47) :: M) (by rfl) (up_cons rfl hs59) ?_
      refine l_val (v := Ix (x13.other)) rfl rfl rfl (e_load1 tt2 (v := Ix (x13.other)) rfl (k_pt 0 (cs := #[Bx (x13.kind), Ix (x13.owner), Ix (x13.other), Ix (x13.hold), Ix (x13.a.a0), Ix (x13.a.a1), Ix (x13.a.a2), Ix (x13.a.a3)]) (vs := [Ix (x13.other)]) rfl rfl)) ?_
      refine l_nil ?_
      exact f_owes_d (up_cons rfl hs59) rfl (perm_front 0 rfl)
     ·rintro f M ⟨k0, -⟩ -
      have hs60 : f 60 = Ix (x13.other) := k0
      refine ob_start (L' := M) (by rfl) (up_cons rfl hs60) ?_
      refine l_call rfl rfl rfl (cl_value (fst := []) (cap := []) (vs := [Ix (x13.other), .int .i64 (4)]) (all := [Ix (x13.other), .int .i64 (4)]) tt168 rfl rfl rfl) ?_
      intro w hw
      obtain ⟨β1, sb, kn, hw1, back⟩ := St.frame_all hw
      refine (pick_ok β1 w hw1 (x13.other) 4 (by decide)).mono ?_
      rintro e w' ⟨rfl, hw'⟩
      refine ⟨_, rfl, _, back _ _ hw', ?_⟩
      clear hw hw1 hw' back kn sb
      refine l_nil ?_
      exact f_owes_d (up_cons rfl hs60) rfl (List.Perm.refl _)
     ·rintro f M ⟨k0, k1, -⟩ -
      have hs58 : f 58 = Ix ((1 : Int) + (pickN (x13.owner) 5)) := k0
      have hs61 : f 61 = Ix (pickN (x13.other) 4) := k1
      refine ob_start (L' := M) (by rfl) (up_cons (up_cons rfl hs58) hs61) ?_
      refine l_val (v := Ix (((1 : Int) + (pickN (x13.owner) 5)) + (pickN (x13.other) 4))) rfl rfl rfl (e_add (a := ((1 : Int) + (pickN (x13.owner) 5))) (b := (pickN (x13.other) 4)) rfl rfl (i64w (by omega))) ?_
      refine l_nil ?_
      exact f_owes_d (up_cons (up_cons rfl hs58) hs61) rfl (List.Perm.refl _)
     ·rintro f M ⟨k0, -⟩ -
      have hs62 : f 62 = Ix (((1 : Int) + (pickN (x13.owner) 5)) + (pickN (x13.other) 4)) := k0
      refine ob_start (L' := M) (by rfl) (up_cons rfl hs62) ?_
      refine l_val (v := Ix (Int.tmod (((1 : Int) + (pickN (x13.owner) 5)) + (pickN (x13.other) 4)) 5)) rfl rfl rfl (e_rem (a := (((1 : Int) + (pickN (x13.owner) 5)) + (pickN (x13.other) 4))) (b := (5 : Int)) rfl rfl (by omega) rfl) ?_
      refine l_nil ?_
      exact f_owes_d (up_cons rfl hs62) rfl (List.Perm.refl _)
     ·rintro f M ⟨k0, -⟩ -
      have hs63 : f 63 = Ix (Int.tmod (((1 : Int) + (pickN (x13.owner) 5)) + (pickN (x13.other) 4)) 5) := k0
      refine ob_start (L' := M) (by rfl) (up_cons rfl hs63) ?_
      refine l_val (v := Ix ((1 : Int) + (Int.tmod (((1 : Int) + (pickN (x13.owner) 5)) + (pickN (x13.other) 4)) 5))) rfl rfl rfl (e_add (a := (1 : Int)) (b := (Int.tmod (((1 : Int) + (pickN (x13.owner) 5)) + (pickN (x13.other) 4)) 5)) rfl rfl (i64w (by omega))) ?_
      refine l_nil ?_
      exact f_owes_d (up_cons rfl hs63) rfl (List.Perm.refl _)
     ·rintro f M - ⟨i0, -⟩
      have hs8 : f 8 = .pointer (some ⟨b20, 0, none⟩) := i0
      refine ob_start (L' := M) (by rfl) (up_cons rfl hs8) ?_
      refine l_val (v := .pointer (some ⟨b20, 2, none⟩)) rfl rfl rfl (e_fieldPt (b := b20) (o := 0) rfl tt8) ?_
      refine l_nil ?_
      exact f_owes_d (up_cons rfl hs8) rfl (List.Perm.refl _)
     ·rintro f M ⟨k0, k1, -⟩ -
      have hs65 : f 65 = .pointer (some ⟨b20, 2, none⟩) := k0
      have hs64 : f 64 = Ix ((1 : Int) + (Int.tmod (((1 : Int) + (pickN (x13.owner) 5)) + (pickN (x13.other) 4)) 5)) := k1
      refine ob_start (L' := pt b20 (.cells #[Bx (fitK x13), Ix ((1 : Int) + (pickN (x13.owner) 5)), .int .i64 (0), .int .i64 (0), Ix (pickN (x13.a.a0) 1001), Ix (pickN (x13.a.a1) 1001), Ix (pickN (x13.a.a2) 1001), Ix (pickN (x13.a.a3) 1001)] 47) :: M) (by rfl) (up_cons (up_cons rfl hs65) hs64) ?_
      refine l_mu rfl rfl (m_store 0 tt2 (b := b20) (o := 2) (T := 47) (cs := #[Bx (fitK x13), Ix ((1 : Int) + (pickN (x13.owner) 5)), .int .i64 (0), .int .i64 (0), Ix (pickN (x13.a.a0) 1001), Ix (pickN (x13.a.a1) 1001), Ix (pickN (x13.a.a2) 1001), Ix (pickN (x13.a.a3) 1001)]) (cs' := #[Bx (fitK x13), Ix ((1 : Int) + (pickN (x13.owner) 5)), Ix ((1 : Int) + (Int.tmod (((1 : Int) + (pickN (x13.owner) 5)) + (pickN (x13.other) 4)) 5)), .int .i64 (0), Ix (pickN (x13.a.a0) 1001), Ix (pickN (x13.a.a1) 1001), Ix (pickN (x13.a.a2) 1001), Ix (pickN (x13.a.a3) 1001)]) (v := Ix ((1 : Int) + (Int.tmod (((1 : Int) + (pickN (x13.owner) 5)) + (pickN (x13.other) 4)) 5))) rfl rfl rfl rfl rfl rfl rfl) ?_
      refine l_nil ?_
      exact f_owes_n (up_cons (up_cons rfl hs65) hs64) trivial (perm_front 0 rfl)
     rintro fa45 ⟨-, -, -, -, -, -, -, -, -, -, -⟩ ⟨j0, j1, j2, j3, j4, j5, -⟩
     refine f_re (L' := [pt b19 (.cells #[Bx (x13.kind), Ix (x13.owner), Ix (x13.other), Ix (x13.hold), Ix (x13.a.a0), Ix (x13.a.a1), Ix (x13.a.a2), Ix (x13.a.a3)] 47), rowF ActF 47 p c ys, pt b2 (.cells #[.int .u8 (0), .int .i64 (0), .int .i64 (0), .slice none 0 0] 32), pt b1 (.cells #[Bx (o.kind), Ix (o.author), Ix (o.number), .slice va (o.acts.length) (vc)] 32), pt (blk (fa7 5)) (.cells #[Bx (o.kind), Ix ((1 : Int) + (pickN (o.author) 4)), Ix (n), .slice p (ys.length) c] 32), pt b20 (.cells #[Bx (fitK x13), Ix ((1 : Int) + (pickN (x13.owner) 5)), Ix ((1 : Int) + (Int.tmod (((1 : Int) + (pickN (x13.owner) 5)) + (pickN (x13.other) 4)) 5)), .int .i64 (0), Ix (pickN (x13.a.a0) 1001), Ix (pickN (x13.a.a1) 1001), Ix (pickN (x13.a.a2) 1001), Ix (pickN (x13.a.a3) 1001)] 47)]) (by rfl) ?_
     refine f_rebase (d := 4) (v := .pointer (some ⟨b2, 0, none⟩)) j0 ?_
     refine f_rebase (d := 5) (v := .pointer (some ⟨(blk (fa7 5)), 0, none⟩)) j1 ?_
     refine f_rebase (d := 8) (v := .pointer (some ⟨b20, 0, none⟩)) j2 ?_
     refine f_rebase (d := 24) (v := .slice va (zs8.length) (vc)) j3 ?_
     refine f_rebase (d := 25) (v := Nx (zs8.length)) j4 ?_
     refine f_rebase (d := 26) (v := Nx (k)) j5 ?_
     refine f_block ?_
     refine f_then ?_
     refine c_region ?_
     refine l_val (v := .pointer (some ⟨(blk (fa7 5)), 3, none⟩)) rfl rfl rfl (e_fieldPt (b := (blk (fa7 5))) (o := 0) rfl tt171) ?_
     refine l_val (v := .slice p (ys.length) c) rfl rfl rfl (e_load1 tt23 (v := .slice p (ys.length) c) rfl (k_pt 4 (cs := #[Bx (o.kind), Ix ((1 : Int) + (pickN (o.author) 4)), Ix (n), .slice p (ys.length) c]) (vs := [.slice p (ys.length) c]) rfl rfl)) ?_
     refine l_val (v := .agg #[Bx (fitK x13), Ix ((1 : Int) + (pickN (x13.owner) 5)), Ix ((1 : Int) + (Int.tmod (((1 : Int) + (pickN (x13.owner) 5)) + (pickN (x13.other) 4)) 5)), .int .i64 (0), Ix (pickN (x13.a.a0) 1001), Ix (pickN (x13.a.a1) 1001), Ix (pickN (x13.a.a2) 1001), Ix (pickN (x13.a.a3) 1001)]) rfl rfl rfl (e_load tt17 (cs := [Bx (fitK x13), Ix ((1 : Int) + (pickN (x13.owner) 5)), Ix ((1 : Int) + (Int.tmod (((1 : Int) + (pickN (x13.owner) 5)) + (pickN (x13.other) 4)) 5)), .int .i64 (0), Ix (pickN (x13.a.a0) 1001), Ix (pickN (x13.a.a1) 1001), Ix (pickN (x13.a.a2) 1001), Ix (pickN (x13.a.a3) 1001)]) rfl (k_pt 5 (cs := #[Bx (fitK x13), Ix ((1 : Int) + (pickN (x13.owner) 5)), Ix ((1 : Int) + (Int.tmod (((1 : Int) + (pickN (x13.owner) 5)) + (pickN (x13.other) 4)) 5)), .int .i64 (0), Ix (pickN (x13.a.a0) 1001), Ix (pickN (x13.a.a1) 1001), Ix (pickN (x13.a.a2) 1001), Ix (pickN (x13.a.a3) 1001)]) (vs := [Bx (fitK x13), Ix ((1 : Int) + (pickN (x13.owner) 5)), Ix ((1 : Int) + (Int.tmod (((1 : Int) + (pickN (x13.owner) 5)) + (pickN (x13.other) 4)) 5)), .int .i64 (0), Ix (pickN (x13.a.a0) 1001), Ix (pickN (x13.a.a1) 1001), Ix (pickN (x13.a.a2) 1001), Ix (pickN (x13.a.a3) 1001)]) rfl rfl) rfl) ?_
     refine l_mv rfl rfl rfl (m_slices tt16 tt47 (vs := [(0, .agg #[Bx (fitK x13), Ix ((1 : Int) + (pickN (x13.owner) 5)), Ix ((1 : Int) + (Int.tmod (((1 : Int) + (pickN (x13.owner) 5)) + (pickN (x13.other) 4)) 5)), .int .i64 (0), Ix (pickN (x13.a.a0) 1001), Ix (pickN (x13.a.a1) 1001), Ix (pickN (x13.a.a2) 1001), Ix (pickN (x13.a.a3) 1001)])]) (cells := #[Bx (fitK x13), Ix ((1 : Int) + (pickN (x13.owner) 5)), Ix ((1 : Int) + (Int.tmod (((1 : Int) + (pickN (x13.owner) 5)) + (pickN (x13.other) 4)) 5)), .int .i64 (0), Ix (pickN (x13.a.a0) 1001), Ix (pickN (x13.a.a1) 1001), Ix (pickN (x13.a.a2) 1001), Ix (pickN (x13.a.a3) 1001)]) rfl rfl rfl (by kernel_rfl)) ?_
     rintro _ _ ⟨b46, rfl, rfl⟩
     refine l_mv rfl rfl rfl (m_appendFlN (F := ActF) 2 tt16 tt30 (p := p) (m := ys.length) (xs := ys) (ys := [(⟨fitK x13, (1 : Int) + (pickN (x13.owner) 5), (1 : Int) + (Int.tmod (((1 : Int) + (pickN (x13.owner) 5)) + (pickN (x13.other) 4)) 5), 0, (⟨pickN (x13.a.a0) 1001, pickN (x13.a.a1) 1001, pickN (x13.a.a2) 1001, pickN (x13.a.a3) 1001⟩ : KAm)⟩ : KAct)]) (ao := (some ⟨b46, 0, none⟩)) (k := 1) (c := 1) rfl rfl rfl rfl rfl (k_ptFl (z := (⟨fitK x13, (1 : Int) + (pickN (x13.owner) 5), (1 : Int) + (Int.tmod (((1 : Int) + (pickN (x13.owner) 5)) + (pickN (x13.other) 4)) 5), 0, (⟨pickN (x13.a.a0) 1001, pickN (x13.a.a1) 1001, pickN (x13.a.a2) 1001, pickN (x13.a.a3) 1001⟩ : KAm)⟩ : KAct)) 0 rfl rfl) (by first | omega | simp only [List.length_nil, List.length_cons, List.length_append, List.length_set]; omega) (by first | omega | simp only [List.length_nil, List.length_cons, List.length_append, List.length_set]; omega)) ?_
     rintro _ _ ⟨rp47, rc48, rfl, rfl⟩
     refine l_val (v := .pointer (some ⟨(blk (fa7 5)), 3, none⟩)) rfl rfl rfl (e_fieldPt (b := (blk (fa7 5))) (o := 0) rfl tt171) ?_
     refine l_mu rfl rfl (m_store 5 tt23 (b := (blk (fa7 5))) (o := 3) (T := 32) (cs := #[Bx (o.kind), Ix ((1 : Int) + (pickN (o.author) 4)), Ix (n), .slice p (ys.length) c]) (cs' := #[Bx (o.kind), Ix ((1 : Int) + (pickN (o.author) 4)), Ix (n), .slice rp47 ((ys ++ [(⟨fitK x13, (1 : Int) + (pickN (x13.owner) 5), (1 : Int) + (Int.tmod (((1 : Int) + (pickN (x13.owner) 5)) + (pickN (x13.other) 4)) 5), 0, (⟨pickN (x13.a.a0) 1001, pickN (x13.a.a1) 1001, pickN (x13.a.a2) 1001, pickN (x13.a.a3) 1001⟩ : KAm)⟩ : KAct)]).length) rc48]) (v := .slice rp47 ((ys ++ [(⟨fitK x13, (1 : Int) + (pickN (x13.owner) 5), (1 : Int) + (Int.tmod (((1 : Int) + (pickN (x13.owner) 5)) + (pickN (x13.other) 4)) 5), 0, (⟨pickN (x13.a.a0) 1001, pickN (x13.a.a1) 1001, pickN (x13.a.a2) 1001, pickN (x13.a.a3) 1001⟩ : KAm)⟩ : KAct)]).length) rc48) rfl rfl rfl rfl rfl rfl rfl) ?_
     refine l_nil ?_
     refine f_block ?_
     refine f_then ?_
     refine c_region ?_
     refine l_val (v := Nx (k + 1)) rfl rfl rfl (e_add (a := ((k : Nat) : Int)) (b := (1 : Int)) rfl rfl (i64n (by omega) (by omega))) ?_
     refine l_val (v := Nx (k + 1)) rfl rfl rfl (e_move) ?_
     refine l_nil ?_
     refine f_mask (L' := [rowF ActF 47 rp47 rc48 (ys ++ [(⟨fitK x13, (1 : Int) + (pickN (x13.owner) 5), (1 : Int) + (Int.tmod (((1 : Int) + (pickN (x13.owner) 5)) + (pickN (x13.other) 4)) 5), 0, (⟨pickN (x13.a.a0) 1001, pickN (x13.a.a1) 1001, pickN (x13.a.a2) 1001, pickN (x13.a.a3) 1001⟩ : KAm)⟩ : KAct)]), pt b2 (.cells #[.int .u8 (0), .int .i64 (0), .int .i64 (0), .slice none 0 0] 32), pt b1 (.cells #[Bx (o.kind), Ix (o.author), Ix (o.number), .slice va (o.acts.length) (vc)] 32), pt (blk (fa7 5)) (.cells #[Bx (o.kind), Ix ((1 : Int) + (pickN (o.author) 4)), Ix (n), .slice rp47 ((ys ++ [(⟨fitK x13, (1 : Int) + (pickN (x13.owner) 5), (1 : Int) + (Int.tmod (((1 : Int) + (pickN (x13.owner) 5)) + (pickN (x13.other) 4)) 5), 0, (⟨pickN (x13.a.a0) 1001, pickN (x13.a.a1) 1001, pickN (x13.a.a2) 1001, pickN (x13.a.a3) 1001⟩ : KAm)⟩ : KAct)]).length) rc48] 32)]) [false, false, true, true, true, true, false] rfl ?_
     exact f_cut ⟨(k + 1, (ys ++ [(⟨fitK x13, (1 : Int) + (pickN (x13.owner) 5), (1 : Int) + (Int.tmod (((1 : Int) + (pickN (x13.owner) 5)) + (pickN (x13.other) 4)) 5), 0, (⟨pickN (x13.a.a0) 1001, pickN (x13.a.a1) 1001, pickN (x13.a.a2) 1001, pickN (x13.a.a3) 1001⟩ : KAm)⟩ : KAct)]), rp47, rc48), ⟨⟨rfl, rfl, rfl, rfl, rfl⟩, rfl, ⟨by omega, by rw [hys, ← tk_next hx14, List.map_append, show List.map fitA [x13] = [fitA x13] from rfl, fitA_3 hc21 hc26 hc40] <;> rfl⟩⟩, (show zs8.length - (k + 1) < zs8.length - k from by omega)⟩
    ·
     refine c_skip ?_
     refine f_block ?_
     refine f_then ?_
     refine c_region ?_
     refine l_val (v := .pointer (some ⟨(blk (fa7 5)), 3, none⟩)) rfl rfl rfl (e_fieldPt (b := (blk (fa7 5))) (o := 0) rfl tt171) ?_
     refine l_val (v := .slice p (ys.length) c) rfl rfl rfl (e_load1 tt23 (v := .slice p (ys.length) c) rfl (k_pt 5 (cs := #[Bx (o.kind), Ix ((1 : Int) + (pickN (o.author) 4)), Ix (n), .slice p (ys.length) c]) (vs := [.slice p (ys.length) c]) rfl rfl)) ?_
     refine l_val (v := .agg #[Bx (fitK x13), Ix ((1 : Int) + (pickN (x13.owner) 5)), .int .i64 (0), .int .i64 (0), Ix (pickN (x13.a.a0) 1001), Ix (pickN (x13.a.a1) 1001), Ix (pickN (x13.a.a2) 1001), Ix (pickN (x13.a.a3) 1001)]) rfl rfl rfl (e_load tt17 (cs := [Bx (fitK x13), Ix ((1 : Int) + (pickN (x13.owner) 5)), .int .i64 (0), .int .i64 (0), Ix (pickN (x13.a.a0) 1001), Ix (pickN (x13.a.a1) 1001), Ix (pickN (x13.a.a2) 1001), Ix (pickN (x13.a.a3) 1001)]) rfl (k_pt 0 (cs := #[Bx (fitK x13), Ix ((1 : Int) + (pickN (x13.owner) 5)), .int .i64 (0), .int .i64 (0), Ix (pickN (x13.a.a0) 1001), Ix (pickN (x13.a.a1) 1001), Ix (pickN (x13.a.a2) 1001), Ix (pickN (x13.a.a3) 1001)]) (vs := [Bx (fitK x13), Ix ((1 : Int) + (pickN (x13.owner) 5)), .int .i64 (0), .int .i64 (0), Ix (pickN (x13.a.a0) 1001), Ix (pickN (x13.a.a1) 1001), Ix (pickN (x13.a.a2) 1001), Ix (pickN (x13.a.a3) 1001)]) rfl rfl) rfl) ?_
     refine l_mv rfl rfl rfl (m_slices tt16 tt47 (vs := [(0, .agg #[Bx (fitK x13), Ix ((1 : Int) + (pickN (x13.owner) 5)), .int .i64 (0), .int .i64 (0), Ix (pickN (x13.a.a0) 1001), Ix (pickN (x13.a.a1) 1001), Ix (pickN (x13.a.a2) 1001), Ix (pickN (x13.a.a3) 1001)])]) (cells := #[Bx (fitK x13), Ix ((1 : Int) + (pickN (x13.owner) 5)), .int .i64 (0), .int .i64 (0), Ix (pickN (x13.a.a0) 1001), Ix (pickN (x13.a.a1) 1001), Ix (pickN (x13.a.a2) 1001), Ix (pickN (x13.a.a3) 1001)]) rfl rfl rfl (by kernel_rfl)) ?_
     rintro _ _ ⟨b49, rfl, rfl⟩
     refine l_mv rfl rfl rfl (m_appendFlN (F := ActF) 3 tt16 tt30 (p := p) (m := ys.length) (xs := ys) (ys := [(⟨fitK x13, (1 : Int) + (pickN (x13.owner) 5), 0, 0, (⟨pickN (x13.a.a0) 1001, pickN (x13.a.a1) 1001, pickN (x13.a.a2) 1001, pickN (x13.a.a3) 1001⟩ : KAm)⟩ : KAct)]) (ao := (some ⟨b49, 0, none⟩)) (k := 1) (c := 1) rfl rfl rfl rfl rfl (k_ptFl (z := (⟨fitK x13, (1 : Int) + (pickN (x13.owner) 5), 0, 0, (⟨pickN (x13.a.a0) 1001, pickN (x13.a.a1) 1001, pickN (x13.a.a2) 1001, pickN (x13.a.a3) 1001⟩ : KAm)⟩ : KAct)) 0 rfl rfl) (by first | omega | simp only [List.length_nil, List.length_cons, List.length_append, List.length_set]; omega) (by first | omega | simp only [List.length_nil, List.length_cons, List.length_append, List.length_set]; omega)) ?_
     rintro _ _ ⟨rp50, rc51, rfl, rfl⟩
     refine l_val (v := .pointer (some ⟨(blk (fa7 5)), 3, none⟩)) rfl rfl rfl (e_fieldPt (b := (blk (fa7 5))) (o := 0) rfl tt171) ?_
     refine l_mu rfl rfl (m_store 6 tt23 (b := (blk (fa7 5))) (o := 3) (T := 32) (cs := #[Bx (o.kind), Ix ((1 : Int) + (pickN (o.author) 4)), Ix (n), .slice p (ys.length) c]) (cs' := #[Bx (o.kind), Ix ((1 : Int) + (pickN (o.author) 4)), Ix (n), .slice rp50 ((ys ++ [(⟨fitK x13, (1 : Int) + (pickN (x13.owner) 5), 0, 0, (⟨pickN (x13.a.a0) 1001, pickN (x13.a.a1) 1001, pickN (x13.a.a2) 1001, pickN (x13.a.a3) 1001⟩ : KAm)⟩ : KAct)]).length) rc51]) (v := .slice rp50 ((ys ++ [(⟨fitK x13, (1 : Int) + (pickN (x13.owner) 5), 0, 0, (⟨pickN (x13.a.a0) 1001, pickN (x13.a.a1) 1001, pickN (x13.a.a2) 1001, pickN (x13.a.a3) 1001⟩ : KAm)⟩ : KAct)]).length) rc51) rfl rfl rfl rfl rfl rfl rfl) ?_
     refine l_nil ?_
     refine f_block ?_
     refine f_then ?_
     refine c_region ?_
     refine l_val (v := Nx (k + 1)) rfl rfl rfl (e_add (a := ((k : Nat) : Int)) (b := (1 : Int)) rfl rfl (i64n (by omega) (by omega))) ?_
     refine l_val (v := Nx (k + 1)) rfl rfl rfl (e_move) ?_
     refine l_nil ?_
     refine f_mask (L' := [rowF ActF 47 rp50 rc51 (ys ++ [(⟨fitK x13, (1 : Int) + (pickN (x13.owner) 5), 0, 0, (⟨pickN (x13.a.a0) 1001, pickN (x13.a.a1) 1001, pickN (x13.a.a2) 1001, pickN (x13.a.a3) 1001⟩ : KAm)⟩ : KAct)]), pt b2 (.cells #[.int .u8 (0), .int .i64 (0), .int .i64 (0), .slice none 0 0] 32), pt b1 (.cells #[Bx (o.kind), Ix (o.author), Ix (o.number), .slice va (o.acts.length) (vc)] 32), pt (blk (fa7 5)) (.cells #[Bx (o.kind), Ix ((1 : Int) + (pickN (o.author) 4)), Ix (n), .slice rp50 ((ys ++ [(⟨fitK x13, (1 : Int) + (pickN (x13.owner) 5), 0, 0, (⟨pickN (x13.a.a0) 1001, pickN (x13.a.a1) 1001, pickN (x13.a.a2) 1001, pickN (x13.a.a3) 1001⟩ : KAm)⟩ : KAct)]).length) rc51] 32)]) [false, false, false, true, true, true, true] rfl ?_
     exact f_cut ⟨(k + 1, (ys ++ [(⟨fitK x13, (1 : Int) + (pickN (x13.owner) 5), 0, 0, (⟨pickN (x13.a.a0) 1001, pickN (x13.a.a1) 1001, pickN (x13.a.a2) 1001, pickN (x13.a.a3) 1001⟩ : KAm)⟩ : KAct)]), rp50, rc51), ⟨⟨rfl, rfl, rfl, rfl, rfl⟩, rfl, ⟨by omega, by rw [hys, ← tk_next hx14, List.map_append, show List.map fitA [x13] = [fitA x13] from rfl, fitA_0 hc21 hc26 hc40] <;> rfl⟩⟩, (show zs8.length - (k + 1) < zs8.length - k from by omega)⟩
 ·
  refine c_exit ?_
  refine f_then_exit ?_
  refine f_then_exit ?_
  refine f_exit ?_
  refine f_then ?_
  refine c_seq ?_
  refine c_seq ?_
  have hke : k = zs8.length := by omega
  replace hys : ys = (o.acts.take 8).map fitA := by rw [hys, hke, List.take_length, hz9, take_min]
  refine c_region ?_
  refine l_val (v := .pointer (some ⟨(blk (fa7 5)), 3, none⟩)) rfl rfl rfl (e_fieldPt (b := (blk (fa7 5))) (o := 0) rfl tt171) ?_
  refine l_val (v := .slice p (ys.length) c) rfl rfl rfl (e_load1 tt23 (v := .slice p (ys.length) c) rfl (k_pt 3 (cs := #[Bx (o.kind), Ix ((1 : Int) + (pickN (o.author) 4)), Ix (n), .slice p (ys.length) c]) (vs := [.slice p (ys.length) c]) rfl rfl)) ?_
  refine l_val (v := Nx (ys.length)) rfl rfl rfl (e_len (a := p) (n := ys.length) (c := c) rfl tt15) ?_
  refine l_val (v := .bool (decide (((ys.length : Nat) : Int) = (0 : Int)))) rfl rfl rfl (e_eql (a := ((ys.length : Nat) : Int)) (b := (0 : Int)) rfl rfl) ?_
  refine l_nil ?_
  refine f_then ?_
  refine c_if (((ys.length : Nat) : Int) = (0 : Int)) rfl (fun hc52 => ?_) (fun hc52 => ?_)
  ·
   refine c_region ?_
   refine l_call rfl rfl rfl (cl_value (fst := []) (cap := []) (vs := [.int .u8 (1), .int .i64 (1), .int .i64 (0), .int .i64 (0), .int .i64 (7)]) (all := [.int .u8 (1), .int .i64 (1), .int .i64 (0), .int .i64 (0), .int .i64 (7)]) tt172 rfl rfl rfl) ?_
   intro w hw
   obtain ⟨β1, sb, kn, hw1, back⟩ := St.frame_all hw
   refine (act_ok β1 w hw1 (1 : UInt8) 1 0 0 7).mono ?_
   rintro e w' ⟨rfl, hw'⟩
   refine ⟨_, rfl, _, back _ _ hw', ?_⟩
   clear hw hw1 hw' back kn sb
   refine l_mv rfl rfl rfl (m_slices tt16 tt47 (vs := [(0, .agg #[.int .u8 (1), .int .i64 (1), .int .i64 (0), .int .i64 (0), .int .i64 (7), .int .i64 (0), .int .i64 (0), .int .i64 (0)])]) (cells := #[.int .u8 (1), .int .i64 (1), .int .i64 (0), .int .i64 (0), .int .i64 (7), .int .i64 (0), .int .i64 (0), .int .i64 (0)]) rfl rfl rfl (by kernel_rfl)) ?_
   rintro _ _ ⟨b53, rfl, rfl⟩
   refine l_val (v := .pointer (some ⟨(blk (fa7 5)), 3, none⟩)) rfl rfl rfl (e_fieldPt (b := (blk (fa7 5))) (o := 0) rfl tt171) ?_
   refine l_mu rfl rfl (m_store 4 tt23 (b := (blk (fa7 5))) (o := 3) (T := 32) (cs := #[Bx (o.kind), Ix ((1 : Int) + (pickN (o.author) 4)), Ix (n), .slice p (ys.length) c]) (cs' := #[Bx (o.kind), Ix ((1 : Int) + (pickN (o.author) 4)), Ix (n), .slice (some ⟨b53, 0, none⟩) 1 1]) (v := .slice (some ⟨b53, 0, none⟩) 1 1) rfl rfl rfl rfl rfl rfl rfl) ?_
   refine l_nil ?_
   refine f_then ?_
   refine c_seq ?_
   refine c_region ?_
   refine l_val (v := .agg #[Bx (o.kind), Ix ((1 : Int) + (pickN (o.author) 4)), Ix (n), .slice (some ⟨b53, 0, none⟩) 1 1]) rfl rfl rfl (e_load tt170 (cs := [Bx (o.kind), Ix ((1 : Int) + (pickN (o.author) 4)), Ix (n), .slice (some ⟨b53, 0, none⟩) 1 1]) rfl (k_pt 4 (cs := #[Bx (o.kind), Ix ((1 : Int) + (pickN (o.author) 4)), Ix (n), .slice (some ⟨b53, 0, none⟩) 1 1]) (vs := [Bx (o.kind), Ix ((1 : Int) + (pickN (o.author) 4)), Ix (n), .slice (some ⟨b53, 0, none⟩) 1 1]) rfl rfl) rfl) ?_
   refine l_mu rfl rfl (m_store 2 tt170 (b := b2) (o := 0) (T := 32) (cs := #[.int .u8 (0), .int .i64 (0), .int .i64 (0), .slice none 0 0]) (cs' := #[Bx (o.kind), Ix ((1 : Int) + (pickN (o.author) 4)), Ix (n), .slice (some ⟨b53, 0, none⟩) 1 1]) (v := .agg #[Bx (o.kind), Ix ((1 : Int) + (pickN (o.author) 4)), Ix (n), .slice (some ⟨b53, 0, none⟩) 1 1]) rfl rfl rfl rfl rfl rfl rfl) ?_
   refine l_nil ?_
   refine f_then ?_
   refine c_ret ?_
   refine retG (l := [.cell 4 32]) (m := [.agg #[Bx (o.kind), Ix ((1 : Int) + (pickN (o.author) 4)), Ix (n), .slice (some ⟨b53, 0, none⟩) 1 1]]) (v := .agg #[Bx (o.kind), Ix ((1 : Int) + (pickN (o.author) 4)), Ix (n), .slice (some ⟨b53, 0, none⟩) 1 1]) Tryz.results11 ⟨rd_cell tt170 (cs := [Bx (o.kind), Ix ((1 : Int) + (pickN (o.author) 4)), Ix (n), .slice (some ⟨b53, 0, none⟩) 1 1]) rfl (k_pt 2 (cs := #[Bx (o.kind), Ix ((1 : Int) + (pickN (o.author) 4)), Ix (n), .slice (some ⟨b53, 0, none⟩) 1 1]) (vs := [Bx (o.kind), Ix ((1 : Int) + (pickN (o.author) 4)), Ix (n), .slice (some ⟨b53, 0, none⟩) 1 1]) rfl rfl) rfl, trivial⟩ rfl ?_
   intro w hw
   replace hw := st_mask (L' := [pt b53 (.cells #[.int .u8 (1), .int .i64 (1), .int .i64 (0), .int .i64 (0), .int .i64 (7), .int .i64 (0), .int .i64 (0), .int .i64 (0)] 47)]) [true, false, false, false, false] rfl hw
   have hx : fitL o = [(⟨1, 1, 0, 0, ⟨7, 0, 0, 0⟩⟩ : KAct)] := by rw [fitL, if_pos (by rw [← hys]; exact List.eq_nil_of_length_eq_zero (by omega))]
   have hw2 := hw.conseq_at 0 rfl (r' := rowF ActF 47 (some ⟨b53, 0, none⟩) 1 [(⟨1, 1, 0, 0, ⟨7, 0, 0, 0⟩⟩ : KAct)]) (fun a h => pt_rowF (xs := [(⟨1, 1, 0, 0, ⟨7, 0, 0, 0⟩⟩ : KAct)]) rfl (by decide) a h)
   exact ⟨some ⟨b53, 0, none⟩, 1, by rw [hx]; rfl, by rw [hx]; exact hw2⟩
  ·
   refine c_skip ?_
   refine f_then ?_
   refine c_seq ?_
   refine c_region ?_
   refine l_val (v := .agg #[Bx (o.kind), Ix ((1 : Int) + (pickN (o.author) 4)), Ix (n), .slice p (ys.length) c]) rfl rfl rfl (e_load tt170 (cs := [Bx (o.kind), Ix ((1 : Int) + (pickN (o.author) 4)), Ix (n), .slice p (ys.length) c]) rfl (k_pt 3 (cs := #[Bx (o.kind), Ix ((1 : Int) + (pickN (o.author) 4)), Ix (n), .slice p (ys.length) c]) (vs := [Bx (o.kind), Ix ((1 : Int) + (pickN (o.author) 4)), Ix (n), .slice p (ys.length) c]) rfl rfl) rfl) ?_
   refine l_mu rfl rfl (m_store 1 tt170 (b := b2) (o := 0) (T := 32) (cs := #[.int .u8 (0), .int .i64 (0), .int .i64 (0), .slice none 0 0]) (cs' := #[Bx (o.kind), Ix ((1 : Int) + (pickN (o.author) 4)), Ix (n), .slice p (ys.length) c]) (v := .agg #[Bx (o.kind), Ix ((1 : Int) + (pickN (o.author) 4)), Ix (n), .slice p (ys.length) c]) rfl rfl rfl rfl rfl rfl rfl) ?_
   refine l_nil ?_
   refine f_then ?_
   refine c_ret ?_
   refine retG (l := [.cell 4 32]) (m := [.agg #[Bx (o.kind), Ix ((1 : Int) + (pickN (o.author) 4)), Ix (n), .slice p (ys.length) c]]) (v := .agg #[Bx (o.kind), Ix ((1 : Int) + (pickN (o.author) 4)), Ix (n), .slice p (ys.length) c]) Tryz.results11 ⟨rd_cell tt170 (cs := [Bx (o.kind), Ix ((1 : Int) + (pickN (o.author) 4)), Ix (n), .slice p (ys.length) c]) rfl (k_pt 1 (cs := #[Bx (o.kind), Ix ((1 : Int) + (pickN (o.author) 4)), Ix (n), .slice p (ys.length) c]) (vs := [Bx (o.kind), Ix ((1 : Int) + (pickN (o.author) 4)), Ix (n), .slice p (ys.length) c]) rfl rfl) rfl, trivial⟩ rfl ?_
   intro w hw
   replace hw := st_mask (L' := [rowF ActF 47 p c ys]) [true, false, false, false] rfl hw
   have hx : fitL o = ys := by rw [fitL, if_neg (fun q => hc52 (by rw [show ys = [] from hys.trans q]; rfl)), hys]
   exact ⟨_, _, by rw [hx]; rfl, by rw [hx]; exact hw⟩
theorem samer_ok (β : Base) (w : World) (hw : St β [] w) (d d' : Bool) (a a' e e' : Int) (v u : Value) (xs ys : List Int) (hs : Sl IntF.R β.heap v xs) (ht : Sl IntF.R β.heap u ys) (he : d = d' ∧ a = a' ∧ e = e' ∧ xs = ys) : Calls Tryz.prog 19 #[.agg #[.bool d, Ix a, Ix e, v], .agg #[.bool d', Ix a', Ix e', u]] w fun r w' => r = .returned (.bool true) ∧ St β [] w' := by
 obtain ⟨va, vc, rfl, vl, vm, ve⟩ := hs.get
 obtain ⟨ua, uc, rfl, ul, um, ue⟩ := ht.get
 refine enter (n := 31) Tryz.func19 rfl Tryz.ntmps19 rfl ?_ hw
 refine c_seq ?_
 refine c_region ?_
 refine l_mv rfl rfl rfl (m_box (v := .agg #[.bool (d), Ix (a), Ix (e), .slice va (xs.length) (vc)]) rfl) ?_
 rintro _ _ ⟨b1, rfl, rfl⟩
 refine l_mv rfl rfl rfl (m_box (v := .agg #[.bool (d'), Ix (a'), Ix (e'), .slice ua (ys.length) (uc)]) rfl) ?_
 rintro _ _ ⟨b2, rfl, rfl⟩
 refine l_val (v := .bool false) rfl rfl rfl (e_assign) ?_
 refine l_nil ?_
 refine f_then ?_
 refine c_seq ?_
 refine c_region ?_
 refine l_val (v := .pointer (some ⟨b1, 0, none⟩)) rfl rfl rfl (e_fieldPt (b := b1) (o := 0) rfl tt146) ?_
 refine l_val (v := .bool (d)) rfl rfl rfl (e_load1 tt95 (v := .bool (d)) rfl (k_pt 1 (cs := #[.bool (d), Ix (a), Ix (e), .slice va (xs.length) (vc)]) (vs := [.bool (d)]) rfl rfl)) ?_
 refine l_val (v := .pointer (some ⟨b2, 0, none⟩)) rfl rfl rfl (e_fieldPt (b := b2) (o := 0) rfl tt146) ?_
 refine l_val (v := .bool (d')) rfl rfl rfl (e_load1 tt95 (v := .bool (d')) rfl (k_pt 0 (cs := #[.bool (d'), Ix (a'), Ix (e'), .slice ua (ys.length) (uc)]) (vs := [.bool (d')]) rfl rfl)) ?_
 refine l_val (v := .bool ((d == d'))) rfl rfl rfl (e_eql_b (a := d) (b := d') rfl rfl tt173) ?_
 refine l_and5 (d == d') (decide ((a) = (a'))) rfl (fun hb3 hk3 => ?_) (fun z4 z5 z6 z7 z8 => ?_)
 ·
  refine g_val (v := .pointer (some ⟨b1, 1, none⟩)) rfl rfl rfl rfl rfl (e_fieldPt (b := b1) (o := 0) rfl tt144) ?_
  refine g_val (v := Ix (a)) rfl rfl rfl rfl rfl (e_load1 tt2 (v := Ix (a)) rfl (k_pt 1 (cs := #[.bool (d), Ix (a), Ix (e), .slice va (xs.length) (vc)]) (vs := [Ix (a)]) rfl rfl)) ?_
  refine g_val (v := .pointer (some ⟨b2, 1, none⟩)) rfl rfl rfl rfl rfl (e_fieldPt (b := b2) (o := 0) rfl tt144) ?_
  refine g_val (v := Ix (a')) rfl rfl rfl rfl rfl (e_load1 tt2 (v := Ix (a')) rfl (k_pt 0 (cs := #[.bool (d'), Ix (a'), Ix (e'), .slice ua (ys.length) (uc)]) (vs := [Ix (a')]) rfl rfl)) ?_
  refine g_val (v := .bool (decide ((a) = (a')))) rfl rfl rfl rfl rfl (e_eql (a := (a)) (b := (a')) rfl rfl) ?_
  refine l_val (v := .bool (decide ((a) = (a')))) rfl rfl rfl (e_pick_t rfl) ?_
  exact hk3 _ _ _ _ _
 refine l_and5 ((d == d') && (decide ((a) = (a')))) (decide ((e) = (e'))) rfl (fun hb9 hk9 => ?_) (fun z10 z11 z12 z13 z14 => ?_)
 ·
  refine g_val (v := .pointer (some ⟨b1, 2, none⟩)) rfl rfl rfl rfl rfl (e_fieldPt (b := b1) (o := 0) rfl tt145) ?_
  refine g_val (v := Ix (e)) rfl rfl rfl rfl rfl (e_load1 tt126 (v := Ix (e)) rfl (k_pt 1 (cs := #[.bool (d), Ix (a), Ix (e), .slice va (xs.length) (vc)]) (vs := [Ix (e)]) rfl rfl)) ?_
  refine g_val (v := .pointer (some ⟨b2, 2, none⟩)) rfl rfl rfl rfl rfl (e_fieldPt (b := b2) (o := 0) rfl tt145) ?_
  refine g_val (v := Ix (e')) rfl rfl rfl rfl rfl (e_load1 tt126 (v := Ix (e')) rfl (k_pt 0 (cs := #[.bool (d'), Ix (a'), Ix (e'), .slice ua (ys.length) (uc)]) (vs := [Ix (e')]) rfl rfl)) ?_
  refine g_val (v := .bool (decide ((e) = (e')))) rfl rfl rfl rfl rfl (e_eql (a := (e)) (b := (e')) rfl rfl) ?_
  refine l_val (v := .bool (decide ((e) = (e')))) rfl rfl rfl (e_pick_t rfl) ?_
  exact hk9 _ _ _ _ _
 refine l_and5 (((d == d') && (decide ((a) = (a')))) && (decide ((e) = (e')))) (decide (xs = ys)) rfl (fun hb15 hk15 => ?_) (fun z16 z17 z18 z19 z20 => ?_)
 ·
  refine g_val (v := .pointer (some ⟨b1, 3, none⟩)) rfl rfl rfl rfl rfl (e_fieldPt (b := b1) (o := 0) rfl tt62) ?_
  refine g_val (v := .slice va (xs.length) (vc)) rfl rfl rfl rfl rfl (e_load1 tt63 (v := .slice va (xs.length) (vc)) rfl (k_pt 1 (cs := #[.bool (d), Ix (a), Ix (e), .slice va (xs.length) (vc)]) (vs := [.slice va (xs.length) (vc)]) rfl rfl)) ?_
  refine g_val (v := .pointer (some ⟨b2, 3, none⟩)) rfl rfl rfl rfl rfl (e_fieldPt (b := b2) (o := 0) rfl tt62) ?_
  refine g_val (v := .slice ua (ys.length) (uc)) rfl rfl rfl rfl rfl (e_load1 tt63 (v := .slice ua (ys.length) (uc)) rfl (k_pt 0 (cs := #[.bool (d'), Ix (a'), Ix (e'), .slice ua (ys.length) (uc)]) (vs := [.slice ua (ys.length) (uc)]) rfl rfl)) ?_
  refine g_call rfl rfl rfl rfl rfl (cl_value (fst := []) (cap := []) (vs := [.slice va (xs.length) (vc), .slice ua (ys.length) (uc)]) (all := [.slice va (xs.length) (vc), .slice ua (ys.length) (uc)]) tt174 rfl rfl rfl) ?_
  intro w hw
  obtain ⟨β1, sb, kn, hw1, back⟩ := St.frame_all hw
  refine (sameI_ok β1 w hw1 _ _ xs ys (Sl.mono _ _ _ _ _ sb (⟨⟨_, _, rfl, vl, vm, ve⟩⟩ : Sl IntF.R _ _ xs)) (Sl.mono _ _ _ _ _ sb (⟨⟨_, _, rfl, ul, um, ue⟩⟩ : Sl IntF.R _ _ ys))).mono ?_
  rintro e w' ⟨rfl, hw'⟩
  refine ⟨_, rfl, _, back _ _ hw', ?_⟩
  clear hw hw1 hw' back kn sb
  refine l_val (v := .bool (decide (xs = ys))) rfl rfl rfl (e_pick_t rfl) ?_
  exact hk15 _ _ _ _ _
 refine l_val (v := .bool (((((d == d') && (decide ((a) = (a')))) && (decide ((e) = (e')))) && (decide (xs = ys))))) rfl rfl rfl (e_assign) ?_
 refine l_nil ?_
 refine f_then ?_
 refine c_ret ?_
 refine ret1 Tryz.results19 (v := .bool (((((d == d') && (decide ((a) = (a')))) && (decide ((e) = (e')))) && (decide (xs = ys))))) rfl ?_
 intro w hw
 exact ⟨congrArg (fun b : Bool => Ending.returned (.bool b)) (by obtain ⟨h1, h2, h3, h4⟩ := he; simp [h1, h2, h3, h4]), st_mask [false, false] rfl hw⟩
end Go.Proofs
