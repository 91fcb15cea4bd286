/-
 What acts do to a state: walked. Printed by a program of my own.
-/
import Derived.Test.YtjejfkajcbdgjaaGreatTd2
import Derived.Test.YtjejfkajcbdgjaaGreatTdSt
namespace Go.Proofs
open Go Go.Sl Go.Td
theorem act_end {β : Base} {w : World} {zb mp mh mm : Nat} {V : KSt} {m e : Int} {o : KSt × Int × Int} (h : (V, m, e) = o) (hw : St β [pt zb (.cells (stC mp mh mm V.last V.su) 88), mpR PuM mp V.ps, mpR HoM mh V.hs] w) :
  Ending.returned (.tuple #[Ix m, Ix e]) = .returned (.tuple #[Ix o.2.1, Ix o.2.2]) ∧ St β [pt zb (.cells (stC mp mh mm o.1.last o.1.su) 88), mpR PuM mp o.1.ps, mpR HoM mh o.1.hs] w := by subst h; exact ⟨rfl, hw⟩
theorem tt32 : fldB Tryz.prog 88 0 0 1 false = true := by kernel_rfl
theorem tt33 : tyB Tryz.prog 84 false 1 = true := by kernel_rfl
theorem tt34 : cfB Tryz.prog 108 = true := by kernel_rfl
theorem tt35 : cfB Tryz.prog 107 = true := by kernel_rfl
theorem tt36 : fldB Tryz.prog 88 3 3 4 true = true := by kernel_rfl
theorem tt37 : cfB Tryz.prog 109 = true := by kernel_rfl
theorem tt38 : fldB Tryz.prog 88 1 1 1 false = true := by kernel_rfl
theorem tt39 : tyB Tryz.prog 85 false 1 = true := by kernel_rfl
theorem tt40 : fldB Tryz.prog 88 2 2 1 false = true := by kernel_rfl
theorem tt41 : stB Tryz.prog 104 [(0, 1), (1, 1), (2, 4)] = true := by kernel_rfl
theorem tt42 : (Tryz.prog.info? 104).bind (·.zero) = some (.agg #[.int .i64 (0), .int .i64 (0), .int .i64 (0), .int .i64 (0), .int .i64 (0), .int .i64 (0)]) := by kernel_rfl
theorem tt43 : tyB Tryz.prog 104 true 6 = true := by kernel_rfl
theorem tt44 : fldB Tryz.prog 104 2 2 4 true = true := by kernel_rfl
theorem tt45 : fldB Tryz.prog 104 1 1 1 false = true := by kernel_rfl
theorem tt46 : stB Tryz.prog 47 [(0, 1), (1, 1), (2, 1), (3, 1), (4, 4)] = true := by kernel_rfl
theorem tt47 : (Tryz.prog.info? 47).bind (·.zero) = some (.agg #[.int .u8 (0), .int .i64 (0), .int .i64 (0), .int .i64 (0), .int .i64 (0), .int .i64 (0), .int .i64 (0), .int .i64 (0)]) := by kernel_rfl
theorem tt48 : cfB Tryz.prog 72 = true := by kernel_rfl
set_option maxHeartbeats 4000000 in
theorem add_ok (β : Base) (w : World) (zb mp mh mm : Nat) (la : Int) (su : KAm) (ps : List (Int × KAm)) (hw : St β [pt zb (.cells (stC mp mh mm la su) 88), mpR PuM mp ps] w) (n : Int) (a x : KAm) (hx : (PuM.look ps n).getD zeroA = x) (hxb : x.bd 4611686018427387903) (hab : a.bd 4611686018427387903) : Calls Tryz.prog 107 #[.pointer (some ⟨zb, 0, none⟩), Ix n, .agg (amC a)] w fun r w' => r = .returned (Ix (addE ps n a)) ∧ St β [pt zb (.cells (stC mp mh mm la su) 88), mpR PuM mp (addP ps n a)] w' := by
 refine enter (n := 56) Tryz.func107 rfl Tryz.ntmps107 rfl ?_ hw
 refine c_seq ?_
 refine c_region ?_
 refine l_mv rfl rfl rfl (m_box (v := .agg (amC a)) rfl) ?_
 rintro _ _ ⟨b1, rfl, rfl⟩
 refine l_val (v := .int .i64 (0)) rfl rfl rfl (e_assign) ?_
 refine l_nil ?_
 refine f_then ?_
 refine c_seq ?_
 refine c_any [⟨[], [], [0], [10], fun f => f 10 = .pointer (some ⟨zb, 0, none⟩)⟩, ⟨[0], [0], [], [11], fun f => f 11 = .pointer (some ⟨zb, 0, none⟩)⟩, ⟨[0, 1], [1], [], [12], fun f => f 12 = .pointer (some ⟨zb, 0, none⟩)⟩, ⟨[0, 1, 2], [2], [], [13], fun f => f 13 = .map (some mp)⟩, ⟨[], [], [1], [14], fun f => f 14 = Ix (n)⟩, ⟨[0, 1, 2, 3, 4], [3, 4], [], [15], fun f => f 15 = .agg (amC x)⟩, ⟨[], [], [2], [16], fun f => f 16 = .agg (amC a)⟩, ⟨[0, 1, 2, 3, 4, 5, 6], [5, 6], [], [17], fun f => f 17 = .agg (amC (x.plus a (1)))⟩, ⟨[], [], [], [7], fun f => f 7 = .pointer (some ⟨(blk (f 7)), 0, none⟩)⟩, ⟨[0, 1, 2, 3, 4, 5, 6, 7, 8], [8, 7], [], [], fun _ => True⟩] [⟨none, none, [6], [], fun _ => pt b1 (.cells (amC a) 44)⟩, ⟨none, none, [3], [], fun _ => pt zb (.cells #[.map (some mp), .map (some mh), Ix (la), Ix (su.a0), Ix (su.a1), Ix (su.a2), Ix (su.a3), .map (some mm)] 88)⟩, ⟨none, none, [5], [], fun _ => mpR PuM mp ps⟩, ⟨(some 8), (some 9), [9], [7], fun f => pt (blk (f 7)) (.cells #[.int .i64 (0), .int .i64 (0), .int .i64 (0), .int .i64 (0)] 44)⟩, ⟨(some 9), none, [], [7], fun f => pt (blk (f 7)) (.cells (amC (x.plus a (1))) 44)⟩] [(0, .pointer (some ⟨zb, 0, none⟩)), (1, Ix (n)), (5, .pointer (some ⟨b1, 0, none⟩))] [0, 1] [] (by kernel_rfl) (by kernel_rfl) (by kernel_rfl) (by kernel_rfl) rfl ⟨rfl, rfl, rfl, trivial⟩ ⟨?_, ?_, ?_, ?_, ?_, ?_, ?_, ?_, ?_, ?_, trivial⟩ ?_
 ·rintro f M - ⟨i0, -⟩
  have hs0 : f 0 = .pointer (some ⟨zb, 0, none⟩) := i0
  refine ob_start (L' := M) (by rfl) (up_cons rfl hs0) ?_
  refine l_val (v := .pointer (some ⟨zb, 0, none⟩)) rfl rfl rfl (e_move) ?_
  refine l_nil ?_
  exact f_owes_d (up_cons rfl hs0) rfl (List.Perm.refl _)
 ·rintro f M ⟨k0, -⟩ -
  have hs10 : f 10 = .pointer (some ⟨zb, 0, none⟩) := k0
  refine ob_start (L' := M) (by rfl) (up_cons rfl hs10) ?_
  refine l_val (v := .pointer (some ⟨zb, 0, none⟩)) rfl rfl rfl (e_nil (a := ⟨zb, 0, none⟩) rfl) ?_
  refine l_nil ?_
  exact f_owes_d (up_cons rfl hs10) rfl (List.Perm.refl _)
 ·rintro f M ⟨k0, -⟩ -
  have hs11 : f 11 = .pointer (some ⟨zb, 0, none⟩) := k0
  refine ob_start (L' := M) (by rfl) (up_cons rfl hs11) ?_
  refine l_val (v := .pointer (some ⟨zb, 0, none⟩)) rfl rfl rfl (e_fieldPt (b := zb) (o := 0) rfl tt32) ?_
  refine l_nil ?_
  exact f_owes_d (up_cons rfl hs11) rfl (List.Perm.refl _)
 ·rintro f M ⟨k0, -⟩ -
  have hs12 : f 12 = .pointer (some ⟨zb, 0, none⟩) := k0
  refine ob_start (L' := pt zb (.cells #[.map (some mp), .map (some mh), Ix (la), Ix (su.a0), Ix (su.a1), Ix (su.a2), Ix (su.a3), .map (some mm)] 88) :: M) (by rfl) (up_cons rfl hs12) ?_
  refine l_val (v := .map (some mp)) rfl rfl rfl (e_load1 tt33 (v := .map (some mp)) rfl (k_pt 0 (cs := #[.map (some mp), .map (some mh), Ix (la), Ix (su.a0), Ix (su.a1), Ix (su.a2), Ix (su.a3), .map (some mm)]) (vs := [.map (some mp)]) rfl rfl)) ?_
  refine l_nil ?_
  exact f_owes_d (up_cons rfl hs12) rfl (perm_front 0 rfl)
 ·rintro f M - ⟨i0, -⟩
  have hs1 : f 1 = Ix (n) := i0
  refine ob_start (L' := M) (by rfl) (up_cons rfl hs1) ?_
  refine l_val (v := Ix (n)) rfl rfl rfl (e_move) ?_
  refine l_nil ?_
  exact f_owes_d (up_cons rfl hs1) rfl (List.Perm.refl _)
 ·rintro f M ⟨k0, k1, -⟩ -
  have hs13 : f 13 = .map (some mp) := k0
  have hs14 : f 14 = Ix (n) := k1
  refine ob_start (L' := mpR PuM mp ps :: M) (by rfl) (up_cons (up_cons rfl hs13) hs14) ?_
  refine l_val (v := .agg (amC x)) rfl rfl rfl (ev_eq (congrArg PuM.encv hx) (e_look1 (K := PuM) (b := mp) (ks := ps) (k := n) rfl rfl rfl (Knows.of_res 0 rfl (mpR.mono _ _ _) fun _ h => h))) ?_
  refine l_nil ?_
  exact f_owes_d (up_cons (up_cons rfl hs13) hs14) rfl (perm_front 0 rfl)
 ·rintro f M - ⟨i0, -⟩
  have hs5 : f 5 = .pointer (some ⟨b1, 0, none⟩) := i0
  refine ob_start (L' := pt b1 (.cells (amC a) 44) :: M) (by rfl) (up_cons rfl hs5) ?_
  refine l_val (v := .agg (amC a)) rfl rfl rfl (e_load tt0 (cs := (amE a)) rfl (k_pt 0 (cs := (amC a)) (vs := (amE a)) rfl rfl) rfl) ?_
  refine l_nil ?_
  exact f_owes_d (up_cons rfl hs5) rfl (perm_front 0 rfl)
 ·rintro f M ⟨k0, k1, -⟩ -
  have hs15 : f 15 = .agg (amC x) := k0
  have hs16 : f 16 = .agg (amC a) := k1
  refine ob_start (L' := M) (by rfl) (up_cons (up_cons rfl hs15) hs16) ?_
  refine l_call rfl rfl rfl (cl_value (fst := []) (cap := []) (vs := [.agg (amC x), .agg (amC a), .int .i64 (1)]) (all := [.agg (amC x), .agg (amC a), .int .i64 (1)]) tt34 rfl rfl rfl) ?_
  intro w hw
  obtain ⟨β1, sb, kn, hw1, back⟩ := St.frame_all hw
  refine (plus_ok β1 w hw1 x a (1) (by decide) hxb hab).mono ?_
  rintro e w' ⟨rfl, hw'⟩
  refine ⟨_, rfl, _, back _ _ hw', ?_⟩
  clear hw hw1 hw' back kn sb
  refine l_nil ?_
  exact f_owes_d (up_cons (up_cons rfl hs15) hs16) rfl (List.Perm.refl _)
 ·rintro f M - -
  refine ob_start (L' := M) (by rfl) rfl ?_
  refine l_mv rfl rfl rfl (m_alloc tt3) ?_
  rintro _ _ ⟨b3, rfl, rfl⟩
  refine l_nil ?_
  exact f_owes_d rfl rfl (perm_front 0 rfl)
 ·rintro f M ⟨k0, k1, -⟩ -
  have hs7 : f 7 = .pointer (some ⟨(blk (f 7)), 0, none⟩) := k0
  have hs17 : f 17 = .agg (amC (x.plus a (1))) := k1
  refine ob_start (L' := pt (blk (f 7)) (.cells #[.int .i64 (0), .int .i64 (0), .int .i64 (0), .int .i64 (0)] 44) :: M) (by rfl) (up_cons (up_cons rfl hs7) hs17) ?_
  refine l_mu rfl rfl (m_store 0 tt0 (b := (blk (f 7))) (o := 0) (T := 44) (cs := #[.int .i64 (0), .int .i64 (0), .int .i64 (0), .int .i64 (0)]) (cs' := (amC (x.plus a (1)))) (v := .agg (amC (x.plus a (1)))) rfl rfl rfl rfl rfl rfl rfl) ?_
  refine l_nil ?_
  exact f_owes_n (up_cons (up_cons rfl hs7) hs17) trivial (perm_front 0 rfl)
 rintro fa4 ⟨-, -, -, -, -, -, -, -, k8, -, -⟩ ⟨j0, j1, -⟩
 refine f_re (L' := [pt b1 (.cells (amC a) 44), pt zb (.cells #[.map (some mp), .map (some mh), Ix (la), Ix (su.a0), Ix (su.a1), Ix (su.a2), Ix (su.a3), .map (some mm)] 88), mpR PuM mp ps, pt (blk (fa4 7)) (.cells (amC (x.plus a (1))) 44)]) (by rfl) ?_
 refine f_rebase (d := 0) (v := .pointer (some ⟨zb, 0, none⟩)) j0 ?_
 refine f_rebase (d := 1) (v := Ix (n)) j1 ?_
 refine f_rebase (d := 7) (v := .pointer (some ⟨(blk (fa4 7)), 0, none⟩)) k8 ?_
 refine f_then ?_
 refine c_seq ?_
 refine c_region ?_
 refine l_val (v := .pointer (some ⟨zb, 0, none⟩)) rfl rfl rfl (e_move) ?_
 refine l_val (v := .pointer (some ⟨zb, 0, none⟩)) rfl rfl rfl (e_nil (a := ⟨zb, 0, none⟩) rfl) ?_
 refine l_val (v := .pointer (some ⟨zb, 0, none⟩)) rfl rfl rfl (e_fieldPt (b := zb) (o := 0) rfl tt32) ?_
 refine l_val (v := .map (some mp)) rfl rfl rfl (e_load1 tt33 (v := .map (some mp)) rfl (k_pt 1 (cs := #[.map (some mp), .map (some mh), Ix (la), Ix (su.a0), Ix (su.a1), Ix (su.a2), Ix (su.a3), .map (some mm)]) (vs := [.map (some mp)]) rfl rfl)) ?_
 refine l_val (v := Ix (n)) rfl rfl rfl (e_move) ?_
 refine l_val (v := .tuple #[.agg (amC x), .bool ((PuM.look ps n).isSome)]) rfl rfl rfl (ev_eq (congrArg (fun z => Value.tuple #[PuM.encv z, .bool (PuM.look ps n).isSome]) hx) (e_look2 (K := PuM) (b := mp) (ks := ps) (k := n) rfl rfl rfl (Knows.of_res 2 rfl (mpR.mono _ _ _) fun _ h => h))) ?_
 refine l_val (v := .tuple #[.agg (amC x), .bool ((PuM.look ps n).isSome)]) rfl rfl rfl (e_move) ?_
 refine l_val (v := .agg (amC x)) rfl rfl rfl (e_extract (vs := #[.agg (amC x), .bool ((PuM.look ps n).isSome)]) rfl rfl) ?_
 refine l_val (v := .bool ((PuM.look ps n).isSome)) rfl rfl rfl (e_extract (vs := #[.agg (amC x), .bool ((PuM.look ps n).isSome)]) rfl rfl) ?_
 refine l_mv rfl rfl rfl (m_alloc tt3) ?_
 rintro _ _ ⟨b5, rfl, rfl⟩
 refine l_mu rfl rfl (m_store 0 tt0 (b := b5) (o := 0) (T := 44) (cs := #[.int .i64 (0), .int .i64 (0), .int .i64 (0), .int .i64 (0)]) (cs' := (amC x)) (v := .agg (amC x)) rfl rfl rfl rfl rfl rfl rfl) ?_
 refine l_val (v := .bool ((PuM.look ps n).isSome)) rfl rfl rfl (e_assign) ?_
 refine l_nil ?_
 refine f_then ?_
 refine c_seq ?_
 refine c_block ?_
 refine c_seq_cut (fun (f : Fm) (L : List Res) => ∃ (jn : Bool), (f 0 = .pointer (some ⟨zb, 0, none⟩) ∧ f 1 = Ix (n) ∧ f 7 = .pointer (some ⟨(blk (fa4 7)), 0, none⟩) ∧ f 27 = .bool (jn)) ∧ L = [pt b5 (.cells (amC x) 44), pt b1 (.cells (amC a) 44), pt zb (.cells #[.map (some mp), .map (some mh), Ix (la), Ix (su.a0), Ix (su.a1), Ix (su.a2), Ix (su.a3), .map (some mm)] 88), mpR PuM mp ps, pt (blk (fa4 7)) (.cells (amC (x.plus a (1))) 44)] ∧ (jn = addX ps n a)) ?_ ?_
 ·
  refine c_seq ?_
  refine c_region ?_
  refine l_val (v := .agg (amC (x.plus a (1)))) rfl rfl rfl (e_load tt0 (cs := (amE (x.plus a (1)))) rfl (k_pt 4 (cs := (amC (x.plus a (1)))) (vs := (amE (x.plus a (1)))) rfl rfl) rfl) ?_
  refine l_call rfl rfl rfl (cl_value (fst := []) (cap := []) (vs := [.agg (amC (x.plus a (1)))]) (all := [.agg (amC (x.plus a (1)))]) tt11 rfl rfl rfl) ?_
  intro w hw
  obtain ⟨β1, sb, kn, hw1, back⟩ := St.frame_all hw
  refine (within_ok β1 w hw1 (x.plus a (1))).mono ?_
  rintro e w' ⟨rfl, hw'⟩
  refine ⟨_, rfl, _, back _ _ hw', ?_⟩
  clear hw hw1 hw' back kn sb
  refine l_val (v := .bool (!((x.plus a (1)).within))) rfl rfl rfl (e_not rfl) ?_
  refine l_val (v := .bool (!((x.plus a (1)).within))) rfl rfl rfl (e_assign) ?_
  refine l_nil ?_
  refine f_then ?_
  refine c_ifb (!((x.plus a (1)).within)) rfl (fun hc6 => ?_) (fun hc6 => ?_)
  ·
   refine c_skip ?_
   exact f_cut ⟨!((x.plus a (1)).within), ⟨rfl, rfl, rfl, rfl⟩, rfl, (by simp_all [addX, puA])⟩
  ·
   refine c_region ?_
   refine l_val (v := .bool ((PuM.look ps n).isSome)) rfl rfl rfl (e_move) ?_
   refine l_val (v := .bool (!((PuM.look ps n).isSome))) rfl rfl rfl (e_not rfl) ?_
   refine l_and3 (!((PuM.look ps n).isSome)) (decide (¬ ((x.plus a (1)) = zeroA))) rfl (fun hb7 hk7 => ?_) (fun z8 z9 z10 => ?_)
   ·
    refine g_val (v := .agg (amC (x.plus a (1)))) rfl rfl rfl rfl rfl (e_load tt0 (cs := (amE (x.plus a (1)))) rfl (k_pt 4 (cs := (amC (x.plus a (1)))) (vs := (amE (x.plus a (1)))) rfl rfl) rfl) ?_
    refine g_val (v := .agg #[.int .i64 (0), .int .i64 (0), .int .i64 (0), .int .i64 (0)]) rfl rfl rfl rfl rfl (e_build_a tt3 tt1 (vs := []) (cells := #[.int .i64 (0), .int .i64 (0), .int .i64 (0), .int .i64 (0)]) rfl rfl) ?_
    refine g_val (v := .bool (decide (¬ ((x.plus a (1)) = zeroA)))) rfl rfl rfl rfl rfl (e_neq_t (xs := amE (x.plus a (1))) (ys := amE zeroA) tt12 tt13 tt14 rfl rfl rfl rfl (not_congr (am_eq (x := (x.plus a (1))) (y := zeroA)))) ?_
    refine l_val (v := .bool (decide (¬ ((x.plus a (1)) = zeroA)))) rfl rfl rfl (e_pick_t rfl) ?_
    exact hk7 _ _ _
   refine l_and6 ((!((PuM.look ps n).isSome)) && (decide (¬ ((x.plus a (1)) = zeroA)))) (decide ((256 : Int) ≤ ((ps.length : Nat) : Int))) rfl (fun hb11 hk11 => ?_) (fun z12 z13 z14 z15 z16 z17 => ?_)
   ·
    refine g_val (v := .pointer (some ⟨zb, 0, none⟩)) rfl rfl rfl rfl rfl (e_move) ?_
    refine g_val (v := .pointer (some ⟨zb, 0, none⟩)) rfl rfl rfl rfl rfl (e_nil (a := ⟨zb, 0, none⟩) rfl) ?_
    refine g_val (v := .pointer (some ⟨zb, 0, none⟩)) rfl rfl rfl rfl rfl (e_fieldPt (b := zb) (o := 0) rfl tt32) ?_
    refine g_val (v := .map (some mp)) rfl rfl rfl rfl rfl (e_load1 tt33 (v := .map (some mp)) rfl (k_pt 2 (cs := #[.map (some mp), .map (some mh), Ix (la), Ix (su.a0), Ix (su.a1), Ix (su.a2), Ix (su.a3), .map (some mm)]) (vs := [.map (some mp)]) rfl rfl)) ?_
    refine g_val (v := Nx (ps.length)) rfl rfl rfl rfl rfl (e_mlen (K := PuM) (b := mp) (ks := ps) rfl rfl (Knows.of_res 3 rfl (mpR.mono _ _ _) fun _ h => h)) ?_
    refine g_val (v := .bool (decide ((256 : Int) ≤ ((ps.length : Nat) : Int)))) rfl rfl rfl rfl rfl (e_geq (a := ((ps.length : Nat) : Int)) (b := (256 : Int)) rfl rfl) ?_
    refine l_val (v := .bool (decide ((256 : Int) ≤ ((ps.length : Nat) : Int)))) rfl rfl rfl (e_pick_t rfl) ?_
    exact hk11 _ _ _ _ _ _
   refine l_val (v := .bool ((((!((PuM.look ps n).isSome)) && (decide (¬ ((x.plus a (1)) = zeroA)))) && (decide ((256 : Int) ≤ ((ps.length : Nat) : Int)))))) rfl rfl rfl (e_assign) ?_
   refine l_nil ?_
   exact f_cut ⟨(((!((PuM.look ps n).isSome)) && (decide (¬ ((x.plus a (1)) = zeroA)))) && (decide ((256 : Int) ≤ ((ps.length : Nat) : Int)))), ⟨rfl, rfl, rfl, rfl⟩, rfl, (by simp_all [addX, puA])⟩
 rintro f0 L0 ⟨jn, ⟨hs0, hs1, hs7, hs27⟩, hL, hjn⟩
 subst L0
 refine rebase (d := 0) hs0 ?_
 refine rebase (d := 1) hs1 ?_
 refine rebase (d := 7) hs7 ?_
 refine rebase (d := 27) hs27 ?_
 clear hs0 hs1 hs7 hs27
 refine c_ifb (jn) rfl (fun hc18 => ?_) (fun hc18 => ?_)
 ·
  refine c_seq ?_
  refine c_region ?_
  refine l_val (v := .int .i64 (4)) rfl rfl rfl (e_assign) ?_
  refine l_nil ?_
  refine f_then ?_
  refine c_ret ?_
  refine f_block_ret ?_
  refine f_then_ret ?_
  refine ret1 Tryz.results107 (v := .int .i64 (4)) rfl ?_
  intro w hw
  replace hw := hw.perm (L' := [pt zb (.cells #[.map (some mp), .map (some mh), Ix (la), Ix (su.a0), Ix (su.a1), Ix (su.a2), Ix (su.a3), .map (some mm)] 88), mpR PuM mp ps, pt b5 (.cells (amC x) 44), pt b1 (.cells (amC a) 44), pt (blk (fa4 7)) (.cells (amC (x.plus a (1))) 44)]) (by exact (perm_ix [2, 3, 0, 1, 4] 5 rfl (by kernel_rfl) (by kernel_rfl)))
  exact ⟨congrArg (fun z : Int => Ending.returned (Ix z)) (show 4 = addE ps n a by simp_all [addE, addP, puA]), (show ps = addP ps n a by simp_all [addE, addP, puA]) ▸ st_mask (L' := [pt zb (.cells #[.map (some mp), .map (some mh), Ix (la), Ix (su.a0), Ix (su.a1), Ix (su.a2), Ix (su.a3), .map (some mm)] 88), mpR PuM mp ps]) [true, true, false, false, false] rfl hw⟩
 ·
  refine c_seq ?_
  refine c_region ?_
  refine l_val (v := .agg (amC (x.plus a (1)))) rfl rfl rfl (e_load tt0 (cs := (amE (x.plus a (1)))) rfl (k_pt 4 (cs := (amC (x.plus a (1)))) (vs := (amE (x.plus a (1)))) rfl rfl) rfl) ?_
  refine l_val (v := .agg #[.int .i64 (0), .int .i64 (0), .int .i64 (0), .int .i64 (0)]) rfl rfl rfl (e_build_a tt3 tt1 (vs := []) (cells := #[.int .i64 (0), .int .i64 (0), .int .i64 (0), .int .i64 (0)]) rfl rfl) ?_
  refine l_val (v := .bool (decide (¬ ((x.plus a (1)) = zeroA)))) rfl rfl rfl (e_neq_t (xs := amE (x.plus a (1))) (ys := amE zeroA) tt12 tt13 tt14 rfl rfl rfl rfl (not_congr (am_eq (x := (x.plus a (1))) (y := zeroA)))) ?_
  refine l_val (v := .bool (decide (¬ ((x.plus a (1)) = zeroA)))) rfl rfl rfl (e_assign) ?_
  refine l_nil ?_
  refine f_then ?_
  refine c_if (¬ ((x.plus a (1)) = zeroA)) rfl (fun hc19 => ?_) (fun hc19 => ?_)
  ·
   refine c_any [⟨[], [], [0], [50], fun f => f 50 = .pointer (some ⟨zb, 0, none⟩)⟩, ⟨[0], [0], [], [51], fun f => f 51 = .pointer (some ⟨zb, 0, none⟩)⟩, ⟨[0, 1], [1], [], [52], fun f => f 52 = .pointer (some ⟨zb, 0, none⟩)⟩, ⟨[0, 1, 2], [2], [], [53], fun f => f 53 = .map (some mp)⟩, ⟨[], [], [1], [54], fun f => f 54 = Ix (n)⟩, ⟨[], [], [2], [55], fun f => f 55 = .agg (amC (x.plus a (1)))⟩, ⟨[0, 1, 2, 3, 4, 5], [3, 4, 5], [], [], fun _ => True⟩] [⟨none, none, [], [], fun _ => pt b5 (.cells (amC x) 44)⟩, ⟨none, none, [], [], fun _ => pt b1 (.cells (amC a) 44)⟩, ⟨none, none, [3], [], fun _ => pt zb (.cells #[.map (some mp), .map (some mh), Ix (la), Ix (su.a0), Ix (su.a1), Ix (su.a2), Ix (su.a3), .map (some mm)] 88)⟩, ⟨none, (some 6), [6], [], fun _ => mpR PuM mp ps⟩, ⟨none, none, [5], [], fun _ => pt (blk (fa4 7)) (.cells (amC (x.plus a (1))) 44)⟩, ⟨(some 6), none, [], [], fun _ => mpR PuM mp (PuM.put ps (n) (x.plus a (1)))⟩] [(0, .pointer (some ⟨zb, 0, none⟩)), (1, Ix (n)), (7, .pointer (some ⟨(blk (fa4 7)), 0, none⟩))] [] [] (by kernel_rfl) (by kernel_rfl) (by kernel_rfl) (by kernel_rfl) rfl ⟨rfl, rfl, rfl, trivial⟩ ⟨?_, ?_, ?_, ?_, ?_, ?_, ?_, trivial⟩ ?_
   ·rintro f M - ⟨i0, -⟩
    have hs0 : f 0 = .pointer (some ⟨zb, 0, none⟩) := i0
    refine ob_start (L' := M) (by rfl) (up_cons rfl hs0) ?_
    refine l_val (v := .pointer (some ⟨zb, 0, none⟩)) rfl rfl rfl (e_move) ?_
    refine l_nil ?_
    exact f_owes_d (up_cons rfl hs0) rfl (List.Perm.refl _)
   ·rintro f M ⟨k0, -⟩ -
    have hs50 : f 50 = .pointer (some ⟨zb, 0, none⟩) := k0
    refine ob_start (L' := M) (by rfl) (up_cons rfl hs50) ?_
    refine l_val (v := .pointer (some ⟨zb, 0, none⟩)) rfl rfl rfl (e_nil (a := ⟨zb, 0, none⟩) rfl) ?_
    refine l_nil ?_
    exact f_owes_d (up_cons rfl hs50) rfl (List.Perm.refl _)
   ·rintro f M ⟨k0, -⟩ -
    have hs51 : f 51 = .pointer (some ⟨zb, 0, none⟩) := k0
    refine ob_start (L' := M) (by rfl) (up_cons rfl hs51) ?_
    refine l_val (v := .pointer (some ⟨zb, 0, none⟩)) rfl rfl rfl (e_fieldPt (b := zb) (o := 0) rfl tt32) ?_
    refine l_nil ?_
    exact f_owes_d (up_cons rfl hs51) rfl (List.Perm.refl _)
   ·rintro f M ⟨k0, -⟩ -
    have hs52 : f 52 = .pointer (some ⟨zb, 0, none⟩) := k0
    refine ob_start (L' := pt zb (.cells #[.map (some mp), .map (some mh), Ix (la), Ix (su.a0), Ix (su.a1), Ix (su.a2), Ix (su.a3), .map (some mm)] 88) :: M) (by rfl) (up_cons rfl hs52) ?_
    refine l_val (v := .map (some mp)) rfl rfl rfl (e_load1 tt33 (v := .map (some mp)) rfl (k_pt 0 (cs := #[.map (some mp), .map (some mh), Ix (la), Ix (su.a0), Ix (su.a1), Ix (su.a2), Ix (su.a3), .map (some mm)]) (vs := [.map (some mp)]) rfl rfl)) ?_
    refine l_nil ?_
    exact f_owes_d (up_cons rfl hs52) rfl (perm_front 0 rfl)
   ·rintro f M - ⟨i0, -⟩
    have hs1 : f 1 = Ix (n) := i0
    refine ob_start (L' := M) (by rfl) (up_cons rfl hs1) ?_
    refine l_val (v := Ix (n)) rfl rfl rfl (e_move) ?_
    refine l_nil ?_
    exact f_owes_d (up_cons rfl hs1) rfl (List.Perm.refl _)
   ·rintro f M - ⟨i0, -⟩
    have hs7 : f 7 = .pointer (some ⟨(blk (fa4 7)), 0, none⟩) := i0
    refine ob_start (L' := pt (blk (fa4 7)) (.cells (amC (x.plus a (1))) 44) :: M) (by rfl) (up_cons rfl hs7) ?_
    refine l_val (v := .agg (amC (x.plus a (1)))) rfl rfl rfl (e_load tt0 (cs := (amE (x.plus a (1)))) rfl (k_pt 0 (cs := (amC (x.plus a (1)))) (vs := (amE (x.plus a (1)))) rfl rfl) rfl) ?_
    refine l_nil ?_
    exact f_owes_d (up_cons rfl hs7) rfl (perm_front 0 rfl)
   ·rintro f M ⟨k0, k1, k2, -⟩ -
    have hs53 : f 53 = .map (some mp) := k0
    have hs54 : f 54 = Ix (n) := k1
    have hs55 : f 55 = .agg (amC (x.plus a (1))) := k2
    refine ob_start (L' := mpR PuM mp ps :: M) (by rfl) (up_cons (up_cons (up_cons rfl hs53) hs54) hs55) ?_
    refine l_mu rfl rfl (m_mput (K := PuM) (b := mp) (ks := ps) (k := (n)) (v := (x.plus a (1))) 0 rfl rfl rfl rfl rfl) ?_
    refine l_nil ?_
    exact f_owes_n (up_cons (up_cons (up_cons rfl hs53) hs54) hs55) trivial (perm_front 0 rfl)
   rintro fa20 ⟨-, -, -, -, -, -, -, -⟩ -
   refine f_re (L' := [pt b5 (.cells (amC x) 44), pt b1 (.cells (amC a) 44), pt zb (.cells #[.map (some mp), .map (some mh), Ix (la), Ix (su.a0), Ix (su.a1), Ix (su.a2), Ix (su.a3), .map (some mm)] 88), pt (blk (fa4 7)) (.cells (amC (x.plus a (1))) 44), mpR PuM mp (PuM.put ps (n) (x.plus a (1)))]) (by rfl) ?_
   refine f_block ?_
   refine f_then ?_
   refine c_seq ?_
   refine c_region ?_
   refine l_val (v := .int .i64 (0)) rfl rfl rfl (e_assign) ?_
   refine l_nil ?_
   refine f_then ?_
   refine c_ret ?_
   refine ret1 Tryz.results107 (v := .int .i64 (0)) rfl ?_
   intro w hw
   replace hw := hw.perm (L' := [pt zb (.cells #[.map (some mp), .map (some mh), Ix (la), Ix (su.a0), Ix (su.a1), Ix (su.a2), Ix (su.a3), .map (some mm)] 88), mpR PuM mp (PuM.put ps (n) (x.plus a (1))), pt b5 (.cells (amC x) 44), pt b1 (.cells (amC a) 44), pt (blk (fa4 7)) (.cells (amC (x.plus a (1))) 44)]) (by exact (perm_ix [2, 4, 0, 1, 3] 5 rfl (by kernel_rfl) (by kernel_rfl)))
   exact ⟨congrArg (fun z : Int => Ending.returned (Ix z)) (show 0 = addE ps n a by simp_all [addE, addP, puA]), (show (PuM.put ps (n) (x.plus a (1))) = addP ps n a by simp_all [addE, addP, puA]) ▸ st_mask (L' := [pt zb (.cells #[.map (some mp), .map (some mh), Ix (la), Ix (su.a0), Ix (su.a1), Ix (su.a2), Ix (su.a3), .map (some mm)] 88), mpR PuM mp (PuM.put ps (n) (x.plus a (1)))]) [true, true, false, false, false] rfl hw⟩
  ·
   refine c_skip ?_
   refine f_block ?_
   refine f_then ?_
   refine c_seq ?_
   refine c_region ?_
   refine l_val (v := .int .i64 (0)) rfl rfl rfl (e_assign) ?_
   refine l_nil ?_
   refine f_then ?_
   refine c_ret ?_
   refine ret1 Tryz.results107 (v := .int .i64 (0)) rfl ?_
   intro w hw
   replace hw := hw.perm (L' := [pt zb (.cells #[.map (some mp), .map (some mh), Ix (la), Ix (su.a0), Ix (su.a1), Ix (su.a2), Ix (su.a3), .map (some mm)] 88), mpR PuM mp ps, pt b5 (.cells (amC x) 44), pt b1 (.cells (amC a) 44), pt (blk (fa4 7)) (.cells (amC (x.plus a (1))) 44)]) (by exact (perm_ix [2, 3, 0, 1, 4] 5 rfl (by kernel_rfl) (by kernel_rfl)))
   exact ⟨congrArg (fun z : Int => Ending.returned (Ix z)) (show 0 = addE ps n a by simp_all [addE, addP, puA]), (show ps = addP ps n a by simp_all [addE, addP, puA]) ▸ st_mask (L' := [pt zb (.cells #[.map (some mp), .map (some mh), Ix (la), Ix (su.a0), Ix (su.a1), Ix (su.a2), Ix (su.a3), .map (some mm)] 88), mpR PuM mp ps]) [true, true, false, false, false] rfl hw⟩
set_option maxHeartbeats 4000000 in
theorem take_ok (β : Base) (w : World) (zb mp mh mm : Nat) (la : Int) (su : KAm) (ps : List (Int × KAm)) (hw : St β [pt zb (.cells (stC mp mh mm la su) 88), mpR PuM mp ps] w) (n : Int) (a x : KAm) (hx : (PuM.look ps n).getD zeroA = x) (hxb : x.bd 4611686018427387903) (hab : a.bd 4611686018427387903) : Calls Tryz.prog 109 #[.pointer (some ⟨zb, 0, none⟩), Ix n, .agg (amC a)] w fun r w' => r = .returned (Ix (takeE ps n a)) ∧ St β [pt zb (.cells (stC mp mh mm la su) 88), mpR PuM mp (takeP ps n a)] w' := by
 refine enter (n := 33) Tryz.func109 rfl Tryz.ntmps109 rfl ?_ hw
 refine c_seq ?_
 refine c_region ?_
 refine l_mv rfl rfl rfl (m_box (v := .agg (amC a)) rfl) ?_
 rintro _ _ ⟨b1, rfl, rfl⟩
 refine l_val (v := .int .i64 (0)) rfl rfl rfl (e_assign) ?_
 refine l_nil ?_
 refine f_then ?_
 refine c_seq ?_
 refine c_any [⟨[], [], [0], [8], fun f => f 8 = .pointer (some ⟨zb, 0, none⟩)⟩, ⟨[0], [0], [], [9], fun f => f 9 = .pointer (some ⟨zb, 0, none⟩)⟩, ⟨[0, 1], [1], [], [10], fun f => f 10 = .pointer (some ⟨zb, 0, none⟩)⟩, ⟨[0, 1, 2], [2], [], [11], fun f => f 11 = .map (some mp)⟩, ⟨[], [], [1], [12], fun f => f 12 = Ix (n)⟩, ⟨[0, 1, 2, 3, 4], [3, 4], [], [13], fun f => f 13 = .agg (amC x)⟩, ⟨[], [], [2], [14], fun f => f 14 = .agg (amC a)⟩, ⟨[0, 1, 2, 3, 4, 5, 6], [5, 6], [], [15], fun f => f 15 = .agg (amC (x.plus a (-1)))⟩, ⟨[], [], [], [7], fun f => f 7 = .pointer (some ⟨(blk (f 7)), 0, none⟩)⟩, ⟨[0, 1, 2, 3, 4, 5, 6, 7, 8], [8, 7], [], [], fun _ => True⟩] [⟨none, none, [6], [], fun _ => pt b1 (.cells (amC a) 44)⟩, ⟨none, none, [3], [], fun _ => pt zb (.cells #[.map (some mp), .map (some mh), Ix (la), Ix (su.a0), Ix (su.a1), Ix (su.a2), Ix (su.a3), .map (some mm)] 88)⟩, ⟨none, none, [5], [], fun _ => mpR PuM mp ps⟩, ⟨(some 8), (some 9), [9], [7], fun f => pt (blk (f 7)) (.cells #[.int .i64 (0), .int .i64 (0), .int .i64 (0), .int .i64 (0)] 44)⟩, ⟨(some 9), none, [], [7], fun f => pt (blk (f 7)) (.cells (amC (x.plus a (-1))) 44)⟩] [(0, .pointer (some ⟨zb, 0, none⟩)), (1, Ix (n)), (5, .pointer (some ⟨b1, 0, none⟩))] [0, 1] [] (by kernel_rfl) (by kernel_rfl) (by kernel_rfl) (by kernel_rfl) rfl ⟨rfl, rfl, rfl, trivial⟩ ⟨?_, ?_, ?_, ?_, ?_, ?_, ?_, ?_, ?_, ?_, trivial⟩ ?_
 ·rintro f M - ⟨i0, -⟩
  have hs0 : f 0 = .pointer (some ⟨zb, 0, none⟩) := i0
  refine ob_start (L' := M) (by rfl) (up_cons rfl hs0) ?_
  refine l_val (v := .pointer (some ⟨zb, 0, none⟩)) rfl rfl rfl (e_move) ?_
  refine l_nil ?_
  exact f_owes_d (up_cons rfl hs0) rfl (List.Perm.refl _)
 ·rintro f M ⟨k0, -⟩ -
  have hs8 : f 8 = .pointer (some ⟨zb, 0, none⟩) := k0
  refine ob_start (L' := M) (by rfl) (up_cons rfl hs8) ?_
  refine l_val (v := .pointer (some ⟨zb, 0, none⟩)) rfl rfl rfl (e_nil (a := ⟨zb, 0, none⟩) rfl) ?_
  refine l_nil ?_
  exact f_owes_d (up_cons rfl hs8) rfl (List.Perm.refl _)
 ·rintro f M ⟨k0, -⟩ -
  have hs9 : f 9 = .pointer (some ⟨zb, 0, none⟩) := k0
  refine ob_start (L' := M) (by rfl) (up_cons rfl hs9) ?_
  refine l_val (v := .pointer (some ⟨zb, 0, none⟩)) rfl rfl rfl (e_fieldPt (b := zb) (o := 0) rfl tt32) ?_
  refine l_nil ?_
  exact f_owes_d (up_cons rfl hs9) rfl (List.Perm.refl _)
 ·rintro f M ⟨k0, -⟩ -
  have hs10 : f 10 = .pointer (some ⟨zb, 0, none⟩) := k0
  refine ob_start (L' := pt zb (.cells #[.map (some mp), .map (some mh), Ix (la), Ix (su.a0), Ix (su.a1), Ix (su.a2), Ix (su.a3), .map (some mm)] 88) :: M) (by rfl) (up_cons rfl hs10) ?_
  refine l_val (v := .map (some mp)) rfl rfl rfl (e_load1 tt33 (v := .map (some mp)) rfl (k_pt 0 (cs := #[.map (some mp), .map (some mh), Ix (la), Ix (su.a0), Ix (su.a1), Ix (su.a2), Ix (su.a3), .map (some mm)]) (vs := [.map (some mp)]) rfl rfl)) ?_
  refine l_nil ?_
  exact f_owes_d (up_cons rfl hs10) rfl (perm_front 0 rfl)
 ·rintro f M - ⟨i0, -⟩
  have hs1 : f 1 = Ix (n) := i0
  refine ob_start (L' := M) (by rfl) (up_cons rfl hs1) ?_
  refine l_val (v := Ix (n)) rfl rfl rfl (e_move) ?_
  refine l_nil ?_
  exact f_owes_d (up_cons rfl hs1) rfl (List.Perm.refl _)
 ·rintro f M ⟨k0, k1, -⟩ -
  have hs11 : f 11 = .map (some mp) := k0
  have hs12 : f 12 = Ix (n) := k1
  refine ob_start (L' := mpR PuM mp ps :: M) (by rfl) (up_cons (up_cons rfl hs11) hs12) ?_
  refine l_val (v := .agg (amC x)) rfl rfl rfl (ev_eq (congrArg PuM.encv hx) (e_look1 (K := PuM) (b := mp) (ks := ps) (k := n) rfl rfl rfl (Knows.of_res 0 rfl (mpR.mono _ _ _) fun _ h => h))) ?_
  refine l_nil ?_
  exact f_owes_d (up_cons (up_cons rfl hs11) hs12) rfl (perm_front 0 rfl)
 ·rintro f M - ⟨i0, -⟩
  have hs5 : f 5 = .pointer (some ⟨b1, 0, none⟩) := i0
  refine ob_start (L' := pt b1 (.cells (amC a) 44) :: M) (by rfl) (up_cons rfl hs5) ?_
  refine l_val (v := .agg (amC a)) rfl rfl rfl (e_load tt0 (cs := (amE a)) rfl (k_pt 0 (cs := (amC a)) (vs := (amE a)) rfl rfl) rfl) ?_
  refine l_nil ?_
  exact f_owes_d (up_cons rfl hs5) rfl (perm_front 0 rfl)
 ·rintro f M ⟨k0, k1, -⟩ -
  have hs13 : f 13 = .agg (amC x) := k0
  have hs14 : f 14 = .agg (amC a) := k1
  refine ob_start (L' := M) (by rfl) (up_cons (up_cons rfl hs13) hs14) ?_
  refine l_call rfl rfl rfl (cl_value (fst := []) (cap := []) (vs := [.agg (amC x), .agg (amC a), .int .i64 (-1)]) (all := [.agg (amC x), .agg (amC a), .int .i64 (-1)]) tt34 rfl rfl rfl) ?_
  intro w hw
  obtain ⟨β1, sb, kn, hw1, back⟩ := St.frame_all hw
  refine (plus_ok β1 w hw1 x a (-1) (by decide) hxb hab).mono ?_
  rintro e w' ⟨rfl, hw'⟩
  refine ⟨_, rfl, _, back _ _ hw', ?_⟩
  clear hw hw1 hw' back kn sb
  refine l_nil ?_
  exact f_owes_d (up_cons (up_cons rfl hs13) hs14) rfl (List.Perm.refl _)
 ·rintro f M - -
  refine ob_start (L' := M) (by rfl) rfl ?_
  refine l_mv rfl rfl rfl (m_alloc tt3) ?_
  rintro _ _ ⟨b3, rfl, rfl⟩
  refine l_nil ?_
  exact f_owes_d rfl rfl (perm_front 0 rfl)
 ·rintro f M ⟨k0, k1, -⟩ -
  have hs7 : f 7 = .pointer (some ⟨(blk (f 7)), 0, none⟩) := k0
  have hs15 : f 15 = .agg (amC (x.plus a (-1))) := k1
  refine ob_start (L' := pt (blk (f 7)) (.cells #[.int .i64 (0), .int .i64 (0), .int .i64 (0), .int .i64 (0)] 44) :: M) (by rfl) (up_cons (up_cons rfl hs7) hs15) ?_
  refine l_mu rfl rfl (m_store 0 tt0 (b := (blk (f 7))) (o := 0) (T := 44) (cs := #[.int .i64 (0), .int .i64 (0), .int .i64 (0), .int .i64 (0)]) (cs' := (amC (x.plus a (-1)))) (v := .agg (amC (x.plus a (-1)))) rfl rfl rfl rfl rfl rfl rfl) ?_
  refine l_nil ?_
  exact f_owes_n (up_cons (up_cons rfl hs7) hs15) trivial (perm_front 0 rfl)
 rintro fa4 ⟨-, -, -, -, -, -, -, -, k8, -, -⟩ ⟨j0, j1, -⟩
 refine f_re (L' := [pt b1 (.cells (amC a) 44), pt zb (.cells #[.map (some mp), .map (some mh), Ix (la), Ix (su.a0), Ix (su.a1), Ix (su.a2), Ix (su.a3), .map (some mm)] 88), mpR PuM mp ps, pt (blk (fa4 7)) (.cells (amC (x.plus a (-1))) 44)]) (by rfl) ?_
 refine f_rebase (d := 0) (v := .pointer (some ⟨zb, 0, none⟩)) j0 ?_
 refine f_rebase (d := 1) (v := Ix (n)) j1 ?_
 refine f_rebase (d := 7) (v := .pointer (some ⟨(blk (fa4 7)), 0, none⟩)) k8 ?_
 refine f_then ?_
 refine c_seq ?_
 refine c_seq ?_
 refine c_region ?_
 refine l_val (v := .agg (amC (x.plus a (-1)))) rfl rfl rfl (e_load tt0 (cs := (amE (x.plus a (-1)))) rfl (k_pt 3 (cs := (amC (x.plus a (-1)))) (vs := (amE (x.plus a (-1)))) rfl rfl) rfl) ?_
 refine l_call rfl rfl rfl (cl_value (fst := []) (cap := []) (vs := [.agg (amC (x.plus a (-1)))]) (all := [.agg (amC (x.plus a (-1)))]) tt11 rfl rfl rfl) ?_
 intro w hw
 obtain ⟨β1, sb, kn, hw1, back⟩ := St.frame_all hw
 refine (within_ok β1 w hw1 (x.plus a (-1))).mono ?_
 rintro e w' ⟨rfl, hw'⟩
 refine ⟨_, rfl, _, back _ _ hw', ?_⟩
 clear hw hw1 hw' back kn sb
 refine l_val (v := .bool (!((x.plus a (-1)).within))) rfl rfl rfl (e_not rfl) ?_
 refine l_nil ?_
 refine f_then ?_
 refine c_ifb (!((x.plus a (-1)).within)) rfl (fun hc5 => ?_) (fun hc5 => ?_)
 ·
  refine c_seq ?_
  refine c_region ?_
  refine l_val (v := .int .i64 (330)) rfl rfl rfl (e_assign) ?_
  refine l_nil ?_
  refine f_then ?_
  refine c_ret ?_
  refine f_then_ret ?_
  refine ret1 Tryz.results109 (v := .int .i64 (330)) rfl ?_
  intro w hw
  replace hw := hw.perm (L' := [pt zb (.cells #[.map (some mp), .map (some mh), Ix (la), Ix (su.a0), Ix (su.a1), Ix (su.a2), Ix (su.a3), .map (some mm)] 88), mpR PuM mp ps, pt b1 (.cells (amC a) 44), pt (blk (fa4 7)) (.cells (amC (x.plus a (-1))) 44)]) (by exact (perm_ix [1, 2, 0, 3] 4 rfl (by kernel_rfl) (by kernel_rfl)))
  exact ⟨congrArg (fun z : Int => Ending.returned (Ix z)) (show 330 = takeE ps n a by simp_all [takeE, takeP, takeX, puA]), (show ps = takeP ps n a by simp_all [takeE, takeP, takeX, puA]) ▸ st_mask (L' := [pt zb (.cells #[.map (some mp), .map (some mh), Ix (la), Ix (su.a0), Ix (su.a1), Ix (su.a2), Ix (su.a3), .map (some mm)] 88), mpR PuM mp ps]) [true, true, false, false] rfl hw⟩
 ·
  refine c_skip ?_
  refine f_then ?_
  refine c_seq ?_
  refine c_seq ?_
  refine c_any [⟨[], [], [0], [19], fun f => f 19 = .pointer (some ⟨zb, 0, none⟩)⟩, ⟨[0], [0], [], [20], fun f => f 20 = .pointer (some ⟨zb, 0, none⟩)⟩, ⟨[0, 1], [1], [], [21], fun f => f 21 = .pointer (some ⟨zb, 0, none⟩)⟩, ⟨[0, 1, 2], [2], [], [22], fun f => f 22 = .map (some mp)⟩, ⟨[], [], [1], [23], fun f => f 23 = Ix (n)⟩, ⟨[], [], [2], [24], fun f => f 24 = .agg (amC (x.plus a (-1)))⟩, ⟨[0, 1, 2, 3, 4, 5], [3, 4, 5], [], [], fun _ => True⟩] [⟨none, none, [], [], fun _ => pt b1 (.cells (amC a) 44)⟩, ⟨none, none, [3], [], fun _ => pt zb (.cells #[.map (some mp), .map (some mh), Ix (la), Ix (su.a0), Ix (su.a1), Ix (su.a2), Ix (su.a3), .map (some mm)] 88)⟩, ⟨none, (some 6), [6], [], fun _ => mpR PuM mp ps⟩, ⟨none, none, [5], [], fun _ => pt (blk (fa4 7)) (.cells (amC (x.plus a (-1))) 44)⟩, ⟨(some 6), none, [], [], fun _ => mpR PuM mp (PuM.put ps (n) (x.plus a (-1)))⟩] [(0, .pointer (some ⟨zb, 0, none⟩)), (1, Ix (n)), (7, .pointer (some ⟨(blk (fa4 7)), 0, none⟩))] [0, 1, 2] [] (by kernel_rfl) (by kernel_rfl) (by kernel_rfl) (by kernel_rfl) rfl ⟨rfl, rfl, rfl, trivial⟩ ⟨?_, ?_, ?_, ?_, ?_, ?_, ?_, trivial⟩ ?_
  ·rintro f M - ⟨i0, -⟩
   have hs0 : f 0 = .pointer (some ⟨zb, 0, none⟩) := i0
   refine ob_start (L' := M) (by rfl) (up_cons rfl hs0) ?_
   refine l_val (v := .pointer (some ⟨zb, 0, none⟩)) rfl rfl rfl (e_move) ?_
   refine l_nil ?_
   exact f_owes_d (up_cons rfl hs0) rfl (List.Perm.refl _)
  ·rintro f M ⟨k0, -⟩ -
   have hs19 : f 19 = .pointer (some ⟨zb, 0, none⟩) := k0
   refine ob_start (L' := M) (by rfl) (up_cons rfl hs19) ?_
   refine l_val (v := .pointer (some ⟨zb, 0, none⟩)) rfl rfl rfl (e_nil (a := ⟨zb, 0, none⟩) rfl) ?_
   refine l_nil ?_
   exact f_owes_d (up_cons rfl hs19) rfl (List.Perm.refl _)
  ·rintro f M ⟨k0, -⟩ -
   have hs20 : f 20 = .pointer (some ⟨zb, 0, none⟩) := k0
   refine ob_start (L' := M) (by rfl) (up_cons rfl hs20) ?_
   refine l_val (v := .pointer (some ⟨zb, 0, none⟩)) rfl rfl rfl (e_fieldPt (b := zb) (o := 0) rfl tt32) ?_
   refine l_nil ?_
   exact f_owes_d (up_cons rfl hs20) rfl (List.Perm.refl _)
  ·rintro f M ⟨k0, -⟩ -
   have hs21 : f 21 = .pointer (some ⟨zb, 0, none⟩) := k0
   refine ob_start (L' := pt zb (.cells #[.map (some mp), .map (some mh), Ix (la), Ix (su.a0), Ix (su.a1), Ix (su.a2), Ix (su.a3), .map (some mm)] 88) :: M) (by rfl) (up_cons rfl hs21) ?_
   refine l_val (v := .map (some mp)) rfl rfl rfl (e_load1 tt33 (v := .map (some mp)) rfl (k_pt 0 (cs := #[.map (some mp), .map (some mh), Ix (la), Ix (su.a0), Ix (su.a1), Ix (su.a2), Ix (su.a3), .map (some mm)]) (vs := [.map (some mp)]) rfl rfl)) ?_
   refine l_nil ?_
   exact f_owes_d (up_cons rfl hs21) rfl (perm_front 0 rfl)
  ·rintro f M - ⟨i0, -⟩
   have hs1 : f 1 = Ix (n) := i0
   refine ob_start (L' := M) (by rfl) (up_cons rfl hs1) ?_
   refine l_val (v := Ix (n)) rfl rfl rfl (e_move) ?_
   refine l_nil ?_
   exact f_owes_d (up_cons rfl hs1) rfl (List.Perm.refl _)
  ·rintro f M - ⟨i0, -⟩
   have hs7 : f 7 = .pointer (some ⟨(blk (fa4 7)), 0, none⟩) := i0
   refine ob_start (L' := pt (blk (fa4 7)) (.cells (amC (x.plus a (-1))) 44) :: M) (by rfl) (up_cons rfl hs7) ?_
   refine l_val (v := .agg (amC (x.plus a (-1)))) rfl rfl rfl (e_load tt0 (cs := (amE (x.plus a (-1)))) rfl (k_pt 0 (cs := (amC (x.plus a (-1)))) (vs := (amE (x.plus a (-1)))) rfl rfl) rfl) ?_
   refine l_nil ?_
   exact f_owes_d (up_cons rfl hs7) rfl (perm_front 0 rfl)
  ·rintro f M ⟨k0, k1, k2, -⟩ -
   have hs22 : f 22 = .map (some mp) := k0
   have hs23 : f 23 = Ix (n) := k1
   have hs24 : f 24 = .agg (amC (x.plus a (-1))) := k2
   refine ob_start (L' := mpR PuM mp ps :: M) (by rfl) (up_cons (up_cons (up_cons rfl hs22) hs23) hs24) ?_
   refine l_mu rfl rfl (m_mput (K := PuM) (b := mp) (ks := ps) (k := (n)) (v := (x.plus a (-1))) 0 rfl rfl rfl rfl rfl) ?_
   refine l_nil ?_
   exact f_owes_n (up_cons (up_cons (up_cons rfl hs22) hs23) hs24) trivial (perm_front 0 rfl)
  rintro fa6 ⟨-, -, -, -, -, -, -, -⟩ ⟨j0, j1, j2, -⟩
  refine f_re (L' := [pt b1 (.cells (amC a) 44), pt zb (.cells #[.map (some mp), .map (some mh), Ix (la), Ix (su.a0), Ix (su.a1), Ix (su.a2), Ix (su.a3), .map (some mm)] 88), pt (blk (fa4 7)) (.cells (amC (x.plus a (-1))) 44), mpR PuM mp (PuM.put ps (n) (x.plus a (-1)))]) (by rfl) ?_
  refine f_rebase (d := 0) (v := .pointer (some ⟨zb, 0, none⟩)) j0 ?_
  refine f_rebase (d := 1) (v := Ix (n)) j1 ?_
  refine f_rebase (d := 7) (v := .pointer (some ⟨(blk (fa4 7)), 0, none⟩)) j2 ?_
  refine f_then ?_
  refine c_seq ?_
  refine c_region ?_
  refine l_val (v := .agg (amC (x.plus a (-1)))) rfl rfl rfl (e_load tt0 (cs := (amE (x.plus a (-1)))) rfl (k_pt 2 (cs := (amC (x.plus a (-1)))) (vs := (amE (x.plus a (-1)))) rfl rfl) rfl) ?_
  refine l_val (v := .agg #[.int .i64 (0), .int .i64 (0), .int .i64 (0), .int .i64 (0)]) rfl rfl rfl (e_build_a tt3 tt1 (vs := []) (cells := #[.int .i64 (0), .int .i64 (0), .int .i64 (0), .int .i64 (0)]) rfl rfl) ?_
  refine l_val (v := .bool (decide ((x.plus a (-1)) = zeroA))) rfl rfl rfl (e_eql_t (xs := amE (x.plus a (-1))) (ys := amE zeroA) tt12 tt13 tt14 rfl rfl rfl rfl (am_eq (x := (x.plus a (-1))) (y := zeroA))) ?_
  refine l_nil ?_
  refine f_then ?_
  refine c_if ((x.plus a (-1)) = zeroA) rfl (fun hc7 => ?_) (fun hc7 => ?_)
  ·
   refine c_region ?_
   refine l_val (v := .pointer (some ⟨zb, 0, none⟩)) rfl rfl rfl (e_move) ?_
   refine l_val (v := .pointer (some ⟨zb, 0, none⟩)) rfl rfl rfl (e_nil (a := ⟨zb, 0, none⟩) rfl) ?_
   refine l_val (v := .pointer (some ⟨zb, 0, none⟩)) rfl rfl rfl (e_fieldPt (b := zb) (o := 0) rfl tt32) ?_
   refine l_val (v := .map (some mp)) rfl rfl rfl (e_load1 tt33 (v := .map (some mp)) rfl (k_pt 1 (cs := #[.map (some mp), .map (some mh), Ix (la), Ix (su.a0), Ix (su.a1), Ix (su.a2), Ix (su.a3), .map (some mm)]) (vs := [.map (some mp)]) rfl rfl)) ?_
   refine l_val (v := Ix (n)) rfl rfl rfl (e_move) ?_
   refine l_mc rfl rfl (m_mdel (K := PuM) (b := mp) (ks := (PuM.put ps (n) (x.plus a (-1)))) (k := (n)) 3 rfl rfl rfl rfl) ?_
   rintro _ _ ⟨rfl, rfl⟩
   refine l_nil ?_
   refine f_then ?_
   refine c_seq ?_
   refine c_region ?_
   refine l_val (v := .int .i64 (0)) rfl rfl rfl (e_assign) ?_
   refine l_nil ?_
   refine f_then ?_
   refine c_ret ?_
   refine ret1 Tryz.results109 (v := .int .i64 (0)) rfl ?_
   intro w hw
   replace hw := hw.perm (L' := [pt zb (.cells #[.map (some mp), .map (some mh), Ix (la), Ix (su.a0), Ix (su.a1), Ix (su.a2), Ix (su.a3), .map (some mm)] 88), mpR PuM mp (PuM.del (PuM.put ps (n) (x.plus a (-1))) (n)), pt b1 (.cells (amC a) 44), pt (blk (fa4 7)) (.cells (amC (x.plus a (-1))) 44)]) (by exact (perm_ix [1, 3, 0, 2] 4 rfl (by kernel_rfl) (by kernel_rfl)))
   exact ⟨congrArg (fun z : Int => Ending.returned (Ix z)) (show 0 = takeE ps n a by simp_all [takeE, takeP, takeX, puA]), (show (PuM.del (PuM.put ps (n) (x.plus a (-1))) (n)) = takeP ps n a by simp_all [takeE, takeP, takeX, puA]) ▸ st_mask (L' := [pt zb (.cells #[.map (some mp), .map (some mh), Ix (la), Ix (su.a0), Ix (su.a1), Ix (su.a2), Ix (su.a3), .map (some mm)] 88), mpR PuM mp (PuM.del (PuM.put ps (n) (x.plus a (-1))) (n))]) [true, true, false, false] rfl hw⟩
  ·
   refine c_skip ?_
   refine f_then ?_
   refine c_seq ?_
   refine c_region ?_
   refine l_val (v := .int .i64 (0)) rfl rfl rfl (e_assign) ?_
   refine l_nil ?_
   refine f_then ?_
   refine c_ret ?_
   refine ret1 Tryz.results109 (v := .int .i64 (0)) rfl ?_
   intro w hw
   replace hw := hw.perm (L' := [pt zb (.cells #[.map (some mp), .map (some mh), Ix (la), Ix (su.a0), Ix (su.a1), Ix (su.a2), Ix (su.a3), .map (some mm)] 88), mpR PuM mp (PuM.put ps (n) (x.plus a (-1))), pt b1 (.cells (amC a) 44), pt (blk (fa4 7)) (.cells (amC (x.plus a (-1))) 44)]) (by exact (perm_ix [1, 3, 0, 2] 4 rfl (by kernel_rfl) (by kernel_rfl)))
   exact ⟨congrArg (fun z : Int => Ending.returned (Ix z)) (show 0 = takeE ps n a by simp_all [takeE, takeP, takeX, puA]), (show (PuM.put ps (n) (x.plus a (-1))) = takeP ps n a by simp_all [takeE, takeP, takeX, puA]) ▸ st_mask (L' := [pt zb (.cells #[.map (some mp), .map (some mh), Ix (la), Ix (su.a0), Ix (su.a1), Ix (su.a2), Ix (su.a3), .map (some mm)] 88), mpR PuM mp (PuM.put ps (n) (x.plus a (-1)))]) [true, true, false, false] rfl hw⟩
set_option maxHeartbeats 4000000 in
theorem mint_ok (β : Base) (w : World) (zb mp mh mm : Nat) (s : KSt) (hw : St β [pt zb (.cells (stC mp mh mm s.last s.su) 88), mpR PuM mp s.ps, mpR HoM mh s.hs] w) (hP : okP s.ps) (hH : okH s.hs) (hsu : s.su.bd 4611686018427387903) (hla : -4611686018427387903 ≤ s.last ∧ s.last ≤ 4611686018427387903) (x : KAct) (hxa : x.a.bd 4611686018427387903) : Calls Tryz.prog 67 #[.pointer (some ⟨zb, 0, none⟩), .agg #[Bx (x.kind), Ix (x.owner), Ix (x.other), Ix (x.hold), Ix (x.a.a0), Ix (x.a.a1), Ix (x.a.a2), Ix (x.a.a3)]] w fun r w' => r = .returned (.tuple #[Ix (mintS s x).2.1, Ix (mintS s x).2.2]) ∧ St β [pt zb (.cells (stC mp mh mm (mintS s x).1.last (mintS s x).1.su) 88), mpR PuM mp (mintS s x).1.ps, mpR HoM mh (mintS s x).1.hs] w' := by
 refine enter (n := 26) Tryz.func67 rfl Tryz.ntmps67 rfl ?_ hw
 refine c_seq ?_
 refine c_region ?_
 refine l_mv rfl rfl rfl (m_box (v := .agg #[Bx (x.kind), Ix (x.owner), Ix (x.other), Ix (x.hold), Ix (x.a.a0), Ix (x.a.a1), Ix (x.a.a2), Ix (x.a.a3)]) rfl) ?_
 rintro _ _ ⟨b1, rfl, rfl⟩
 refine l_val (v := .int .i64 (0)) rfl rfl rfl (e_assign) ?_
 refine l_val (v := .int .i64 (0)) rfl rfl rfl (e_assign) ?_
 refine l_nil ?_
 refine f_then ?_
 refine c_seq ?_
 refine c_region ?_
 refine l_val (v := .pointer (some ⟨zb, 0, none⟩)) rfl rfl rfl (e_move) ?_
 refine l_val (v := .pointer (some ⟨b1, 1, none⟩)) rfl rfl rfl (e_fieldPt (b := b1) (o := 0) rfl tt6) ?_
 refine l_val (v := Ix (x.owner)) rfl rfl rfl (e_load1 tt2 (v := Ix (x.owner)) rfl (k_pt 0 (cs := #[Bx (x.kind), Ix (x.owner), Ix (x.other), Ix (x.hold), Ix (x.a.a0), Ix (x.a.a1), Ix (x.a.a2), Ix (x.a.a3)]) (vs := [Ix (x.owner)]) rfl rfl)) ?_
 refine l_val (v := .pointer (some ⟨b1, 4, none⟩)) rfl rfl rfl (e_fieldPt (b := b1) (o := 0) rfl tt10) ?_
 refine l_val (v := .agg (amC x.a)) rfl rfl rfl (e_load tt0 (cs := (amE x.a)) rfl (k_pt 0 (cs := #[Bx (x.kind), Ix (x.owner), Ix (x.other), Ix (x.hold), Ix (x.a.a0), Ix (x.a.a1), Ix (x.a.a2), Ix (x.a.a3)]) (vs := (amE x.a)) rfl rfl) rfl) ?_
 refine l_call rfl rfl rfl (cl_value (fst := []) (cap := []) (vs := [.pointer (some ⟨zb, 0, none⟩), Ix (x.owner), .agg (amC x.a)]) (all := [.pointer (some ⟨zb, 0, none⟩), Ix (x.owner), .agg (amC x.a)]) tt35 rfl rfl rfl) ?_
 intro w hw
 replace hw := hw.perm (L' := _ :: _ :: _ :: _ :: []) (by exact ((((perm_front 3 rfl).trans (perm_front 1 rfl)).trans (perm_front 3 rfl)).trans (perm_front 3 rfl)))
 obtain ⟨β1, sb, kn, hw1, back⟩ := St.frame (L := [_, _]) (M := _ :: _ :: []) hw
 refine (add_ok β1 w zb mp mh mm s.last s.su s.ps hw1 x.owner x.a _ rfl (okP_bd hP _) hxa).mono ?_
 rintro e w' ⟨rfl, hw'⟩
 refine ⟨_, rfl, _, back _ _ hw', ?_⟩
 clear hw hw1 hw' back kn sb
 refine l_val (v := Ix (addE s.ps x.owner x.a)) rfl rfl rfl (e_assign) ?_
 refine l_nil ?_
 refine f_then ?_
 refine c_seq ?_
 refine c_seq ?_
 refine c_region ?_
 refine l_val (v := Ix (addE s.ps x.owner x.a)) rfl rfl rfl (e_move) ?_
 refine l_val (v := .bool (decide ((addE s.ps x.owner x.a) = (0 : Int)))) rfl rfl rfl (e_eql (a := (addE s.ps x.owner x.a)) (b := (0 : Int)) rfl rfl) ?_
 refine l_nil ?_
 refine f_then ?_
 refine c_if ((addE s.ps x.owner x.a) = (0 : Int)) rfl (fun hc2 => ?_) (fun hc2 => ?_)
 ·
  refine c_any [⟨[], [], [0], [15], fun f => f 15 = .pointer (some ⟨zb, 0, none⟩)⟩, ⟨[], [], [0], [16], fun f => f 16 = .pointer (some ⟨zb, 0, none⟩)⟩, ⟨[1], [1], [], [17], fun f => f 17 = .pointer (some ⟨zb, 0, none⟩)⟩, ⟨[1, 2], [2], [], [18], fun f => f 18 = .pointer (some ⟨zb, 3, none⟩)⟩, ⟨[1, 2, 3], [3], [], [19], fun f => f 19 = .agg (amC s.su)⟩, ⟨[], [], [1], [20], fun f => f 20 = .pointer (some ⟨b1, 4, none⟩)⟩, ⟨[5], [5], [], [21], fun f => f 21 = .agg (amC x.a)⟩, ⟨[1, 2, 3, 4, 5, 6], [4, 6], [], [22], fun f => f 22 = .agg (amC (s.su.plus x.a (1)))⟩, ⟨[0, 1, 2, 3, 4, 5, 6, 7], [0], [], [23], fun f => f 23 = .pointer (some ⟨zb, 0, none⟩)⟩, ⟨[0, 1, 2, 3, 4, 5, 6, 7, 8], [8], [], [24], fun f => f 24 = .pointer (some ⟨zb, 3, none⟩)⟩, ⟨[0, 1, 2, 3, 4, 5, 6, 7, 8, 9], [9, 7], [], [], fun _ => True⟩] [⟨none, (some 10), [4, 10], [], fun _ => pt zb (.cells #[.map (some mp), .map (some mh), Ix (s.last), Ix (s.su.a0), Ix (s.su.a1), Ix (s.su.a2), Ix (s.su.a3), .map (some mm)] 88)⟩, ⟨none, none, [], [], fun _ => mpR PuM mp (addP s.ps x.owner x.a)⟩, ⟨none, none, [6], [], fun _ => pt b1 (.cells #[Bx (x.kind), Ix (x.owner), Ix (x.other), Ix (x.hold), Ix (x.a.a0), Ix (x.a.a1), Ix (x.a.a2), Ix (x.a.a3)] 47)⟩, ⟨none, none, [], [], fun _ => mpR HoM mh s.hs⟩, ⟨(some 10), none, [], [], fun _ => pt zb (.cells #[.map (some mp), .map (some mh), Ix (s.last), Ix ((s.su.plus x.a (1)).a0), Ix ((s.su.plus x.a (1)).a1), Ix ((s.su.plus x.a (1)).a2), Ix ((s.su.plus x.a (1)).a3), .map (some mm)] 88)⟩] [(0, .pointer (some ⟨zb, 0, none⟩)), (3, .pointer (some ⟨b1, 0, none⟩)), (6, Ix (addE s.ps x.owner x.a))] [2] [] (by kernel_rfl) (by kernel_rfl) (by kernel_rfl) (by kernel_rfl) rfl ⟨rfl, rfl, rfl, trivial⟩ ⟨?_, ?_, ?_, ?_, ?_, ?_, ?_, ?_, ?_, ?_, ?_, trivial⟩ ?_
  ·rintro f M - ⟨i0, -⟩
   have hs0 : f 0 = .pointer (some ⟨zb, 0, none⟩) := i0
   refine ob_start (L' := M) (by rfl) (up_cons rfl hs0) ?_
   refine l_val (v := .pointer (some ⟨zb, 0, none⟩)) rfl rfl rfl (e_move) ?_
   refine l_nil ?_
   exact f_owes_d (up_cons rfl hs0) rfl (List.Perm.refl _)
  ·rintro f M - ⟨i0, -⟩
   have hs0 : f 0 = .pointer (some ⟨zb, 0, none⟩) := i0
   refine ob_start (L' := M) (by rfl) (up_cons rfl hs0) ?_
   refine l_val (v := .pointer (some ⟨zb, 0, none⟩)) rfl rfl rfl (e_move) ?_
   refine l_nil ?_
   exact f_owes_d (up_cons rfl hs0) rfl (List.Perm.refl _)
  ·rintro f M ⟨k0, -⟩ -
   have hs16 : f 16 = .pointer (some ⟨zb, 0, none⟩) := k0
   refine ob_start (L' := M) (by rfl) (up_cons rfl hs16) ?_
   refine l_val (v := .pointer (some ⟨zb, 0, none⟩)) rfl rfl rfl (e_nil (a := ⟨zb, 0, none⟩) rfl) ?_
   refine l_nil ?_
   exact f_owes_d (up_cons rfl hs16) rfl (List.Perm.refl _)
  ·rintro f M ⟨k0, -⟩ -
   have hs17 : f 17 = .pointer (some ⟨zb, 0, none⟩) := k0
   refine ob_start (L' := M) (by rfl) (up_cons rfl hs17) ?_
   refine l_val (v := .pointer (some ⟨zb, 3, none⟩)) rfl rfl rfl (e_fieldPt (b := zb) (o := 0) rfl tt36) ?_
   refine l_nil ?_
   exact f_owes_d (up_cons rfl hs17) rfl (List.Perm.refl _)
  ·rintro f M ⟨k0, -⟩ -
   have hs18 : f 18 = .pointer (some ⟨zb, 3, none⟩) := k0
   refine ob_start (L' := pt zb (.cells #[.map (some mp), .map (some mh), Ix (s.last), Ix (s.su.a0), Ix (s.su.a1), Ix (s.su.a2), Ix (s.su.a3), .map (some mm)] 88) :: M) (by rfl) (up_cons rfl hs18) ?_
   refine l_val (v := .agg (amC s.su)) rfl rfl rfl (e_load tt0 (cs := (amE s.su)) rfl (k_pt 0 (cs := #[.map (some mp), .map (some mh), Ix (s.last), Ix (s.su.a0), Ix (s.su.a1), Ix (s.su.a2), Ix (s.su.a3), .map (some mm)]) (vs := (amE s.su)) rfl rfl) rfl) ?_
   refine l_nil ?_
   exact f_owes_d (up_cons rfl hs18) rfl (perm_front 0 rfl)
  ·rintro f M - ⟨i0, -⟩
   have hs3 : f 3 = .pointer (some ⟨b1, 0, none⟩) := i0
   refine ob_start (L' := M) (by rfl) (up_cons rfl hs3) ?_
   refine l_val (v := .pointer (some ⟨b1, 4, none⟩)) rfl rfl rfl (e_fieldPt (b := b1) (o := 0) rfl tt10) ?_
   refine l_nil ?_
   exact f_owes_d (up_cons rfl hs3) rfl (List.Perm.refl _)
  ·rintro f M ⟨k0, -⟩ -
   have hs20 : f 20 = .pointer (some ⟨b1, 4, none⟩) := k0
   refine ob_start (L' := pt b1 (.cells #[Bx (x.kind), Ix (x.owner), Ix (x.other), Ix (x.hold), Ix (x.a.a0), Ix (x.a.a1), Ix (x.a.a2), Ix (x.a.a3)] 47) :: M) (by rfl) (up_cons rfl hs20) ?_
   refine l_val (v := .agg (amC x.a)) rfl rfl rfl (e_load tt0 (cs := (amE x.a)) rfl (k_pt 0 (cs := #[Bx (x.kind), Ix (x.owner), Ix (x.other), Ix (x.hold), Ix (x.a.a0), Ix (x.a.a1), Ix (x.a.a2), Ix (x.a.a3)]) (vs := (amE x.a)) rfl rfl) rfl) ?_
   refine l_nil ?_
   exact f_owes_d (up_cons rfl hs20) rfl (perm_front 0 rfl)
  ·rintro f M ⟨k0, k1, -⟩ -
   have hs19 : f 19 = .agg (amC s.su) := k0
   have hs21 : f 21 = .agg (amC x.a) := k1
   refine ob_start (L' := M) (by rfl) (up_cons (up_cons rfl hs19) hs21) ?_
   refine l_call rfl rfl rfl (cl_value (fst := []) (cap := []) (vs := [.agg (amC s.su), .agg (amC x.a), .int .i64 (1)]) (all := [.agg (amC s.su), .agg (amC x.a), .int .i64 (1)]) tt34 rfl rfl rfl) ?_
   intro w hw
   obtain ⟨β1, sb, kn, hw1, back⟩ := St.frame_all hw
   refine (plus_ok β1 w hw1 s.su x.a (1) (by decide) hsu hxa).mono ?_
   rintro e w' ⟨rfl, hw'⟩
   refine ⟨_, rfl, _, back _ _ hw', ?_⟩
   clear hw hw1 hw' back kn sb
   refine l_nil ?_
   exact f_owes_d (up_cons (up_cons rfl hs19) hs21) rfl (List.Perm.refl _)
  ·rintro f M ⟨k0, -⟩ -
   have hs15 : f 15 = .pointer (some ⟨zb, 0, none⟩) := k0
   refine ob_start (L' := M) (by rfl) (up_cons rfl hs15) ?_
   refine l_val (v := .pointer (some ⟨zb, 0, none⟩)) rfl rfl rfl (e_nil (a := ⟨zb, 0, none⟩) rfl) ?_
   refine l_nil ?_
   exact f_owes_d (up_cons rfl hs15) rfl (List.Perm.refl _)
  ·rintro f M ⟨k0, -⟩ -
   have hs23 : f 23 = .pointer (some ⟨zb, 0, none⟩) := k0
   refine ob_start (L' := M) (by rfl) (up_cons rfl hs23) ?_
   refine l_val (v := .pointer (some ⟨zb, 3, none⟩)) rfl rfl rfl (e_fieldPt (b := zb) (o := 0) rfl tt36) ?_
   refine l_nil ?_
   exact f_owes_d (up_cons rfl hs23) rfl (List.Perm.refl _)
  ·rintro f M ⟨k0, k1, -⟩ -
   have hs24 : f 24 = .pointer (some ⟨zb, 3, none⟩) := k0
   have hs22 : f 22 = .agg (amC (s.su.plus x.a (1))) := k1
   refine ob_start (L' := pt zb (.cells #[.map (some mp), .map (some mh), Ix (s.last), Ix (s.su.a0), Ix (s.su.a1), Ix (s.su.a2), Ix (s.su.a3), .map (some mm)] 88) :: M) (by rfl) (up_cons (up_cons rfl hs24) hs22) ?_
   refine l_mu rfl rfl (m_store 0 tt0 (b := zb) (o := 3) (T := 88) (cs := #[.map (some mp), .map (some mh), Ix (s.last), Ix (s.su.a0), Ix (s.su.a1), Ix (s.su.a2), Ix (s.su.a3), .map (some mm)]) (cs' := #[.map (some mp), .map (some mh), Ix (s.last), Ix ((s.su.plus x.a (1)).a0), Ix ((s.su.plus x.a (1)).a1), Ix ((s.su.plus x.a (1)).a2), Ix ((s.su.plus x.a (1)).a3), .map (some mm)]) (v := .agg (amC (s.su.plus x.a (1)))) rfl rfl rfl rfl rfl rfl rfl) ?_
   refine l_nil ?_
   exact f_owes_n (up_cons (up_cons rfl hs24) hs22) trivial (perm_front 0 rfl)
  rintro fa3 ⟨-, -, -, -, -, -, -, -, -, -, -, -⟩ ⟨j0, -⟩
  refine f_re (L' := [mpR PuM mp (addP s.ps x.owner x.a), pt b1 (.cells #[Bx (x.kind), Ix (x.owner), Ix (x.other), Ix (x.hold), Ix (x.a.a0), Ix (x.a.a1), Ix (x.a.a2), Ix (x.a.a3)] 47), mpR HoM mh s.hs, pt zb (.cells #[.map (some mp), .map (some mh), Ix (s.last), Ix ((s.su.plus x.a (1)).a0), Ix ((s.su.plus x.a (1)).a1), Ix ((s.su.plus x.a (1)).a2), Ix ((s.su.plus x.a (1)).a3), .map (some mm)] 88)]) (by rfl) ?_
  refine f_rebase (d := 6) (v := Ix (addE s.ps x.owner x.a)) j0 ?_
  refine f_then ?_
  refine c_seq ?_
  refine c_region ?_
  refine l_val (v := Ix (addE s.ps x.owner x.a)) rfl rfl rfl (e_move) ?_
  refine l_val (v := .int .i64 (0)) rfl rfl rfl (e_assign) ?_
  refine l_val (v := Ix (addE s.ps x.owner x.a)) rfl rfl rfl (e_assign) ?_
  refine l_nil ?_
  refine f_then ?_
  refine c_ret ?_
  refine ret2 (v := .int .i64 (0)) (v' := Ix (addE s.ps x.owner x.a)) Tryz.results67 rfl rfl ?_
  intro w hw
  replace hw := hw.perm (L' := [pt zb (.cells #[.map (some mp), .map (some mh), Ix (s.last), Ix ((s.su.plus x.a (1)).a0), Ix ((s.su.plus x.a (1)).a1), Ix ((s.su.plus x.a (1)).a2), Ix ((s.su.plus x.a (1)).a3), .map (some mm)] 88), mpR PuM mp (addP s.ps x.owner x.a), mpR HoM mh s.hs, pt b1 (.cells #[Bx (x.kind), Ix (x.owner), Ix (x.other), Ix (x.hold), Ix (x.a.a0), Ix (x.a.a1), Ix (x.a.a2), Ix (x.a.a3)] 47)]) (by exact (perm_ix [3, 0, 2, 1] 4 rfl (by kernel_rfl) (by kernel_rfl)))
  exact act_end (V := (⟨(addP s.ps x.owner x.a), s.hs, s.last, (s.su.plus x.a (1))⟩ : KSt)) (show ((⟨(addP s.ps x.owner x.a), s.hs, s.last, (s.su.plus x.a (1))⟩ : KSt), 0, addE s.ps x.owner x.a) = mintS s x by simp_all [mintS]) (st_mask (L' := [pt zb (.cells #[.map (some mp), .map (some mh), Ix (s.last), Ix ((s.su.plus x.a (1)).a0), Ix ((s.su.plus x.a (1)).a1), Ix ((s.su.plus x.a (1)).a2), Ix ((s.su.plus x.a (1)).a3), .map (some mm)] 88), mpR PuM mp (addP s.ps x.owner x.a), mpR HoM mh s.hs]) [true, true, true, false] rfl hw)
 ·
  refine c_skip ?_
  refine f_then ?_
  refine c_seq ?_
  refine c_region ?_
  refine l_val (v := Ix (addE s.ps x.owner x.a)) rfl rfl rfl (e_move) ?_
  refine l_val (v := .int .i64 (0)) rfl rfl rfl (e_assign) ?_
  refine l_val (v := Ix (addE s.ps x.owner x.a)) rfl rfl rfl (e_assign) ?_
  refine l_nil ?_
  refine f_then ?_
  refine c_ret ?_
  refine ret2 (v := .int .i64 (0)) (v' := Ix (addE s.ps x.owner x.a)) Tryz.results67 rfl rfl ?_
  intro w hw
  replace hw := hw.perm (L' := [pt zb (.cells #[.map (some mp), .map (some mh), Ix (s.last), Ix (s.su.a0), Ix (s.su.a1), Ix (s.su.a2), Ix (s.su.a3), .map (some mm)] 88), mpR PuM mp (addP s.ps x.owner x.a), mpR HoM mh s.hs, pt b1 (.cells #[Bx (x.kind), Ix (x.owner), Ix (x.other), Ix (x.hold), Ix (x.a.a0), Ix (x.a.a1), Ix (x.a.a2), Ix (x.a.a3)] 47)]) (by exact (perm_ix [0, 1, 3, 2] 4 rfl (by kernel_rfl) (by kernel_rfl)))
  exact act_end (V := (⟨(addP s.ps x.owner x.a), s.hs, s.last, s.su⟩ : KSt)) (show ((⟨(addP s.ps x.owner x.a), s.hs, s.last, s.su⟩ : KSt), 0, addE s.ps x.owner x.a) = mintS s x by simp_all [mintS]) (st_mask (L' := [pt zb (.cells #[.map (some mp), .map (some mh), Ix (s.last), Ix (s.su.a0), Ix (s.su.a1), Ix (s.su.a2), Ix (s.su.a3), .map (some mm)] 88), mpR PuM mp (addP s.ps x.owner x.a), mpR HoM mh s.hs]) [true, true, true, false] rfl hw)
set_option maxHeartbeats 4000000 in
theorem burn_ok (β : Base) (w : World) (zb mp mh mm : Nat) (s : KSt) (hw : St β [pt zb (.cells (stC mp mh mm s.last s.su) 88), mpR PuM mp s.ps, mpR HoM mh s.hs] w) (hP : okP s.ps) (hH : okH s.hs) (hsu : s.su.bd 4611686018427387903) (hla : -4611686018427387903 ≤ s.last ∧ s.last ≤ 4611686018427387903) (x : KAct) (hxa : x.a.bd 4611686018427387903) : Calls Tryz.prog 68 #[.pointer (some ⟨zb, 0, none⟩), .agg #[Bx (x.kind), Ix (x.owner), Ix (x.other), Ix (x.hold), Ix (x.a.a0), Ix (x.a.a1), Ix (x.a.a2), Ix (x.a.a3)]] w fun r w' => r = .returned (.tuple #[Ix (burnS s x).2.1, Ix (burnS s x).2.2]) ∧ St β [pt zb (.cells (stC mp mh mm (burnS s x).1.last (burnS s x).1.su) 88), mpR PuM mp (burnS s x).1.ps, mpR HoM mh (burnS s x).1.hs] w' := by
 refine enter (n := 26) Tryz.func68 rfl Tryz.ntmps68 rfl ?_ hw
 refine c_seq ?_
 refine c_region ?_
 refine l_mv rfl rfl rfl (m_box (v := .agg #[Bx (x.kind), Ix (x.owner), Ix (x.other), Ix (x.hold), Ix (x.a.a0), Ix (x.a.a1), Ix (x.a.a2), Ix (x.a.a3)]) rfl) ?_
 rintro _ _ ⟨b1, rfl, rfl⟩
 refine l_val (v := .int .i64 (0)) rfl rfl rfl (e_assign) ?_
 refine l_val (v := .int .i64 (0)) rfl rfl rfl (e_assign) ?_
 refine l_nil ?_
 refine f_then ?_
 refine c_seq ?_
 refine c_region ?_
 refine l_val (v := .pointer (some ⟨zb, 0, none⟩)) rfl rfl rfl (e_move) ?_
 refine l_val (v := .pointer (some ⟨b1, 1, none⟩)) rfl rfl rfl (e_fieldPt (b := b1) (o := 0) rfl tt6) ?_
 refine l_val (v := Ix (x.owner)) rfl rfl rfl (e_load1 tt2 (v := Ix (x.owner)) rfl (k_pt 0 (cs := #[Bx (x.kind), Ix (x.owner), Ix (x.other), Ix (x.hold), Ix (x.a.a0), Ix (x.a.a1), Ix (x.a.a2), Ix (x.a.a3)]) (vs := [Ix (x.owner)]) rfl rfl)) ?_
 refine l_val (v := .pointer (some ⟨b1, 4, none⟩)) rfl rfl rfl (e_fieldPt (b := b1) (o := 0) rfl tt10) ?_
 refine l_val (v := .agg (amC x.a)) rfl rfl rfl (e_load tt0 (cs := (amE x.a)) rfl (k_pt 0 (cs := #[Bx (x.kind), Ix (x.owner), Ix (x.other), Ix (x.hold), Ix (x.a.a0), Ix (x.a.a1), Ix (x.a.a2), Ix (x.a.a3)]) (vs := (amE x.a)) rfl rfl) rfl) ?_
 refine l_call rfl rfl rfl (cl_value (fst := []) (cap := []) (vs := [.pointer (some ⟨zb, 0, none⟩), Ix (x.owner), .agg (amC x.a)]) (all := [.pointer (some ⟨zb, 0, none⟩), Ix (x.owner), .agg (amC x.a)]) tt37 rfl rfl rfl) ?_
 intro w hw
 replace hw := hw.perm (L' := _ :: _ :: _ :: _ :: []) (by exact ((((perm_front 3 rfl).trans (perm_front 1 rfl)).trans (perm_front 3 rfl)).trans (perm_front 3 rfl)))
 obtain ⟨β1, sb, kn, hw1, back⟩ := St.frame (L := [_, _]) (M := _ :: _ :: []) hw
 refine (take_ok β1 w zb mp mh mm s.last s.su s.ps hw1 x.owner x.a _ rfl (okP_bd hP _) hxa).mono ?_
 rintro e w' ⟨rfl, hw'⟩
 refine ⟨_, rfl, _, back _ _ hw', ?_⟩
 clear hw hw1 hw' back kn sb
 refine l_val (v := Ix (takeE s.ps x.owner x.a)) rfl rfl rfl (e_assign) ?_
 refine l_nil ?_
 refine f_then ?_
 refine c_seq ?_
 refine c_seq ?_
 refine c_region ?_
 refine l_val (v := Ix (takeE s.ps x.owner x.a)) rfl rfl rfl (e_move) ?_
 refine l_val (v := .bool (decide ((takeE s.ps x.owner x.a) = (0 : Int)))) rfl rfl rfl (e_eql (a := (takeE s.ps x.owner x.a)) (b := (0 : Int)) rfl rfl) ?_
 refine l_nil ?_
 refine f_then ?_
 refine c_if ((takeE s.ps x.owner x.a) = (0 : Int)) rfl (fun hc2 => ?_) (fun hc2 => ?_)
 ·
  refine c_any [⟨[], [], [0], [15], fun f => f 15 = .pointer (some ⟨zb, 0, none⟩)⟩, ⟨[], [], [0], [16], fun f => f 16 = .pointer (some ⟨zb, 0, none⟩)⟩, ⟨[1], [1], [], [17], fun f => f 17 = .pointer (some ⟨zb, 0, none⟩)⟩, ⟨[1, 2], [2], [], [18], fun f => f 18 = .pointer (some ⟨zb, 3, none⟩)⟩, ⟨[1, 2, 3], [3], [], [19], fun f => f 19 = .agg (amC s.su)⟩, ⟨[], [], [1], [20], fun f => f 20 = .pointer (some ⟨b1, 4, none⟩)⟩, ⟨[5], [5], [], [21], fun f => f 21 = .agg (amC x.a)⟩, ⟨[1, 2, 3, 4, 5, 6], [4, 6], [], [22], fun f => f 22 = .agg (amC (s.su.plus x.a (-1)))⟩, ⟨[0, 1, 2, 3, 4, 5, 6, 7], [0], [], [23], fun f => f 23 = .pointer (some ⟨zb, 0, none⟩)⟩, ⟨[0, 1, 2, 3, 4, 5, 6, 7, 8], [8], [], [24], fun f => f 24 = .pointer (some ⟨zb, 3, none⟩)⟩, ⟨[0, 1, 2, 3, 4, 5, 6, 7, 8, 9], [9, 7], [], [], fun _ => True⟩] [⟨none, (some 10), [4, 10], [], fun _ => pt zb (.cells #[.map (some mp), .map (some mh), Ix (s.last), Ix (s.su.a0), Ix (s.su.a1), Ix (s.su.a2), Ix (s.su.a3), .map (some mm)] 88)⟩, ⟨none, none, [], [], fun _ => mpR PuM mp (takeP s.ps x.owner x.a)⟩, ⟨none, none, [6], [], fun _ => pt b1 (.cells #[Bx (x.kind), Ix (x.owner), Ix (x.other), Ix (x.hold), Ix (x.a.a0), Ix (x.a.a1), Ix (x.a.a2), Ix (x.a.a3)] 47)⟩, ⟨none, none, [], [], fun _ => mpR HoM mh s.hs⟩, ⟨(some 10), none, [], [], fun _ => pt zb (.cells #[.map (some mp), .map (some mh), Ix (s.last), Ix ((s.su.plus x.a (-1)).a0), Ix ((s.su.plus x.a (-1)).a1), Ix ((s.su.plus x.a (-1)).a2), Ix ((s.su.plus x.a (-1)).a3), .map (some mm)] 88)⟩] [(0, .pointer (some ⟨zb, 0, none⟩)), (3, .pointer (some ⟨b1, 0, none⟩)), (6, Ix (takeE s.ps x.owner x.a))] [2] [] (by kernel_rfl) (by kernel_rfl) (by kernel_rfl) (by kernel_rfl) rfl ⟨rfl, rfl, rfl, trivial⟩ ⟨?_, ?_, ?_, ?_, ?_, ?_, ?_, ?_, ?_, ?_, ?_, trivial⟩ ?_
  ·rintro f M - ⟨i0, -⟩
   have hs0 : f 0 = .pointer (some ⟨zb, 0, none⟩) := i0
   refine ob_start (L' := M) (by rfl) (up_cons rfl hs0) ?_
   refine l_val (v := .pointer (some ⟨zb, 0, none⟩)) rfl rfl rfl (e_move) ?_
   refine l_nil ?_
   exact f_owes_d (up_cons rfl hs0) rfl (List.Perm.refl _)
  ·rintro f M - ⟨i0, -⟩
   have hs0 : f 0 = .pointer (some ⟨zb, 0, none⟩) := i0
   refine ob_start (L' := M) (by rfl) (up_cons rfl hs0) ?_
   refine l_val (v := .pointer (some ⟨zb, 0, none⟩)) rfl rfl rfl (e_move) ?_
   refine l_nil ?_
   exact f_owes_d (up_cons rfl hs0) rfl (List.Perm.refl _)
  ·rintro f M ⟨k0, -⟩ -
   have hs16 : f 16 = .pointer (some ⟨zb, 0, none⟩) := k0
   refine ob_start (L' := M) (by rfl) (up_cons rfl hs16) ?_
   refine l_val (v := .pointer (some ⟨zb, 0, none⟩)) rfl rfl rfl (e_nil (a := ⟨zb, 0, none⟩) rfl) ?_
   refine l_nil ?_
   exact f_owes_d (up_cons rfl hs16) rfl (List.Perm.refl _)
  ·rintro f M ⟨k0, -⟩ -
   have hs17 : f 17 = .pointer (some ⟨zb, 0, none⟩) := k0
   refine ob_start (L' := M) (by rfl) (up_cons rfl hs17) ?_
   refine l_val (v := .pointer (some ⟨zb, 3, none⟩)) rfl rfl rfl (e_fieldPt (b := zb) (o := 0) rfl tt36) ?_
   refine l_nil ?_
   exact f_owes_d (up_cons rfl hs17) rfl (List.Perm.refl _)
  ·rintro f M ⟨k0, -⟩ -
   have hs18 : f 18 = .pointer (some ⟨zb, 3, none⟩) := k0
   refine ob_start (L' := pt zb (.cells #[.map (some mp), .map (some mh), Ix (s.last), Ix (s.su.a0), Ix (s.su.a1), Ix (s.su.a2), Ix (s.su.a3), .map (some mm)] 88) :: M) (by rfl) (up_cons rfl hs18) ?_
   refine l_val (v := .agg (amC s.su)) rfl rfl rfl (e_load tt0 (cs := (amE s.su)) rfl (k_pt 0 (cs := #[.map (some mp), .map (some mh), Ix (s.last), Ix (s.su.a0), Ix (s.su.a1), Ix (s.su.a2), Ix (s.su.a3), .map (some mm)]) (vs := (amE s.su)) rfl rfl) rfl) ?_
   refine l_nil ?_
   exact f_owes_d (up_cons rfl hs18) rfl (perm_front 0 rfl)
  ·rintro f M - ⟨i0, -⟩
   have hs3 : f 3 = .pointer (some ⟨b1, 0, none⟩) := i0
   refine ob_start (L' := M) (by rfl) (up_cons rfl hs3) ?_
   refine l_val (v := .pointer (some ⟨b1, 4, none⟩)) rfl rfl rfl (e_fieldPt (b := b1) (o := 0) rfl tt10) ?_
   refine l_nil ?_
   exact f_owes_d (up_cons rfl hs3) rfl (List.Perm.refl _)
  ·rintro f M ⟨k0, -⟩ -
   have hs20 : f 20 = .pointer (some ⟨b1, 4, none⟩) := k0
   refine ob_start (L' := pt b1 (.cells #[Bx (x.kind), Ix (x.owner), Ix (x.other), Ix (x.hold), Ix (x.a.a0), Ix (x.a.a1), Ix (x.a.a2), Ix (x.a.a3)] 47) :: M) (by rfl) (up_cons rfl hs20) ?_
   refine l_val (v := .agg (amC x.a)) rfl rfl rfl (e_load tt0 (cs := (amE x.a)) rfl (k_pt 0 (cs := #[Bx (x.kind), Ix (x.owner), Ix (x.other), Ix (x.hold), Ix (x.a.a0), Ix (x.a.a1), Ix (x.a.a2), Ix (x.a.a3)]) (vs := (amE x.a)) rfl rfl) rfl) ?_
   refine l_nil ?_
   exact f_owes_d (up_cons rfl hs20) rfl (perm_front 0 rfl)
  ·rintro f M ⟨k0, k1, -⟩ -
   have hs19 : f 19 = .agg (amC s.su) := k0
   have hs21 : f 21 = .agg (amC x.a) := k1
   refine ob_start (L' := M) (by rfl) (up_cons (up_cons rfl hs19) hs21) ?_
   refine l_call rfl rfl rfl (cl_value (fst := []) (cap := []) (vs := [.agg (amC s.su), .agg (amC x.a), .int .i64 (-1)]) (all := [.agg (amC s.su), .agg (amC x.a), .int .i64 (-1)]) tt34 rfl rfl rfl) ?_
   intro w hw
   obtain ⟨β1, sb, kn, hw1, back⟩ := St.frame_all hw
   refine (plus_ok β1 w hw1 s.su x.a (-1) (by decide) hsu hxa).mono ?_
   rintro e w' ⟨rfl, hw'⟩
   refine ⟨_, rfl, _, back _ _ hw', ?_⟩
   clear hw hw1 hw' back kn sb
   refine l_nil ?_
   exact f_owes_d (up_cons (up_cons rfl hs19) hs21) rfl (List.Perm.refl _)
  ·rintro f M ⟨k0, -⟩ -
   have hs15 : f 15 = .pointer (some ⟨zb, 0, none⟩) := k0
   refine ob_start (L' := M) (by rfl) (up_cons rfl hs15) ?_
   refine l_val (v := .pointer (some ⟨zb, 0, none⟩)) rfl rfl rfl (e_nil (a := ⟨zb, 0, none⟩) rfl) ?_
   refine l_nil ?_
   exact f_owes_d (up_cons rfl hs15) rfl (List.Perm.refl _)
  ·rintro f M ⟨k0, -⟩ -
   have hs23 : f 23 = .pointer (some ⟨zb, 0, none⟩) := k0
   refine ob_start (L' := M) (by rfl) (up_cons rfl hs23) ?_
   refine l_val (v := .pointer (some ⟨zb, 3, none⟩)) rfl rfl rfl (e_fieldPt (b := zb) (o := 0) rfl tt36) ?_
   refine l_nil ?_
   exact f_owes_d (up_cons rfl hs23) rfl (List.Perm.refl _)
  ·rintro f M ⟨k0, k1, -⟩ -
   have hs24 : f 24 = .pointer (some ⟨zb, 3, none⟩) := k0
   have hs22 : f 22 = .agg (amC (s.su.plus x.a (-1))) := k1
   refine ob_start (L' := pt zb (.cells #[.map (some mp), .map (some mh), Ix (s.last), Ix (s.su.a0), Ix (s.su.a1), Ix (s.su.a2), Ix (s.su.a3), .map (some mm)] 88) :: M) (by rfl) (up_cons (up_cons rfl hs24) hs22) ?_
   refine l_mu rfl rfl (m_store 0 tt0 (b := zb) (o := 3) (T := 88) (cs := #[.map (some mp), .map (some mh), Ix (s.last), Ix (s.su.a0), Ix (s.su.a1), Ix (s.su.a2), Ix (s.su.a3), .map (some mm)]) (cs' := #[.map (some mp), .map (some mh), Ix (s.last), Ix ((s.su.plus x.a (-1)).a0), Ix ((s.su.plus x.a (-1)).a1), Ix ((s.su.plus x.a (-1)).a2), Ix ((s.su.plus x.a (-1)).a3), .map (some mm)]) (v := .agg (amC (s.su.plus x.a (-1)))) rfl rfl rfl rfl rfl rfl rfl) ?_
   refine l_nil ?_
   exact f_owes_n (up_cons (up_cons rfl hs24) hs22) trivial (perm_front 0 rfl)
  rintro fa3 ⟨-, -, -, -, -, -, -, -, -, -, -, -⟩ ⟨j0, -⟩
  refine f_re (L' := [mpR PuM mp (takeP s.ps x.owner x.a), pt b1 (.cells #[Bx (x.kind), Ix (x.owner), Ix (x.other), Ix (x.hold), Ix (x.a.a0), Ix (x.a.a1), Ix (x.a.a2), Ix (x.a.a3)] 47), mpR HoM mh s.hs, pt zb (.cells #[.map (some mp), .map (some mh), Ix (s.last), Ix ((s.su.plus x.a (-1)).a0), Ix ((s.su.plus x.a (-1)).a1), Ix ((s.su.plus x.a (-1)).a2), Ix ((s.su.plus x.a (-1)).a3), .map (some mm)] 88)]) (by rfl) ?_
  refine f_rebase (d := 6) (v := Ix (takeE s.ps x.owner x.a)) j0 ?_
  refine f_then ?_
  refine c_seq ?_
  refine c_region ?_
  refine l_val (v := Ix (takeE s.ps x.owner x.a)) rfl rfl rfl (e_move) ?_
  refine l_val (v := .int .i64 (0)) rfl rfl rfl (e_assign) ?_
  refine l_val (v := Ix (takeE s.ps x.owner x.a)) rfl rfl rfl (e_assign) ?_
  refine l_nil ?_
  refine f_then ?_
  refine c_ret ?_
  refine ret2 (v := .int .i64 (0)) (v' := Ix (takeE s.ps x.owner x.a)) Tryz.results68 rfl rfl ?_
  intro w hw
  replace hw := hw.perm (L' := [pt zb (.cells #[.map (some mp), .map (some mh), Ix (s.last), Ix ((s.su.plus x.a (-1)).a0), Ix ((s.su.plus x.a (-1)).a1), Ix ((s.su.plus x.a (-1)).a2), Ix ((s.su.plus x.a (-1)).a3), .map (some mm)] 88), mpR PuM mp (takeP s.ps x.owner x.a), mpR HoM mh s.hs, pt b1 (.cells #[Bx (x.kind), Ix (x.owner), Ix (x.other), Ix (x.hold), Ix (x.a.a0), Ix (x.a.a1), Ix (x.a.a2), Ix (x.a.a3)] 47)]) (by exact (perm_ix [3, 0, 2, 1] 4 rfl (by kernel_rfl) (by kernel_rfl)))
  exact act_end (V := (⟨(takeP s.ps x.owner x.a), s.hs, s.last, (s.su.plus x.a (-1))⟩ : KSt)) (show ((⟨(takeP s.ps x.owner x.a), s.hs, s.last, (s.su.plus x.a (-1))⟩ : KSt), 0, takeE s.ps x.owner x.a) = burnS s x by simp_all [burnS]) (st_mask (L' := [pt zb (.cells #[.map (some mp), .map (some mh), Ix (s.last), Ix ((s.su.plus x.a (-1)).a0), Ix ((s.su.plus x.a (-1)).a1), Ix ((s.su.plus x.a (-1)).a2), Ix ((s.su.plus x.a (-1)).a3), .map (some mm)] 88), mpR PuM mp (takeP s.ps x.owner x.a), mpR HoM mh s.hs]) [true, true, true, false] rfl hw)
 ·
  refine c_skip ?_
  refine f_then ?_
  refine c_seq ?_
  refine c_region ?_
  refine l_val (v := Ix (takeE s.ps x.owner x.a)) rfl rfl rfl (e_move) ?_
  refine l_val (v := .int .i64 (0)) rfl rfl rfl (e_assign) ?_
  refine l_val (v := Ix (takeE s.ps x.owner x.a)) rfl rfl rfl (e_assign) ?_
  refine l_nil ?_
  refine f_then ?_
  refine c_ret ?_
  refine ret2 (v := .int .i64 (0)) (v' := Ix (takeE s.ps x.owner x.a)) Tryz.results68 rfl rfl ?_
  intro w hw
  replace hw := hw.perm (L' := [pt zb (.cells #[.map (some mp), .map (some mh), Ix (s.last), Ix (s.su.a0), Ix (s.su.a1), Ix (s.su.a2), Ix (s.su.a3), .map (some mm)] 88), mpR PuM mp (takeP s.ps x.owner x.a), mpR HoM mh s.hs, pt b1 (.cells #[Bx (x.kind), Ix (x.owner), Ix (x.other), Ix (x.hold), Ix (x.a.a0), Ix (x.a.a1), Ix (x.a.a2), Ix (x.a.a3)] 47)]) (by exact (perm_ix [0, 1, 3, 2] 4 rfl (by kernel_rfl) (by kernel_rfl)))
  exact act_end (V := (⟨(takeP s.ps x.owner x.a), s.hs, s.last, s.su⟩ : KSt)) (show ((⟨(takeP s.ps x.owner x.a), s.hs, s.last, s.su⟩ : KSt), 0, takeE s.ps x.owner x.a) = burnS s x by simp_all [burnS]) (st_mask (L' := [pt zb (.cells #[.map (some mp), .map (some mh), Ix (s.last), Ix (s.su.a0), Ix (s.su.a1), Ix (s.su.a2), Ix (s.su.a3), .map (some mm)] 88), mpR PuM mp (takeP s.ps x.owner x.a), mpR HoM mh s.hs]) [true, true, true, false] rfl hw)
theorem move_ok (β : Base) (w : World) (zb mp mh mm : Nat) (s : KSt) (hw : St β [pt zb (.cells (stC mp mh mm s.last s.su) 88), mpR PuM mp s.ps, mpR HoM mh s.hs] w) (hP : okP s.ps) (hH : okH s.hs) (hsu : s.su.bd 4611686018427387903) (hla : -4611686018427387903 ≤ s.last ∧ s.last ≤ 4611686018427387903) (x : KAct) (hxa : x.a.bd 4611686018427387903) : Calls Tryz.prog 69 #[.pointer (some ⟨zb, 0, none⟩), .agg #[Bx (x.kind), Ix (x.owner), Ix (x.other), Ix (x.hold), Ix (x.a.a0), Ix (x.a.a1), Ix (x.a.a2), Ix (x.a.a3)]] w fun r w' => r = .returned (.tuple #[Ix (moveS s x).2.1, Ix (moveS s x).2.2]) ∧ St β [pt zb (.cells (stC mp mh mm (moveS s x).1.last (moveS s x).1.su) 88), mpR PuM mp (moveS s x).1.ps, mpR HoM mh (moveS s x).1.hs] w' := by
 refine enter (n := 22) Tryz.func69 rfl Tryz.ntmps69 rfl ?_ hw
 refine c_seq ?_
 refine c_region ?_
 refine l_mv rfl rfl rfl (m_box (v := .agg #[Bx (x.kind), Ix (x.owner), Ix (x.other), Ix (x.hold), Ix (x.a.a0), Ix (x.a.a1), Ix (x.a.a2), Ix (x.a.a3)]) rfl) ?_
 rintro _ _ ⟨b1, rfl, rfl⟩
 refine l_val (v := .int .i64 (0)) rfl rfl rfl (e_assign) ?_
 refine l_val (v := .int .i64 (0)) rfl rfl rfl (e_assign) ?_
 refine l_nil ?_
 refine f_then ?_
 refine c_seq ?_
 refine c_seq ?_
 refine c_region ?_
 refine l_val (v := .pointer (some ⟨zb, 0, none⟩)) rfl rfl rfl (e_move) ?_
 refine l_val (v := .pointer (some ⟨b1, 1, none⟩)) rfl rfl rfl (e_fieldPt (b := b1) (o := 0) rfl tt6) ?_
 refine l_val (v := Ix (x.owner)) rfl rfl rfl (e_load1 tt2 (v := Ix (x.owner)) rfl (k_pt 0 (cs := #[Bx (x.kind), Ix (x.owner), Ix (x.other), Ix (x.hold), Ix (x.a.a0), Ix (x.a.a1), Ix (x.a.a2), Ix (x.a.a3)]) (vs := [Ix (x.owner)]) rfl rfl)) ?_
 refine l_val (v := .pointer (some ⟨b1, 4, none⟩)) rfl rfl rfl (e_fieldPt (b := b1) (o := 0) rfl tt10) ?_
 refine l_val (v := .agg (amC x.a)) rfl rfl rfl (e_load tt0 (cs := (amE x.a)) rfl (k_pt 0 (cs := #[Bx (x.kind), Ix (x.owner), Ix (x.other), Ix (x.hold), Ix (x.a.a0), Ix (x.a.a1), Ix (x.a.a2), Ix (x.a.a3)]) (vs := (amE x.a)) rfl rfl) rfl) ?_
 refine l_call rfl rfl rfl (cl_value (fst := []) (cap := []) (vs := [.pointer (some ⟨zb, 0, none⟩), Ix (x.owner), .agg (amC x.a)]) (all := [.pointer (some ⟨zb, 0, none⟩), Ix (x.owner), .agg (amC x.a)]) tt37 rfl rfl rfl) ?_
 intro w hw
 replace hw := hw.perm (L' := _ :: _ :: _ :: _ :: []) (by exact ((((perm_front 3 rfl).trans (perm_front 1 rfl)).trans (perm_front 3 rfl)).trans (perm_front 3 rfl)))
 obtain ⟨β1, sb, kn, hw1, back⟩ := St.frame (L := [_, _]) (M := _ :: _ :: []) hw
 refine (take_ok β1 w zb mp mh mm s.last s.su s.ps hw1 x.owner x.a _ rfl (okP_bd hP _) hxa).mono ?_
 rintro e w' ⟨rfl, hw'⟩
 refine ⟨_, rfl, _, back _ _ hw', ?_⟩
 clear hw hw1 hw' back kn sb
 refine l_val (v := Ix (takeE s.ps x.owner x.a)) rfl rfl rfl (e_assign) ?_
 refine l_nil ?_
 refine f_then ?_
 refine c_seq ?_
 refine c_region ?_
 refine l_val (v := Ix (takeE s.ps x.owner x.a)) rfl rfl rfl (e_move) ?_
 refine l_val (v := .bool (decide ((takeE s.ps x.owner x.a) ≠ (0 : Int)))) rfl rfl rfl (e_neq (a := (takeE s.ps x.owner x.a)) (b := (0 : Int)) rfl rfl) ?_
 refine l_nil ?_
 refine f_then ?_
 refine c_if ((takeE s.ps x.owner x.a) ≠ (0 : Int)) rfl (fun hc2 => ?_) (fun hc2 => ?_)
 ·
  refine c_seq ?_
  refine c_region ?_
  refine l_val (v := Ix (takeE s.ps x.owner x.a)) rfl rfl rfl (e_move) ?_
  refine l_val (v := .int .i64 (0)) rfl rfl rfl (e_assign) ?_
  refine l_val (v := Ix (takeE s.ps x.owner x.a)) rfl rfl rfl (e_assign) ?_
  refine l_nil ?_
  refine f_then ?_
  refine c_ret ?_
  refine f_then_ret ?_
  refine ret2 (v := .int .i64 (0)) (v' := Ix (takeE s.ps x.owner x.a)) Tryz.results69 rfl rfl ?_
  intro w hw
  replace hw := hw.perm (L' := [pt zb (.cells #[.map (some mp), .map (some mh), Ix (s.last), Ix (s.su.a0), Ix (s.su.a1), Ix (s.su.a2), Ix (s.su.a3), .map (some mm)] 88), mpR PuM mp (takeP s.ps x.owner x.a), mpR HoM mh s.hs, pt b1 (.cells #[Bx (x.kind), Ix (x.owner), Ix (x.other), Ix (x.hold), Ix (x.a.a0), Ix (x.a.a1), Ix (x.a.a2), Ix (x.a.a3)] 47)]) (by exact (perm_ix [0, 1, 3, 2] 4 rfl (by kernel_rfl) (by kernel_rfl)))
  exact act_end (V := (⟨(takeP s.ps x.owner x.a), s.hs, s.last, s.su⟩ : KSt)) (show ((⟨(takeP s.ps x.owner x.a), s.hs, s.last, s.su⟩ : KSt), 0, takeE s.ps x.owner x.a) = moveS s x by simp_all [moveS]) (st_mask (L' := [pt zb (.cells #[.map (some mp), .map (some mh), Ix (s.last), Ix (s.su.a0), Ix (s.su.a1), Ix (s.su.a2), Ix (s.su.a3), .map (some mm)] 88), mpR PuM mp (takeP s.ps x.owner x.a), mpR HoM mh s.hs]) [true, true, true, false] rfl hw)
 ·
  refine c_skip ?_
  refine f_then ?_
  refine c_seq ?_
  refine c_region ?_
  refine l_val (v := .pointer (some ⟨zb, 0, none⟩)) rfl rfl rfl (e_move) ?_
  refine l_val (v := .pointer (some ⟨b1, 2, none⟩)) rfl rfl rfl (e_fieldPt (b := b1) (o := 0) rfl tt8) ?_
  refine l_val (v := Ix (x.other)) rfl rfl rfl (e_load1 tt2 (v := Ix (x.other)) rfl (k_pt 2 (cs := #[Bx (x.kind), Ix (x.owner), Ix (x.other), Ix (x.hold), Ix (x.a.a0), Ix (x.a.a1), Ix (x.a.a2), Ix (x.a.a3)]) (vs := [Ix (x.other)]) rfl rfl)) ?_
  refine l_val (v := .pointer (some ⟨b1, 4, none⟩)) rfl rfl rfl (e_fieldPt (b := b1) (o := 0) rfl tt10) ?_
  refine l_val (v := .agg (amC x.a)) rfl rfl rfl (e_load tt0 (cs := (amE x.a)) rfl (k_pt 2 (cs := #[Bx (x.kind), Ix (x.owner), Ix (x.other), Ix (x.hold), Ix (x.a.a0), Ix (x.a.a1), Ix (x.a.a2), Ix (x.a.a3)]) (vs := (amE x.a)) rfl rfl) rfl) ?_
  refine l_call rfl rfl rfl (cl_value (fst := []) (cap := []) (vs := [.pointer (some ⟨zb, 0, none⟩), Ix (x.other), .agg (amC x.a)]) (all := [.pointer (some ⟨zb, 0, none⟩), Ix (x.other), .agg (amC x.a)]) tt35 rfl rfl rfl) ?_
  intro w hw
  replace hw := hw.perm (L' := _ :: _ :: _ :: _ :: []) (by exact ((((perm_front 3 rfl).trans (perm_front 3 rfl)).trans (perm_front 3 rfl)).trans (perm_front 3 rfl)))
  obtain ⟨β1, sb, kn, hw1, back⟩ := St.frame (L := [_, _]) (M := _ :: _ :: []) hw
  refine (add_ok β1 w zb mp mh mm s.last s.su (takeP s.ps x.owner x.a) hw1 x.other x.a _ rfl (okP_bd (takeP_ok hP _ _) _) hxa).mono ?_
  rintro e w' ⟨rfl, hw'⟩
  refine ⟨_, rfl, _, back _ _ hw', ?_⟩
  clear hw hw1 hw' back kn sb
  refine l_val (v := .int .i64 (0)) rfl rfl rfl (e_assign) ?_
  refine l_val (v := Ix (addE (takeP s.ps x.owner x.a) x.other x.a)) rfl rfl rfl (e_assign) ?_
  refine l_nil ?_
  refine f_then ?_
  refine c_ret ?_
  refine ret2 (v := .int .i64 (0)) (v' := Ix (addE (takeP s.ps x.owner x.a) x.other x.a)) Tryz.results69 rfl rfl ?_
  intro w hw
  replace hw := hw.perm (L' := [pt zb (.cells #[.map (some mp), .map (some mh), Ix (s.last), Ix (s.su.a0), Ix (s.su.a1), Ix (s.su.a2), Ix (s.su.a3), .map (some mm)] 88), mpR PuM mp (addP (takeP s.ps x.owner x.a) x.other x.a), mpR HoM mh s.hs, pt b1 (.cells #[Bx (x.kind), Ix (x.owner), Ix (x.other), Ix (x.hold), Ix (x.a.a0), Ix (x.a.a1), Ix (x.a.a2), Ix (x.a.a3)] 47)]) (by exact (perm_ix [0, 1, 3, 2] 4 rfl (by kernel_rfl) (by kernel_rfl)))
  exact act_end (V := (⟨(addP (takeP s.ps x.owner x.a) x.other x.a), s.hs, s.last, s.su⟩ : KSt)) (show ((⟨(addP (takeP s.ps x.owner x.a) x.other x.a), s.hs, s.last, s.su⟩ : KSt), 0, addE (takeP s.ps x.owner x.a) x.other x.a) = moveS s x by simp_all [moveS]) (st_mask (L' := [pt zb (.cells #[.map (some mp), .map (some mh), Ix (s.last), Ix (s.su.a0), Ix (s.su.a1), Ix (s.su.a2), Ix (s.su.a3), .map (some mm)] 88), mpR PuM mp (addP (takeP s.ps x.owner x.a) x.other x.a), mpR HoM mh s.hs]) [true, true, true, false] rfl hw)
set_option maxHeartbeats 4000000 in
theorem hold_ok (β : Base) (w : World) (zb mp mh mm : Nat) (s : KSt) (hw : St β [pt zb (.cells (stC mp mh mm s.last s.su) 88), mpR PuM mp s.ps, mpR HoM mh s.hs] w) (hP : okP s.ps) (hH : okH s.hs) (hsu : s.su.bd 4611686018427387903) (hla : -4611686018427387903 ≤ s.last ∧ s.last ≤ 4611686018427387903) (x : KAct) (hxa : x.a.bd 4611686018427387903) : Calls Tryz.prog 70 #[.pointer (some ⟨zb, 0, none⟩), .agg #[Bx (x.kind), Ix (x.owner), Ix (x.other), Ix (x.hold), Ix (x.a.a0), Ix (x.a.a1), Ix (x.a.a2), Ix (x.a.a3)]] w fun r w' => r = .returned (.tuple #[Ix (holdS s x).2.1, Ix (holdS s x).2.2]) ∧ St β [pt zb (.cells (stC mp mh mm (holdS s x).1.last (holdS s x).1.su) 88), mpR PuM mp (holdS s x).1.ps, mpR HoM mh (holdS s x).1.hs] w' := by
 refine enter (n := 50) Tryz.func70 rfl Tryz.ntmps70 rfl ?_ hw
 refine c_seq ?_
 refine c_region ?_
 refine l_mv rfl rfl rfl (m_box (v := .agg #[Bx (x.kind), Ix (x.owner), Ix (x.other), Ix (x.hold), Ix (x.a.a0), Ix (x.a.a1), Ix (x.a.a2), Ix (x.a.a3)]) rfl) ?_
 rintro _ _ ⟨b1, rfl, rfl⟩
 refine l_val (v := .int .i64 (0)) rfl rfl rfl (e_assign) ?_
 refine l_val (v := .int .i64 (0)) rfl rfl rfl (e_assign) ?_
 refine l_nil ?_
 refine f_then ?_
 refine c_seq ?_
 refine c_seq ?_
 refine c_region ?_
 refine l_val (v := .pointer (some ⟨zb, 0, none⟩)) rfl rfl rfl (e_move) ?_
 refine l_val (v := .pointer (some ⟨b1, 1, none⟩)) rfl rfl rfl (e_fieldPt (b := b1) (o := 0) rfl tt6) ?_
 refine l_val (v := Ix (x.owner)) rfl rfl rfl (e_load1 tt2 (v := Ix (x.owner)) rfl (k_pt 0 (cs := #[Bx (x.kind), Ix (x.owner), Ix (x.other), Ix (x.hold), Ix (x.a.a0), Ix (x.a.a1), Ix (x.a.a2), Ix (x.a.a3)]) (vs := [Ix (x.owner)]) rfl rfl)) ?_
 refine l_val (v := .pointer (some ⟨b1, 4, none⟩)) rfl rfl rfl (e_fieldPt (b := b1) (o := 0) rfl tt10) ?_
 refine l_val (v := .agg (amC x.a)) rfl rfl rfl (e_load tt0 (cs := (amE x.a)) rfl (k_pt 0 (cs := #[Bx (x.kind), Ix (x.owner), Ix (x.other), Ix (x.hold), Ix (x.a.a0), Ix (x.a.a1), Ix (x.a.a2), Ix (x.a.a3)]) (vs := (amE x.a)) rfl rfl) rfl) ?_
 refine l_call rfl rfl rfl (cl_value (fst := []) (cap := []) (vs := [.pointer (some ⟨zb, 0, none⟩), Ix (x.owner), .agg (amC x.a)]) (all := [.pointer (some ⟨zb, 0, none⟩), Ix (x.owner), .agg (amC x.a)]) tt37 rfl rfl rfl) ?_
 intro w hw
 replace hw := hw.perm (L' := _ :: _ :: _ :: _ :: []) (by exact ((((perm_front 3 rfl).trans (perm_front 1 rfl)).trans (perm_front 3 rfl)).trans (perm_front 3 rfl)))
 obtain ⟨β1, sb, kn, hw1, back⟩ := St.frame (L := [_, _]) (M := _ :: _ :: []) hw
 refine (take_ok β1 w zb mp mh mm s.last s.su s.ps hw1 x.owner x.a _ rfl (okP_bd hP _) hxa).mono ?_
 rintro e w' ⟨rfl, hw'⟩
 refine ⟨_, rfl, _, back _ _ hw', ?_⟩
 clear hw hw1 hw' back kn sb
 refine l_val (v := Ix (takeE s.ps x.owner x.a)) rfl rfl rfl (e_assign) ?_
 refine l_nil ?_
 refine f_then ?_
 refine c_seq ?_
 refine c_region ?_
 refine l_val (v := Ix (takeE s.ps x.owner x.a)) rfl rfl rfl (e_move) ?_
 refine l_val (v := .bool (decide ((takeE s.ps x.owner x.a) ≠ (0 : Int)))) rfl rfl rfl (e_neq (a := (takeE s.ps x.owner x.a)) (b := (0 : Int)) rfl rfl) ?_
 refine l_nil ?_
 refine f_then ?_
 refine c_if ((takeE s.ps x.owner x.a) ≠ (0 : Int)) rfl (fun hc2 => ?_) (fun hc2 => ?_)
 ·
  refine c_seq ?_
  refine c_region ?_
  refine l_val (v := Ix (takeE s.ps x.owner x.a)) rfl rfl rfl (e_move) ?_
  refine l_val (v := .int .i64 (0)) rfl rfl rfl (e_assign) ?_
  refine l_val (v := Ix (takeE s.ps x.owner x.a)) rfl rfl rfl (e_assign) ?_
  refine l_nil ?_
  refine f_then ?_
  refine c_ret ?_
  refine f_then_ret ?_
  refine ret2 (v := .int .i64 (0)) (v' := Ix (takeE s.ps x.owner x.a)) Tryz.results70 rfl rfl ?_
  intro w hw
  replace hw := hw.perm (L' := [pt zb (.cells #[.map (some mp), .map (some mh), Ix (s.last), Ix (s.su.a0), Ix (s.su.a1), Ix (s.su.a2), Ix (s.su.a3), .map (some mm)] 88), mpR PuM mp (takeP s.ps x.owner x.a), mpR HoM mh s.hs, pt b1 (.cells #[Bx (x.kind), Ix (x.owner), Ix (x.other), Ix (x.hold), Ix (x.a.a0), Ix (x.a.a1), Ix (x.a.a2), Ix (x.a.a3)] 47)]) (by exact (perm_ix [0, 1, 3, 2] 4 rfl (by kernel_rfl) (by kernel_rfl)))
  exact act_end (V := (⟨(takeP s.ps x.owner x.a), s.hs, s.last, s.su⟩ : KSt)) (show ((⟨(takeP s.ps x.owner x.a), s.hs, s.last, s.su⟩ : KSt), 0, takeE s.ps x.owner x.a) = holdS s x by simp_all [holdS]) (st_mask (L' := [pt zb (.cells #[.map (some mp), .map (some mh), Ix (s.last), Ix (s.su.a0), Ix (s.su.a1), Ix (s.su.a2), Ix (s.su.a3), .map (some mm)] 88), mpR PuM mp (takeP s.ps x.owner x.a), mpR HoM mh s.hs]) [true, true, true, false] rfl hw)
 ·
  refine c_skip ?_
  refine f_then ?_
  refine c_seq ?_
  refine c_seq ?_
  refine c_region ?_
  refine l_val (v := .pointer (some ⟨zb, 0, none⟩)) rfl rfl rfl (e_move) ?_
  refine l_val (v := .pointer (some ⟨zb, 0, none⟩)) rfl rfl rfl (e_nil (a := ⟨zb, 0, none⟩) rfl) ?_
  refine l_val (v := .pointer (some ⟨zb, 1, none⟩)) rfl rfl rfl (e_fieldPt (b := zb) (o := 0) rfl tt38) ?_
  refine l_val (v := .map (some mh)) rfl rfl rfl (e_load1 tt39 (v := .map (some mh)) rfl (k_pt 0 (cs := #[.map (some mp), .map (some mh), Ix (s.last), Ix (s.su.a0), Ix (s.su.a1), Ix (s.su.a2), Ix (s.su.a3), .map (some mm)]) (vs := [.map (some mh)]) rfl rfl)) ?_
  refine l_val (v := Nx (s.hs.length)) rfl rfl rfl (e_mlen (K := HoM) (b := mh) (ks := s.hs) rfl rfl (Knows.of_res 3 rfl (mpR.mono _ _ _) fun _ h => h)) ?_
  refine l_val (v := .bool (decide ((128 : Int) ≤ ((s.hs.length : Nat) : Int)))) rfl rfl rfl (e_geq (a := ((s.hs.length : Nat) : Int)) (b := (128 : Int)) rfl rfl) ?_
  refine l_nil ?_
  refine f_then ?_
  refine c_if ((128 : Int) ≤ ((s.hs.length : Nat) : Int)) rfl (fun hc3 => ?_) (fun hc3 => ?_)
  ·
   refine c_seq ?_
   refine c_region ?_
   refine l_val (v := .int .i64 (0)) rfl rfl rfl (e_assign) ?_
   refine l_val (v := .int .i64 (5)) rfl rfl rfl (e_assign) ?_
   refine l_nil ?_
   refine f_then ?_
   refine c_ret ?_
   refine f_then_ret ?_
   refine ret2 (v := .int .i64 (0)) (v' := .int .i64 (5)) Tryz.results70 rfl rfl ?_
   intro w hw
   replace hw := hw.perm (L' := [pt zb (.cells #[.map (some mp), .map (some mh), Ix (s.last), Ix (s.su.a0), Ix (s.su.a1), Ix (s.su.a2), Ix (s.su.a3), .map (some mm)] 88), mpR PuM mp (takeP s.ps x.owner x.a), mpR HoM mh s.hs, pt b1 (.cells #[Bx (x.kind), Ix (x.owner), Ix (x.other), Ix (x.hold), Ix (x.a.a0), Ix (x.a.a1), Ix (x.a.a2), Ix (x.a.a3)] 47)]) (by exact (perm_ix [0, 1, 3, 2] 4 rfl (by kernel_rfl) (by kernel_rfl)))
   exact act_end (V := (⟨(takeP s.ps x.owner x.a), s.hs, s.last, s.su⟩ : KSt)) (show ((⟨(takeP s.ps x.owner x.a), s.hs, s.last, s.su⟩ : KSt), 0, 5) = holdS s x by simp_all [holdS]) (st_mask (L' := [pt zb (.cells #[.map (some mp), .map (some mh), Ix (s.last), Ix (s.su.a0), Ix (s.su.a1), Ix (s.su.a2), Ix (s.su.a3), .map (some mm)] 88), mpR PuM mp (takeP s.ps x.owner x.a), mpR HoM mh s.hs]) [true, true, true, false] rfl hw)
  ·
   refine c_skip ?_
   refine f_then ?_
   refine c_seq ?_
   refine c_region ?_
   refine l_val (v := .pointer (some ⟨zb, 0, none⟩)) rfl rfl rfl (e_move) ?_
   refine l_val (v := .pointer (some ⟨zb, 0, none⟩)) rfl rfl rfl (e_nil (a := ⟨zb, 0, none⟩) rfl) ?_
   refine l_val (v := .pointer (some ⟨zb, 2, none⟩)) rfl rfl rfl (e_fieldPt (b := zb) (o := 0) rfl tt40) ?_
   refine l_val (v := Ix (s.last)) rfl rfl rfl (e_load1 tt2 (v := Ix (s.last)) rfl (k_pt 0 (cs := #[.map (some mp), .map (some mh), Ix (s.last), Ix (s.su.a0), Ix (s.su.a1), Ix (s.su.a2), Ix (s.su.a3), .map (some mm)]) (vs := [Ix (s.last)]) rfl rfl)) ?_
   refine l_val (v := Ix ((s.last) + (1 : Int))) rfl rfl rfl (e_add (a := (s.last)) (b := (1 : Int)) rfl rfl (i64w (by omega))) ?_
   refine l_val (v := .pointer (some ⟨zb, 0, none⟩)) rfl rfl rfl (e_nil (a := ⟨zb, 0, none⟩) rfl) ?_
   refine l_val (v := .pointer (some ⟨zb, 2, none⟩)) rfl rfl rfl (e_fieldPt (b := zb) (o := 0) rfl tt40) ?_
   refine l_mu rfl rfl (m_store 0 tt2 (b := zb) (o := 2) (T := 88) (cs := #[.map (some mp), .map (some mh), Ix (s.last), Ix (s.su.a0), Ix (s.su.a1), Ix (s.su.a2), Ix (s.su.a3), .map (some mm)]) (cs' := #[.map (some mp), .map (some mh), Ix ((s.last) + (1 : Int)), Ix (s.su.a0), Ix (s.su.a1), Ix (s.su.a2), Ix (s.su.a3), .map (some mm)]) (v := Ix ((s.last) + (1 : Int))) rfl rfl rfl rfl rfl rfl rfl) ?_
   refine l_nil ?_
   refine f_then ?_
   refine c_seq ?_
   refine c_any [⟨[], [], [0], [29], fun f => f 29 = .pointer (some ⟨zb, 0, none⟩)⟩, ⟨[0], [0], [], [30], fun f => f 30 = .pointer (some ⟨zb, 0, none⟩)⟩, ⟨[0, 1], [1], [], [31], fun f => f 31 = .pointer (some ⟨zb, 1, none⟩)⟩, ⟨[0, 1, 2], [2], [], [32], fun f => f 32 = .map (some mh)⟩, ⟨[], [], [0], [33], fun f => f 33 = .pointer (some ⟨zb, 0, none⟩)⟩, ⟨[4], [4], [], [34], fun f => f 34 = .pointer (some ⟨zb, 0, none⟩)⟩, ⟨[4, 5], [5], [], [35], fun f => f 35 = .pointer (some ⟨zb, 2, none⟩)⟩, ⟨[4, 5, 6], [6], [], [36], fun f => f 36 = Ix ((s.last) + (1 : Int))⟩, ⟨[], [], [0], [37], fun f => f 37 = .pointer (some ⟨zb, 0, none⟩)⟩, ⟨[8], [8], [], [38], fun f => f 38 = .pointer (some ⟨zb, 0, none⟩)⟩, ⟨[8, 9], [9], [], [39], fun f => f 39 = .pointer (some ⟨zb, 2, none⟩)⟩, ⟨[8, 9, 10], [10], [], [40], fun f => f 40 = Ix ((s.last) + (1 : Int))⟩, ⟨[], [], [1], [41], fun f => f 41 = .pointer (some ⟨b1, 1, none⟩)⟩, ⟨[12], [12], [], [42], fun f => f 42 = Ix (x.owner)⟩, ⟨[], [], [1], [43], fun f => f 43 = .pointer (some ⟨b1, 4, none⟩)⟩, ⟨[14], [14], [], [44], fun f => f 44 = .agg (amC x.a)⟩, ⟨[8, 9, 10, 11, 12, 13, 14, 15], [11, 13, 15], [], [45], fun f => f 45 = .agg #[Ix ((s.last) + (1 : Int)), Ix (x.owner), Ix (x.a.a0), Ix (x.a.a1), Ix (x.a.a2), Ix (x.a.a3)]⟩, ⟨[0, 1, 2, 3, 4, 5, 6, 7, 8, 9, 10, 11, 12, 13, 14, 15, 16], [3, 7, 16], [], [], fun _ => True⟩] [⟨none, none, [3, 7, 11], [], fun _ => pt zb (.cells #[.map (some mp), .map (some mh), Ix ((s.last) + (1 : Int)), Ix (s.su.a0), Ix (s.su.a1), Ix (s.su.a2), Ix (s.su.a3), .map (some mm)] 88)⟩, ⟨none, none, [], [], fun _ => mpR PuM mp (takeP s.ps x.owner x.a)⟩, ⟨none, none, [13, 15], [], fun _ => pt b1 (.cells #[Bx (x.kind), Ix (x.owner), Ix (x.other), Ix (x.hold), Ix (x.a.a0), Ix (x.a.a1), Ix (x.a.a2), Ix (x.a.a3)] 47)⟩, ⟨none, (some 17), [17], [], fun _ => mpR HoM mh s.hs⟩, ⟨(some 17), none, [], [], fun _ => mpR HoM mh (HoM.put s.hs ((s.last) + (1 : Int)) (⟨(s.last) + (1 : Int), x.owner, x.a⟩ : KHo))⟩] [(0, .pointer (some ⟨zb, 0, none⟩)), (3, .pointer (some ⟨b1, 0, none⟩))] [0] [] (by kernel_rfl) (by kernel_rfl) (by kernel_rfl) (by kernel_rfl) rfl ⟨rfl, rfl, trivial⟩ ⟨?_, ?_, ?_, ?_, ?_, ?_, ?_, ?_, ?_, ?_, ?_, ?_, ?_, ?_, ?_, ?_, ?_, ?_, trivial⟩ ?_
   ·rintro f M - ⟨i0, -⟩
    have hs0 : f 0 = .pointer (some ⟨zb, 0, none⟩) := i0
    refine ob_start (L' := M) (by rfl) (up_cons rfl hs0) ?_
    refine l_val (v := .pointer (some ⟨zb, 0, none⟩)) rfl rfl rfl (e_move) ?_
    refine l_nil ?_
    exact f_owes_d (up_cons rfl hs0) rfl (List.Perm.refl _)
   ·rintro f M ⟨k0, -⟩ -
    have hs29 : f 29 = .pointer (some ⟨zb, 0, none⟩) := k0
    refine ob_start (L' := M) (by rfl) (up_cons rfl hs29) ?_
    refine l_val (v := .pointer (some ⟨zb, 0, none⟩)) rfl rfl rfl (e_nil (a := ⟨zb, 0, none⟩) rfl) ?_
    refine l_nil ?_
    exact f_owes_d (up_cons rfl hs29) rfl (List.Perm.refl _)
   ·rintro f M ⟨k0, -⟩ -
    have hs30 : f 30 = .pointer (some ⟨zb, 0, none⟩) := k0
    refine ob_start (L' := M) (by rfl) (up_cons rfl hs30) ?_
    refine l_val (v := .pointer (some ⟨zb, 1, none⟩)) rfl rfl rfl (e_fieldPt (b := zb) (o := 0) rfl tt38) ?_
    refine l_nil ?_
    exact f_owes_d (up_cons rfl hs30) rfl (List.Perm.refl _)
   ·rintro f M ⟨k0, -⟩ -
    have hs31 : f 31 = .pointer (some ⟨zb, 1, none⟩) := k0
    refine ob_start (L' := pt zb (.cells #[.map (some mp), .map (some mh), Ix ((s.last) + (1 : Int)), Ix (s.su.a0), Ix (s.su.a1), Ix (s.su.a2), Ix (s.su.a3), .map (some mm)] 88) :: M) (by rfl) (up_cons rfl hs31) ?_
    refine l_val (v := .map (some mh)) rfl rfl rfl (e_load1 tt39 (v := .map (some mh)) rfl (k_pt 0 (cs := #[.map (some mp), .map (some mh), Ix ((s.last) + (1 : Int)), Ix (s.su.a0), Ix (s.su.a1), Ix (s.su.a2), Ix (s.su.a3), .map (some mm)]) (vs := [.map (some mh)]) rfl rfl)) ?_
    refine l_nil ?_
    exact f_owes_d (up_cons rfl hs31) rfl (perm_front 0 rfl)
   ·rintro f M - ⟨i0, -⟩
    have hs0 : f 0 = .pointer (some ⟨zb, 0, none⟩) := i0
    refine ob_start (L' := M) (by rfl) (up_cons rfl hs0) ?_
    refine l_val (v := .pointer (some ⟨zb, 0, none⟩)) rfl rfl rfl (e_move) ?_
    refine l_nil ?_
    exact f_owes_d (up_cons rfl hs0) rfl (List.Perm.refl _)
   ·rintro f M ⟨k0, -⟩ -
    have hs33 : f 33 = .pointer (some ⟨zb, 0, none⟩) := k0
    refine ob_start (L' := M) (by rfl) (up_cons rfl hs33) ?_
    refine l_val (v := .pointer (some ⟨zb, 0, none⟩)) rfl rfl rfl (e_nil (a := ⟨zb, 0, none⟩) rfl) ?_
    refine l_nil ?_
    exact f_owes_d (up_cons rfl hs33) rfl (List.Perm.refl _)
   ·rintro f M ⟨k0, -⟩ -
    have hs34 : f 34 = .pointer (some ⟨zb, 0, none⟩) := k0
    refine ob_start (L' := M) (by rfl) (up_cons rfl hs34) ?_
    refine l_val (v := .pointer (some ⟨zb, 2, none⟩)) rfl rfl rfl (e_fieldPt (b := zb) (o := 0) rfl tt40) ?_
    refine l_nil ?_
    exact f_owes_d (up_cons rfl hs34) rfl (List.Perm.refl _)
   ·rintro f M ⟨k0, -⟩ -
    have hs35 : f 35 = .pointer (some ⟨zb, 2, none⟩) := k0
    refine ob_start (L' := pt zb (.cells #[.map (some mp), .map (some mh), Ix ((s.last) + (1 : Int)), Ix (s.su.a0), Ix (s.su.a1), Ix (s.su.a2), Ix (s.su.a3), .map (some mm)] 88) :: M) (by rfl) (up_cons rfl hs35) ?_
    refine l_val (v := Ix ((s.last) + (1 : Int))) rfl rfl rfl (e_load1 tt2 (v := Ix ((s.last) + (1 : Int))) rfl (k_pt 0 (cs := #[.map (some mp), .map (some mh), Ix ((s.last) + (1 : Int)), Ix (s.su.a0), Ix (s.su.a1), Ix (s.su.a2), Ix (s.su.a3), .map (some mm)]) (vs := [Ix ((s.last) + (1 : Int))]) rfl rfl)) ?_
    refine l_nil ?_
    exact f_owes_d (up_cons rfl hs35) rfl (perm_front 0 rfl)
   ·rintro f M - ⟨i0, -⟩
    have hs0 : f 0 = .pointer (some ⟨zb, 0, none⟩) := i0
    refine ob_start (L' := M) (by rfl) (up_cons rfl hs0) ?_
    refine l_val (v := .pointer (some ⟨zb, 0, none⟩)) rfl rfl rfl (e_move) ?_
    refine l_nil ?_
    exact f_owes_d (up_cons rfl hs0) rfl (List.Perm.refl _)
   ·rintro f M ⟨k0, -⟩ -
    have hs37 : f 37 = .pointer (some ⟨zb, 0, none⟩) := k0
    refine ob_start (L' := M) (by rfl) (up_cons rfl hs37) ?_
    refine l_val (v := .pointer (some ⟨zb, 0, none⟩)) rfl rfl rfl (e_nil (a := ⟨zb, 0, none⟩) rfl) ?_
    refine l_nil ?_
    exact f_owes_d (up_cons rfl hs37) rfl (List.Perm.refl _)
   ·rintro f M ⟨k0, -⟩ -
    have hs38 : f 38 = .pointer (some ⟨zb, 0, none⟩) := k0
    refine ob_start (L' := M) (by rfl) (up_cons rfl hs38) ?_
    refine l_val (v := .pointer (some ⟨zb, 2, none⟩)) rfl rfl rfl (e_fieldPt (b := zb) (o := 0) rfl tt40) ?_
    refine l_nil ?_
    exact f_owes_d (up_cons rfl hs38) rfl (List.Perm.refl _)
   ·rintro f M ⟨k0, -⟩ -
    have hs39 : f 39 = .pointer (some ⟨zb, 2, none⟩) := k0
    refine ob_start (L' := pt zb (.cells #[.map (some mp), .map (some mh), Ix ((s.last) + (1 : Int)), Ix (s.su.a0), Ix (s.su.a1), Ix (s.su.a2), Ix (s.su.a3), .map (some mm)] 88) :: M) (by rfl) (up_cons rfl hs39) ?_
    refine l_val (v := Ix ((s.last) + (1 : Int))) rfl rfl rfl (e_load1 tt2 (v := Ix ((s.last) + (1 : Int))) rfl (k_pt 0 (cs := #[.map (some mp), .map (some mh), Ix ((s.last) + (1 : Int)), Ix (s.su.a0), Ix (s.su.a1), Ix (s.su.a2), Ix (s.su.a3), .map (some mm)]) (vs := [Ix ((s.last) + (1 : Int))]) rfl rfl)) ?_
    refine l_nil ?_
    exact f_owes_d (up_cons rfl hs39) rfl (perm_front 0 rfl)
   ·rintro f M - ⟨i0, -⟩
    have hs3 : f 3 = .pointer (some ⟨b1, 0, none⟩) := i0
    refine ob_start (L' := M) (by rfl) (up_cons rfl hs3) ?_
    refine l_val (v := .pointer (some ⟨b1, 1, none⟩)) rfl rfl rfl (e_fieldPt (b := b1) (o := 0) rfl tt6) ?_
    refine l_nil ?_
    exact f_owes_d (up_cons rfl hs3) rfl (List.Perm.refl _)
   ·rintro f M ⟨k0, -⟩ -
    have hs41 : f 41 = .pointer (some ⟨b1, 1, none⟩) := k0
    refine ob_start (L' := pt b1 (.cells #[Bx (x.kind), Ix (x.owner), Ix (x.other), Ix (x.hold), Ix (x.a.a0), Ix (x.a.a1), Ix (x.a.a2), Ix (x.a.a3)] 47) :: M) (by rfl) (up_cons rfl hs41) ?_
    refine l_val (v := Ix (x.owner)) rfl rfl rfl (e_load1 tt2 (v := Ix (x.owner)) rfl (k_pt 0 (cs := #[Bx (x.kind), Ix (x.owner), Ix (x.other), Ix (x.hold), Ix (x.a.a0), Ix (x.a.a1), Ix (x.a.a2), Ix (x.a.a3)]) (vs := [Ix (x.owner)]) rfl rfl)) ?_
    refine l_nil ?_
    exact f_owes_d (up_cons rfl hs41) rfl (perm_front 0 rfl)
   ·rintro f M - ⟨i0, -⟩
    have hs3 : f 3 = .pointer (some ⟨b1, 0, none⟩) := i0
    refine ob_start (L' := M) (by rfl) (up_cons rfl hs3) ?_
    refine l_val (v := .pointer (some ⟨b1, 4, none⟩)) rfl rfl rfl (e_fieldPt (b := b1) (o := 0) rfl tt10) ?_
    refine l_nil ?_
    exact f_owes_d (up_cons rfl hs3) rfl (List.Perm.refl _)
   ·rintro f M ⟨k0, -⟩ -
    have hs43 : f 43 = .pointer (some ⟨b1, 4, none⟩) := k0
    refine ob_start (L' := pt b1 (.cells #[Bx (x.kind), Ix (x.owner), Ix (x.other), Ix (x.hold), Ix (x.a.a0), Ix (x.a.a1), Ix (x.a.a2), Ix (x.a.a3)] 47) :: M) (by rfl) (up_cons rfl hs43) ?_
    refine l_val (v := .agg (amC x.a)) rfl rfl rfl (e_load tt0 (cs := (amE x.a)) rfl (k_pt 0 (cs := #[Bx (x.kind), Ix (x.owner), Ix (x.other), Ix (x.hold), Ix (x.a.a0), Ix (x.a.a1), Ix (x.a.a2), Ix (x.a.a3)]) (vs := (amE x.a)) rfl rfl) rfl) ?_
    refine l_nil ?_
    exact f_owes_d (up_cons rfl hs43) rfl (perm_front 0 rfl)
   ·rintro f M ⟨k0, k1, k2, -⟩ -
    have hs40 : f 40 = Ix ((s.last) + (1 : Int)) := k0
    have hs42 : f 42 = Ix (x.owner) := k1
    have hs44 : f 44 = .agg (amC x.a) := k2
    refine ob_start (L' := M) (by rfl) (up_cons (up_cons (up_cons rfl hs40) hs42) hs44) ?_
    refine l_val (v := .agg #[Ix ((s.last) + (1 : Int)), Ix (x.owner), Ix (x.a.a0), Ix (x.a.a1), Ix (x.a.a2), Ix (x.a.a3)]) rfl rfl rfl (e_build tt42 tt41 (vs := [(0, Ix ((s.last) + (1 : Int))), (1, Ix (x.owner)), (2, .agg (amC x.a))]) (cells := #[Ix ((s.last) + (1 : Int)), Ix (x.owner), Ix (x.a.a0), Ix (x.a.a1), Ix (x.a.a2), Ix (x.a.a3)]) rfl rfl) ?_
    refine l_nil ?_
    exact f_owes_d (up_cons (up_cons (up_cons rfl hs40) hs42) hs44) rfl (List.Perm.refl _)
   ·rintro f M ⟨k0, k1, k2, -⟩ -
    have hs32 : f 32 = .map (some mh) := k0
    have hs36 : f 36 = Ix ((s.last) + (1 : Int)) := k1
    have hs45 : f 45 = .agg #[Ix ((s.last) + (1 : Int)), Ix (x.owner), Ix (x.a.a0), Ix (x.a.a1), Ix (x.a.a2), Ix (x.a.a3)] := k2
    refine ob_start (L' := mpR HoM mh s.hs :: M) (by rfl) (up_cons (up_cons (up_cons rfl hs32) hs36) hs45) ?_
    refine l_mu rfl rfl (m_mput (K := HoM) (b := mh) (ks := s.hs) (k := ((s.last) + (1 : Int))) (v := (⟨(s.last) + (1 : Int), x.owner, x.a⟩ : KHo)) 0 rfl rfl rfl rfl rfl) ?_
    refine l_nil ?_
    exact f_owes_n (up_cons (up_cons (up_cons rfl hs32) hs36) hs45) trivial (perm_front 0 rfl)
   rintro fa4 ⟨-, -, -, -, -, -, -, -, -, -, -, -, -, -, -, -, -, -, -⟩ ⟨j0, -⟩
   refine f_re (L' := [pt zb (.cells #[.map (some mp), .map (some mh), Ix ((s.last) + (1 : Int)), Ix (s.su.a0), Ix (s.su.a1), Ix (s.su.a2), Ix (s.su.a3), .map (some mm)] 88), mpR PuM mp (takeP s.ps x.owner x.a), pt b1 (.cells #[Bx (x.kind), Ix (x.owner), Ix (x.other), Ix (x.hold), Ix (x.a.a0), Ix (x.a.a1), Ix (x.a.a2), Ix (x.a.a3)] 47), mpR HoM mh (HoM.put s.hs ((s.last) + (1 : Int)) (⟨(s.last) + (1 : Int), x.owner, x.a⟩ : KHo))]) (by rfl) ?_
   refine f_rebase (d := 0) (v := .pointer (some ⟨zb, 0, none⟩)) j0 ?_
   refine f_then ?_
   refine c_seq ?_
   refine c_region ?_
   refine l_val (v := .pointer (some ⟨zb, 0, none⟩)) rfl rfl rfl (e_move) ?_
   refine l_val (v := .pointer (some ⟨zb, 0, none⟩)) rfl rfl rfl (e_nil (a := ⟨zb, 0, none⟩) rfl) ?_
   refine l_val (v := .pointer (some ⟨zb, 2, none⟩)) rfl rfl rfl (e_fieldPt (b := zb) (o := 0) rfl tt40) ?_
   refine l_val (v := Ix ((s.last) + (1 : Int))) rfl rfl rfl (e_load1 tt2 (v := Ix ((s.last) + (1 : Int))) rfl (k_pt 0 (cs := #[.map (some mp), .map (some mh), Ix ((s.last) + (1 : Int)), Ix (s.su.a0), Ix (s.su.a1), Ix (s.su.a2), Ix (s.su.a3), .map (some mm)]) (vs := [Ix ((s.last) + (1 : Int))]) rfl rfl)) ?_
   refine l_val (v := Ix ((s.last) + (1 : Int))) rfl rfl rfl (e_assign) ?_
   refine l_val (v := .int .i64 (0)) rfl rfl rfl (e_assign) ?_
   refine l_nil ?_
   refine f_then ?_
   refine c_ret ?_
   refine ret2 (v := Ix ((s.last) + (1 : Int))) (v' := .int .i64 (0)) Tryz.results70 rfl rfl ?_
   intro w hw
   replace hw := hw.perm (L' := [pt zb (.cells #[.map (some mp), .map (some mh), Ix ((s.last) + (1 : Int)), Ix (s.su.a0), Ix (s.su.a1), Ix (s.su.a2), Ix (s.su.a3), .map (some mm)] 88), mpR PuM mp (takeP s.ps x.owner x.a), mpR HoM mh (HoM.put s.hs ((s.last) + (1 : Int)) (⟨(s.last) + (1 : Int), x.owner, x.a⟩ : KHo)), pt b1 (.cells #[Bx (x.kind), Ix (x.owner), Ix (x.other), Ix (x.hold), Ix (x.a.a0), Ix (x.a.a1), Ix (x.a.a2), Ix (x.a.a3)] 47)]) (by exact (perm_ix [0, 1, 3, 2] 4 rfl (by kernel_rfl) (by kernel_rfl)))
   exact act_end (V := (⟨(takeP s.ps x.owner x.a), (HoM.put s.hs ((s.last) + (1 : Int)) (⟨(s.last) + (1 : Int), x.owner, x.a⟩ : KHo)), (s.last) + (1 : Int), s.su⟩ : KSt)) (show ((⟨(takeP s.ps x.owner x.a), (HoM.put s.hs ((s.last) + (1 : Int)) (⟨(s.last) + (1 : Int), x.owner, x.a⟩ : KHo)), (s.last) + (1 : Int), s.su⟩ : KSt), (s.last) + (1 : Int), 0) = holdS s x by simp_all [holdS]) (st_mask (L' := [pt zb (.cells #[.map (some mp), .map (some mh), Ix ((s.last) + (1 : Int)), Ix (s.su.a0), Ix (s.su.a1), Ix (s.su.a2), Ix (s.su.a3), .map (some mm)] 88), mpR PuM mp (takeP s.ps x.owner x.a), mpR HoM mh (HoM.put s.hs ((s.last) + (1 : Int)) (⟨(s.last) + (1 : Int), x.owner, x.a⟩ : KHo))]) [true, true, true, false] rfl hw)
set_option maxHeartbeats 4000000 in
theorem pay_ok (β : Base) (w : World) (zb mp mh mm : Nat) (s : KSt) (hw : St β [pt zb (.cells (stC mp mh mm s.last s.su) 88), mpR PuM mp s.ps, mpR HoM mh s.hs] w) (hP : okP s.ps) (hH : okH s.hs) (hsu : s.su.bd 4611686018427387903) (hla : -4611686018427387903 ≤ s.last ∧ s.last ≤ 4611686018427387903) (x : KAct) (hxa : x.a.bd 4611686018427387903) : Calls Tryz.prog 72 #[.pointer (some ⟨zb, 0, none⟩), .agg #[Bx (x.kind), Ix (x.owner), Ix (x.other), Ix (x.hold), Ix (x.a.a0), Ix (x.a.a1), Ix (x.a.a2), Ix (x.a.a3)]] w fun r w' => r = .returned (.tuple #[Ix (payS s x.hold x.other).2.1, Ix (payS s x.hold x.other).2.2]) ∧ St β [pt zb (.cells (stC mp mh mm (payS s x.hold x.other).1.last (payS s x.hold x.other).1.su) 88), mpR PuM mp (payS s x.hold x.other).1.ps, mpR HoM mh (payS s x.hold x.other).1.hs] w' := by
 refine enter (n := 32) Tryz.func72 rfl Tryz.ntmps72 rfl ?_ hw
 refine c_seq ?_
 refine c_region ?_
 refine l_mv rfl rfl rfl (m_box (v := .agg #[Bx (x.kind), Ix (x.owner), Ix (x.other), Ix (x.hold), Ix (x.a.a0), Ix (x.a.a1), Ix (x.a.a2), Ix (x.a.a3)]) rfl) ?_
 rintro _ _ ⟨b1, rfl, rfl⟩
 refine l_val (v := .int .i64 (0)) rfl rfl rfl (e_assign) ?_
 refine l_val (v := .int .i64 (0)) rfl rfl rfl (e_assign) ?_
 refine l_nil ?_
 refine f_then ?_
 refine c_seq ?_
 refine c_any [⟨[], [], [0], [9], fun f => f 9 = .pointer (some ⟨zb, 0, none⟩)⟩, ⟨[0], [0], [], [10], fun f => f 10 = .pointer (some ⟨zb, 0, none⟩)⟩, ⟨[0, 1], [1], [], [11], fun f => f 11 = .pointer (some ⟨zb, 1, none⟩)⟩, ⟨[0, 1, 2], [2], [], [12], fun f => f 12 = .map (some mh)⟩, ⟨[], [], [1], [13], fun f => f 13 = .pointer (some ⟨b1, 3, none⟩)⟩, ⟨[4], [4], [], [14], fun f => f 14 = Ix (x.hold)⟩, ⟨[0, 1, 2, 3, 4, 5], [3, 5], [], [15], fun f => f 15 = .tuple #[.agg #[Ix (((HoM.look s.hs (x.hold)).getD zeroH).number), Ix (((HoM.look s.hs (x.hold)).getD zeroH).owner), Ix (((HoM.look s.hs (x.hold)).getD zeroH).a.a0), Ix (((HoM.look s.hs (x.hold)).getD zeroH).a.a1), Ix (((HoM.look s.hs (x.hold)).getD zeroH).a.a2), Ix (((HoM.look s.hs (x.hold)).getD zeroH).a.a3)], .bool ((HoM.look s.hs (x.hold)).isSome)]⟩, ⟨[0, 1, 2, 3, 4, 5, 6], [6], [], [8], fun f => f 8 = .tuple #[.agg #[Ix (((HoM.look s.hs (x.hold)).getD zeroH).number), Ix (((HoM.look s.hs (x.hold)).getD zeroH).owner), Ix (((HoM.look s.hs (x.hold)).getD zeroH).a.a0), Ix (((HoM.look s.hs (x.hold)).getD zeroH).a.a1), Ix (((HoM.look s.hs (x.hold)).getD zeroH).a.a2), Ix (((HoM.look s.hs (x.hold)).getD zeroH).a.a3)], .bool ((HoM.look s.hs (x.hold)).isSome)]⟩, ⟨[0, 1, 2, 3, 4, 5, 6, 7], [7], [], [16], fun f => f 16 = .agg #[Ix (((HoM.look s.hs (x.hold)).getD zeroH).number), Ix (((HoM.look s.hs (x.hold)).getD zeroH).owner), Ix (((HoM.look s.hs (x.hold)).getD zeroH).a.a0), Ix (((HoM.look s.hs (x.hold)).getD zeroH).a.a1), Ix (((HoM.look s.hs (x.hold)).getD zeroH).a.a2), Ix (((HoM.look s.hs (x.hold)).getD zeroH).a.a3)]⟩, ⟨[0, 1, 2, 3, 4, 5, 6, 7], [7], [], [17], fun f => f 17 = .bool ((HoM.look s.hs (x.hold)).isSome)⟩, ⟨[], [], [], [6], fun f => f 6 = .pointer (some ⟨(blk (f 6)), 0, none⟩)⟩, ⟨[0, 1, 2, 3, 4, 5, 6, 7, 8, 10], [10, 8], [], [], fun _ => True⟩, ⟨[0, 1, 2, 3, 4, 5, 6, 7, 8, 9, 10, 11], [9], [], [7], fun f => f 7 = .bool ((HoM.look s.hs (x.hold)).isSome)⟩] [⟨none, none, [5], [], fun _ => pt b1 (.cells #[Bx (x.kind), Ix (x.owner), Ix (x.other), Ix (x.hold), Ix (x.a.a0), Ix (x.a.a1), Ix (x.a.a2), Ix (x.a.a3)] 47)⟩, ⟨none, none, [3], [], fun _ => pt zb (.cells #[.map (some mp), .map (some mh), Ix (s.last), Ix (s.su.a0), Ix (s.su.a1), Ix (s.su.a2), Ix (s.su.a3), .map (some mm)] 88)⟩, ⟨none, none, [], [], fun _ => mpR PuM mp s.ps⟩, ⟨none, none, [6], [], fun _ => mpR HoM mh s.hs⟩, ⟨(some 10), (some 11), [11], [6], fun f => pt (blk (f 6)) (.cells #[.int .i64 (0), .int .i64 (0), .int .i64 (0), .int .i64 (0), .int .i64 (0), .int .i64 (0)] 104)⟩, ⟨(some 11), none, [], [6], fun f => pt (blk (f 6)) (.cells #[Ix (((HoM.look s.hs (x.hold)).getD zeroH).number), Ix (((HoM.look s.hs (x.hold)).getD zeroH).owner), Ix (((HoM.look s.hs (x.hold)).getD zeroH).a.a0), Ix (((HoM.look s.hs (x.hold)).getD zeroH).a.a1), Ix (((HoM.look s.hs (x.hold)).getD zeroH).a.a2), Ix (((HoM.look s.hs (x.hold)).getD zeroH).a.a3)] 104)⟩] [(0, .pointer (some ⟨zb, 0, none⟩)), (3, .pointer (some ⟨b1, 0, none⟩))] [0, 1] [] (by kernel_rfl) (by kernel_rfl) (by kernel_rfl) (by kernel_rfl) rfl ⟨rfl, rfl, trivial⟩ ⟨?_, ?_, ?_, ?_, ?_, ?_, ?_, ?_, ?_, ?_, ?_, ?_, ?_, trivial⟩ ?_
 ·rintro f M - ⟨i0, -⟩
  have hs0 : f 0 = .pointer (some ⟨zb, 0, none⟩) := i0
  refine ob_start (L' := M) (by rfl) (up_cons rfl hs0) ?_
  refine l_val (v := .pointer (some ⟨zb, 0, none⟩)) rfl rfl rfl (e_move) ?_
  refine l_nil ?_
  exact f_owes_d (up_cons rfl hs0) rfl (List.Perm.refl _)
 ·rintro f M ⟨k0, -⟩ -
  have hs9 : f 9 = .pointer (some ⟨zb, 0, none⟩) := k0
  refine ob_start (L' := M) (by rfl) (up_cons rfl hs9) ?_
  refine l_val (v := .pointer (some ⟨zb, 0, none⟩)) rfl rfl rfl (e_nil (a := ⟨zb, 0, none⟩) rfl) ?_
  refine l_nil ?_
  exact f_owes_d (up_cons rfl hs9) rfl (List.Perm.refl _)
 ·rintro f M ⟨k0, -⟩ -
  have hs10 : f 10 = .pointer (some ⟨zb, 0, none⟩) := k0
  refine ob_start (L' := M) (by rfl) (up_cons rfl hs10) ?_
  refine l_val (v := .pointer (some ⟨zb, 1, none⟩)) rfl rfl rfl (e_fieldPt (b := zb) (o := 0) rfl tt38) ?_
  refine l_nil ?_
  exact f_owes_d (up_cons rfl hs10) rfl (List.Perm.refl _)
 ·rintro f M ⟨k0, -⟩ -
  have hs11 : f 11 = .pointer (some ⟨zb, 1, none⟩) := k0
  refine ob_start (L' := pt zb (.cells #[.map (some mp), .map (some mh), Ix (s.last), Ix (s.su.a0), Ix (s.su.a1), Ix (s.su.a2), Ix (s.su.a3), .map (some mm)] 88) :: M) (by rfl) (up_cons rfl hs11) ?_
  refine l_val (v := .map (some mh)) rfl rfl rfl (e_load1 tt39 (v := .map (some mh)) rfl (k_pt 0 (cs := #[.map (some mp), .map (some mh), Ix (s.last), Ix (s.su.a0), Ix (s.su.a1), Ix (s.su.a2), Ix (s.su.a3), .map (some mm)]) (vs := [.map (some mh)]) rfl rfl)) ?_
  refine l_nil ?_
  exact f_owes_d (up_cons rfl hs11) rfl (perm_front 0 rfl)
 ·rintro f M - ⟨i0, -⟩
  have hs3 : f 3 = .pointer (some ⟨b1, 0, none⟩) := i0
  refine ob_start (L' := M) (by rfl) (up_cons rfl hs3) ?_
  refine l_val (v := .pointer (some ⟨b1, 3, none⟩)) rfl rfl rfl (e_fieldPt (b := b1) (o := 0) rfl tt9) ?_
  refine l_nil ?_
  exact f_owes_d (up_cons rfl hs3) rfl (List.Perm.refl _)
 ·rintro f M ⟨k0, -⟩ -
  have hs13 : f 13 = .pointer (some ⟨b1, 3, none⟩) := k0
  refine ob_start (L' := pt b1 (.cells #[Bx (x.kind), Ix (x.owner), Ix (x.other), Ix (x.hold), Ix (x.a.a0), Ix (x.a.a1), Ix (x.a.a2), Ix (x.a.a3)] 47) :: M) (by rfl) (up_cons rfl hs13) ?_
  refine l_val (v := Ix (x.hold)) rfl rfl rfl (e_load1 tt2 (v := Ix (x.hold)) rfl (k_pt 0 (cs := #[Bx (x.kind), Ix (x.owner), Ix (x.other), Ix (x.hold), Ix (x.a.a0), Ix (x.a.a1), Ix (x.a.a2), Ix (x.a.a3)]) (vs := [Ix (x.hold)]) rfl rfl)) ?_
  refine l_nil ?_
  exact f_owes_d (up_cons rfl hs13) rfl (perm_front 0 rfl)
 ·rintro f M ⟨k0, k1, -⟩ -
  have hs12 : f 12 = .map (some mh) := k0
  have hs14 : f 14 = Ix (x.hold) := k1
  refine ob_start (L' := mpR HoM mh s.hs :: M) (by rfl) (up_cons (up_cons rfl hs12) hs14) ?_
  refine l_val (v := .tuple #[.agg #[Ix (((HoM.look s.hs (x.hold)).getD zeroH).number), Ix (((HoM.look s.hs (x.hold)).getD zeroH).owner), Ix (((HoM.look s.hs (x.hold)).getD zeroH).a.a0), Ix (((HoM.look s.hs (x.hold)).getD zeroH).a.a1), Ix (((HoM.look s.hs (x.hold)).getD zeroH).a.a2), Ix (((HoM.look s.hs (x.hold)).getD zeroH).a.a3)], .bool ((HoM.look s.hs (x.hold)).isSome)]) rfl rfl rfl (e_look2 (K := HoM) (b := mh) (ks := s.hs) (k := (x.hold)) rfl rfl rfl (Knows.of_res 0 rfl (mpR.mono _ _ _) fun _ h => h)) ?_
  refine l_nil ?_
  exact f_owes_d (up_cons (up_cons rfl hs12) hs14) rfl (perm_front 0 rfl)
 ·rintro f M ⟨k0, -⟩ -
  have hs15 : f 15 = .tuple #[.agg #[Ix (((HoM.look s.hs (x.hold)).getD zeroH).number), Ix (((HoM.look s.hs (x.hold)).getD zeroH).owner), Ix (((HoM.look s.hs (x.hold)).getD zeroH).a.a0), Ix (((HoM.look s.hs (x.hold)).getD zeroH).a.a1), Ix (((HoM.look s.hs (x.hold)).getD zeroH).a.a2), Ix (((HoM.look s.hs (x.hold)).getD zeroH).a.a3)], .bool ((HoM.look s.hs (x.hold)).isSome)] := k0
  refine ob_start (L' := M) (by rfl) (up_cons rfl hs15) ?_
  refine l_val (v := .tuple #[.agg #[Ix (((HoM.look s.hs (x.hold)).getD zeroH).number), Ix (((HoM.look s.hs (x.hold)).getD zeroH).owner), Ix (((HoM.look s.hs (x.hold)).getD zeroH).a.a0), Ix (((HoM.look s.hs (x.hold)).getD zeroH).a.a1), Ix (((HoM.look s.hs (x.hold)).getD zeroH).a.a2), Ix (((HoM.look s.hs (x.hold)).getD zeroH).a.a3)], .bool ((HoM.look s.hs (x.hold)).isSome)]) rfl rfl rfl (e_move) ?_
  refine l_nil ?_
  exact f_owes_d (up_cons rfl hs15) rfl (List.Perm.refl _)
 ·rintro f M ⟨k0, -⟩ -
  have hs8 : f 8 = .tuple #[.agg #[Ix (((HoM.look s.hs (x.hold)).getD zeroH).number), Ix (((HoM.look s.hs (x.hold)).getD zeroH).owner), Ix (((HoM.look s.hs (x.hold)).getD zeroH).a.a0), Ix (((HoM.look s.hs (x.hold)).getD zeroH).a.a1), Ix (((HoM.look s.hs (x.hold)).getD zeroH).a.a2), Ix (((HoM.look s.hs (x.hold)).getD zeroH).a.a3)], .bool ((HoM.look s.hs (x.hold)).isSome)] := k0
  refine ob_start (L' := M) (by rfl) (up_cons rfl hs8) ?_
  refine l_val (v := .agg #[Ix (((HoM.look s.hs (x.hold)).getD zeroH).number), Ix (((HoM.look s.hs (x.hold)).getD zeroH).owner), Ix (((HoM.look s.hs (x.hold)).getD zeroH).a.a0), Ix (((HoM.look s.hs (x.hold)).getD zeroH).a.a1), Ix (((HoM.look s.hs (x.hold)).getD zeroH).a.a2), Ix (((HoM.look s.hs (x.hold)).getD zeroH).a.a3)]) rfl rfl rfl (e_extract (vs := #[.agg #[Ix (((HoM.look s.hs (x.hold)).getD zeroH).number), Ix (((HoM.look s.hs (x.hold)).getD zeroH).owner), Ix (((HoM.look s.hs (x.hold)).getD zeroH).a.a0), Ix (((HoM.look s.hs (x.hold)).getD zeroH).a.a1), Ix (((HoM.look s.hs (x.hold)).getD zeroH).a.a2), Ix (((HoM.look s.hs (x.hold)).getD zeroH).a.a3)], .bool ((HoM.look s.hs (x.hold)).isSome)]) rfl rfl) ?_
  refine l_nil ?_
  exact f_owes_d (up_cons rfl hs8) rfl (List.Perm.refl _)
 ·rintro f M ⟨k0, -⟩ -
  have hs8 : f 8 = .tuple #[.agg #[Ix (((HoM.look s.hs (x.hold)).getD zeroH).number), Ix (((HoM.look s.hs (x.hold)).getD zeroH).owner), Ix (((HoM.look s.hs (x.hold)).getD zeroH).a.a0), Ix (((HoM.look s.hs (x.hold)).getD zeroH).a.a1), Ix (((HoM.look s.hs (x.hold)).getD zeroH).a.a2), Ix (((HoM.look s.hs (x.hold)).getD zeroH).a.a3)], .bool ((HoM.look s.hs (x.hold)).isSome)] := k0
  refine ob_start (L' := M) (by rfl) (up_cons rfl hs8) ?_
  refine l_val (v := .bool ((HoM.look s.hs (x.hold)).isSome)) rfl rfl rfl (e_extract (vs := #[.agg #[Ix (((HoM.look s.hs (x.hold)).getD zeroH).number), Ix (((HoM.look s.hs (x.hold)).getD zeroH).owner), Ix (((HoM.look s.hs (x.hold)).getD zeroH).a.a0), Ix (((HoM.look s.hs (x.hold)).getD zeroH).a.a1), Ix (((HoM.look s.hs (x.hold)).getD zeroH).a.a2), Ix (((HoM.look s.hs (x.hold)).getD zeroH).a.a3)], .bool ((HoM.look s.hs (x.hold)).isSome)]) rfl rfl) ?_
  refine l_nil ?_
  exact f_owes_d (up_cons rfl hs8) rfl (List.Perm.refl _)
 ·rintro f M - -
  refine ob_start (L' := M) (by rfl) rfl ?_
  refine l_mv rfl rfl rfl (m_alloc tt42) ?_
  rintro _ _ ⟨b3, rfl, rfl⟩
  refine l_nil ?_
  exact f_owes_d rfl rfl (perm_front 0 rfl)
 ·rintro f M ⟨k0, k1, -⟩ -
  have hs6 : f 6 = .pointer (some ⟨(blk (f 6)), 0, none⟩) := k0
  have hs16 : f 16 = .agg #[Ix (((HoM.look s.hs (x.hold)).getD zeroH).number), Ix (((HoM.look s.hs (x.hold)).getD zeroH).owner), Ix (((HoM.look s.hs (x.hold)).getD zeroH).a.a0), Ix (((HoM.look s.hs (x.hold)).getD zeroH).a.a1), Ix (((HoM.look s.hs (x.hold)).getD zeroH).a.a2), Ix (((HoM.look s.hs (x.hold)).getD zeroH).a.a3)] := k1
  refine ob_start (L' := pt (blk (f 6)) (.cells #[.int .i64 (0), .int .i64 (0), .int .i64 (0), .int .i64 (0), .int .i64 (0), .int .i64 (0)] 104) :: M) (by rfl) (up_cons (up_cons rfl hs6) hs16) ?_
  refine l_mu rfl rfl (m_store 0 tt43 (b := (blk (f 6))) (o := 0) (T := 104) (cs := #[.int .i64 (0), .int .i64 (0), .int .i64 (0), .int .i64 (0), .int .i64 (0), .int .i64 (0)]) (cs' := #[Ix (((HoM.look s.hs (x.hold)).getD zeroH).number), Ix (((HoM.look s.hs (x.hold)).getD zeroH).owner), Ix (((HoM.look s.hs (x.hold)).getD zeroH).a.a0), Ix (((HoM.look s.hs (x.hold)).getD zeroH).a.a1), Ix (((HoM.look s.hs (x.hold)).getD zeroH).a.a2), Ix (((HoM.look s.hs (x.hold)).getD zeroH).a.a3)]) (v := .agg #[Ix (((HoM.look s.hs (x.hold)).getD zeroH).number), Ix (((HoM.look s.hs (x.hold)).getD zeroH).owner), Ix (((HoM.look s.hs (x.hold)).getD zeroH).a.a0), Ix (((HoM.look s.hs (x.hold)).getD zeroH).a.a1), Ix (((HoM.look s.hs (x.hold)).getD zeroH).a.a2), Ix (((HoM.look s.hs (x.hold)).getD zeroH).a.a3)]) rfl rfl rfl rfl rfl rfl rfl) ?_
  refine l_nil ?_
  exact f_owes_n (up_cons (up_cons rfl hs6) hs16) trivial (perm_front 0 rfl)
 ·rintro f M ⟨k0, -⟩ -
  have hs17 : f 17 = .bool ((HoM.look s.hs (x.hold)).isSome) := k0
  refine ob_start (L' := M) (by rfl) (up_cons rfl hs17) ?_
  refine l_val (v := .bool ((HoM.look s.hs (x.hold)).isSome)) rfl rfl rfl (e_assign) ?_
  refine l_nil ?_
  exact f_owes_d (up_cons rfl hs17) rfl (List.Perm.refl _)
 rintro fa4 ⟨-, -, -, -, -, -, -, -, -, -, k10, -, k12, -⟩ ⟨j0, j1, -⟩
 refine f_re (L' := [pt b1 (.cells #[Bx (x.kind), Ix (x.owner), Ix (x.other), Ix (x.hold), Ix (x.a.a0), Ix (x.a.a1), Ix (x.a.a2), Ix (x.a.a3)] 47), pt zb (.cells #[.map (some mp), .map (some mh), Ix (s.last), Ix (s.su.a0), Ix (s.su.a1), Ix (s.su.a2), Ix (s.su.a3), .map (some mm)] 88), mpR PuM mp s.ps, mpR HoM mh s.hs, pt (blk (fa4 6)) (.cells #[Ix (((HoM.look s.hs (x.hold)).getD zeroH).number), Ix (((HoM.look s.hs (x.hold)).getD zeroH).owner), Ix (((HoM.look s.hs (x.hold)).getD zeroH).a.a0), Ix (((HoM.look s.hs (x.hold)).getD zeroH).a.a1), Ix (((HoM.look s.hs (x.hold)).getD zeroH).a.a2), Ix (((HoM.look s.hs (x.hold)).getD zeroH).a.a3)] 104)]) (by rfl) ?_
 refine f_rebase (d := 0) (v := .pointer (some ⟨zb, 0, none⟩)) j0 ?_
 refine f_rebase (d := 3) (v := .pointer (some ⟨b1, 0, none⟩)) j1 ?_
 refine f_rebase (d := 6) (v := .pointer (some ⟨(blk (fa4 6)), 0, none⟩)) k10 ?_
 refine f_rebase (d := 7) (v := .bool ((HoM.look s.hs (x.hold)).isSome)) k12 ?_
 refine f_then ?_
 refine c_seq ?_
 refine c_seq ?_
 refine c_region ?_
 refine l_val (v := .bool ((HoM.look s.hs (x.hold)).isSome)) rfl rfl rfl (e_move) ?_
 refine l_val (v := .bool (!((HoM.look s.hs (x.hold)).isSome))) rfl rfl rfl (e_not rfl) ?_
 refine l_nil ?_
 refine f_then ?_
 refine c_ifb (!((HoM.look s.hs (x.hold)).isSome)) rfl (fun hc5 => ?_) (fun hc5 => ?_)
 ·
  refine c_seq ?_
  refine c_region ?_
  refine l_val (v := .int .i64 (0)) rfl rfl rfl (e_assign) ?_
  refine l_val (v := .int .i64 (6)) rfl rfl rfl (e_assign) ?_
  refine l_nil ?_
  refine f_then ?_
  refine c_ret ?_
  refine f_then_ret ?_
  refine ret2 (v := .int .i64 (0)) (v' := .int .i64 (6)) Tryz.results72 rfl rfl ?_
  intro w hw
  replace hw := hw.perm (L' := [pt zb (.cells #[.map (some mp), .map (some mh), Ix (s.last), Ix (s.su.a0), Ix (s.su.a1), Ix (s.su.a2), Ix (s.su.a3), .map (some mm)] 88), mpR PuM mp s.ps, mpR HoM mh s.hs, pt b1 (.cells #[Bx (x.kind), Ix (x.owner), Ix (x.other), Ix (x.hold), Ix (x.a.a0), Ix (x.a.a1), Ix (x.a.a2), Ix (x.a.a3)] 47), pt (blk (fa4 6)) (.cells #[Ix (((HoM.look s.hs (x.hold)).getD zeroH).number), Ix (((HoM.look s.hs (x.hold)).getD zeroH).owner), Ix (((HoM.look s.hs (x.hold)).getD zeroH).a.a0), Ix (((HoM.look s.hs (x.hold)).getD zeroH).a.a1), Ix (((HoM.look s.hs (x.hold)).getD zeroH).a.a2), Ix (((HoM.look s.hs (x.hold)).getD zeroH).a.a3)] 104)]) (by exact (perm_ix [1, 2, 3, 0, 4] 5 rfl (by kernel_rfl) (by kernel_rfl)))
  exact act_end (V := (⟨s.ps, s.hs, s.last, s.su⟩ : KSt)) (show ((⟨s.ps, s.hs, s.last, s.su⟩ : KSt), 0, 6) = payS s x.hold x.other by simp_all [payS, hoA]) (st_mask (L' := [pt zb (.cells #[.map (some mp), .map (some mh), Ix (s.last), Ix (s.su.a0), Ix (s.su.a1), Ix (s.su.a2), Ix (s.su.a3), .map (some mm)] 88), mpR PuM mp s.ps, mpR HoM mh s.hs]) [true, true, true, false, false] rfl hw)
 ·
  refine c_skip ?_
  refine f_then ?_
  refine c_seq ?_
  refine c_any [⟨[], [], [0], [20], fun f => f 20 = .pointer (some ⟨zb, 0, none⟩)⟩, ⟨[0], [0], [], [21], fun f => f 21 = .pointer (some ⟨zb, 0, none⟩)⟩, ⟨[0, 1], [1], [], [22], fun f => f 22 = .pointer (some ⟨zb, 1, none⟩)⟩, ⟨[0, 1, 2], [2], [], [23], fun f => f 23 = .map (some mh)⟩, ⟨[], [], [1], [24], fun f => f 24 = .pointer (some ⟨b1, 3, none⟩)⟩, ⟨[4], [4], [], [25], fun f => f 25 = Ix (x.hold)⟩, ⟨[0, 1, 2, 3, 4, 5], [3, 5], [], [], fun _ => True⟩] [⟨none, none, [5], [], fun _ => pt b1 (.cells #[Bx (x.kind), Ix (x.owner), Ix (x.other), Ix (x.hold), Ix (x.a.a0), Ix (x.a.a1), Ix (x.a.a2), Ix (x.a.a3)] 47)⟩, ⟨none, none, [3], [], fun _ => pt zb (.cells #[.map (some mp), .map (some mh), Ix (s.last), Ix (s.su.a0), Ix (s.su.a1), Ix (s.su.a2), Ix (s.su.a3), .map (some mm)] 88)⟩, ⟨none, none, [], [], fun _ => mpR PuM mp s.ps⟩, ⟨none, (some 6), [6], [], fun _ => mpR HoM mh s.hs⟩, ⟨none, none, [], [], fun _ => pt (blk (fa4 6)) (.cells #[Ix (((HoM.look s.hs (x.hold)).getD zeroH).number), Ix (((HoM.look s.hs (x.hold)).getD zeroH).owner), Ix (((HoM.look s.hs (x.hold)).getD zeroH).a.a0), Ix (((HoM.look s.hs (x.hold)).getD zeroH).a.a1), Ix (((HoM.look s.hs (x.hold)).getD zeroH).a.a2), Ix (((HoM.look s.hs (x.hold)).getD zeroH).a.a3)] 104)⟩, ⟨(some 6), none, [], [], fun _ => mpR HoM mh (HoM.del s.hs (x.hold))⟩] [(0, .pointer (some ⟨zb, 0, none⟩)), (3, .pointer (some ⟨b1, 0, none⟩)), (6, .pointer (some ⟨(blk (fa4 6)), 0, none⟩))] [0, 1, 2] [] (by kernel_rfl) (by kernel_rfl) (by kernel_rfl) (by kernel_rfl) rfl ⟨rfl, rfl, rfl, trivial⟩ ⟨?_, ?_, ?_, ?_, ?_, ?_, ?_, trivial⟩ ?_
  ·rintro f M - ⟨i0, -⟩
   have hs0 : f 0 = .pointer (some ⟨zb, 0, none⟩) := i0
   refine ob_start (L' := M) (by rfl) (up_cons rfl hs0) ?_
   refine l_val (v := .pointer (some ⟨zb, 0, none⟩)) rfl rfl rfl (e_move) ?_
   refine l_nil ?_
   exact f_owes_d (up_cons rfl hs0) rfl (List.Perm.refl _)
  ·rintro f M ⟨k0, -⟩ -
   have hs20 : f 20 = .pointer (some ⟨zb, 0, none⟩) := k0
   refine ob_start (L' := M) (by rfl) (up_cons rfl hs20) ?_
   refine l_val (v := .pointer (some ⟨zb, 0, none⟩)) rfl rfl rfl (e_nil (a := ⟨zb, 0, none⟩) rfl) ?_
   refine l_nil ?_
   exact f_owes_d (up_cons rfl hs20) rfl (List.Perm.refl _)
  ·rintro f M ⟨k0, -⟩ -
   have hs21 : f 21 = .pointer (some ⟨zb, 0, none⟩) := k0
   refine ob_start (L' := M) (by rfl) (up_cons rfl hs21) ?_
   refine l_val (v := .pointer (some ⟨zb, 1, none⟩)) rfl rfl rfl (e_fieldPt (b := zb) (o := 0) rfl tt38) ?_
   refine l_nil ?_
   exact f_owes_d (up_cons rfl hs21) rfl (List.Perm.refl _)
  ·rintro f M ⟨k0, -⟩ -
   have hs22 : f 22 = .pointer (some ⟨zb, 1, none⟩) := k0
   refine ob_start (L' := pt zb (.cells #[.map (some mp), .map (some mh), Ix (s.last), Ix (s.su.a0), Ix (s.su.a1), Ix (s.su.a2), Ix (s.su.a3), .map (some mm)] 88) :: M) (by rfl) (up_cons rfl hs22) ?_
   refine l_val (v := .map (some mh)) rfl rfl rfl (e_load1 tt39 (v := .map (some mh)) rfl (k_pt 0 (cs := #[.map (some mp), .map (some mh), Ix (s.last), Ix (s.su.a0), Ix (s.su.a1), Ix (s.su.a2), Ix (s.su.a3), .map (some mm)]) (vs := [.map (some mh)]) rfl rfl)) ?_
   refine l_nil ?_
   exact f_owes_d (up_cons rfl hs22) rfl (perm_front 0 rfl)
  ·rintro f M - ⟨i0, -⟩
   have hs3 : f 3 = .pointer (some ⟨b1, 0, none⟩) := i0
   refine ob_start (L' := M) (by rfl) (up_cons rfl hs3) ?_
   refine l_val (v := .pointer (some ⟨b1, 3, none⟩)) rfl rfl rfl (e_fieldPt (b := b1) (o := 0) rfl tt9) ?_
   refine l_nil ?_
   exact f_owes_d (up_cons rfl hs3) rfl (List.Perm.refl _)
  ·rintro f M ⟨k0, -⟩ -
   have hs24 : f 24 = .pointer (some ⟨b1, 3, none⟩) := k0
   refine ob_start (L' := pt b1 (.cells #[Bx (x.kind), Ix (x.owner), Ix (x.other), Ix (x.hold), Ix (x.a.a0), Ix (x.a.a1), Ix (x.a.a2), Ix (x.a.a3)] 47) :: M) (by rfl) (up_cons rfl hs24) ?_
   refine l_val (v := Ix (x.hold)) rfl rfl rfl (e_load1 tt2 (v := Ix (x.hold)) rfl (k_pt 0 (cs := #[Bx (x.kind), Ix (x.owner), Ix (x.other), Ix (x.hold), Ix (x.a.a0), Ix (x.a.a1), Ix (x.a.a2), Ix (x.a.a3)]) (vs := [Ix (x.hold)]) rfl rfl)) ?_
   refine l_nil ?_
   exact f_owes_d (up_cons rfl hs24) rfl (perm_front 0 rfl)
  ·rintro f M ⟨k0, k1, -⟩ -
   have hs23 : f 23 = .map (some mh) := k0
   have hs25 : f 25 = Ix (x.hold) := k1
   refine ob_start (L' := mpR HoM mh s.hs :: M) (by rfl) (up_cons (up_cons rfl hs23) hs25) ?_
   refine l_mc rfl rfl (m_mdel (K := HoM) (b := mh) (ks := s.hs) (k := (x.hold)) 0 rfl rfl rfl rfl) ?_
   rintro _ _ ⟨rfl, rfl⟩
   refine l_nil ?_
   exact f_owes_n (up_cons (up_cons rfl hs23) hs25) trivial (perm_front 0 rfl)
  rintro fa6 ⟨-, -, -, -, -, -, -, -⟩ ⟨j0, j1, j2, -⟩
  refine f_re (L' := [pt b1 (.cells #[Bx (x.kind), Ix (x.owner), Ix (x.other), Ix (x.hold), Ix (x.a.a0), Ix (x.a.a1), Ix (x.a.a2), Ix (x.a.a3)] 47), pt zb (.cells #[.map (some mp), .map (some mh), Ix (s.last), Ix (s.su.a0), Ix (s.su.a1), Ix (s.su.a2), Ix (s.su.a3), .map (some mm)] 88), mpR PuM mp s.ps, pt (blk (fa4 6)) (.cells #[Ix (((HoM.look s.hs (x.hold)).getD zeroH).number), Ix (((HoM.look s.hs (x.hold)).getD zeroH).owner), Ix (((HoM.look s.hs (x.hold)).getD zeroH).a.a0), Ix (((HoM.look s.hs (x.hold)).getD zeroH).a.a1), Ix (((HoM.look s.hs (x.hold)).getD zeroH).a.a2), Ix (((HoM.look s.hs (x.hold)).getD zeroH).a.a3)] 104), mpR HoM mh (HoM.del s.hs (x.hold))]) (by rfl) ?_
  refine f_rebase (d := 0) (v := .pointer (some ⟨zb, 0, none⟩)) j0 ?_
  refine f_rebase (d := 3) (v := .pointer (some ⟨b1, 0, none⟩)) j1 ?_
  refine f_rebase (d := 6) (v := .pointer (some ⟨(blk (fa4 6)), 0, none⟩)) j2 ?_
  refine f_then ?_
  refine c_seq ?_
  refine c_region ?_
  refine l_val (v := .pointer (some ⟨zb, 0, none⟩)) rfl rfl rfl (e_move) ?_
  refine l_val (v := .pointer (some ⟨b1, 2, none⟩)) rfl rfl rfl (e_fieldPt (b := b1) (o := 0) rfl tt8) ?_
  refine l_val (v := Ix (x.other)) rfl rfl rfl (e_load1 tt2 (v := Ix (x.other)) rfl (k_pt 0 (cs := #[Bx (x.kind), Ix (x.owner), Ix (x.other), Ix (x.hold), Ix (x.a.a0), Ix (x.a.a1), Ix (x.a.a2), Ix (x.a.a3)]) (vs := [Ix (x.other)]) rfl rfl)) ?_
  refine l_val (v := .pointer (some ⟨(blk (fa4 6)), 2, none⟩)) rfl rfl rfl (e_fieldPt (b := (blk (fa4 6))) (o := 0) rfl tt44) ?_
  refine l_val (v := .agg #[Ix (((HoM.look s.hs (x.hold)).getD zeroH).a.a0), Ix (((HoM.look s.hs (x.hold)).getD zeroH).a.a1), Ix (((HoM.look s.hs (x.hold)).getD zeroH).a.a2), Ix (((HoM.look s.hs (x.hold)).getD zeroH).a.a3)]) rfl rfl rfl (e_load tt0 (cs := [Ix (((HoM.look s.hs (x.hold)).getD zeroH).a.a0), Ix (((HoM.look s.hs (x.hold)).getD zeroH).a.a1), Ix (((HoM.look s.hs (x.hold)).getD zeroH).a.a2), Ix (((HoM.look s.hs (x.hold)).getD zeroH).a.a3)]) rfl (k_pt 3 (cs := #[Ix (((HoM.look s.hs (x.hold)).getD zeroH).number), Ix (((HoM.look s.hs (x.hold)).getD zeroH).owner), Ix (((HoM.look s.hs (x.hold)).getD zeroH).a.a0), Ix (((HoM.look s.hs (x.hold)).getD zeroH).a.a1), Ix (((HoM.look s.hs (x.hold)).getD zeroH).a.a2), Ix (((HoM.look s.hs (x.hold)).getD zeroH).a.a3)]) (vs := [Ix (((HoM.look s.hs (x.hold)).getD zeroH).a.a0), Ix (((HoM.look s.hs (x.hold)).getD zeroH).a.a1), Ix (((HoM.look s.hs (x.hold)).getD zeroH).a.a2), Ix (((HoM.look s.hs (x.hold)).getD zeroH).a.a3)]) rfl rfl) rfl) ?_
  refine l_call rfl rfl rfl (cl_value (fst := []) (cap := []) (vs := [.pointer (some ⟨zb, 0, none⟩), Ix (x.other), .agg #[Ix (((HoM.look s.hs (x.hold)).getD zeroH).a.a0), Ix (((HoM.look s.hs (x.hold)).getD zeroH).a.a1), Ix (((HoM.look s.hs (x.hold)).getD zeroH).a.a2), Ix (((HoM.look s.hs (x.hold)).getD zeroH).a.a3)]]) (all := [.pointer (some ⟨zb, 0, none⟩), Ix (x.other), .agg #[Ix (((HoM.look s.hs (x.hold)).getD zeroH).a.a0), Ix (((HoM.look s.hs (x.hold)).getD zeroH).a.a1), Ix (((HoM.look s.hs (x.hold)).getD zeroH).a.a2), Ix (((HoM.look s.hs (x.hold)).getD zeroH).a.a3)]]) tt35 rfl rfl rfl) ?_
  intro w hw
  replace hw := hw.perm (L' := _ :: _ :: _ :: _ :: _ :: []) (by exact (((((perm_front 4 rfl).trans (perm_front 4 rfl)).trans (perm_front 2 rfl)).trans (perm_front 4 rfl)).trans (perm_front 4 rfl)))
  obtain ⟨β1, sb, kn, hw1, back⟩ := St.frame (L := [_, _]) (M := _ :: _ :: _ :: []) hw
  refine (add_ok β1 w zb mp mh mm s.last s.su s.ps hw1 x.other (((HoM.look s.hs (x.hold)).getD zeroH).a) _ rfl (okP_bd hP _) (okH_bd hH _)).mono ?_
  rintro e w' ⟨rfl, hw'⟩
  refine ⟨_, rfl, _, back _ _ hw', ?_⟩
  clear hw hw1 hw' back kn sb
  refine l_val (v := .int .i64 (0)) rfl rfl rfl (e_assign) ?_
  refine l_val (v := Ix (addE s.ps x.other (((HoM.look s.hs (x.hold)).getD zeroH).a))) rfl rfl rfl (e_assign) ?_
  refine l_nil ?_
  refine f_then ?_
  refine c_ret ?_
  refine ret2 (v := .int .i64 (0)) (v' := Ix (addE s.ps x.other (((HoM.look s.hs (x.hold)).getD zeroH).a))) Tryz.results72 rfl rfl ?_
  intro w hw
  replace hw := hw.perm (L' := [pt zb (.cells #[.map (some mp), .map (some mh), Ix (s.last), Ix (s.su.a0), Ix (s.su.a1), Ix (s.su.a2), Ix (s.su.a3), .map (some mm)] 88), mpR PuM mp (addP s.ps x.other (((HoM.look s.hs (x.hold)).getD zeroH).a)), mpR HoM mh (HoM.del s.hs (x.hold)), pt b1 (.cells #[Bx (x.kind), Ix (x.owner), Ix (x.other), Ix (x.hold), Ix (x.a.a0), Ix (x.a.a1), Ix (x.a.a2), Ix (x.a.a3)] 47), pt (blk (fa4 6)) (.cells #[Ix (((HoM.look s.hs (x.hold)).getD zeroH).number), Ix (((HoM.look s.hs (x.hold)).getD zeroH).owner), Ix (((HoM.look s.hs (x.hold)).getD zeroH).a.a0), Ix (((HoM.look s.hs (x.hold)).getD zeroH).a.a1), Ix (((HoM.look s.hs (x.hold)).getD zeroH).a.a2), Ix (((HoM.look s.hs (x.hold)).getD zeroH).a.a3)] 104)]) (by exact (perm_ix [0, 1, 4, 2, 3] 5 rfl (by kernel_rfl) (by kernel_rfl)))
  exact act_end (V := (⟨(addP s.ps x.other (((HoM.look s.hs (x.hold)).getD zeroH).a)), (HoM.del s.hs (x.hold)), s.last, s.su⟩ : KSt)) (show ((⟨(addP s.ps x.other (((HoM.look s.hs (x.hold)).getD zeroH).a)), (HoM.del s.hs (x.hold)), s.last, s.su⟩ : KSt), 0, addE s.ps x.other (((HoM.look s.hs (x.hold)).getD zeroH).a)) = payS s x.hold x.other by simp_all [payS, hoA]) (st_mask (L' := [pt zb (.cells #[.map (some mp), .map (some mh), Ix (s.last), Ix (s.su.a0), Ix (s.su.a1), Ix (s.su.a2), Ix (s.su.a3), .map (some mm)] 88), mpR PuM mp (addP s.ps x.other (((HoM.look s.hs (x.hold)).getD zeroH).a)), mpR HoM mh (HoM.del s.hs (x.hold))]) [true, true, true, false, false] rfl hw)
set_option maxHeartbeats 4000000 in
theorem free_ok (β : Base) (w : World) (zb mp mh mm : Nat) (s : KSt) (hw : St β [pt zb (.cells (stC mp mh mm s.last s.su) 88), mpR PuM mp s.ps, mpR HoM mh s.hs] w) (hP : okP s.ps) (hH : okH s.hs) (hsu : s.su.bd 4611686018427387903) (hla : -4611686018427387903 ≤ s.last ∧ s.last ≤ 4611686018427387903) (x : KAct) (hxa : x.a.bd 4611686018427387903) : Calls Tryz.prog 71 #[.pointer (some ⟨zb, 0, none⟩), .agg #[Bx (x.kind), Ix (x.owner), Ix (x.other), Ix (x.hold), Ix (x.a.a0), Ix (x.a.a1), Ix (x.a.a2), Ix (x.a.a3)]] w fun r w' => r = .returned (.tuple #[Ix (payS s x.hold (hoA s.hs x.hold).owner).2.1, Ix (payS s x.hold (hoA s.hs x.hold).owner).2.2]) ∧ St β [pt zb (.cells (stC mp mh mm (payS s x.hold (hoA s.hs x.hold).owner).1.last (payS s x.hold (hoA s.hs x.hold).owner).1.su) 88), mpR PuM mp (payS s x.hold (hoA s.hs x.hold).owner).1.ps, mpR HoM mh (payS s x.hold (hoA s.hs x.hold).owner).1.hs] w' := by
 refine enter (n := 21) Tryz.func71 rfl Tryz.ntmps71 rfl ?_ hw
 refine c_seq ?_
 refine c_region ?_
 refine l_mv rfl rfl rfl (m_box (v := .agg #[Bx (x.kind), Ix (x.owner), Ix (x.other), Ix (x.hold), Ix (x.a.a0), Ix (x.a.a1), Ix (x.a.a2), Ix (x.a.a3)]) rfl) ?_
 rintro _ _ ⟨b1, rfl, rfl⟩
 refine l_val (v := .int .i64 (0)) rfl rfl rfl (e_assign) ?_
 refine l_val (v := .int .i64 (0)) rfl rfl rfl (e_assign) ?_
 refine l_nil ?_
 refine f_then ?_
 refine c_seq ?_
 refine c_any [⟨[], [], [0], [6], fun f => f 6 = .pointer (some ⟨zb, 0, none⟩)⟩, ⟨[], [], [1], [7], fun f => f 7 = .pointer (some ⟨b1, 3, none⟩)⟩, ⟨[1], [1], [], [8], fun f => f 8 = Ix (x.hold)⟩, ⟨[], [], [0], [9], fun f => f 9 = .pointer (some ⟨zb, 0, none⟩)⟩, ⟨[3], [3], [], [10], fun f => f 10 = .pointer (some ⟨zb, 0, none⟩)⟩, ⟨[3, 4], [4], [], [11], fun f => f 11 = .pointer (some ⟨zb, 1, none⟩)⟩, ⟨[3, 4, 5], [5], [], [12], fun f => f 12 = .map (some mh)⟩, ⟨[], [], [1], [13], fun f => f 13 = .pointer (some ⟨b1, 3, none⟩)⟩, ⟨[7], [7], [], [14], fun f => f 14 = Ix (x.hold)⟩, ⟨[3, 4, 5, 6, 7, 8], [6, 8], [], [15], fun f => f 15 = .agg #[Ix (((HoM.look s.hs (x.hold)).getD zeroH).number), Ix (((HoM.look s.hs (x.hold)).getD zeroH).owner), Ix (((HoM.look s.hs (x.hold)).getD zeroH).a.a0), Ix (((HoM.look s.hs (x.hold)).getD zeroH).a.a1), Ix (((HoM.look s.hs (x.hold)).getD zeroH).a.a2), Ix (((HoM.look s.hs (x.hold)).getD zeroH).a.a3)]⟩, ⟨[3, 4, 5, 6, 7, 8, 9], [9], [], [16], fun f => f 16 = Ix (((HoM.look s.hs (x.hold)).getD zeroH).owner)⟩, ⟨[1, 2, 3, 4, 5, 6, 7, 8, 9, 10], [2, 10], [], [17], fun f => f 17 = .agg #[.int .u8 (0), .int .i64 (0), Ix (((HoM.look s.hs (x.hold)).getD zeroH).owner), Ix (x.hold), .int .i64 (0), .int .i64 (0), .int .i64 (0), .int .i64 (0)]⟩, ⟨[0, 1, 2, 3, 4, 5, 6, 7, 8, 9, 10, 11], [0, 11], [], [18], fun f => f 18 = .tuple #[Ix ((payS s x.hold (((HoM.look s.hs (x.hold)).getD zeroH).owner)).2.1), Ix ((payS s x.hold (((HoM.look s.hs (x.hold)).getD zeroH).owner)).2.2)]⟩, ⟨[0, 1, 2, 3, 4, 5, 6, 7, 8, 9, 10, 11, 12], [12], [], [19], fun f => f 19 = Ix ((payS s x.hold (((HoM.look s.hs (x.hold)).getD zeroH).owner)).2.1)⟩, ⟨[0, 1, 2, 3, 4, 5, 6, 7, 8, 9, 10, 11, 12], [12], [], [20], fun f => f 20 = Ix ((payS s x.hold (((HoM.look s.hs (x.hold)).getD zeroH).owner)).2.2)⟩, ⟨[0, 1, 2, 3, 4, 5, 6, 7, 8, 9, 10, 11, 12, 13, 14], [13], [], [4], fun f => f 4 = Ix ((payS s x.hold (((HoM.look s.hs (x.hold)).getD zeroH).owner)).2.1)⟩, ⟨[0, 1, 2, 3, 4, 5, 6, 7, 8, 9, 10, 11, 12, 13, 14, 15], [14], [], [5], fun f => f 5 = Ix ((payS s x.hold (((HoM.look s.hs (x.hold)).getD zeroH).owner)).2.2)⟩] [⟨none, none, [2, 8], [], fun _ => pt b1 (.cells #[Bx (x.kind), Ix (x.owner), Ix (x.other), Ix (x.hold), Ix (x.a.a0), Ix (x.a.a1), Ix (x.a.a2), Ix (x.a.a3)] 47)⟩, ⟨none, (some 12), [6, 12], [], fun _ => pt zb (.cells #[.map (some mp), .map (some mh), Ix (s.last), Ix (s.su.a0), Ix (s.su.a1), Ix (s.su.a2), Ix (s.su.a3), .map (some mm)] 88)⟩, ⟨none, (some 12), [12], [], fun _ => mpR PuM mp s.ps⟩, ⟨none, (some 12), [9, 12], [], fun _ => mpR HoM mh s.hs⟩, ⟨(some 12), none, [], [], fun _ => pt zb (.cells #[.map (some mp), .map (some mh), Ix ((payS s x.hold (((HoM.look s.hs (x.hold)).getD zeroH).owner)).1.last), Ix ((payS s x.hold (((HoM.look s.hs (x.hold)).getD zeroH).owner)).1.su.a0), Ix ((payS s x.hold (((HoM.look s.hs (x.hold)).getD zeroH).owner)).1.su.a1), Ix ((payS s x.hold (((HoM.look s.hs (x.hold)).getD zeroH).owner)).1.su.a2), Ix ((payS s x.hold (((HoM.look s.hs (x.hold)).getD zeroH).owner)).1.su.a3), .map (some mm)] 88)⟩, ⟨(some 12), none, [], [], fun _ => mpR PuM mp ((payS s x.hold (((HoM.look s.hs (x.hold)).getD zeroH).owner)).1.ps)⟩, ⟨(some 12), none, [], [], fun _ => mpR HoM mh ((payS s x.hold (((HoM.look s.hs (x.hold)).getD zeroH).owner)).1.hs)⟩] [(0, .pointer (some ⟨zb, 0, none⟩)), (3, .pointer (some ⟨b1, 0, none⟩))] [] [] (by kernel_rfl) (by kernel_rfl) (by kernel_rfl) (by kernel_rfl) rfl ⟨rfl, rfl, trivial⟩ ⟨?_, ?_, ?_, ?_, ?_, ?_, ?_, ?_, ?_, ?_, ?_, ?_, ?_, ?_, ?_, ?_, ?_, trivial⟩ ?_
 ·rintro f M - ⟨i0, -⟩
  have hs0 : f 0 = .pointer (some ⟨zb, 0, none⟩) := i0
  refine ob_start (L' := M) (by rfl) (up_cons rfl hs0) ?_
  refine l_val (v := .pointer (some ⟨zb, 0, none⟩)) rfl rfl rfl (e_move) ?_
  refine l_nil ?_
  exact f_owes_d (up_cons rfl hs0) rfl (List.Perm.refl _)
 ·rintro f M - ⟨i0, -⟩
  have hs3 : f 3 = .pointer (some ⟨b1, 0, none⟩) := i0
  refine ob_start (L' := M) (by rfl) (up_cons rfl hs3) ?_
  refine l_val (v := .pointer (some ⟨b1, 3, none⟩)) rfl rfl rfl (e_fieldPt (b := b1) (o := 0) rfl tt9) ?_
  refine l_nil ?_
  exact f_owes_d (up_cons rfl hs3) rfl (List.Perm.refl _)
 ·rintro f M ⟨k0, -⟩ -
  have hs7 : f 7 = .pointer (some ⟨b1, 3, none⟩) := k0
  refine ob_start (L' := pt b1 (.cells #[Bx (x.kind), Ix (x.owner), Ix (x.other), Ix (x.hold), Ix (x.a.a0), Ix (x.a.a1), Ix (x.a.a2), Ix (x.a.a3)] 47) :: M) (by rfl) (up_cons rfl hs7) ?_
  refine l_val (v := Ix (x.hold)) rfl rfl rfl (e_load1 tt2 (v := Ix (x.hold)) rfl (k_pt 0 (cs := #[Bx (x.kind), Ix (x.owner), Ix (x.other), Ix (x.hold), Ix (x.a.a0), Ix (x.a.a1), Ix (x.a.a2), Ix (x.a.a3)]) (vs := [Ix (x.hold)]) rfl rfl)) ?_
  refine l_nil ?_
  exact f_owes_d (up_cons rfl hs7) rfl (perm_front 0 rfl)
 ·rintro f M - ⟨i0, -⟩
  have hs0 : f 0 = .pointer (some ⟨zb, 0, none⟩) := i0
  refine ob_start (L' := M) (by rfl) (up_cons rfl hs0) ?_
  refine l_val (v := .pointer (some ⟨zb, 0, none⟩)) rfl rfl rfl (e_move) ?_
  refine l_nil ?_
  exact f_owes_d (up_cons rfl hs0) rfl (List.Perm.refl _)
 ·rintro f M ⟨k0, -⟩ -
  have hs9 : f 9 = .pointer (some ⟨zb, 0, none⟩) := k0
  refine ob_start (L' := M) (by rfl) (up_cons rfl hs9) ?_
  refine l_val (v := .pointer (some ⟨zb, 0, none⟩)) rfl rfl rfl (e_nil (a := ⟨zb, 0, none⟩) rfl) ?_
  refine l_nil ?_
  exact f_owes_d (up_cons rfl hs9) rfl (List.Perm.refl _)
 ·rintro f M ⟨k0, -⟩ -
  have hs10 : f 10 = .pointer (some ⟨zb, 0, none⟩) := k0
  refine ob_start (L' := M) (by rfl) (up_cons rfl hs10) ?_
  refine l_val (v := .pointer (some ⟨zb, 1, none⟩)) rfl rfl rfl (e_fieldPt (b := zb) (o := 0) rfl tt38) ?_
  refine l_nil ?_
  exact f_owes_d (up_cons rfl hs10) rfl (List.Perm.refl _)
 ·rintro f M ⟨k0, -⟩ -
  have hs11 : f 11 = .pointer (some ⟨zb, 1, none⟩) := k0
  refine ob_start (L' := pt zb (.cells #[.map (some mp), .map (some mh), Ix (s.last), Ix (s.su.a0), Ix (s.su.a1), Ix (s.su.a2), Ix (s.su.a3), .map (some mm)] 88) :: M) (by rfl) (up_cons rfl hs11) ?_
  refine l_val (v := .map (some mh)) rfl rfl rfl (e_load1 tt39 (v := .map (some mh)) rfl (k_pt 0 (cs := #[.map (some mp), .map (some mh), Ix (s.last), Ix (s.su.a0), Ix (s.su.a1), Ix (s.su.a2), Ix (s.su.a3), .map (some mm)]) (vs := [.map (some mh)]) rfl rfl)) ?_
  refine l_nil ?_
  exact f_owes_d (up_cons rfl hs11) rfl (perm_front 0 rfl)
 ·rintro f M - ⟨i0, -⟩
  have hs3 : f 3 = .pointer (some ⟨b1, 0, none⟩) := i0
  refine ob_start (L' := M) (by rfl) (up_cons rfl hs3) ?_
  refine l_val (v := .pointer (some ⟨b1, 3, none⟩)) rfl rfl rfl (e_fieldPt (b := b1) (o := 0) rfl tt9) ?_
  refine l_nil ?_
  exact f_owes_d (up_cons rfl hs3) rfl (List.Perm.refl _)
 ·rintro f M ⟨k0, -⟩ -
  have hs13 : f 13 = .pointer (some ⟨b1, 3, none⟩) := k0
  refine ob_start (L' := pt b1 (.cells #[Bx (x.kind), Ix (x.owner), Ix (x.other), Ix (x.hold), Ix (x.a.a0), Ix (x.a.a1), Ix (x.a.a2), Ix (x.a.a3)] 47) :: M) (by rfl) (up_cons rfl hs13) ?_
  refine l_val (v := Ix (x.hold)) rfl rfl rfl (e_load1 tt2 (v := Ix (x.hold)) rfl (k_pt 0 (cs := #[Bx (x.kind), Ix (x.owner), Ix (x.other), Ix (x.hold), Ix (x.a.a0), Ix (x.a.a1), Ix (x.a.a2), Ix (x.a.a3)]) (vs := [Ix (x.hold)]) rfl rfl)) ?_
  refine l_nil ?_
  exact f_owes_d (up_cons rfl hs13) rfl (perm_front 0 rfl)
 ·rintro f M ⟨k0, k1, -⟩ -
  have hs12 : f 12 = .map (some mh) := k0
  have hs14 : f 14 = Ix (x.hold) := k1
  refine ob_start (L' := mpR HoM mh s.hs :: M) (by rfl) (up_cons (up_cons rfl hs12) hs14) ?_
  refine l_val (v := .agg #[Ix (((HoM.look s.hs (x.hold)).getD zeroH).number), Ix (((HoM.look s.hs (x.hold)).getD zeroH).owner), Ix (((HoM.look s.hs (x.hold)).getD zeroH).a.a0), Ix (((HoM.look s.hs (x.hold)).getD zeroH).a.a1), Ix (((HoM.look s.hs (x.hold)).getD zeroH).a.a2), Ix (((HoM.look s.hs (x.hold)).getD zeroH).a.a3)]) rfl rfl rfl (e_look1 (K := HoM) (b := mh) (ks := s.hs) (k := (x.hold)) rfl rfl rfl (Knows.of_res 0 rfl (mpR.mono _ _ _) fun _ h => h)) ?_
  refine l_nil ?_
  exact f_owes_d (up_cons (up_cons rfl hs12) hs14) rfl (perm_front 0 rfl)
 ·rintro f M ⟨k0, -⟩ -
  have hs15 : f 15 = .agg #[Ix (((HoM.look s.hs (x.hold)).getD zeroH).number), Ix (((HoM.look s.hs (x.hold)).getD zeroH).owner), Ix (((HoM.look s.hs (x.hold)).getD zeroH).a.a0), Ix (((HoM.look s.hs (x.hold)).getD zeroH).a.a1), Ix (((HoM.look s.hs (x.hold)).getD zeroH).a.a2), Ix (((HoM.look s.hs (x.hold)).getD zeroH).a.a3)] := k0
  refine ob_start (L' := M) (by rfl) (up_cons rfl hs15) ?_
  refine l_val (v := Ix (((HoM.look s.hs (x.hold)).getD zeroH).owner)) rfl rfl rfl (e_field1 (cs := #[Ix (((HoM.look s.hs (x.hold)).getD zeroH).number), Ix (((HoM.look s.hs (x.hold)).getD zeroH).owner), Ix (((HoM.look s.hs (x.hold)).getD zeroH).a.a0), Ix (((HoM.look s.hs (x.hold)).getD zeroH).a.a1), Ix (((HoM.look s.hs (x.hold)).getD zeroH).a.a2), Ix (((HoM.look s.hs (x.hold)).getD zeroH).a.a3)]) rfl tt45 rfl) ?_
  refine l_nil ?_
  exact f_owes_d (up_cons rfl hs15) rfl (List.Perm.refl _)
 ·rintro f M ⟨k0, k1, -⟩ -
  have hs8 : f 8 = Ix (x.hold) := k0
  have hs16 : f 16 = Ix (((HoM.look s.hs (x.hold)).getD zeroH).owner) := k1
  refine ob_start (L' := M) (by rfl) (up_cons (up_cons rfl hs8) hs16) ?_
  refine l_val (v := .agg #[.int .u8 (0), .int .i64 (0), Ix (((HoM.look s.hs (x.hold)).getD zeroH).owner), Ix (x.hold), .int .i64 (0), .int .i64 (0), .int .i64 (0), .int .i64 (0)]) rfl rfl rfl (e_build tt47 tt46 (vs := [(3, Ix (x.hold)), (2, Ix (((HoM.look s.hs (x.hold)).getD zeroH).owner))]) (cells := #[.int .u8 (0), .int .i64 (0), Ix (((HoM.look s.hs (x.hold)).getD zeroH).owner), Ix (x.hold), .int .i64 (0), .int .i64 (0), .int .i64 (0), .int .i64 (0)]) rfl rfl) ?_
  refine l_nil ?_
  exact f_owes_d (up_cons (up_cons rfl hs8) hs16) rfl (List.Perm.refl _)
 ·rintro f M ⟨k0, k1, -⟩ -
  have hs6 : f 6 = .pointer (some ⟨zb, 0, none⟩) := k0
  have hs17 : f 17 = .agg #[.int .u8 (0), .int .i64 (0), Ix (((HoM.look s.hs (x.hold)).getD zeroH).owner), Ix (x.hold), .int .i64 (0), .int .i64 (0), .int .i64 (0), .int .i64 (0)] := k1
  refine ob_start (L' := pt zb (.cells #[.map (some mp), .map (some mh), Ix (s.last), Ix (s.su.a0), Ix (s.su.a1), Ix (s.su.a2), Ix (s.su.a3), .map (some mm)] 88) :: mpR PuM mp s.ps :: mpR HoM mh s.hs :: M) (by rfl) (up_cons (up_cons rfl hs6) hs17) ?_
  refine l_call rfl rfl rfl (cl_value (fst := []) (cap := []) (vs := [.pointer (some ⟨zb, 0, none⟩), .agg #[.int .u8 (0), .int .i64 (0), Ix (((HoM.look s.hs (x.hold)).getD zeroH).owner), Ix (x.hold), .int .i64 (0), .int .i64 (0), .int .i64 (0), .int .i64 (0)]]) (all := [.pointer (some ⟨zb, 0, none⟩), .agg #[.int .u8 (0), .int .i64 (0), Ix (((HoM.look s.hs (x.hold)).getD zeroH).owner), Ix (x.hold), .int .i64 (0), .int .i64 (0), .int .i64 (0), .int .i64 (0)]]) tt48 rfl rfl rfl) ?_
  intro w hw
  replace hw := hw.perm (L' := _ :: _ :: _ :: M) (by exact (((perm_front 2 rfl).trans (perm_front 2 rfl)).trans (perm_front 2 rfl)))
  obtain ⟨β1, sb, kn, hw1, back⟩ := St.frame (L := [_, _, _]) (M := M) hw
  refine (pay_ok β1 w zb mp mh mm s hw1 hP hH hsu hla (⟨0, 0, ((HoM.look s.hs (x.hold)).getD zeroH).owner, x.hold, zeroA⟩ : KAct) zero_bd).mono ?_
  rintro e w' ⟨rfl, hw'⟩
  refine ⟨_, rfl, _, back _ _ hw', ?_⟩
  clear hw hw1 hw' back kn sb
  refine l_nil ?_
  exact f_owes_d (up_cons (up_cons rfl hs6) hs17) rfl (((perm_front 2 rfl).trans (perm_front 2 rfl)).trans (perm_front 2 rfl))
 ·rintro f M ⟨k0, -⟩ -
  have hs18 : f 18 = .tuple #[Ix ((payS s x.hold (((HoM.look s.hs (x.hold)).getD zeroH).owner)).2.1), Ix ((payS s x.hold (((HoM.look s.hs (x.hold)).getD zeroH).owner)).2.2)] := k0
  refine ob_start (L' := M) (by rfl) (up_cons rfl hs18) ?_
  refine l_val (v := Ix ((payS s x.hold (((HoM.look s.hs (x.hold)).getD zeroH).owner)).2.1)) rfl rfl rfl (e_extract (vs := #[Ix ((payS s x.hold (((HoM.look s.hs (x.hold)).getD zeroH).owner)).2.1), Ix ((payS s x.hold (((HoM.look s.hs (x.hold)).getD zeroH).owner)).2.2)]) rfl rfl) ?_
  refine l_nil ?_
  exact f_owes_d (up_cons rfl hs18) rfl (List.Perm.refl _)
 ·rintro f M ⟨k0, -⟩ -
  have hs18 : f 18 = .tuple #[Ix ((payS s x.hold (((HoM.look s.hs (x.hold)).getD zeroH).owner)).2.1), Ix ((payS s x.hold (((HoM.look s.hs (x.hold)).getD zeroH).owner)).2.2)] := k0
  refine ob_start (L' := M) (by rfl) (up_cons rfl hs18) ?_
  refine l_val (v := Ix ((payS s x.hold (((HoM.look s.hs (x.hold)).getD zeroH).owner)).2.2)) rfl rfl rfl (e_extract (vs := #[Ix ((payS s x.hold (((HoM.look s.hs (x.hold)).getD zeroH).owner)).2.1), Ix ((payS s x.hold (((HoM.look s.hs (x.hold)).getD zeroH).owner)).2.2)]) rfl rfl) ?_
  refine l_nil ?_
  exact f_owes_d (up_cons rfl hs18) rfl (List.Perm.refl _)
 ·rintro f M ⟨k0, -⟩ -
  have hs19 : f 19 = Ix ((payS s x.hold (((HoM.look s.hs (x.hold)).getD zeroH).owner)).2.1) := k0
  refine ob_start (L' := M) (by rfl) (up_cons rfl hs19) ?_
  refine l_val (v := Ix ((payS s x.hold (((HoM.look s.hs (x.hold)).getD zeroH).owner)).2.1)) rfl rfl rfl (e_assign) ?_
  refine l_nil ?_
  exact f_owes_d (up_cons rfl hs19) rfl (List.Perm.refl _)
 ·rintro f M ⟨k0, -⟩ -
  have hs20 : f 20 = Ix ((payS s x.hold (((HoM.look s.hs (x.hold)).getD zeroH).owner)).2.2) := k0
  refine ob_start (L' := M) (by rfl) (up_cons rfl hs20) ?_
  refine l_val (v := Ix ((payS s x.hold (((HoM.look s.hs (x.hold)).getD zeroH).owner)).2.2)) rfl rfl rfl (e_assign) ?_
  refine l_nil ?_
  exact f_owes_d (up_cons rfl hs20) rfl (List.Perm.refl _)
 rintro fa2 ⟨-, -, -, -, -, -, -, -, -, -, -, -, -, -, -, k15, k16, -⟩ -
 refine f_re (L' := [pt b1 (.cells #[Bx (x.kind), Ix (x.owner), Ix (x.other), Ix (x.hold), Ix (x.a.a0), Ix (x.a.a1), Ix (x.a.a2), Ix (x.a.a3)] 47), pt zb (.cells #[.map (some mp), .map (some mh), Ix ((payS s x.hold (((HoM.look s.hs (x.hold)).getD zeroH).owner)).1.last), Ix ((payS s x.hold (((HoM.look s.hs (x.hold)).getD zeroH).owner)).1.su.a0), Ix ((payS s x.hold (((HoM.look s.hs (x.hold)).getD zeroH).owner)).1.su.a1), Ix ((payS s x.hold (((HoM.look s.hs (x.hold)).getD zeroH).owner)).1.su.a2), Ix ((payS s x.hold (((HoM.look s.hs (x.hold)).getD zeroH).owner)).1.su.a3), .map (some mm)] 88), mpR PuM mp ((payS s x.hold (((HoM.look s.hs (x.hold)).getD zeroH).owner)).1.ps), mpR HoM mh ((payS s x.hold (((HoM.look s.hs (x.hold)).getD zeroH).owner)).1.hs)]) (by rfl) ?_
 refine f_rebase (d := 4) (v := Ix ((payS s x.hold (((HoM.look s.hs (x.hold)).getD zeroH).owner)).2.1)) k15 ?_
 refine f_rebase (d := 5) (v := Ix ((payS s x.hold (((HoM.look s.hs (x.hold)).getD zeroH).owner)).2.2)) k16 ?_
 refine f_then ?_
 refine c_ret ?_
 refine ret2 (v := Ix ((payS s x.hold (((HoM.look s.hs (x.hold)).getD zeroH).owner)).2.1)) (v' := Ix ((payS s x.hold (((HoM.look s.hs (x.hold)).getD zeroH).owner)).2.2)) Tryz.results71 rfl rfl ?_
 intro w hw
 replace hw := hw.perm (L' := [pt zb (.cells #[.map (some mp), .map (some mh), Ix ((payS s x.hold (((HoM.look s.hs (x.hold)).getD zeroH).owner)).1.last), Ix ((payS s x.hold (((HoM.look s.hs (x.hold)).getD zeroH).owner)).1.su.a0), Ix ((payS s x.hold (((HoM.look s.hs (x.hold)).getD zeroH).owner)).1.su.a1), Ix ((payS s x.hold (((HoM.look s.hs (x.hold)).getD zeroH).owner)).1.su.a2), Ix ((payS s x.hold (((HoM.look s.hs (x.hold)).getD zeroH).owner)).1.su.a3), .map (some mm)] 88), mpR PuM mp ((payS s x.hold (((HoM.look s.hs (x.hold)).getD zeroH).owner)).1.ps), mpR HoM mh ((payS s x.hold (((HoM.look s.hs (x.hold)).getD zeroH).owner)).1.hs), pt b1 (.cells #[Bx (x.kind), Ix (x.owner), Ix (x.other), Ix (x.hold), Ix (x.a.a0), Ix (x.a.a1), Ix (x.a.a2), Ix (x.a.a3)] 47)]) (by exact (perm_ix [1, 2, 3, 0] 4 rfl (by kernel_rfl) (by kernel_rfl)))
 exact act_end (V := (⟨(payS s x.hold (((HoM.look s.hs (x.hold)).getD zeroH).owner)).1.ps, (payS s x.hold (((HoM.look s.hs (x.hold)).getD zeroH).owner)).1.hs, (payS s x.hold (((HoM.look s.hs (x.hold)).getD zeroH).owner)).1.last, (payS s x.hold (((HoM.look s.hs (x.hold)).getD zeroH).owner)).1.su⟩ : KSt)) (show ((⟨(payS s x.hold (((HoM.look s.hs (x.hold)).getD zeroH).owner)).1.ps, (payS s x.hold (((HoM.look s.hs (x.hold)).getD zeroH).owner)).1.hs, (payS s x.hold (((HoM.look s.hs (x.hold)).getD zeroH).owner)).1.last, (payS s x.hold (((HoM.look s.hs (x.hold)).getD zeroH).owner)).1.su⟩ : KSt), (payS s x.hold (((HoM.look s.hs (x.hold)).getD zeroH).owner)).2.1, (payS s x.hold (((HoM.look s.hs (x.hold)).getD zeroH).owner)).2.2) = payS s x.hold (hoA s.hs x.hold).owner by rfl) (st_mask (L' := [pt zb (.cells #[.map (some mp), .map (some mh), Ix ((payS s x.hold (((HoM.look s.hs (x.hold)).getD zeroH).owner)).1.last), Ix ((payS s x.hold (((HoM.look s.hs (x.hold)).getD zeroH).owner)).1.su.a0), Ix ((payS s x.hold (((HoM.look s.hs (x.hold)).getD zeroH).owner)).1.su.a1), Ix ((payS s x.hold (((HoM.look s.hs (x.hold)).getD zeroH).owner)).1.su.a2), Ix ((payS s x.hold (((HoM.look s.hs (x.hold)).getD zeroH).owner)).1.su.a3), .map (some mm)] 88), mpR PuM mp ((payS s x.hold (((HoM.look s.hs (x.hold)).getD zeroH).owner)).1.ps), mpR HoM mh ((payS s x.hold (((HoM.look s.hs (x.hold)).getD zeroH).owner)).1.hs)]) [true, true, true, false] rfl hw)
theorem need_ok (β : Base) (w : World) (zb mp mh mm : Nat) (s : KSt) (hw : St β [pt zb (.cells (stC mp mh mm s.last s.su) 88), mpR PuM mp s.ps, mpR HoM mh s.hs] w) (hP : okP s.ps) (hH : okH s.hs) (hsu : s.su.bd 4611686018427387903) (hla : -4611686018427387903 ≤ s.last ∧ s.last ≤ 4611686018427387903) (x : KAct) (hxa : x.a.bd 4611686018427387903) : Calls Tryz.prog 73 #[.pointer (some ⟨zb, 0, none⟩), .agg #[Bx (x.kind), Ix (x.owner), Ix (x.other), Ix (x.hold), Ix (x.a.a0), Ix (x.a.a1), Ix (x.a.a2), Ix (x.a.a3)]] w fun r w' => r = .returned (.tuple #[Ix (needS s x).2.1, Ix (needS s x).2.2]) ∧ St β [pt zb (.cells (stC mp mh mm (needS s x).1.last (needS s x).1.su) 88), mpR PuM mp (needS s x).1.ps, mpR HoM mh (needS s x).1.hs] w' := by
 refine enter (n := 18) Tryz.func73 rfl Tryz.ntmps73 rfl ?_ hw
 refine c_seq ?_
 refine c_region ?_
 refine l_mv rfl rfl rfl (m_box (v := .agg #[Bx (x.kind), Ix (x.owner), Ix (x.other), Ix (x.hold), Ix (x.a.a0), Ix (x.a.a1), Ix (x.a.a2), Ix (x.a.a3)]) rfl) ?_
 rintro _ _ ⟨b1, rfl, rfl⟩
 refine l_val (v := .int .i64 (0)) rfl rfl rfl (e_assign) ?_
 refine l_val (v := .int .i64 (0)) rfl rfl rfl (e_assign) ?_
 refine l_nil ?_
 refine f_then ?_
 refine c_seq ?_
 refine c_seq ?_
 refine c_quiet (by kernel_rfl) (by kernel_rfl) ?_
 refine q_val (v := .pointer (some ⟨zb, 0, none⟩)) rfl rfl rfl (e_move) ?_
 refine q_val (v := .pointer (some ⟨zb, 0, none⟩)) rfl rfl rfl (e_nil (a := ⟨zb, 0, none⟩) rfl) ?_
 refine q_val (v := .pointer (some ⟨zb, 0, none⟩)) rfl rfl rfl (e_fieldPt (b := zb) (o := 0) rfl tt32) ?_
 refine q_val (v := .map (some mp)) rfl rfl rfl (e_load1 tt33 (v := .map (some mp)) rfl (k_pt 1 (cs := #[.map (some mp), .map (some mh), Ix (s.last), Ix (s.su.a0), Ix (s.su.a1), Ix (s.su.a2), Ix (s.su.a3), .map (some mm)]) (vs := [.map (some mp)]) rfl rfl)) ?_
 refine q_val (v := .pointer (some ⟨b1, 1, none⟩)) rfl rfl rfl (e_fieldPt (b := b1) (o := 0) rfl tt6) ?_
 refine q_val (v := Ix (x.owner)) rfl rfl rfl (e_load1 tt2 (v := Ix (x.owner)) rfl (k_pt 0 (cs := #[Bx (x.kind), Ix (x.owner), Ix (x.other), Ix (x.hold), Ix (x.a.a0), Ix (x.a.a1), Ix (x.a.a2), Ix (x.a.a3)]) (vs := [Ix (x.owner)]) rfl rfl)) ?_
 refine q_val (v := .agg (amC ((PuM.look s.ps (x.owner)).getD zeroA))) rfl rfl rfl (e_look1 (K := PuM) (b := mp) (ks := s.ps) (k := (x.owner)) rfl rfl rfl (Knows.of_res 2 rfl (mpR.mono _ _ _) fun _ h => h)) ?_
 refine q_val (v := .pointer (some ⟨b1, 4, none⟩)) rfl rfl rfl (e_fieldPt (b := b1) (o := 0) rfl tt10) ?_
 refine q_val (v := .agg (amC x.a)) rfl rfl rfl (e_load tt0 (cs := (amE x.a)) rfl (k_pt 0 (cs := #[Bx (x.kind), Ix (x.owner), Ix (x.other), Ix (x.hold), Ix (x.a.a0), Ix (x.a.a1), Ix (x.a.a2), Ix (x.a.a3)]) (vs := (amE x.a)) rfl rfl) rfl) ?_
 refine q_call (v := .agg #[Ix ((((PuM.look s.ps (x.owner)).getD zeroA).plus x.a (-1)).a0), Ix ((((PuM.look s.ps (x.owner)).getD zeroA).plus x.a (-1)).a1), Ix ((((PuM.look s.ps (x.owner)).getD zeroA).plus x.a (-1)).a2), Ix ((((PuM.look s.ps (x.owner)).getD zeroA).plus x.a (-1)).a3)]) rfl rfl rfl (cl_value (fst := []) (cap := []) (vs := [.agg (amC ((PuM.look s.ps (x.owner)).getD zeroA)), .agg (amC x.a), .int .i64 (-1)]) (all := [.agg (amC ((PuM.look s.ps (x.owner)).getD zeroA)), .agg (amC x.a), .int .i64 (-1)]) tt34 rfl rfl rfl) (fun w hw => ?_) ?_
 ·obtain ⟨β1, sb, kn, hw1, back⟩ := St.frame_all hw
  exact (plus_ok β1 w hw1 ((PuM.look s.ps (x.owner)).getD zeroA) x.a (-1) (by decide) (okP_bd hP _) hxa).mono (fun e w' ⟨he, hw'⟩ => ⟨he, st_mask [true, true, true, true] rfl (back _ _ hw')⟩)
 refine q_call (v := .bool ((((PuM.look s.ps (x.owner)).getD zeroA).plus x.a (-1)).within)) rfl rfl rfl (cl_value (fst := []) (cap := []) (vs := [.agg #[Ix ((((PuM.look s.ps (x.owner)).getD zeroA).plus x.a (-1)).a0), Ix ((((PuM.look s.ps (x.owner)).getD zeroA).plus x.a (-1)).a1), Ix ((((PuM.look s.ps (x.owner)).getD zeroA).plus x.a (-1)).a2), Ix ((((PuM.look s.ps (x.owner)).getD zeroA).plus x.a (-1)).a3)]]) (all := [.agg #[Ix ((((PuM.look s.ps (x.owner)).getD zeroA).plus x.a (-1)).a0), Ix ((((PuM.look s.ps (x.owner)).getD zeroA).plus x.a (-1)).a1), Ix ((((PuM.look s.ps (x.owner)).getD zeroA).plus x.a (-1)).a2), Ix ((((PuM.look s.ps (x.owner)).getD zeroA).plus x.a (-1)).a3)]]) tt11 rfl rfl rfl) (fun w hw => ?_) ?_
 ·obtain ⟨β1, sb, kn, hw1, back⟩ := St.frame_all hw
  exact (within_ok β1 w hw1 (((PuM.look s.ps (x.owner)).getD zeroA).plus x.a (-1))).mono (fun e w' ⟨he, hw'⟩ => ⟨he, st_mask [true, true, true, true] rfl (back _ _ hw')⟩)
 refine q_val (v := .bool (!((((PuM.look s.ps (x.owner)).getD zeroA).plus x.a (-1)).within))) rfl rfl rfl (e_not rfl) ?_
 refine q_nil ?_
 refine f_then ?_
 refine c_ifb (!((((PuM.look s.ps (x.owner)).getD zeroA).plus x.a (-1)).within)) rfl (fun hc2 => ?_) (fun hc2 => ?_)
 ·
  refine c_seq ?_
  refine c_region ?_
  refine l_val (v := .int .i64 (0)) rfl rfl rfl (e_assign) ?_
  refine l_val (v := .int .i64 (330)) rfl rfl rfl (e_assign) ?_
  refine l_nil ?_
  refine f_then ?_
  refine c_ret ?_
  refine f_then_ret ?_
  refine ret2 (v := .int .i64 (0)) (v' := .int .i64 (330)) Tryz.results73 rfl rfl ?_
  intro w hw
  replace hw := hw.perm (L' := [pt zb (.cells #[.map (some mp), .map (some mh), Ix (s.last), Ix (s.su.a0), Ix (s.su.a1), Ix (s.su.a2), Ix (s.su.a3), .map (some mm)] 88), mpR PuM mp s.ps, mpR HoM mh s.hs, pt b1 (.cells #[Bx (x.kind), Ix (x.owner), Ix (x.other), Ix (x.hold), Ix (x.a.a0), Ix (x.a.a1), Ix (x.a.a2), Ix (x.a.a3)] 47)]) (by exact (perm_ix [1, 2, 3, 0] 4 rfl (by kernel_rfl) (by kernel_rfl)))
  exact act_end (V := (⟨s.ps, s.hs, s.last, s.su⟩ : KSt)) (show ((⟨s.ps, s.hs, s.last, s.su⟩ : KSt), 0, 330) = needS s x by simp_all [needS, takeE, takeX, puA]) (st_mask (L' := [pt zb (.cells #[.map (some mp), .map (some mh), Ix (s.last), Ix (s.su.a0), Ix (s.su.a1), Ix (s.su.a2), Ix (s.su.a3), .map (some mm)] 88), mpR PuM mp s.ps, mpR HoM mh s.hs]) [true, true, true, false] rfl hw)
 ·
  refine c_skip ?_
  refine f_then ?_
  refine c_seq ?_
  refine c_region ?_
  refine l_val (v := .int .i64 (0)) rfl rfl rfl (e_assign) ?_
  refine l_val (v := .int .i64 (0)) rfl rfl rfl (e_assign) ?_
  refine l_nil ?_
  refine f_then ?_
  refine c_ret ?_
  refine ret2 (v := .int .i64 (0)) (v' := .int .i64 (0)) Tryz.results73 rfl rfl ?_
  intro w hw
  replace hw := hw.perm (L' := [pt zb (.cells #[.map (some mp), .map (some mh), Ix (s.last), Ix (s.su.a0), Ix (s.su.a1), Ix (s.su.a2), Ix (s.su.a3), .map (some mm)] 88), mpR PuM mp s.ps, mpR HoM mh s.hs, pt b1 (.cells #[Bx (x.kind), Ix (x.owner), Ix (x.other), Ix (x.hold), Ix (x.a.a0), Ix (x.a.a1), Ix (x.a.a2), Ix (x.a.a3)] 47)]) (by exact (perm_ix [1, 2, 3, 0] 4 rfl (by kernel_rfl) (by kernel_rfl)))
  exact act_end (V := (⟨s.ps, s.hs, s.last, s.su⟩ : KSt)) (show ((⟨s.ps, s.hs, s.last, s.su⟩ : KSt), 0, 0) = needS s x by simp_all [needS, takeE, takeX, puA]) (st_mask (L' := [pt zb (.cells #[.map (some mp), .map (some mh), Ix (s.last), Ix (s.su.a0), Ix (s.su.a1), Ix (s.su.a2), Ix (s.su.a3), .map (some mm)] 88), mpR PuM mp s.ps, mpR HoM mh s.hs]) [true, true, true, false] rfl hw)
end Go.Proofs
