/-
  Valid, Rooms, Portals, Length: walked. Printed by a program of my own.
-/
import Derived.Test.YthncdmfogeemcaaGreatPt1
import Derived.Test.YthncdmfogeemcaaGreatPtLaw
import Derived.Test.YthncdmfogeemcaaGreatSlMk
namespace Go.Pth
open Go.Sl Go.Brd Go.Proofs
theorem okM_errP {l : List KA} (h : ∀ a ∈ l, roomOk a) (hl : l.length ≤ 64) : errP l = 0 ∧ pairsX l = pairsA l := by
  have q : okL l := ⟨fun a ha => (h a ha).1, by omega⟩
  exact ⟨errP_ok q, pairsX_ok q⟩
theorem any_roomOk {l : List KA} (h : (l.any fun z => decide (¬ roomOk z)) = false) : ∀ a ∈ l, roomOk a := fun a ha => by
  have := (List.any_eq_false.1 h) a ha
  simpa using this
theorem any_roomNo {l : List KA} (h : (l.any fun z => decide (¬ roomOk z)) = true) : ¬ ∀ a ∈ l, roomOk a := fun q => by
  obtain ⟨a, ha, h⟩ := List.any_eq_true.1 h
  exact (of_decide_eq_true h) (q a ha)
theorem okM_any {l : List KA} (h1 : l.length ≤ 64) (h2 : ∀ a ∈ l, roomOk a) : (!((pairsA l).any fun z => decide (¬ flatA (comP l z)))) = decide (okM l) := by
  cases h : (pairsA l).any fun z => decide (¬ flatA (comP l z)) with
  | false =>
    refine (decide_eq_true ⟨h1, h2, fun p hp => ?_⟩).symm
    have := (List.any_eq_false.1 h) p hp
    simpa using this
  | true =>
    obtain ⟨p, hp, h⟩ := List.any_eq_true.1 h
    exact (decide_eq_false fun q => (of_decide_eq_true h) (q.2.2 p hp)).symm
/-- what Rooms and Portals answer -/
def roomX (l : List KA) (x y : Int) : List Nat := if okM l then roomF l x y else []
def portX (l : List KA) : List KO := if okM l then portL l else []
def errM (l : List KA) : Int := if okM l then 0 else 2
theorem roomX_ok {l : List KA} {x y : Int} (h : okM l) : roomX l x y = roomF l x y := if_pos h
theorem roomX_bad {l : List KA} {x y : Int} (h : ¬ okM l) : roomX l x y = [] := if_neg h
theorem portX_ok {l : List KA} (h : okM l) : portX l = portL l := if_pos h
theorem portX_bad {l : List KA} (h : ¬ okM l) : portX l = [] := if_neg h
theorem errM_ok {l : List KA} (h : okM l) : errM l = 0 := if_pos h
theorem errM_bad {l : List KA} (h : ¬ okM l) : errM l = 2 := if_neg h
theorem com_bd {a b : KA} (ha : okA a) (hb : okA b) : -2097152 ≤ (comA a b).lx ∧ (comA a b).lx ≤ 2097152 ∧ -2097152 ≤ (comA a b).ly ∧ (comA a b).ly ≤ 2097152 ∧ -2097152 ≤ (comA a b).hx ∧ (comA a b).hx ≤ 2097152 ∧ -2097152 ≤ (comA a b).hy ∧ (comA a b).hy ≤ 2097152 := by
  obtain ⟨⟨a1, a2, a3⟩, a4, a5, a6⟩ := ha
  obtain ⟨⟨b1, b2, b3⟩, b4, b5, b6⟩ := hb
  unfold comA; simp only; omega
theorem port_yes {l : List KA} {p : KP} {i k : Nat} {a b : KA} (hp : p = ⟨(i : Int), (k : Int)⟩) (ha : l[i]? = some a) (hb : l[k]? = some b) (_ht : touchA a b) (h : ¬ ((comA a b).lx = (comA a b).hx ∧ (comA a b).ly = (comA a b).hy)) :
    portO l p = some ⟨i, k, ((comA a b).lx + (comA a b).hx) / 2, ((comA a b).ly + (comA a b).hy) / 2⟩ := by
  subst hp; unfold portO; rw [comP_of ha hb, if_neg h]; rfl
theorem port_no {l : List KA} {p : KP} {i k : Nat} {a b : KA} (hp : p = ⟨(i : Int), (k : Int)⟩) (ha : l[i]? = some a) (hb : l[k]? = some b) (h : (comA a b).lx = (comA a b).hx ∧ (comA a b).ly = (comA a b).hy) : portO l p = none := by
  subst hp; unfold portO; rw [comP_of ha hb, if_pos h]
theorem search_at {p : Nat → Bool} {n i t : Nat} (hi : i ≤ n) (h1 : ∀ k, k < i → p k = false) (h2 : i < n → p i = true) (t1 : t ≤ n) (t2 : ∀ k, k < t → p k = false) (t3 : t < n → p t = true) : i = t := by
  rcases Nat.lt_trichotomy i t with h | h | h
  · have := h2 (by omega); rw [t2 i h] at this; cases this
  · exact h
  · have := t3 (by omega); rw [h1 t h] at this; cases this
theorem U_toNat {n : Nat} (h : n < 18446744073709551616) : (U (n : Int)).toNat = n := by
  have h1 := ux_of (n : Int)
  rw [u64w] at h1
  omega
theorem half_toNat {m : Nat} (h : m < 9223372036854775808) : (U ((m : Nat) : Int) >>> (1 : UInt64)).toNat = m / 2 := by
  rw [UInt64.toNat_shiftRight, U_toNat (by omega), show (1 : UInt64).toNat % 64 = 1 from rfl, Nat.shiftRight_succ, Nat.shiftRight_zero]
theorem len_in {x y u v : Int} (h1 : ¬ (2097152 : Int) < max (max (max x y) u) v) (h2 : ¬ min (min (min x y) u) v < (-2097152 : Int)) :
    (inR x ∧ inR y ∧ inR u ∧ inR v) ∧ 0 ≤ (x - u) * (x - u) ∧ (x - u) * (x - u) ≤ 17592186044416 ∧ 0 ≤ (y - v) * (y - v) ∧ (y - v) * (y - v) ≤ 17592186044416 := by
  have e : (inR x ∧ inR y ∧ inR u ∧ inR v) := by unfold inR; omega
  refine ⟨e, sq_nn _, ?_, sq_nn _, ?_⟩
  · exact sq_bd (b := 4194304) (by unfold inR at e; omega) (by unfold inR at e; omega)
  · exact sq_bd (b := 4194304) (by unfold inR at e; omega) (by unfold inR at e; omega)
theorem len_out1 {x y u v : Int} (h : (2097152 : Int) < max (max (max x y) u) v) : lenV x y u v = 0 := if_neg (by unfold inR; omega)
theorem len_out2 {x y u v : Int} (h : min (min (min x y) u) v < (-2097152 : Int)) : lenV x y u v = 0 := if_neg (by unfold inR; omega)
end Go.Pth
namespace Go.Proofs
open Go Go.Sl Go.Brd Go.Pth
theorem pairsM_ok (β : Base) (w : World) (hw : St β [] w) (v : Value) (l : List KA) (hs : Sl AreaF.R β.heap v l) (h : ∀ a ∈ l, roomOk a) (hl : l.length ≤ 64) : Calls Tryz.prog 19 #[v] w fun r w' => ∃ p c, r = .returned (.tuple #[.slice p (pairsA l).length c, .int .i64 (0)]) ∧ St β [rowF PairF 57 p c (pairsA l)] w' := by
  have h1 := pairs_ok β w hw v l hs (by omega)
  obtain ⟨q1, q2⟩ := okM_errP h hl
  rw [q1, q2] at h1; exact h1
theorem tu20 : tyB Tryz.prog 24 false 1 = true := by kernel_rfl
theorem tu21 : fldB Tryz.prog 57 0 0 1 false = true := by kernel_rfl
theorem tu22 : fldB Tryz.prog 57 1 1 1 false = true := by kernel_rfl
theorem tu23 : cfB Tryz.prog 20 = true := by kernel_rfl
theorem tu24 : cfB Tryz.prog 27 = true := by kernel_rfl
theorem tu25 : cfB Tryz.prog 19 = true := by kernel_rfl
theorem tu26 : cfB Tryz.prog 31 = true := by kernel_rfl
theorem tu27 : cfB Tryz.prog 12 = true := by kernel_rfl
theorem tu28 : cfB Tryz.prog 21 = true := by kernel_rfl
theorem tu29 : slB Tryz.prog 36 3 1 = true := by kernel_rfl
theorem tu30 : (Tryz.prog.info? 3).bind (·.zero) = some (.int .i64 (0)) := by kernel_rfl
theorem tu31 : elB Tryz.prog 3 1 8 = true := by kernel_rfl
theorem tu32 : (Tryz.prog.info? 57).bind (·.zero) = some (.agg #[.int .i64 (0), .int .i64 (0)]) := by kernel_rfl
theorem tu33 : lay Tryz.prog 10000 27 = some [.int .i64, .int .i64] := by kernel_rfl
theorem tu34 : isAggT Tryz.prog 27 = true := by kernel_rfl
theorem tu35 : Tryz.prog.eqGuardType Tryz.prog.depth 27 = false := by kernel_rfl
theorem tu36 : stB Tryz.prog 50 [(0, 1), (1, 1), (2, 2)] = true := by kernel_rfl
theorem tu37 : (Tryz.prog.info? 50).bind (·.zero) = some (.agg #[.int .i64 (0), .int .i64 (0), .int .i64 (0), .int .i64 (0)]) := by kernel_rfl
theorem tu38 : slB Tryz.prog 32 50 4 = true := by kernel_rfl
theorem tu39 : elB Tryz.prog 50 4 32 = true := by kernel_rfl
theorem tu40 : Tryz.prog.underlying 3 = some (.int .i64) := by kernel_rfl
theorem tu41 : Tryz.prog.underlying 60 = some (.int .u64) := by kernel_rfl
theorem tu42 : cfB Tryz.prog 33 = true := by kernel_rfl
set_option maxHeartbeats 4000000 in
theorem flat2_ok (β : Base) (w : World) (hw : St β [] w) (c : Nat) (v : Value) (l : List KA) (hs : Sl AreaF.R β.heap v l) (hok : ∀ a ∈ l, okA a) (hc : Cs β.heap ⟨c, 0, none⟩ [v]) (i k : Nat) (hi : i < l.length) (hk : k < l.length) (htt : ∀ {a b : KA}, l[i]? = some a → l[k]? = some b → touchA a b) : Calls Tryz.prog 32 #[.agg #[Nx i, Nx k], .pointer (some ⟨c, 0, none⟩)] w fun r w' => r = .returned (.bool (decide (¬ flatA (comP l ⟨(i : Int), (k : Int)⟩)))) ∧ St β [] w' := by
  obtain ⟨va, vc, rfl, vl, vm, ve⟩ := hs.get
  refine enter (n := 23) Tryz.func32 rfl Tryz.ntmps32 rfl ?_ hw
  refine c_seq ?_
  refine c_region ?_
  refine l_mv rfl rfl rfl (m_box (v := .agg #[Nx (i), Nx (k)]) rfl) ?_
  rintro _ _ ⟨b1, rfl, rfl⟩
  refine l_val (v := .bool false) rfl rfl rfl (e_assign) ?_
  refine l_nil ?_
  refine f_then ?_
  refine c_seq ?_
  obtain ⟨x2, hx3⟩ : ∃ x_, (l)[i]? = some x_ := ⟨_, List.getElem?_eq_getElem (by omega)⟩
  obtain ⟨ha4, cs5, hc6, rfl⟩ := ve _ _ hx3
  obtain ⟨x8, hx9⟩ : ∃ x_, (l)[k]? = some x_ := ⟨_, List.getElem?_eq_getElem (by omega)⟩
  obtain ⟨ha10, cs11, hc12, rfl⟩ := ve _ _ hx9
  refine c_any [⟨[], [], [0], [7], fun f => f 7 = .slice va (l.length) (vc)⟩, ⟨[], [], [1], [8], fun f => f 8 = .pointer (some ⟨b1, 0, none⟩)⟩, ⟨[1], [1], [], [9], fun f => f 9 = Nx (i)⟩, ⟨[0, 1, 2], [0, 2], [], [10], fun f => f 10 = .pointer (some ((ba va).add (i * 4)))⟩, ⟨[0, 1, 2, 3], [3], [], [11], fun f => f 11 = .agg (aC x2)⟩, ⟨[], [], [0], [12], fun f => f 12 = .slice va (l.length) (vc)⟩, ⟨[], [], [1], [13], fun f => f 13 = .pointer (some ⟨b1, 1, none⟩)⟩, ⟨[6], [6], [], [14], fun f => f 14 = Nx (k)⟩, ⟨[5, 6, 7], [5, 7], [], [15], fun f => f 15 = .pointer (some ((ba va).add (k * 4)))⟩, ⟨[5, 6, 7, 8], [8], [], [16], fun f => f 16 = .agg (aC x8)⟩, ⟨[0, 1, 2, 3, 4, 5, 6, 7, 8, 9], [4, 9], [], [17], fun f => f 17 = .tuple #[.agg (aC (comR x2 x8)), .bool (decide (meetA x2 x8))]⟩, ⟨[0, 1, 2, 3, 4, 5, 6, 7, 8, 9, 10], [10], [], [6], fun f => f 6 = .tuple #[.agg (aC (comR x2 x8)), .bool (decide (meetA x2 x8))]⟩, ⟨[0, 1, 2, 3, 4, 5, 6, 7, 8, 9, 10, 11], [11], [], [18], fun f => f 18 = .agg (aC (comR x2 x8))⟩, ⟨[0, 1, 2, 3, 4, 5, 6, 7, 8, 9, 10, 11], [11], [], [19], fun f => f 19 = .bool (decide (meetA x2 x8))⟩, ⟨[], [], [], [4], fun f => f 4 = .pointer (some ⟨(blk (f 4)), 0, none⟩)⟩, ⟨[0, 1, 2, 3, 4, 5, 6, 7, 8, 9, 10, 11, 12, 14], [14, 12], [], [], fun _ => True⟩, ⟨[0, 1, 2, 3, 4, 5, 6, 7, 8, 9, 10, 11, 12, 13, 14, 15], [13], [], [5], fun f => f 5 = .bool (decide (meetA x2 x8))⟩] [⟨none, none, [2, 7], [], fun _ => pt b1 (.cells #[Nx (i), Nx (k)] 57)⟩, ⟨(some 14), (some 15), [15], [4], fun f => pt (blk (f 4)) (.cells #[.int .i64 (0), .int .i64 (0), .int .i64 (0), .int .i64 (0)] 29)⟩, ⟨(some 15), none, [], [4], fun f => pt (blk (f 4)) (.cells (aC (comR x2 x8)) 29)⟩] [(1, .pointer (some (⟨c, 0, none⟩))), (2, .pointer (some ⟨b1, 0, none⟩))] [] [] (by kernel_rfl) (by kernel_rfl) (by kernel_rfl) (by kernel_rfl) rfl ⟨rfl, rfl, trivial⟩ ⟨?_, ?_, ?_, ?_, ?_, ?_, ?_, ?_, ?_, ?_, ?_, ?_, ?_, ?_, ?_, ?_, ?_, trivial⟩ ?_
  · rintro f M - ⟨i0, -⟩
    have hs1 : f 1 = .pointer (some (⟨c, 0, none⟩)) := i0
    refine ob_start (L' := M) (by rfl) (up_cons rfl hs1) ?_
    refine l_val (v := .slice va (l.length) (vc)) rfl rfl rfl (e_load1 tu20 (v := .slice va (l.length) (vc)) rfl (Knows.of_base (Cs.mono _ _) hc)) ?_
    refine l_nil ?_
    exact f_owes_d (up_cons rfl hs1) rfl (List.Perm.refl _)
  · rintro f M - ⟨i0, -⟩
    have hs2 : f 2 = .pointer (some ⟨b1, 0, none⟩) := i0
    refine ob_start (L' := M) (by rfl) (up_cons rfl hs2) ?_
    refine l_val (v := .pointer (some ⟨b1, 0, none⟩)) rfl rfl rfl (e_fieldPt (b := b1) (o := 0) rfl tu21) ?_
    refine l_nil ?_
    exact f_owes_d (up_cons rfl hs2) rfl (List.Perm.refl _)
  · rintro f M ⟨k0, -⟩ -
    have hs8 : f 8 = .pointer (some ⟨b1, 0, none⟩) := k0
    refine ob_start (L' := pt b1 (.cells #[Nx (i), Nx (k)] 57) :: M) (by rfl) (up_cons rfl hs8) ?_
    refine l_val (v := Nx (i)) rfl rfl rfl (e_load1 tp2 (v := Nx (i)) rfl (k_pt 0 (cs := #[Nx (i), Nx (k)]) (vs := [Nx (i)]) rfl rfl)) ?_
    refine l_nil ?_
    exact f_owes_d (up_cons rfl hs8) rfl (perm_front 0 rfl)
  · rintro f M ⟨k0, k1, -⟩ -
    have hs7 : f 7 = .slice va (l.length) (vc) := k0
    have hs9 : f 9 = Nx (i) := k1
    refine ob_start (L' := M) (by rfl) (up_cons (up_cons rfl hs7) hs9) ?_
    refine l_val (v := .pointer (some ((ba va).add (i * 4)))) rfl rfl rfl (e_indexAddr (k := i) (len := l.length) (cap := vc) (a := va) rfl rfl tp14 (by omega) ha4) ?_
    refine l_nil ?_
    exact f_owes_d (up_cons (up_cons rfl hs7) hs9) rfl (List.Perm.refl _)
  · rintro f M ⟨k0, -⟩ -
    have hs10 : f 10 = .pointer (some ((ba va).add (i * 4))) := k0
    refine ob_start (L' := M) (by rfl) (up_cons rfl hs10) ?_
    refine l_val (v := .agg (aC x2)) rfl rfl rfl (e_load tp10 (cs := (areaE x2)) rfl (Knows.of_base (Cs.mono _ _) hc6) rfl) ?_
    refine l_nil ?_
    exact f_owes_d (up_cons rfl hs10) rfl (List.Perm.refl _)
  · rintro f M - ⟨i0, -⟩
    have hs1 : f 1 = .pointer (some (⟨c, 0, none⟩)) := i0
    refine ob_start (L' := M) (by rfl) (up_cons rfl hs1) ?_
    refine l_val (v := .slice va (l.length) (vc)) rfl rfl rfl (e_load1 tu20 (v := .slice va (l.length) (vc)) rfl (Knows.of_base (Cs.mono _ _) hc)) ?_
    refine l_nil ?_
    exact f_owes_d (up_cons rfl hs1) rfl (List.Perm.refl _)
  · rintro f M - ⟨i0, -⟩
    have hs2 : f 2 = .pointer (some ⟨b1, 0, none⟩) := i0
    refine ob_start (L' := M) (by rfl) (up_cons rfl hs2) ?_
    refine l_val (v := .pointer (some ⟨b1, 1, none⟩)) rfl rfl rfl (e_fieldPt (b := b1) (o := 0) rfl tu22) ?_
    refine l_nil ?_
    exact f_owes_d (up_cons rfl hs2) rfl (List.Perm.refl _)
  · rintro f M ⟨k0, -⟩ -
    have hs13 : f 13 = .pointer (some ⟨b1, 1, none⟩) := k0
    refine ob_start (L' := pt b1 (.cells #[Nx (i), Nx (k)] 57) :: M) (by rfl) (up_cons rfl hs13) ?_
    refine l_val (v := Nx (k)) rfl rfl rfl (e_load1 tp2 (v := Nx (k)) rfl (k_pt 0 (cs := #[Nx (i), Nx (k)]) (vs := [Nx (k)]) rfl rfl)) ?_
    refine l_nil ?_
    exact f_owes_d (up_cons rfl hs13) rfl (perm_front 0 rfl)
  · rintro f M ⟨k0, k1, -⟩ -
    have hs12 : f 12 = .slice va (l.length) (vc) := k0
    have hs14 : f 14 = Nx (k) := k1
    refine ob_start (L' := M) (by rfl) (up_cons (up_cons rfl hs12) hs14) ?_
    refine l_val (v := .pointer (some ((ba va).add (k * 4)))) rfl rfl rfl (e_indexAddr (k := k) (len := l.length) (cap := vc) (a := va) rfl rfl tp14 (by omega) ha10) ?_
    refine l_nil ?_
    exact f_owes_d (up_cons (up_cons rfl hs12) hs14) rfl (List.Perm.refl _)
  · rintro f M ⟨k0, -⟩ -
    have hs15 : f 15 = .pointer (some ((ba va).add (k * 4))) := k0
    refine ob_start (L' := M) (by rfl) (up_cons rfl hs15) ?_
    refine l_val (v := .agg (aC x8)) rfl rfl rfl (e_load tp10 (cs := (areaE x8)) rfl (Knows.of_base (Cs.mono _ _) hc12) rfl) ?_
    refine l_nil ?_
    exact f_owes_d (up_cons rfl hs15) rfl (List.Perm.refl _)
  · rintro f M ⟨k0, k1, -⟩ -
    have hs11 : f 11 = .agg (aC x2) := k0
    have hs16 : f 16 = .agg (aC x8) := k1
    refine ob_start (L' := M) (by rfl) (up_cons (up_cons rfl hs11) hs16) ?_
    refine l_call rfl rfl rfl (cl_value (fst := []) (cap := []) (vs := [.agg (aC x2), .agg (aC x8)]) (all := [.agg (aC x2), .agg (aC x8)]) tu23 rfl rfl rfl) ?_
    intro w hw
    obtain ⟨β1, sb, kn, hw1, back⟩ := St.frame_all hw
    refine (commonR_ok β1 w hw1 x2 x8).mono ?_
    rintro e w' ⟨rfl, hw'⟩
    refine ⟨_, rfl, _, back _ _ hw', ?_⟩
    clear hw hw1 hw' back kn sb
    refine l_nil ?_
    exact f_owes_d (up_cons (up_cons rfl hs11) hs16) rfl (List.Perm.refl _)
  · rintro f M ⟨k0, -⟩ -
    have hs17 : f 17 = .tuple #[.agg (aC (comR x2 x8)), .bool (decide (meetA x2 x8))] := k0
    refine ob_start (L' := M) (by rfl) (up_cons rfl hs17) ?_
    refine l_val (v := .tuple #[.agg (aC (comR x2 x8)), .bool (decide (meetA x2 x8))]) rfl rfl rfl (e_move) ?_
    refine l_nil ?_
    exact f_owes_d (up_cons rfl hs17) rfl (List.Perm.refl _)
  · rintro f M ⟨k0, -⟩ -
    have hs6 : f 6 = .tuple #[.agg (aC (comR x2 x8)), .bool (decide (meetA x2 x8))] := k0
    refine ob_start (L' := M) (by rfl) (up_cons rfl hs6) ?_
    refine l_val (v := .agg (aC (comR x2 x8))) rfl rfl rfl (e_extract (vs := #[.agg (aC (comR x2 x8)), .bool (decide (meetA x2 x8))]) rfl rfl) ?_
    refine l_nil ?_
    exact f_owes_d (up_cons rfl hs6) rfl (List.Perm.refl _)
  · rintro f M ⟨k0, -⟩ -
    have hs6 : f 6 = .tuple #[.agg (aC (comR x2 x8)), .bool (decide (meetA x2 x8))] := k0
    refine ob_start (L' := M) (by rfl) (up_cons rfl hs6) ?_
    refine l_val (v := .bool (decide (meetA x2 x8))) rfl rfl rfl (e_extract (vs := #[.agg (aC (comR x2 x8)), .bool (decide (meetA x2 x8))]) rfl rfl) ?_
    refine l_nil ?_
    exact f_owes_d (up_cons rfl hs6) rfl (List.Perm.refl _)
  · rintro f M - -
    refine ob_start (L' := M) (by rfl) rfl ?_
    refine l_mv rfl rfl rfl (m_alloc tp8) ?_
    rintro _ _ ⟨b15, rfl, rfl⟩
    refine l_nil ?_
    exact f_owes_d rfl rfl (perm_front 0 rfl)
  · rintro f M ⟨k0, k1, -⟩ -
    have hs4 : f 4 = .pointer (some ⟨(blk (f 4)), 0, none⟩) := k0
    have hs18 : f 18 = .agg (aC (comR x2 x8)) := k1
    refine ob_start (L' := pt (blk (f 4)) (.cells #[.int .i64 (0), .int .i64 (0), .int .i64 (0), .int .i64 (0)] 29) :: M) (by rfl) (up_cons (up_cons rfl hs4) hs18) ?_
    refine l_mu rfl rfl (m_store 0 tp10 (b := (blk (f 4))) (o := 0) (T := 29) (cs := #[.int .i64 (0), .int .i64 (0), .int .i64 (0), .int .i64 (0)]) (cs' := (aC (comR x2 x8))) (v := .agg (aC (comR x2 x8))) rfl rfl rfl rfl rfl rfl rfl) ?_
    refine l_nil ?_
    exact f_owes_n (up_cons (up_cons rfl hs4) hs18) trivial (perm_front 0 rfl)
  · rintro f M ⟨k0, -⟩ -
    have hs19 : f 19 = .bool (decide (meetA x2 x8)) := k0
    refine ob_start (L' := M) (by rfl) (up_cons rfl hs19) ?_
    refine l_val (v := .bool (decide (meetA x2 x8))) rfl rfl rfl (e_assign) ?_
    refine l_nil ?_
    exact f_owes_d (up_cons rfl hs19) rfl (List.Perm.refl _)
  rintro fa16 ⟨-, -, -, -, -, -, -, -, -, -, -, -, -, -, k14, -, -, -⟩ -
  refine f_re (L' := [pt b1 (.cells #[Nx (i), Nx (k)] 57), pt (blk (fa16 4)) (.cells (aC (comR x2 x8)) 29)]) (by rfl) ?_
  refine f_rebase (d := 4) (v := .pointer (some ⟨(blk (fa16 4)), 0, none⟩)) k14 ?_
  refine f_then ?_
  refine c_seq ?_
  refine c_region ?_
  refine l_val (v := .agg (aC (comR x2 x8))) rfl rfl rfl (e_load tp10 (cs := (areaE (comR x2 x8))) rfl (k_pt 1 (cs := (aC (comR x2 x8))) (vs := (areaE (comR x2 x8))) rfl rfl) rfl) ?_
  refine l_call rfl rfl rfl (cl_value (fst := []) (cap := []) (vs := [.agg (aC (comR x2 x8))]) (all := [.agg (aC (comR x2 x8))]) tp12 rfl rfl rfl) ?_
  intro w hw
  obtain ⟨β1, sb, kn, hw1, back⟩ := St.frame_all hw
  refine (flat_ok β1 w hw1 (comR x2 x8)).mono ?_
  rintro e w' ⟨rfl, hw'⟩
  refine ⟨_, rfl, _, back _ _ hw', ?_⟩
  clear hw hw1 hw' back kn sb
  refine l_val (v := .bool (decide (¬ (flatA (comR x2 x8))))) rfl rfl rfl (e_not_p (p := flatA (comR x2 x8)) rfl) ?_
  refine l_val (v := .bool (decide (¬ (flatA (comR x2 x8))))) rfl rfl rfl (e_assign) ?_
  refine l_nil ?_
  refine f_then ?_
  refine c_ret ?_
  refine ret1 Tryz.results32 (v := .bool (decide (¬ (flatA (comR x2 x8))))) rfl ?_
  intro w hw
  exact ⟨congrArg (fun b : Bool => Ending.returned (.bool b)) (by rw [comP_of hx3 hx9, ← (comR_touch (hok _ (List.mem_of_getElem? hx3)) (hok _ (List.mem_of_getElem? hx9)) (htt hx3 hx9))]), st_mask [false, false] rfl hw⟩
theorem flat2_fn (β : Base) (c : Nat) (v : Value) (l : List KA) (hs : Sl AreaF.R β.heap v l) (hok : ∀ a ∈ l, okA a) (hc : Cs β.heap ⟨c, 0, none⟩ [v]) : FnV Tryz.prog β (.func (.func 32) #[] #[.pointer (some ⟨c, 0, none⟩)]) (fun z : KP => [.agg #[Ix (z.a), Ix (z.b)]]) (fun z => z ∈ pairsA l) (fun z => .bool (decide (¬ flatA (comP l z)))) := by
  refine ⟨32, [], [.pointer (some ⟨c, 0, none⟩)], rfl, by kernel_rfl, fun β₁ sb0 z_ hz_ w hw => ?_⟩
  obtain ⟨i, k, a, b, h1, h2, h3, h4, rfl, h5⟩ := pairs_two hz_
  exact flat2_ok β₁ w hw c v l (Sl.mono _ _ _ _ _ sb0 hs) hok (Cs.mono _ _ _ _ sb0 hc) i k (by omega) h2 fun ha hb => by rw [h3] at ha; rw [h4] at hb; injection ha with ha; injection hb with hb; rw [← ha, ← hb]; exact h5
set_option maxHeartbeats 4000000 in
theorem valid_ok (β : Base) (w : World) (hw : St β [] w) (v : Value) (l : List KA) (hs : Sl AreaF.R β.heap v l) : Calls Tryz.prog 12 #[v] w fun r w' => r = .returned (.bool (decide (okM l))) ∧ St β [] w' := by
  have hs0 := hs
  obtain ⟨va, vc, rfl, vl, vm, ve⟩ := hs.get
  refine enter (n := 25) Tryz.func12 rfl Tryz.ntmps12 rfl ?_ hw
  refine c_seq ?_
  refine c_region ?_
  refine l_mv rfl rfl rfl (m_box (v := .slice va (l.length) (vc)) rfl) ?_
  rintro _ _ ⟨b1, rfl, rfl⟩
  refine l_val (v := .bool false) rfl rfl rfl (e_assign) ?_
  refine l_nil ?_
  refine f_then ?_
  refine c_seq ?_
  refine c_seq ?_
  refine c_region ?_
  refine l_val (v := .slice va (l.length) (vc)) rfl rfl rfl (e_load1 tu20 (v := .slice va (l.length) (vc)) rfl (k_pt 0 (cs := #[.slice va (l.length) (vc)]) (vs := [.slice va (l.length) (vc)]) rfl rfl)) ?_
  refine l_val (v := Nx (l.length)) rfl rfl rfl (e_len (a := va) (n := l.length) (c := vc) rfl tp13) ?_
  refine l_val (v := .bool (decide ((64 : Int) < ((l.length : Nat) : Int)))) rfl rfl rfl (e_gtr (a := ((l.length : Nat) : Int)) (b := (64 : Int)) rfl rfl) ?_
  refine l_val (v := .bool (decide ((64 : Int) < ((l.length : Nat) : Int)))) rfl rfl rfl (e_move) ?_
  refine l_split (s := 8) (p := (64 : Int) < ((l.length : Nat) : Int)) rfl (fun hg2 => ?_) (fun hg2 => ?_)
  ·
    refine l_skip rfl rfl rfl rfl rfl rfl ?_
    refine l_skip rfl rfl rfl rfl rfl rfl ?_
    refine l_val (v := .bool true) rfl rfl rfl (e_pick_t rfl) ?_
    refine l_nil ?_
    refine f_then ?_
    refine c_yes rfl ?_
    refine c_seq ?_
    refine c_region ?_
    refine l_val (v := .bool false) rfl rfl rfl (e_assign) ?_
    refine l_nil ?_
    refine f_then ?_
    refine c_ret ?_
    refine f_then_ret ?_
    refine ret1 Tryz.results12 (v := .bool false) rfl ?_
    intro w hw
    exact ⟨congrArg (fun b : Bool => Ending.returned (.bool b)) (decide_eq_false (p := okM l) (fun q => by have h := q.1; omega)).symm, st_mask [false] rfl hw⟩
  ·
    refine g_val (v := .slice va (l.length) (vc)) rfl rfl rfl rfl rfl (e_load1 tu20 (v := .slice va (l.length) (vc)) rfl (k_pt 0 (cs := #[.slice va (l.length) (vc)]) (vs := [.slice va (l.length) (vc)]) rfl rfl)) ?_
    refine g_call rfl rfl rfl rfl rfl (cl_value (fst := []) (cap := []) (vs := [.slice va (l.length) (vc), .func (.func 28) #[] #[]]) (all := [.slice va (l.length) (vc), .func (.func 28) #[] #[]]) tu24 rfl rfl rfl) ?_
    intro w hw
    obtain ⟨β1, sb, kn, hw1, back⟩ := St.frame_all hw
    refine (contA_ok β1 w hw1 _ l (Sl.mono _ _ _ _ _ sb (⟨⟨_, _, rfl, vl, vm, ve⟩⟩ : Sl AreaF.R _ _ l)) (fun _ => True) (fun _ _ => trivial) _ (fun z => decide (¬ roomOk z)) (bad_fn β1)).mono ?_
    rintro e w' ⟨rfl, hw'⟩
    refine ⟨_, rfl, _, back _ _ hw', ?_⟩
    clear hw hw1 hw' back kn sb
    refine l_val (v := .bool (l.any (fun z => decide (¬ roomOk z)))) rfl rfl rfl (e_pick_f rfl) ?_
    refine l_nil ?_
    refine f_then ?_
    refine c_ifb (l.any (fun z => decide (¬ roomOk z))) rfl (fun hc3 => ?_) (fun hc3 => ?_)
    ·
      refine c_seq ?_
      refine c_region ?_
      refine l_val (v := .bool false) rfl rfl rfl (e_assign) ?_
      refine l_nil ?_
      refine f_then ?_
      refine c_ret ?_
      refine f_then_ret ?_
      refine ret1 Tryz.results12 (v := .bool false) rfl ?_
      intro w hw
      exact ⟨congrArg (fun b : Bool => Ending.returned (.bool b)) (decide_eq_false (p := okM l) (fun q => any_roomNo hc3 q.2.1)).symm, st_mask [false] rfl hw⟩
    ·
      refine c_skip ?_
      refine f_then ?_
      refine c_seq ?_
      have hl64 : l.length ≤ 64 := by have q := hg2; omega
      have hrok : ∀ a ∈ l, roomOk a := any_roomOk hc3
      have hokA : ∀ a ∈ l, okA a := fun a ha => (hrok a ha).1
      refine c_region ?_
      refine l_val (v := .slice va (l.length) (vc)) rfl rfl rfl (e_load1 tu20 (v := .slice va (l.length) (vc)) rfl (k_pt 0 (cs := #[.slice va (l.length) (vc)]) (vs := [.slice va (l.length) (vc)]) rfl rfl)) ?_
      refine l_call rfl rfl rfl (cl_value (fst := []) (cap := []) (vs := [.slice va (l.length) (vc)]) (all := [.slice va (l.length) (vc)]) tu25 rfl rfl rfl) ?_
      intro w hw
      obtain ⟨β1, sb, kn, hw1, back⟩ := St.frame_all hw
      refine (pairsM_ok β1 w hw1 _ l (Sl.mono _ _ _ _ _ sb (⟨⟨_, _, rfl, vl, vm, ve⟩⟩ : Sl AreaF.R _ _ l)) hrok hl64).mono ?_
      rintro e w' ⟨p4, c5, rfl, hw'⟩
      refine ⟨_, rfl, _, back _ _ hw', ?_⟩
      clear hw hw1 hw' back kn sb
      refine l_val (v := .tuple #[.slice p4 ((pairsA l).length) c5, .int .i64 (0)]) rfl rfl rfl (e_move) ?_
      refine l_val (v := .slice p4 ((pairsA l).length) c5) rfl rfl rfl (e_extract (vs := #[.slice p4 ((pairsA l).length) c5, .int .i64 (0)]) rfl rfl) ?_
      refine l_val (v := .int .i64 (0)) rfl rfl rfl (e_extract (vs := #[.slice p4 ((pairsA l).length) c5, .int .i64 (0)]) rfl rfl) ?_
      refine l_val (v := .slice p4 ((pairsA l).length) c5) rfl rfl rfl (e_assign) ?_
      refine l_val (v := .int .i64 (0)) rfl rfl rfl (e_assign) ?_
      refine l_nil ?_
      refine f_then ?_
      refine c_seq ?_
      refine c_freeze2 (M := []) (K := [rowF PairF 57 p4 c5 (pairsA l), pt b1 (.cells #[.slice va (l.length) (vc)] 24)]) rfl (fun βf ext1 kn1 bk1 => ?_)
      have hlf := Sl.mono _ _ _ _ _ ext1.sub hs0
      have hcf : Cs βf.heap ⟨b1, 0, none⟩ [.slice va (l.length) (vc)] := kn1 _ (k_pt 1 (o := 0) (cs := #[.slice va (l.length) (vc)]) (vs := [.slice va (l.length) (vc)]) rfl rfl)
      have hpf : Sl PairF.R βf.heap (.slice p4 ((pairsA l).length) c5) (pairsA l) := kn1 _ (k_flN 0 (F := PairF) (m := (pairsA l).length) rfl rfl)
      refine c_region ?_
      refine l_val (v := .int .i64 (0)) rfl rfl rfl (e_move) ?_
      refine l_val (v := .bool true) rfl rfl rfl (e_eql (a := (0 : Int)) (b := (0 : Int)) rfl rfl) ?_
      refine l_val (v := .bool true) rfl rfl rfl (e_move) ?_
      refine g_val (v := .slice p4 ((pairsA l).length) (c5)) rfl rfl rfl rfl rfl (e_move) ?_
      refine g_val (v := .func (.func 32) #[] #[.pointer (some (⟨b1, 0, none⟩))]) rfl rfl rfl rfl rfl (e_func (u := []) (v := [.pointer (some (⟨b1, 0, none⟩))]) rfl rfl) ?_
      refine g_call rfl rfl rfl rfl rfl (cl_value (fst := []) (cap := []) (vs := [.slice p4 ((pairsA l).length) (c5), .func (.func 32) #[] #[.pointer (some (⟨b1, 0, none⟩))]]) (all := [.slice p4 ((pairsA l).length) (c5), .func (.func 32) #[] #[.pointer (some (⟨b1, 0, none⟩))]]) tu26 rfl rfl rfl) ?_
      intro w hw
      obtain ⟨β1, sb, kn, hw1, back⟩ := St.frame_all hw
      refine (contP_ok β1 w hw1 _ (pairsA l) (Sl.mono _ _ _ _ _ sb hpf) (fun z => z ∈ pairsA l) (fun _ h => h) _ (fun z => decide (¬ flatA (comP l z))) ((flat2_fn βf b1 _ l hlf hokA hcf).mono sb)).mono ?_
      rintro e w' ⟨rfl, hw'⟩
      refine ⟨_, rfl, _, back _ _ hw', ?_⟩
      clear hw hw1 hw' back kn sb
      refine g_val (v := .bool (!((pairsA l).any (fun z => decide (¬ flatA (comP l z)))))) rfl rfl rfl rfl rfl (e_not rfl) ?_
      refine l_val (v := .bool (!((pairsA l).any (fun z => decide (¬ flatA (comP l z)))))) rfl rfl rfl (e_pick_t rfl) ?_
      refine l_val (v := .bool (!((pairsA l).any (fun z => decide (¬ flatA (comP l z)))))) rfl rfl rfl (e_assign) ?_
      refine l_nil ?_
      refine f_then ?_
      refine c_ret ?_
      refine ret1 Tryz.results12 (v := .bool (!((pairsA l).any (fun z => decide (¬ flatA (comP l z)))))) rfl ?_
      intro w hw
      exact ⟨congrArg (fun b : Bool => Ending.returned (.bool b)) (okM_any hl64 hrok), st_mask [false, false] rfl (bk1 _ _ hw)⟩
set_option maxHeartbeats 4000000 in
theorem rooms_ok (β : Base) (w : World) (hw : St β [] w) (v : Value) (l : List KA) (hs : Sl AreaF.R β.heap v l) (x y : Int) : Calls Tryz.prog 8 #[v, .agg #[Ix x, Ix y]] w fun r w' => ∃ p c, r = .returned (.tuple #[.slice p (roomX l x y).length c, Ix (errM l)]) ∧ St β [rowF NatF 3 p c (roomX l x y)] w' := by
  obtain ⟨va, vc, rfl, vl, vm, ve⟩ := hs.get
  refine enter (n := 28) Tryz.func8 rfl Tryz.ntmps8 rfl ?_ hw
  refine c_seq ?_
  refine c_region ?_
  refine l_mv rfl rfl rfl (m_box (v := .agg #[Ix (x), Ix (y)]) rfl) ?_
  rintro _ _ ⟨b1, rfl, rfl⟩
  refine l_val (v := .slice none 0 0) rfl rfl rfl (e_assign) ?_
  refine l_val (v := .int .i64 (0)) rfl rfl rfl (e_assign) ?_
  refine l_nil ?_
  refine f_then ?_
  refine c_seq ?_
  refine c_seq ?_
  refine c_region ?_
  refine l_val (v := .slice va (l.length) (vc)) rfl rfl rfl (e_move) ?_
  refine l_call rfl rfl rfl (cl_value (fst := []) (cap := []) (vs := [.slice va (l.length) (vc)]) (all := [.slice va (l.length) (vc)]) tu27 rfl rfl rfl) ?_
  intro w hw
  obtain ⟨β1, sb, kn, hw1, back⟩ := St.frame_all hw
  refine (valid_ok β1 w hw1 _ l (Sl.mono _ _ _ _ _ sb (⟨⟨_, _, rfl, vl, vm, ve⟩⟩ : Sl AreaF.R _ _ l))).mono ?_
  rintro e w' ⟨rfl, hw'⟩
  refine ⟨_, rfl, _, back _ _ hw', ?_⟩
  clear hw hw1 hw' back kn sb
  refine l_val (v := .bool (decide (¬ (okM l)))) rfl rfl rfl (e_not_p (p := okM l) rfl) ?_
  refine l_nil ?_
  refine f_then ?_
  refine c_if (¬ (okM l)) rfl (fun hc2 => ?_) (fun hc2 => ?_)
  ·
    refine c_seq ?_
    refine c_region ?_
    refine l_val (v := .slice none 0 0) rfl rfl rfl (e_assign) ?_
    refine l_val (v := .int .i64 (2)) rfl rfl rfl (e_assign) ?_
    refine l_nil ?_
    refine f_then ?_
    refine c_ret ?_
    refine f_then_ret ?_
    refine ret2 (v := .slice none 0 0) (v' := .int .i64 (2)) Tryz.results8 rfl rfl ?_
    intro w hw
    have hM : ¬ okM l := by have q := hc2; simpa using q
    refine ⟨none, 0, by rw [roomX_bad hM, errM_bad hM] <;> rfl, ?_⟩
    rw [roomX_bad hM]
    exact (st_mask [false] rfl hw).emp (row_nil _ _ _)
  ·
    refine c_skip ?_
    refine f_then ?_
    refine c_seq ?_
    refine c_region ?_
    refine l_val (v := .slice none 0 0) rfl rfl rfl (e_assign) ?_
    refine l_nil ?_
    refine f_then ?_
    refine c_seq ?_
    refine c_seq ?_
    have hM : okM l := by have q := hc2; simpa using q
    have hl64 := hM.1
    refine c_emp (r := rowF NatF 3 none 0 []) (row_nil _ _ _) ?_
    refine c_region ?_
    refine l_val (v := .slice va (l.length) (vc)) rfl rfl rfl (e_move) ?_
    refine l_val (v := Nx (l.length)) rfl rfl rfl (e_len (a := va) (n := l.length) (c := vc) rfl tp13) ?_
    refine l_val (v := .int .i64 (0)) rfl rfl rfl (e_move) ?_
    refine l_nil ?_
    refine f_then ?_
    refine c_block ?_
    refine c_loop (fun (x_ : Nat × List Nat × Option Addr × Nat) (f : Fm) (L : List Res) => match x_ with | (k, ys, tp, tc) => (f 3 = .pointer (some ⟨b1, 0, none⟩) ∧ f 6 = .slice tp (ys.length) tc ∧ f 12 = .slice va (l.length) (vc) ∧ f 13 = Nx (l.length) ∧ f 14 = Nx (k)) ∧ L = [rowF NatF 3 tp tc ys, pt b1 (.cells #[Ix (x), Ix (y)] 27)] ∧ (k ≤ l.length ∧ ys = (List.range k).filter fun i => decide (hasP (l.getD i zeroA) x y))) (fun (x_ : Nat × List Nat × Option Addr × Nat) => match x_ with | (k, ys, tp, tc) => l.length - k) (0, [], none, 0) ?_ ?_
    · exact ⟨⟨rfl, rfl, rfl, rfl, rfl⟩, rfl, ⟨by omega, rfl⟩⟩
    rintro ⟨k, ys, tp, tc⟩ f0 L0 ⟨⟨hs3, hs6, hs12, hs13, hs14⟩, hL, ⟨hk, hys⟩⟩
    subst L0
    refine rebase (d := 3) hs3 ?_
    refine rebase (d := 6) hs6 ?_
    refine rebase (d := 12) hs12 ?_
    refine rebase (d := 13) hs13 ?_
    refine rebase (d := 14) hs14 ?_
    clear hs3 hs6 hs12 hs13 hs14
    have hyl : ys.length ≤ k := by rw [hys]; exact Nat.le_trans (List.length_filter_le _ _) (by rw [List.length_range]; omega)
    refine c_seq ?_
    refine c_region ?_
    refine l_val (v := .bool (decide (((k : Nat) : Int) < ((l.length : Nat) : Int)))) rfl rfl rfl (e_lss (a := ((k : Nat) : Int)) (b := ((l.length : Nat) : Int)) rfl rfl) ?_
    refine l_nil ?_
    refine f_then ?_
    refine c_seq ?_
    refine c_if (((k : Nat) : Int) < ((l.length : Nat) : Int)) rfl (fun hc3 => ?_) (fun hc3 => ?_)
    ·
      refine c_skip ?_
      refine f_then ?_
      refine c_seq ?_
      refine c_block ?_
      refine c_seq ?_
      refine c_region ?_
      refine l_val (v := Nx (k)) rfl rfl rfl (e_move) ?_
      obtain ⟨x4, hx5⟩ : ∃ x_, (l)[k]? = some x_ := ⟨_, List.getElem?_eq_getElem (by omega)⟩
      obtain ⟨ha6, cs7, hc8, rfl⟩ := ve _ _ hx5
      refine l_val (v := .pointer (some ((ba va).add (k * 4)))) rfl rfl rfl (e_indexAddr (k := k) (len := l.length) (cap := vc) (a := va) rfl rfl tp14 (by omega) ha6) ?_
      refine l_val (v := .agg (aC x4)) rfl rfl rfl (e_load tp10 (cs := (areaE x4)) rfl (Knows.of_base (Cs.mono _ _) hc8) rfl) ?_
      refine l_mv rfl rfl rfl (m_alloc tp8) ?_
      rintro _ _ ⟨b10, rfl, rfl⟩
      refine l_val (v := Nx (k)) rfl rfl rfl (e_assign) ?_
      refine l_mu rfl rfl (m_store 0 tp10 (b := b10) (o := 0) (T := 29) (cs := #[.int .i64 (0), .int .i64 (0), .int .i64 (0), .int .i64 (0)]) (cs' := (aC x4)) (v := .agg (aC x4)) rfl rfl rfl rfl rfl rfl rfl) ?_
      refine l_nil ?_
      refine f_then ?_
      refine c_seq ?_
      refine c_region ?_
      refine l_val (v := .agg (aC x4)) rfl rfl rfl (e_load tp10 (cs := (areaE x4)) rfl (k_pt 0 (cs := (aC x4)) (vs := (areaE x4)) rfl rfl) rfl) ?_
      refine l_val (v := .agg #[Ix (x), Ix (y)]) rfl rfl rfl (e_load tp7 (cs := [Ix (x), Ix (y)]) rfl (k_pt 2 (cs := #[Ix (x), Ix (y)]) (vs := [Ix (x), Ix (y)]) rfl rfl) rfl) ?_
      refine l_call rfl rfl rfl (cl_value (fst := []) (cap := []) (vs := [.agg (aC x4), .agg #[Ix (x), Ix (y)]]) (all := [.agg (aC x4), .agg #[Ix (x), Ix (y)]]) tu28 rfl rfl rfl) ?_
      intro w hw
      obtain ⟨β1, sb, kn, hw1, back⟩ := St.frame_all hw
      refine (has_ok β1 w hw1 x4 x y).mono ?_
      rintro e w' ⟨rfl, hw'⟩
      refine ⟨_, rfl, _, back _ _ hw', ?_⟩
      clear hw hw1 hw' back kn sb
      refine l_nil ?_
      refine f_then ?_
      refine c_if (hasP x4 x y) rfl (fun hc11 => ?_) (fun hc11 => ?_)
      ·
        refine c_region ?_
        refine l_val (v := .slice tp (ys.length) tc) rfl rfl rfl (e_move) ?_
        refine l_val (v := Nx (k)) rfl rfl rfl (e_move) ?_
        refine l_mv rfl rfl rfl (m_slices tu29 tu30 (vs := [(0, Nx (k))]) (cells := #[Nx (k)]) rfl rfl rfl rfl) ?_
        rintro _ _ ⟨b12, rfl, rfl⟩
        refine l_mv rfl rfl rfl (m_appendFlN (F := NatF) 2 tu29 tu31 (p := tp) (m := ys.length) (xs := ys) (ys := [k]) (ao := (some ⟨b12, 0, none⟩)) (k := 1) (c := 1) rfl rfl rfl rfl rfl (k_ptFl (z := k) 0 rfl rfl) (by first | omega | simp only [List.length_nil, List.length_cons, List.length_append, List.length_set]; omega) (by first | omega | simp only [List.length_nil, List.length_cons, List.length_append, List.length_set]; omega)) ?_
        rintro _ _ ⟨rp13, rc14, rfl, rfl⟩
        refine l_val (v := .slice rp13 ((ys ++ [k]).length) rc14) rfl rfl rfl (e_assign) ?_
        refine l_nil ?_
        refine f_block ?_
        refine f_then ?_
        refine c_region ?_
        refine l_val (v := Nx (k + 1)) rfl rfl rfl (e_add (a := ((k : Nat) : Int)) (b := (1 : Int)) rfl rfl (i64n (by omega) (by omega))) ?_
        refine l_val (v := Nx (k + 1)) rfl rfl rfl (e_move) ?_
        refine l_nil ?_
        refine f_mask (L' := [rowF NatF 3 rp13 rc14 (ys ++ [k]), pt b1 (.cells #[Ix (x), Ix (y)] 27)]) [false, false, true, true] rfl ?_
        exact f_cut ⟨(k + 1, (ys ++ [k]), rp13, rc14), ⟨⟨rfl, rfl, rfl, rfl, rfl⟩, rfl, ⟨by omega, by rw [hys, room_next hx5, if_pos hc11]⟩⟩, (show l.length - (k + 1) < l.length - k from by omega)⟩
      ·
        refine c_skip ?_
        refine f_block ?_
        refine f_then ?_
        refine c_region ?_
        refine l_val (v := Nx (k + 1)) rfl rfl rfl (e_add (a := ((k : Nat) : Int)) (b := (1 : Int)) rfl rfl (i64n (by omega) (by omega))) ?_
        refine l_val (v := Nx (k + 1)) rfl rfl rfl (e_move) ?_
        refine l_nil ?_
        refine f_mask (L' := [rowF NatF 3 tp tc ys, pt b1 (.cells #[Ix (x), Ix (y)] 27)]) [false, true, true] rfl ?_
        exact f_cut ⟨(k + 1, ys, tp, tc), ⟨⟨rfl, rfl, rfl, rfl, rfl⟩, rfl, ⟨by omega, by rw [hys, room_next hx5, if_neg hc11]; rw [List.append_nil]⟩⟩, (show l.length - (k + 1) < l.length - k from by omega)⟩
    ·
      refine c_exit ?_
      refine f_then_exit ?_
      refine f_then_exit ?_
      refine f_exit ?_
      refine f_then ?_
      refine c_seq ?_
      refine c_region ?_
      refine l_val (v := .slice tp (ys.length) tc) rfl rfl rfl (e_move) ?_
      refine l_val (v := .slice tp (ys.length) tc) rfl rfl rfl (e_assign) ?_
      refine l_val (v := .int .i64 (0)) rfl rfl rfl (e_assign) ?_
      refine l_nil ?_
      refine f_then ?_
      refine c_ret ?_
      refine ret2 (v := .slice tp (ys.length) tc) (v' := .int .i64 (0)) Tryz.results8 rfl rfl ?_
      intro w hw
      have hky : k = l.length := by omega
      subst hky
      have hys : ys = roomF l x y := hys
      exact ⟨tp, tc, by rw [roomX_ok hM, errM_ok hM, ← hys] <;> rfl, by rw [roomX_ok hM, ← hys]; exact st_mask [true, false] rfl hw⟩
set_option maxHeartbeats 4000000 in
theorem portals_ok (β : Base) (w : World) (hw : St β [] w) (v : Value) (l : List KA) (hs : Sl AreaF.R β.heap v l) : Calls Tryz.prog 7 #[v] w fun r w' => ∃ p c, r = .returned (.tuple #[.slice p (portX l).length c, Ix (errM l)]) ∧ St β [rowF PoF 50 p c (portX l)] w' := by
  obtain ⟨va, vc, rfl, vl, vm, ve⟩ := hs.get
  refine enter (n := 71) Tryz.func7 rfl Tryz.ntmps7 rfl ?_ hw
  refine c_seq ?_
  refine c_region ?_
  refine l_val (v := .slice none 0 0) rfl rfl rfl (e_assign) ?_
  refine l_val (v := .int .i64 (0)) rfl rfl rfl (e_assign) ?_
  refine l_nil ?_
  refine f_then ?_
  refine c_seq ?_
  refine c_seq ?_
  refine c_region ?_
  refine l_val (v := .slice va (l.length) (vc)) rfl rfl rfl (e_move) ?_
  refine l_call rfl rfl rfl (cl_value (fst := []) (cap := []) (vs := [.slice va (l.length) (vc)]) (all := [.slice va (l.length) (vc)]) tu27 rfl rfl rfl) ?_
  intro w hw
  obtain ⟨β1, sb, kn, hw1, back⟩ := St.frame_all hw
  refine (valid_ok β1 w hw1 _ l (Sl.mono _ _ _ _ _ sb (⟨⟨_, _, rfl, vl, vm, ve⟩⟩ : Sl AreaF.R _ _ l))).mono ?_
  rintro e w' ⟨rfl, hw'⟩
  refine ⟨_, rfl, _, back _ _ hw', ?_⟩
  clear hw hw1 hw' back kn sb
  refine l_val (v := .bool (decide (¬ (okM l)))) rfl rfl rfl (e_not_p (p := okM l) rfl) ?_
  refine l_nil ?_
  refine f_then ?_
  refine c_if (¬ (okM l)) rfl (fun hc1 => ?_) (fun hc1 => ?_)
  ·
    refine c_seq ?_
    refine c_region ?_
    refine l_val (v := .slice none 0 0) rfl rfl rfl (e_assign) ?_
    refine l_val (v := .int .i64 (2)) rfl rfl rfl (e_assign) ?_
    refine l_nil ?_
    refine f_then ?_
    refine c_ret ?_
    refine f_then_ret ?_
    refine ret2 (v := .slice none 0 0) (v' := .int .i64 (2)) Tryz.results7 rfl rfl ?_
    intro w hw
    have hM : ¬ okM l := by have q := hc1; simpa using q
    refine ⟨none, 0, by rw [portX_bad hM, errM_bad hM] <;> rfl, ?_⟩
    rw [portX_bad hM]
    exact (st_mask [] rfl hw).emp (row_nil _ _ _)
  ·
    refine c_skip ?_
    refine f_then ?_
    refine c_seq ?_
    refine c_region ?_
    refine l_val (v := .slice none 0 0) rfl rfl rfl (e_assign) ?_
    refine l_nil ?_
    refine f_then ?_
    refine c_seq ?_
    have hM : okM l := by have q := hc1; simpa using q
    have hl64 := hM.1
    have hrok := hM.2.1
    have hpn := pairs_len hl64
    refine c_emp (r := rowF PoF 50 none 0 []) (row_nil _ _ _) ?_
    refine c_region ?_
    refine l_val (v := .slice va (l.length) (vc)) rfl rfl rfl (e_move) ?_
    refine l_call rfl rfl rfl (cl_value (fst := []) (cap := []) (vs := [.slice va (l.length) (vc)]) (all := [.slice va (l.length) (vc)]) tu25 rfl rfl rfl) ?_
    intro w hw
    obtain ⟨β1, sb, kn, hw1, back⟩ := St.frame_all hw
    refine (pairsM_ok β1 w hw1 _ l (Sl.mono _ _ _ _ _ sb (⟨⟨_, _, rfl, vl, vm, ve⟩⟩ : Sl AreaF.R _ _ l)) hrok hl64).mono ?_
    rintro e w' ⟨p2, c3, rfl, hw'⟩
    refine ⟨_, rfl, _, back _ _ hw', ?_⟩
    clear hw hw1 hw' back kn sb
    refine l_val (v := .tuple #[.slice p2 ((pairsA l).length) c3, .int .i64 (0)]) rfl rfl rfl (e_move) ?_
    refine l_val (v := .slice p2 ((pairsA l).length) c3) rfl rfl rfl (e_extract (vs := #[.slice p2 ((pairsA l).length) c3, .int .i64 (0)]) rfl rfl) ?_
    refine l_val (v := .int .i64 (0)) rfl rfl rfl (e_extract (vs := #[.slice p2 ((pairsA l).length) c3, .int .i64 (0)]) rfl rfl) ?_
    refine l_val (v := .slice p2 ((pairsA l).length) c3) rfl rfl rfl (e_assign) ?_
    refine l_val (v := .int .i64 (0)) rfl rfl rfl (e_assign) ?_
    refine l_nil ?_
    refine f_then ?_
    refine c_seq ?_
    refine c_seq ?_
    refine c_region ?_
    refine l_val (v := .slice p2 ((pairsA l).length) c3) rfl rfl rfl (e_move) ?_
    refine l_val (v := Nx ((pairsA l).length)) rfl rfl rfl (e_len (a := p2) (n := (pairsA l).length) (c := c3) rfl tp16) ?_
    refine l_val (v := .int .i64 (0)) rfl rfl rfl (e_move) ?_
    refine l_nil ?_
    refine f_then ?_
    refine c_block ?_
    refine c_loop (fun (x_ : Nat × List KO × Option Addr × Nat) (f : Fm) (L : List Res) => match x_ with | (k, ys, tp, tc) => (f 0 = .slice va (l.length) (vc) ∧ f 4 = .slice tp (ys.length) tc ∧ f 19 = .slice p2 ((pairsA l).length) c3 ∧ f 20 = Nx ((pairsA l).length) ∧ f 21 = Nx (k)) ∧ L = [rowF PairF 57 p2 c3 (pairsA l), rowF PoF 50 tp tc ys] ∧ (k ≤ (pairsA l).length ∧ ys = ((pairsA l).take k).filterMap (portO l))) (fun (x_ : Nat × List KO × Option Addr × Nat) => match x_ with | (k, ys, tp, tc) => (pairsA l).length - k) (0, [], none, 0) ?_ ?_
    · exact ⟨⟨rfl, rfl, rfl, rfl, rfl⟩, rfl, ⟨by omega, rfl⟩⟩
    rintro ⟨k, ys, tp, tc⟩ f0 L0 ⟨⟨hs0, hs4, hs19, hs20, hs21⟩, hL, ⟨hk, hys⟩⟩
    subst L0
    refine rebase (d := 0) hs0 ?_
    refine rebase (d := 4) hs4 ?_
    refine rebase (d := 19) hs19 ?_
    refine rebase (d := 20) hs20 ?_
    refine rebase (d := 21) hs21 ?_
    clear hs0 hs4 hs19 hs20 hs21
    have hyl : ys.length ≤ k := by rw [hys]; exact Nat.le_trans (List.length_filterMap_le _ _) (by rw [List.length_take]; omega)
    refine c_seq ?_
    refine c_region ?_
    refine l_val (v := .bool (decide (((k : Nat) : Int) < (((pairsA l).length : Nat) : Int)))) rfl rfl rfl (e_lss (a := ((k : Nat) : Int)) (b := (((pairsA l).length : Nat) : Int)) rfl rfl) ?_
    refine l_nil ?_
    refine f_then ?_
    refine c_seq ?_
    refine c_if (((k : Nat) : Int) < (((pairsA l).length : Nat) : Int)) rfl (fun hc4 => ?_) (fun hc4 => ?_)
    ·
      refine c_skip ?_
      refine f_then ?_
      refine c_seq ?_
      refine c_block ?_
      refine c_seq ?_
      refine c_region ?_
      refine l_val (v := .pointer (some ((ba p2).add (k * 2)))) rfl rfl rfl (e_indexFlN 0 (F := PairF) (j := k) (m := (pairsA l).length) (xs := (pairsA l)) rfl rfl rfl tp17 (by omega) rfl) ?_
      obtain ⟨x5, hx6⟩ : ∃ x_, (pairsA l)[k]? = some x_ := ⟨_, List.getElem?_eq_getElem (by omega)⟩
      refine l_val (v := .agg #[Ix (x5.a), Ix (x5.b)]) rfl rfl rfl (e_load tp18 (cs := [Ix (x5.a), Ix (x5.b)]) rfl (k_flAt 0 (F := PairF) rfl hx6) rfl) ?_
      refine l_mv rfl rfl rfl (m_alloc tu32) ?_
      rintro _ _ ⟨b7, rfl, rfl⟩
      refine l_mu rfl rfl (m_store 0 tp18 (b := b7) (o := 0) (T := 57) (cs := #[.int .i64 (0), .int .i64 (0)]) (cs' := #[Ix (x5.a), Ix (x5.b)]) (v := .agg #[Ix (x5.a), Ix (x5.b)]) rfl rfl rfl rfl rfl rfl rfl) ?_
      refine l_nil ?_
      refine f_then ?_
      refine c_seq ?_
      obtain ⟨i, j, A, B, hij, hjl, hqa, hqb, hpE, htt⟩ := pairs_two (List.mem_of_getElem? hx6)
      have hil : i < l.length := by omega
      have hoA := (hrok A (List.mem_of_getElem? hqa)).1
      have hoB := (hrok B (List.mem_of_getElem? hqb)).1
      rw [hpE]
      refine c_re (L' := [pt b7 (.cells #[Nx (i), Nx (j)] 57), rowF PairF 57 p2 c3 (pairsA l), rowF PoF 50 tp tc ys]) rfl ?_
      obtain ⟨x8, hx9⟩ : ∃ x_, (l)[i]? = some x_ := ⟨_, List.getElem?_eq_getElem (by omega)⟩
      obtain ⟨ha10, cs11, hc12, rfl⟩ := ve _ _ hx9
      obtain ⟨x14, hx15⟩ : ∃ x_, (l)[j]? = some x_ := ⟨_, List.getElem?_eq_getElem (by omega)⟩
      obtain ⟨ha16, cs17, hc18, rfl⟩ := ve _ _ hx15
      refine c_any [⟨[], [], [0], [26], fun f => f 26 = .slice va (l.length) (vc)⟩, ⟨[], [], [1], [27], fun f => f 27 = .pointer (some ⟨b7, 0, none⟩)⟩, ⟨[1], [1], [], [28], fun f => f 28 = Nx (i)⟩, ⟨[0, 1, 2], [0, 2], [], [29], fun f => f 29 = .pointer (some ((ba va).add (i * 4)))⟩, ⟨[0, 1, 2, 3], [3], [], [30], fun f => f 30 = .agg (aC x8)⟩, ⟨[], [], [0], [31], fun f => f 31 = .slice va (l.length) (vc)⟩, ⟨[], [], [1], [32], fun f => f 32 = .pointer (some ⟨b7, 1, none⟩)⟩, ⟨[6], [6], [], [33], fun f => f 33 = Nx (j)⟩, ⟨[5, 6, 7], [5, 7], [], [34], fun f => f 34 = .pointer (some ((ba va).add (j * 4)))⟩, ⟨[5, 6, 7, 8], [8], [], [35], fun f => f 35 = .agg (aC x14)⟩, ⟨[0, 1, 2, 3, 4, 5, 6, 7, 8, 9], [4, 9], [], [36], fun f => f 36 = .tuple #[.agg (aC (comR x8 x14)), .bool (decide (meetA x8 x14))]⟩, ⟨[0, 1, 2, 3, 4, 5, 6, 7, 8, 9, 10], [10], [], [25], fun f => f 25 = .tuple #[.agg (aC (comR x8 x14)), .bool (decide (meetA x8 x14))]⟩, ⟨[0, 1, 2, 3, 4, 5, 6, 7, 8, 9, 10, 11], [11], [], [37], fun f => f 37 = .agg (aC (comR x8 x14))⟩, ⟨[0, 1, 2, 3, 4, 5, 6, 7, 8, 9, 10, 11], [11], [], [38], fun f => f 38 = .bool (decide (meetA x8 x14))⟩, ⟨[], [], [], [9], fun f => f 9 = .pointer (some ⟨(blk (f 9)), 0, none⟩)⟩, ⟨[0, 1, 2, 3, 4, 5, 6, 7, 8, 9, 10, 11, 12, 14], [14, 12], [], [], fun _ => True⟩, ⟨[0, 1, 2, 3, 4, 5, 6, 7, 8, 9, 10, 11, 12, 13, 14, 15], [13], [], [10], fun f => f 10 = .bool (decide (meetA x8 x14))⟩] [⟨none, none, [2, 7], [], fun _ => pt b7 (.cells #[Nx (i), Nx (j)] 57)⟩, ⟨none, none, [], [], fun _ => rowF PairF 57 p2 c3 (pairsA l)⟩, ⟨none, none, [], [], fun _ => rowF PoF 50 tp tc ys⟩, ⟨(some 14), (some 15), [15], [9], fun f => pt (blk (f 9)) (.cells #[.int .i64 (0), .int .i64 (0), .int .i64 (0), .int .i64 (0)] 29)⟩, ⟨(some 15), none, [], [9], fun f => pt (blk (f 9)) (.cells (aC (comR x8 x14)) 29)⟩] [(0, .slice va (l.length) (vc)), (8, .pointer (some ⟨b7, 0, none⟩)), (4, .slice tp (ys.length) tc), (19, .slice p2 ((pairsA l).length) c3), (20, Nx ((pairsA l).length)), (21, Nx (k))] [0, 2, 1, 3, 4, 5] [] (by kernel_rfl) (by kernel_rfl) (by kernel_rfl) (by kernel_rfl) rfl ⟨rfl, rfl, rfl, rfl, rfl, rfl, trivial⟩ ⟨?_, ?_, ?_, ?_, ?_, ?_, ?_, ?_, ?_, ?_, ?_, ?_, ?_, ?_, ?_, ?_, ?_, trivial⟩ ?_
      · rintro f M - ⟨i0, -⟩
        have hs0 : f 0 = .slice va (l.length) (vc) := i0
        refine ob_start (L' := M) (by rfl) (up_cons rfl hs0) ?_
        refine l_val (v := .slice va (l.length) (vc)) rfl rfl rfl (e_move) ?_
        refine l_nil ?_
        exact f_owes_d (up_cons rfl hs0) rfl (List.Perm.refl _)
      · rintro f M - ⟨i0, -⟩
        have hs8 : f 8 = .pointer (some ⟨b7, 0, none⟩) := i0
        refine ob_start (L' := M) (by rfl) (up_cons rfl hs8) ?_
        refine l_val (v := .pointer (some ⟨b7, 0, none⟩)) rfl rfl rfl (e_fieldPt (b := b7) (o := 0) rfl tu21) ?_
        refine l_nil ?_
        exact f_owes_d (up_cons rfl hs8) rfl (List.Perm.refl _)
      · rintro f M ⟨k0, -⟩ -
        have hs27 : f 27 = .pointer (some ⟨b7, 0, none⟩) := k0
        refine ob_start (L' := pt b7 (.cells #[Nx (i), Nx (j)] 57) :: M) (by rfl) (up_cons rfl hs27) ?_
        refine l_val (v := Nx (i)) rfl rfl rfl (e_load1 tp2 (v := Nx (i)) rfl (k_pt 0 (cs := #[Nx (i), Nx (j)]) (vs := [Nx (i)]) rfl rfl)) ?_
        refine l_nil ?_
        exact f_owes_d (up_cons rfl hs27) rfl (perm_front 0 rfl)
      · rintro f M ⟨k0, k1, -⟩ -
        have hs26 : f 26 = .slice va (l.length) (vc) := k0
        have hs28 : f 28 = Nx (i) := k1
        refine ob_start (L' := M) (by rfl) (up_cons (up_cons rfl hs26) hs28) ?_
        refine l_val (v := .pointer (some ((ba va).add (i * 4)))) rfl rfl rfl (e_indexAddr (k := i) (len := l.length) (cap := vc) (a := va) rfl rfl tp14 (by omega) ha10) ?_
        refine l_nil ?_
        exact f_owes_d (up_cons (up_cons rfl hs26) hs28) rfl (List.Perm.refl _)
      · rintro f M ⟨k0, -⟩ -
        have hs29 : f 29 = .pointer (some ((ba va).add (i * 4))) := k0
        refine ob_start (L' := M) (by rfl) (up_cons rfl hs29) ?_
        refine l_val (v := .agg (aC x8)) rfl rfl rfl (e_load tp10 (cs := (areaE x8)) rfl (Knows.of_base (Cs.mono _ _) hc12) rfl) ?_
        refine l_nil ?_
        exact f_owes_d (up_cons rfl hs29) rfl (List.Perm.refl _)
      · rintro f M - ⟨i0, -⟩
        have hs0 : f 0 = .slice va (l.length) (vc) := i0
        refine ob_start (L' := M) (by rfl) (up_cons rfl hs0) ?_
        refine l_val (v := .slice va (l.length) (vc)) rfl rfl rfl (e_move) ?_
        refine l_nil ?_
        exact f_owes_d (up_cons rfl hs0) rfl (List.Perm.refl _)
      · rintro f M - ⟨i0, -⟩
        have hs8 : f 8 = .pointer (some ⟨b7, 0, none⟩) := i0
        refine ob_start (L' := M) (by rfl) (up_cons rfl hs8) ?_
        refine l_val (v := .pointer (some ⟨b7, 1, none⟩)) rfl rfl rfl (e_fieldPt (b := b7) (o := 0) rfl tu22) ?_
        refine l_nil ?_
        exact f_owes_d (up_cons rfl hs8) rfl (List.Perm.refl _)
      · rintro f M ⟨k0, -⟩ -
        have hs32 : f 32 = .pointer (some ⟨b7, 1, none⟩) := k0
        refine ob_start (L' := pt b7 (.cells #[Nx (i), Nx (j)] 57) :: M) (by rfl) (up_cons rfl hs32) ?_
        refine l_val (v := Nx (j)) rfl rfl rfl (e_load1 tp2 (v := Nx (j)) rfl (k_pt 0 (cs := #[Nx (i), Nx (j)]) (vs := [Nx (j)]) rfl rfl)) ?_
        refine l_nil ?_
        exact f_owes_d (up_cons rfl hs32) rfl (perm_front 0 rfl)
      · rintro f M ⟨k0, k1, -⟩ -
        have hs31 : f 31 = .slice va (l.length) (vc) := k0
        have hs33 : f 33 = Nx (j) := k1
        refine ob_start (L' := M) (by rfl) (up_cons (up_cons rfl hs31) hs33) ?_
        refine l_val (v := .pointer (some ((ba va).add (j * 4)))) rfl rfl rfl (e_indexAddr (k := j) (len := l.length) (cap := vc) (a := va) rfl rfl tp14 (by omega) ha16) ?_
        refine l_nil ?_
        exact f_owes_d (up_cons (up_cons rfl hs31) hs33) rfl (List.Perm.refl _)
      · rintro f M ⟨k0, -⟩ -
        have hs34 : f 34 = .pointer (some ((ba va).add (j * 4))) := k0
        refine ob_start (L' := M) (by rfl) (up_cons rfl hs34) ?_
        refine l_val (v := .agg (aC x14)) rfl rfl rfl (e_load tp10 (cs := (areaE x14)) rfl (Knows.of_base (Cs.mono _ _) hc18) rfl) ?_
        refine l_nil ?_
        exact f_owes_d (up_cons rfl hs34) rfl (List.Perm.refl _)
      · rintro f M ⟨k0, k1, -⟩ -
        have hs30 : f 30 = .agg (aC x8) := k0
        have hs35 : f 35 = .agg (aC x14) := k1
        refine ob_start (L' := M) (by rfl) (up_cons (up_cons rfl hs30) hs35) ?_
        refine l_call rfl rfl rfl (cl_value (fst := []) (cap := []) (vs := [.agg (aC x8), .agg (aC x14)]) (all := [.agg (aC x8), .agg (aC x14)]) tu23 rfl rfl rfl) ?_
        intro w hw
        obtain ⟨β1, sb, kn, hw1, back⟩ := St.frame_all hw
        refine (commonR_ok β1 w hw1 x8 x14).mono ?_
        rintro e w' ⟨rfl, hw'⟩
        refine ⟨_, rfl, _, back _ _ hw', ?_⟩
        clear hw hw1 hw' back kn sb
        refine l_nil ?_
        exact f_owes_d (up_cons (up_cons rfl hs30) hs35) rfl (List.Perm.refl _)
      · rintro f M ⟨k0, -⟩ -
        have hs36 : f 36 = .tuple #[.agg (aC (comR x8 x14)), .bool (decide (meetA x8 x14))] := k0
        refine ob_start (L' := M) (by rfl) (up_cons rfl hs36) ?_
        refine l_val (v := .tuple #[.agg (aC (comR x8 x14)), .bool (decide (meetA x8 x14))]) rfl rfl rfl (e_move) ?_
        refine l_nil ?_
        exact f_owes_d (up_cons rfl hs36) rfl (List.Perm.refl _)
      · rintro f M ⟨k0, -⟩ -
        have hs25 : f 25 = .tuple #[.agg (aC (comR x8 x14)), .bool (decide (meetA x8 x14))] := k0
        refine ob_start (L' := M) (by rfl) (up_cons rfl hs25) ?_
        refine l_val (v := .agg (aC (comR x8 x14))) rfl rfl rfl (e_extract (vs := #[.agg (aC (comR x8 x14)), .bool (decide (meetA x8 x14))]) rfl rfl) ?_
        refine l_nil ?_
        exact f_owes_d (up_cons rfl hs25) rfl (List.Perm.refl _)
      · rintro f M ⟨k0, -⟩ -
        have hs25 : f 25 = .tuple #[.agg (aC (comR x8 x14)), .bool (decide (meetA x8 x14))] := k0
        refine ob_start (L' := M) (by rfl) (up_cons rfl hs25) ?_
        refine l_val (v := .bool (decide (meetA x8 x14))) rfl rfl rfl (e_extract (vs := #[.agg (aC (comR x8 x14)), .bool (decide (meetA x8 x14))]) rfl rfl) ?_
        refine l_nil ?_
        exact f_owes_d (up_cons rfl hs25) rfl (List.Perm.refl _)
      · rintro f M - -
        refine ob_start (L' := M) (by rfl) rfl ?_
        refine l_mv rfl rfl rfl (m_alloc tp8) ?_
        rintro _ _ ⟨b21, rfl, rfl⟩
        refine l_nil ?_
        exact f_owes_d rfl rfl (perm_front 0 rfl)
      · rintro f M ⟨k0, k1, -⟩ -
        have hs9 : f 9 = .pointer (some ⟨(blk (f 9)), 0, none⟩) := k0
        have hs37 : f 37 = .agg (aC (comR x8 x14)) := k1
        refine ob_start (L' := pt (blk (f 9)) (.cells #[.int .i64 (0), .int .i64 (0), .int .i64 (0), .int .i64 (0)] 29) :: M) (by rfl) (up_cons (up_cons rfl hs9) hs37) ?_
        refine l_mu rfl rfl (m_store 0 tp10 (b := (blk (f 9))) (o := 0) (T := 29) (cs := #[.int .i64 (0), .int .i64 (0), .int .i64 (0), .int .i64 (0)]) (cs' := (aC (comR x8 x14))) (v := .agg (aC (comR x8 x14))) rfl rfl rfl rfl rfl rfl rfl) ?_
        refine l_nil ?_
        exact f_owes_n (up_cons (up_cons rfl hs9) hs37) trivial (perm_front 0 rfl)
      · rintro f M ⟨k0, -⟩ -
        have hs38 : f 38 = .bool (decide (meetA x8 x14)) := k0
        refine ob_start (L' := M) (by rfl) (up_cons rfl hs38) ?_
        refine l_val (v := .bool (decide (meetA x8 x14))) rfl rfl rfl (e_assign) ?_
        refine l_nil ?_
        exact f_owes_d (up_cons rfl hs38) rfl (List.Perm.refl _)
      rintro fa22 ⟨-, -, -, -, -, -, -, -, -, -, -, -, -, -, k14, -, -, -⟩ ⟨j0, j1, j2, j3, j4, j5, -⟩
      refine f_re (L' := [pt b7 (.cells #[Nx (i), Nx (j)] 57), rowF PairF 57 p2 c3 (pairsA l), rowF PoF 50 tp tc ys, pt (blk (fa22 9)) (.cells (aC (comR x8 x14)) 29)]) (by rfl) ?_
      refine f_rebase (d := 0) (v := .slice va (l.length) (vc)) j0 ?_
      refine f_rebase (d := 4) (v := .slice tp (ys.length) tc) j1 ?_
      refine f_rebase (d := 8) (v := .pointer (some ⟨b7, 0, none⟩)) j2 ?_
      refine f_rebase (d := 9) (v := .pointer (some ⟨(blk (fa22 9)), 0, none⟩)) k14 ?_
      refine f_rebase (d := 19) (v := .slice p2 ((pairsA l).length) c3) j3 ?_
      refine f_rebase (d := 20) (v := Nx ((pairsA l).length)) j4 ?_
      refine f_rebase (d := 21) (v := Nx (k)) j5 ?_
      refine f_then ?_
      refine c_seq ?_
      have hxA : x8 = A := Option.some.inj (hx9.symm.trans hqa)
      have hyB : x14 = B := Option.some.inj (hx15.symm.trans hqb)
      rw [hxA, hyB, comR_touch hoA hoB htt]
      refine c_re (L' := [pt b7 (.cells #[Nx (i), Nx (j)] 57), rowF PairF 57 p2 c3 (pairsA l), rowF PoF 50 tp tc ys, pt (blk (fa22 9)) (.cells (aC (comA A B)) 29)]) rfl ?_
      obtain ⟨hcb1, hcb2, hcb3, hcb4, hcb5, hcb6, hcb7, hcb8⟩ := com_bd hoA hoB
      refine c_region ?_
      refine l_val (v := .pointer (some ⟨(blk (fa22 9)), 0, none⟩)) rfl rfl rfl (e_fieldPt (b := (blk (fa22 9))) (o := 0) rfl tp0) ?_
      refine l_val (v := .agg #[Ix ((comA A B).lx), Ix ((comA A B).ly)]) rfl rfl rfl (e_load tp7 (cs := [Ix ((comA A B).lx), Ix ((comA A B).ly)]) rfl (k_pt 3 (cs := (aC (comA A B))) (vs := [Ix ((comA A B).lx), Ix ((comA A B).ly)]) rfl rfl) rfl) ?_
      refine l_val (v := .pointer (some ⟨(blk (fa22 9)), 2, none⟩)) rfl rfl rfl (e_fieldPt (b := (blk (fa22 9))) (o := 0) rfl tp3) ?_
      refine l_val (v := .agg #[Ix ((comA A B).hx), Ix ((comA A B).hy)]) rfl rfl rfl (e_load tp7 (cs := [Ix ((comA A B).hx), Ix ((comA A B).hy)]) rfl (k_pt 3 (cs := (aC (comA A B))) (vs := [Ix ((comA A B).hx), Ix ((comA A B).hy)]) rfl rfl) rfl) ?_
      refine l_val (v := .bool (decide (¬ (((comA A B).lx) = ((comA A B).hx) ∧ ((comA A B).ly) = ((comA A B).hy))))) rfl rfl rfl (e_neq_t (xs := [Ix ((comA A B).lx), Ix ((comA A B).ly)]) (ys := [Ix ((comA A B).hx), Ix ((comA A B).hy)]) tu33 tu34 tu35 rfl rfl rfl rfl (not_congr vec_eq)) ?_
      refine l_nil ?_
      refine f_then ?_
      refine c_if (¬ (((comA A B).lx) = ((comA A B).hx) ∧ ((comA A B).ly) = ((comA A B).hy))) rfl (fun hc23 => ?_) (fun hc23 => ?_)
      ·
        refine c_region ?_
        refine l_val (v := .slice tp (ys.length) tc) rfl rfl rfl (e_move) ?_
        refine l_val (v := .pointer (some ⟨b7, 0, none⟩)) rfl rfl rfl (e_fieldPt (b := b7) (o := 0) rfl tu21) ?_
        refine l_val (v := Nx (i)) rfl rfl rfl (e_load1 tp2 (v := Nx (i)) rfl (k_pt 0 (cs := #[Nx (i), Nx (j)]) (vs := [Nx (i)]) rfl rfl)) ?_
        refine l_val (v := .pointer (some ⟨b7, 1, none⟩)) rfl rfl rfl (e_fieldPt (b := b7) (o := 0) rfl tu22) ?_
        refine l_val (v := Nx (j)) rfl rfl rfl (e_load1 tp2 (v := Nx (j)) rfl (k_pt 0 (cs := #[Nx (i), Nx (j)]) (vs := [Nx (j)]) rfl rfl)) ?_
        refine l_val (v := .pointer (some ⟨(blk (fa22 9)), 0, none⟩)) rfl rfl rfl (e_fieldPt (b := (blk (fa22 9))) (o := 0) rfl tp0) ?_
        refine l_val (v := .pointer (some ⟨(blk (fa22 9)), 0, none⟩)) rfl rfl rfl (e_fieldPt (b := (blk (fa22 9))) (o := 0) rfl tp1) ?_
        refine l_val (v := Ix ((comA A B).lx)) rfl rfl rfl (e_load1 tp2 (v := Ix ((comA A B).lx)) rfl (k_pt 3 (cs := (aC (comA A B))) (vs := [Ix ((comA A B).lx)]) rfl rfl)) ?_
        refine l_val (v := .pointer (some ⟨(blk (fa22 9)), 2, none⟩)) rfl rfl rfl (e_fieldPt (b := (blk (fa22 9))) (o := 0) rfl tp3) ?_
        refine l_val (v := .pointer (some ⟨(blk (fa22 9)), 2, none⟩)) rfl rfl rfl (e_fieldPt (b := (blk (fa22 9))) (o := 2) rfl tp1) ?_
        refine l_val (v := Ix ((comA A B).hx)) rfl rfl rfl (e_load1 tp2 (v := Ix ((comA A B).hx)) rfl (k_pt 3 (cs := (aC (comA A B))) (vs := [Ix ((comA A B).hx)]) rfl rfl)) ?_
        refine l_val (v := Ix (((comA A B).lx) + ((comA A B).hx))) rfl rfl rfl (e_add (a := ((comA A B).lx)) (b := ((comA A B).hx)) rfl rfl (i64w (by omega))) ?_
        refine l_val (v := Ix ((((comA A B).lx) + ((comA A B).hx)) / 2)) rfl rfl rfl (e_shr (a := (((comA A B).lx) + ((comA A B).hx))) (b := (1 : Int)) rfl rfl (by decide) (i64_shr1 _)) ?_
        refine l_val (v := .pointer (some ⟨(blk (fa22 9)), 0, none⟩)) rfl rfl rfl (e_fieldPt (b := (blk (fa22 9))) (o := 0) rfl tp0) ?_
        refine l_val (v := .pointer (some ⟨(blk (fa22 9)), 1, none⟩)) rfl rfl rfl (e_fieldPt (b := (blk (fa22 9))) (o := 0) rfl tp4) ?_
        refine l_val (v := Ix ((comA A B).ly)) rfl rfl rfl (e_load1 tp2 (v := Ix ((comA A B).ly)) rfl (k_pt 3 (cs := (aC (comA A B))) (vs := [Ix ((comA A B).ly)]) rfl rfl)) ?_
        refine l_val (v := .pointer (some ⟨(blk (fa22 9)), 2, none⟩)) rfl rfl rfl (e_fieldPt (b := (blk (fa22 9))) (o := 0) rfl tp3) ?_
        refine l_val (v := .pointer (some ⟨(blk (fa22 9)), 3, none⟩)) rfl rfl rfl (e_fieldPt (b := (blk (fa22 9))) (o := 2) rfl tp4) ?_
        refine l_val (v := Ix ((comA A B).hy)) rfl rfl rfl (e_load1 tp2 (v := Ix ((comA A B).hy)) rfl (k_pt 3 (cs := (aC (comA A B))) (vs := [Ix ((comA A B).hy)]) rfl rfl)) ?_
        refine l_val (v := Ix (((comA A B).ly) + ((comA A B).hy))) rfl rfl rfl (e_add (a := ((comA A B).ly)) (b := ((comA A B).hy)) rfl rfl (i64w (by omega))) ?_
        refine l_val (v := Ix ((((comA A B).ly) + ((comA A B).hy)) / 2)) rfl rfl rfl (e_shr (a := (((comA A B).ly) + ((comA A B).hy))) (b := (1 : Int)) rfl rfl (by decide) (i64_shr1 _)) ?_
        refine l_val (v := .agg #[Ix ((((comA A B).lx) + ((comA A B).hx)) / 2), Ix ((((comA A B).ly) + ((comA A B).hy)) / 2)]) rfl rfl rfl (e_build tp5 tp6 (vs := [(0, Ix ((((comA A B).lx) + ((comA A B).hx)) / 2)), (1, Ix ((((comA A B).ly) + ((comA A B).hy)) / 2))]) (cells := #[Ix ((((comA A B).lx) + ((comA A B).hx)) / 2), Ix ((((comA A B).ly) + ((comA A B).hy)) / 2)]) rfl rfl) ?_
        refine l_val (v := .agg #[Nx (i), Nx (j), Ix ((((comA A B).lx) + ((comA A B).hx)) / 2), Ix ((((comA A B).ly) + ((comA A B).hy)) / 2)]) rfl rfl rfl (e_build tu37 tu36 (vs := [(0, Nx (i)), (1, Nx (j)), (2, .agg #[Ix ((((comA A B).lx) + ((comA A B).hx)) / 2), Ix ((((comA A B).ly) + ((comA A B).hy)) / 2)])]) (cells := #[Nx (i), Nx (j), Ix ((((comA A B).lx) + ((comA A B).hx)) / 2), Ix ((((comA A B).ly) + ((comA A B).hy)) / 2)]) rfl rfl) ?_
        refine l_mv rfl rfl rfl (m_slices tu38 tu37 (vs := [(0, .agg #[Nx (i), Nx (j), Ix ((((comA A B).lx) + ((comA A B).hx)) / 2), Ix ((((comA A B).ly) + ((comA A B).hy)) / 2)])]) (cells := #[Nx (i), Nx (j), Ix ((((comA A B).lx) + ((comA A B).hx)) / 2), Ix ((((comA A B).ly) + ((comA A B).hy)) / 2)]) rfl rfl rfl rfl) ?_
        rintro _ _ ⟨b24, rfl, rfl⟩
        refine l_mv rfl rfl rfl (m_appendFlN (F := PoF) 3 tu38 tu39 (p := tp) (m := ys.length) (xs := ys) (ys := [(⟨i, j, (((comA A B).lx) + ((comA A B).hx)) / 2, (((comA A B).ly) + ((comA A B).hy)) / 2⟩ : KO)]) (ao := (some ⟨b24, 0, none⟩)) (k := 1) (c := 1) rfl rfl rfl rfl rfl (k_ptFl (z := (⟨i, j, (((comA A B).lx) + ((comA A B).hx)) / 2, (((comA A B).ly) + ((comA A B).hy)) / 2⟩ : KO)) 0 rfl rfl) (by first | omega | simp only [List.length_nil, List.length_cons, List.length_append, List.length_set]; omega) (by first | omega | simp only [List.length_nil, List.length_cons, List.length_append, List.length_set]; omega)) ?_
        rintro _ _ ⟨rp25, rc26, rfl, rfl⟩
        refine l_val (v := .slice rp25 ((ys ++ [(⟨i, j, (((comA A B).lx) + ((comA A B).hx)) / 2, (((comA A B).ly) + ((comA A B).hy)) / 2⟩ : KO)]).length) rc26) rfl rfl rfl (e_assign) ?_
        refine l_nil ?_
        refine f_block ?_
        refine f_then ?_
        refine c_region ?_
        refine l_val (v := Nx (k + 1)) rfl rfl rfl (e_add (a := ((k : Nat) : Int)) (b := (1 : Int)) rfl rfl (i64n (by omega) (by omega))) ?_
        refine l_val (v := Nx (k + 1)) rfl rfl rfl (e_move) ?_
        refine l_nil ?_
        refine f_mask (L' := [rowF PairF 57 p2 c3 (pairsA l), rowF PoF 50 rp25 rc26 (ys ++ [(⟨i, j, (((comA A B).lx) + ((comA A B).hx)) / 2, (((comA A B).ly) + ((comA A B).hy)) / 2⟩ : KO)])]) [false, false, true, true, false] rfl ?_
        exact f_cut ⟨(k + 1, (ys ++ [(⟨i, j, (((comA A B).lx) + ((comA A B).hx)) / 2, (((comA A B).ly) + ((comA A B).hy)) / 2⟩ : KO)]), rp25, rc26), ⟨⟨rfl, rfl, rfl, rfl, rfl⟩, rfl, ⟨by omega, by rw [hys, port_next hx6, port_yes hpE hqa hqb htt (by have q := hc23; simpa using q)]; rfl⟩⟩, (show (pairsA l).length - (k + 1) < (pairsA l).length - k from by omega)⟩
      ·
        refine c_skip ?_
        refine f_block ?_
        refine f_then ?_
        refine c_region ?_
        refine l_val (v := Nx (k + 1)) rfl rfl rfl (e_add (a := ((k : Nat) : Int)) (b := (1 : Int)) rfl rfl (i64n (by omega) (by omega))) ?_
        refine l_val (v := Nx (k + 1)) rfl rfl rfl (e_move) ?_
        refine l_nil ?_
        refine f_mask (L' := [rowF PairF 57 p2 c3 (pairsA l), rowF PoF 50 tp tc ys]) [false, true, true, false] rfl ?_
        exact f_cut ⟨(k + 1, ys, tp, tc), ⟨⟨rfl, rfl, rfl, rfl, rfl⟩, rfl, ⟨by omega, by rw [hys, port_next hx6, port_no hpE hqa hqb (by have q := hc23; simpa using q)]; rw [Option.toList_none, List.append_nil]⟩⟩, (show (pairsA l).length - (k + 1) < (pairsA l).length - k from by omega)⟩
    ·
      refine c_exit ?_
      refine f_then_exit ?_
      refine f_then_exit ?_
      refine f_exit ?_
      refine f_then ?_
      refine c_seq ?_
      refine c_region ?_
      refine l_val (v := .slice tp (ys.length) tc) rfl rfl rfl (e_move) ?_
      refine l_val (v := .slice tp (ys.length) tc) rfl rfl rfl (e_assign) ?_
      refine l_val (v := .int .i64 (0)) rfl rfl rfl (e_assign) ?_
      refine l_nil ?_
      refine f_then ?_
      refine c_ret ?_
      refine ret2 (v := .slice tp (ys.length) tc) (v' := .int .i64 (0)) Tryz.results7 rfl rfl ?_
      intro w hw
      rw [List.take_of_length_le (by omega)] at hys
      have hys : ys = portL l := hys
      exact ⟨tp, tc, by rw [portX_ok hM, errM_ok hM, ← hys] <;> rfl, by rw [portX_ok hM, ← hys]; exact st_mask [false, true] rfl hw⟩
set_option maxHeartbeats 4000000 in
theorem search_ok (β : Base) (w : World) (hw : St β [] w) (fn : Value) (n : Nat) (hn : n ≤ 1073741824) (p : Nat → Bool) (hm : ∀ i j, i ≤ j → j < n → p i = true → p j = true) (t : Nat) (ht1 : t ≤ n) (ht2 : ∀ j, j < t → p j = false) (ht3 : t < n → p t = true) (hfn : FnV Tryz.prog β fn (fun z : Nat => [Nx z]) (· < n) (fun z => .bool (p z))) : Calls Tryz.prog 33 #[Nx n, fn] w fun r w' => r = .returned (Nx t) ∧ St β [] w' := by
  obtain ⟨gg, fst, cap, rfl, hcf, hf⟩ := hfn
  refine enter (n := 26) Tryz.func33 rfl Tryz.ntmps33 rfl ?_ hw
  refine c_seq ?_
  refine c_region ?_
  refine l_val (v := .int .i64 (0)) rfl rfl rfl (e_assign) ?_
  refine l_nil ?_
  refine f_then ?_
  refine c_seq ?_
  refine c_region ?_
  refine l_val (v := Nx (n)) rfl rfl rfl (e_move) ?_
  refine l_val (v := .int .i64 (0)) rfl rfl rfl (e_assign) ?_
  refine l_val (v := Nx (n)) rfl rfl rfl (e_assign) ?_
  refine l_nil ?_
  refine f_then ?_
  refine c_seq ?_
  refine c_block ?_
  refine c_loop (fun (x_ : Nat × Nat) (f : Fm) (L : List Res) => match x_ with | (i, j) => (f 1 = .func (.func gg) fst.toArray cap.toArray ∧ f 5 = Nx (i) ∧ f 6 = Nx (j)) ∧ L = [] ∧ (i ≤ j ∧ j ≤ n ∧ (∀ t, t < i → p t = false) ∧ (j < n → p j = true))) (fun (x_ : Nat × Nat) => match x_ with | (i, j) => j - i) (0, n) ?_ ?_
  · exact ⟨⟨rfl, rfl, rfl⟩, rfl, ⟨by omega, by omega, fun t ht => by omega, fun h => by omega⟩⟩
  rintro ⟨i, j⟩ f0 L0 ⟨⟨hs1, hs5, hs6⟩, hL, ⟨h1, h2, hp1, hp2⟩⟩
  subst L0
  refine rebase (d := 1) hs1 ?_
  refine rebase (d := 5) hs5 ?_
  refine rebase (d := 6) hs6 ?_
  clear hs1 hs5 hs6
  obtain ⟨h, hh⟩ : ∃ h, h = (U (((i + j : Nat)) : Int) >>> (1 : UInt64)).toNat := ⟨_, rfl⟩
  have hh2 := half_toNat (m := i + j) (by omega)
  refine c_seq ?_
  refine c_seq ?_
  refine c_region ?_
  refine l_val (v := Nx (i)) rfl rfl rfl (e_move) ?_
  refine l_val (v := Nx (j)) rfl rfl rfl (e_move) ?_
  refine l_val (v := .bool (decide (((i : Nat) : Int) < ((j : Nat) : Int)))) rfl rfl rfl (e_lss (a := ((i : Nat) : Int)) (b := ((j : Nat) : Int)) rfl rfl) ?_
  refine l_nil ?_
  refine f_then ?_
  refine c_if (((i : Nat) : Int) < ((j : Nat) : Int)) rfl (fun hc1 => ?_) (fun hc1 => ?_)
  ·
    refine c_skip ?_
    refine f_then ?_
    refine c_block ?_
    refine c_seq ?_
    refine c_region ?_
    refine l_val (v := Nx (i)) rfl rfl rfl (e_move) ?_
    refine l_val (v := Nx (j)) rfl rfl rfl (e_move) ?_
    refine l_val (v := Nx (i + j)) rfl rfl rfl (e_add (a := ((i : Nat) : Int)) (b := ((j : Nat) : Int)) rfl rfl (i64n (by omega) (by omega))) ?_
    refine l_val (v := Ux (U ((i + j : Nat) : Int))) rfl rfl rfl (e_conv (a := ((i + j : Nat) : Int)) rfl ⟨_, tu40⟩ tu41 (ux_of _)) ?_
    refine l_val (v := Ux ((U ((i + j : Nat) : Int)) >>> (1 : UInt64))) rfl rfl rfl (e_shr (a := ((U ((i + j : Nat) : Int)).toNat : Int)) (b := ((1 : Nat) : Int)) rfl rfl (by decide) (ux_shr _ 1 (by decide))) ?_
    refine l_val (v := Nx (h)) rfl rfl rfl (e_conv (a := (((U ((i + j : Nat) : Int)) >>> (1 : UInt64)).toNat : Int)) rfl ⟨_, tu41⟩ tu40 (i64n (by rw [hh]) (by omega))) ?_
    refine l_val (v := Nx (h)) rfl rfl rfl (e_assign) ?_
    refine l_nil ?_
    refine f_then ?_
    refine c_seq ?_
    refine c_region ?_
    refine l_val (v := .func (.func gg) fst.toArray cap.toArray) rfl rfl rfl (e_move) ?_
    refine l_val (v := Nx (h)) rfl rfl rfl (e_move) ?_
    refine l_call rfl rfl rfl (cl_value (fst := fst) (cap := cap) (vs := [Nx (h)]) (all := fst ++ [Nx (h)] ++ cap) hcf rfl rfl rfl) ?_
    intro w hw
    obtain ⟨β1, sb, kn, hw1, back⟩ := St.frame_all hw
    refine (hf β1 sb h (by omega) w hw1).mono ?_
    rintro e w' ⟨rfl, hw'⟩
    refine ⟨_, rfl, _, back _ _ hw', ?_⟩
    clear hw hw1 hw' back kn sb
    refine l_val (v := .bool (!(p h))) rfl rfl rfl (e_not rfl) ?_
    refine l_nil ?_
    refine f_then ?_
    refine c_ifb (!(p h)) rfl (fun hc2 => ?_) (fun hc2 => ?_)
    ·
      refine c_region ?_
      refine l_val (v := Nx (h)) rfl rfl rfl (e_move) ?_
      refine l_val (v := Nx (h + 1)) rfl rfl rfl (e_add (a := ((h : Nat) : Int)) (b := (1 : Int)) rfl rfl (i64n (by omega) (by omega))) ?_
      refine l_val (v := Nx (h + 1)) rfl rfl rfl (e_assign) ?_
      refine l_nil ?_
      refine f_block ?_
      exact f_cut ⟨(h + 1, j), ⟨⟨rfl, rfl, rfl⟩, rfl, ⟨by omega, by omega, fun t ht => by cases hq : p t with | false => rfl | true => exact absurd (hm t h (by omega) (by omega) hq) (by have q := hc2; simp_all), hp2⟩⟩, (show j - (h + 1) < j - i from by omega)⟩
    ·
      refine c_region ?_
      refine l_val (v := Nx (h)) rfl rfl rfl (e_move) ?_
      refine l_val (v := Nx (h)) rfl rfl rfl (e_assign) ?_
      refine l_nil ?_
      refine f_block ?_
      exact f_cut ⟨(i, h), ⟨⟨rfl, rfl, rfl⟩, rfl, ⟨by omega, by omega, hp1, fun _ => by have q := hc2; simp_all⟩⟩, (show h - i < j - i from by omega)⟩
  ·
    refine c_exit ?_
    refine f_then_exit ?_
    refine f_then_exit ?_
    refine f_exit ?_
    refine f_then ?_
    refine c_seq ?_
    refine c_region ?_
    refine l_val (v := Nx (i)) rfl rfl rfl (e_move) ?_
    refine l_val (v := Nx (i)) rfl rfl rfl (e_assign) ?_
    refine l_nil ?_
    refine f_then ?_
    refine c_ret ?_
    refine ret1 Tryz.results33 (v := Nx (i)) rfl ?_
    intro w hw
    exact ⟨congrArg (fun z : Nat => Ending.returned (Nx z)) (search_at (by omega) hp1 (fun hk => by rw [show i = j by omega] at hk ⊢; exact hp2 hk) ht1 ht2 ht3), st_mask [] rfl hw⟩
theorem less1_ok (β : Base) (w : World) (hw : St β [] w) (c d i : Nat) (_hi : i < 268435456) (hii : i * i < 72057594037927936) (_hd : d < 72057594037927936) (hc : Cs β.heap ⟨c, 0, none⟩ [Nx d]) : Calls Tryz.prog 34 #[Nx i, .pointer (some ⟨c, 0, none⟩)] w fun r w' => r = .returned (.bool (decide (d ≤ i * i))) ∧ St β [] w' := by
  refine enter (n := 9) Tryz.func34 rfl Tryz.ntmps34 rfl ?_ hw
  refine c_seq ?_
  refine c_region ?_
  refine l_val (v := .bool false) rfl rfl rfl (e_assign) ?_
  refine l_nil ?_
  refine f_then ?_
  refine c_seq ?_
  refine c_region ?_
  refine l_val (v := Nx (i)) rfl rfl rfl (e_move) ?_
  refine l_val (v := Nx (i)) rfl rfl rfl (e_move) ?_
  refine l_val (v := Nx (i * i)) rfl rfl rfl (e_mul (a := ((i : Nat) : Int)) (b := ((i : Nat) : Int)) rfl rfl (i64n (by simp) (by omega))) ?_
  refine l_val (v := Nx (d)) rfl rfl rfl (e_load1 tp2 (v := Nx (d)) rfl (Knows.of_base (Cs.mono _ _) hc)) ?_
  refine l_val (v := .bool (decide (((d : Nat) : Int) ≤ ((i * i : Nat) : Int)))) rfl rfl rfl (e_geq (a := ((i * i : Nat) : Int)) (b := ((d : Nat) : Int)) rfl rfl) ?_
  refine l_val (v := .bool (decide (((d : Nat) : Int) ≤ ((i * i : Nat) : Int)))) rfl rfl rfl (e_assign) ?_
  refine l_nil ?_
  refine f_then ?_
  refine c_ret ?_
  refine ret1 Tryz.results34 (v := .bool (decide (((d : Nat) : Int) ≤ ((i * i : Nat) : Int)))) rfl ?_
  intro w hw
  exact ⟨congrArg (fun b : Bool => Ending.returned (.bool b)) (decide_eq_decide.2 (by constructor <;> intro q <;> omega)), st_mask [] rfl hw⟩
theorem less1_fn (β : Base) (c d : Nat) (hd : d < 72057594037927936) (hc : Cs β.heap ⟨c, 0, none⟩ [Nx d]) : FnV Tryz.prog β (.func (.func 34) #[] #[.pointer (some ⟨c, 0, none⟩)]) (fun z : Nat => [Nx z]) (· < 268435456) (fun z => .bool (decide (d ≤ z * z))) := by
  refine ⟨34, [], [.pointer (some ⟨c, 0, none⟩)], rfl, by kernel_rfl, fun β₁ sb0 z_ hz_ w hw => ?_⟩
  exact less1_ok β₁ w hw c d z_ hz_ (Nat.mul_lt_mul'' hz_ hz_) hd (Cs.mono _ _ _ _ sb0 hc)
set_option maxHeartbeats 4000000 in
theorem length_ok (β : Base) (w : World) (hw : St β [] w) (a b : KV) : Calls Tryz.prog 14 #[.agg #[Ix (a.x), Ix (a.y)], .agg #[Ix (b.x), Ix (b.y)]] w fun r w' => r = .returned (Nx (lenV a.x a.y b.x b.y)) ∧ St β [] w' := by
  refine enter (n := 50) Tryz.func14 rfl Tryz.ntmps14 rfl ?_ hw
  refine c_seq ?_
  refine c_region ?_
  refine l_mv rfl rfl rfl (m_box (v := .agg #[Ix (a.x), Ix (a.y)]) rfl) ?_
  rintro _ _ ⟨b1, rfl, rfl⟩
  refine l_mv rfl rfl rfl (m_box (v := .agg #[Ix (b.x), Ix (b.y)]) rfl) ?_
  rintro _ _ ⟨b2, rfl, rfl⟩
  refine l_val (v := .int .i64 (0)) rfl rfl rfl (e_assign) ?_
  refine l_nil ?_
  refine f_then ?_
  refine c_seq ?_
  refine c_seq ?_
  refine c_region ?_
  refine l_val (v := .pointer (some ⟨b1, 0, none⟩)) rfl rfl rfl (e_fieldPt (b := b1) (o := 0) rfl tp1) ?_
  refine l_val (v := Ix (a.x)) rfl rfl rfl (e_load1 tp2 (v := Ix (a.x)) rfl (k_pt 1 (cs := #[Ix (a.x), Ix (a.y)]) (vs := [Ix (a.x)]) rfl rfl)) ?_
  refine l_val (v := .pointer (some ⟨b1, 1, none⟩)) rfl rfl rfl (e_fieldPt (b := b1) (o := 0) rfl tp4) ?_
  refine l_val (v := Ix (a.y)) rfl rfl rfl (e_load1 tp2 (v := Ix (a.y)) rfl (k_pt 1 (cs := #[Ix (a.x), Ix (a.y)]) (vs := [Ix (a.y)]) rfl rfl)) ?_
  refine l_val (v := .pointer (some ⟨b2, 0, none⟩)) rfl rfl rfl (e_fieldPt (b := b2) (o := 0) rfl tp1) ?_
  refine l_val (v := Ix (b.x)) rfl rfl rfl (e_load1 tp2 (v := Ix (b.x)) rfl (k_pt 0 (cs := #[Ix (b.x), Ix (b.y)]) (vs := [Ix (b.x)]) rfl rfl)) ?_
  refine l_val (v := .pointer (some ⟨b2, 1, none⟩)) rfl rfl rfl (e_fieldPt (b := b2) (o := 0) rfl tp4) ?_
  refine l_val (v := Ix (b.y)) rfl rfl rfl (e_load1 tp2 (v := Ix (b.y)) rfl (k_pt 0 (cs := #[Ix (b.x), Ix (b.y)]) (vs := [Ix (b.y)]) rfl rfl)) ?_
  refine l_val (v := Ix (max (max (max ((a.x)) (a.y)) (b.x)) (b.y))) rfl rfl rfl (e_max4 (a := (a.x)) (b := (a.y)) (c := (b.x)) (e := (b.y)) rfl rfl rfl rfl) ?_
  refine l_val (v := .bool (decide ((2097152 : Int) < (max (max (max ((a.x)) (a.y)) (b.x)) (b.y))))) rfl rfl rfl (e_gtr (a := (max (max (max ((a.x)) (a.y)) (b.x)) (b.y))) (b := (2097152 : Int)) rfl rfl) ?_
  refine l_val (v := .bool (decide ((2097152 : Int) < (max (max (max ((a.x)) (a.y)) (b.x)) (b.y))))) rfl rfl rfl (e_move) ?_
  refine l_split (s := 18) (p := (2097152 : Int) < (max (max (max ((a.x)) (a.y)) (b.x)) (b.y))) rfl (fun hg3 => ?_) (fun hg3 => ?_)
  ·
    refine l_skip rfl rfl rfl rfl rfl rfl ?_
    refine l_skip rfl rfl rfl rfl rfl rfl ?_
    refine l_skip rfl rfl rfl rfl rfl rfl ?_
    refine l_skip rfl rfl rfl rfl rfl rfl ?_
    refine l_skip rfl rfl rfl rfl rfl rfl ?_
    refine l_skip rfl rfl rfl rfl rfl rfl ?_
    refine l_skip rfl rfl rfl rfl rfl rfl ?_
    refine l_skip rfl rfl rfl rfl rfl rfl ?_
    refine l_skip rfl rfl rfl rfl rfl rfl ?_
    refine l_skip rfl rfl rfl rfl rfl rfl ?_
    refine l_val (v := .bool true) rfl rfl rfl (e_pick_t rfl) ?_
    refine l_nil ?_
    refine f_then ?_
    refine c_yes rfl ?_
    refine c_seq ?_
    refine c_region ?_
    refine l_val (v := .int .i64 (0)) rfl rfl rfl (e_assign) ?_
    refine l_nil ?_
    refine f_then ?_
    refine c_ret ?_
    refine f_then_ret ?_
    refine ret1 Tryz.results14 (v := .int .i64 (0)) rfl ?_
    intro w hw
    exact ⟨congrArg (fun z : Nat => Ending.returned (Nx z)) (len_out1 (by have q := hg3; simpa using q)).symm, st_mask [false, false] rfl hw⟩
  ·
    refine g_val (v := .pointer (some ⟨b1, 0, none⟩)) rfl rfl rfl rfl rfl (e_fieldPt (b := b1) (o := 0) rfl tp1) ?_
    refine g_val (v := Ix (a.x)) rfl rfl rfl rfl rfl (e_load1 tp2 (v := Ix (a.x)) rfl (k_pt 1 (cs := #[Ix (a.x), Ix (a.y)]) (vs := [Ix (a.x)]) rfl rfl)) ?_
    refine g_val (v := .pointer (some ⟨b1, 1, none⟩)) rfl rfl rfl rfl rfl (e_fieldPt (b := b1) (o := 0) rfl tp4) ?_
    refine g_val (v := Ix (a.y)) rfl rfl rfl rfl rfl (e_load1 tp2 (v := Ix (a.y)) rfl (k_pt 1 (cs := #[Ix (a.x), Ix (a.y)]) (vs := [Ix (a.y)]) rfl rfl)) ?_
    refine g_val (v := .pointer (some ⟨b2, 0, none⟩)) rfl rfl rfl rfl rfl (e_fieldPt (b := b2) (o := 0) rfl tp1) ?_
    refine g_val (v := Ix (b.x)) rfl rfl rfl rfl rfl (e_load1 tp2 (v := Ix (b.x)) rfl (k_pt 0 (cs := #[Ix (b.x), Ix (b.y)]) (vs := [Ix (b.x)]) rfl rfl)) ?_
    refine g_val (v := .pointer (some ⟨b2, 1, none⟩)) rfl rfl rfl rfl rfl (e_fieldPt (b := b2) (o := 0) rfl tp4) ?_
    refine g_val (v := Ix (b.y)) rfl rfl rfl rfl rfl (e_load1 tp2 (v := Ix (b.y)) rfl (k_pt 0 (cs := #[Ix (b.x), Ix (b.y)]) (vs := [Ix (b.y)]) rfl rfl)) ?_
    refine g_val (v := Ix (min (min (min ((a.x)) (a.y)) (b.x)) (b.y))) rfl rfl rfl rfl rfl (e_min4 (a := (a.x)) (b := (a.y)) (c := (b.x)) (e := (b.y)) rfl rfl rfl rfl) ?_
    refine g_val (v := .bool (decide ((min (min (min ((a.x)) (a.y)) (b.x)) (b.y)) < (-2097152 : Int)))) rfl rfl rfl rfl rfl (e_lss (a := (min (min (min ((a.x)) (a.y)) (b.x)) (b.y))) (b := (-2097152 : Int)) rfl rfl) ?_
    refine l_val (v := .bool (decide ((min (min (min ((a.x)) (a.y)) (b.x)) (b.y)) < (-2097152 : Int)))) rfl rfl rfl (e_pick_f rfl) ?_
    refine l_nil ?_
    refine f_then ?_
    refine c_if ((min (min (min ((a.x)) (a.y)) (b.x)) (b.y)) < (-2097152 : Int)) rfl (fun hc4 => ?_) (fun hc4 => ?_)
    ·
      refine c_seq ?_
      refine c_region ?_
      refine l_val (v := .int .i64 (0)) rfl rfl rfl (e_assign) ?_
      refine l_nil ?_
      refine f_then ?_
      refine c_ret ?_
      refine f_then_ret ?_
      refine ret1 Tryz.results14 (v := .int .i64 (0)) rfl ?_
      intro w hw
      exact ⟨congrArg (fun z : Nat => Ending.returned (Nx z)) (len_out2 (by have q := hc4; simpa using q)).symm, st_mask [false, false] rfl hw⟩
    ·
      refine c_skip ?_
      refine f_then ?_
      refine c_seq ?_
      have hmx : ¬ (2097152 : Int) < max (max (max a.x a.y) b.x) b.y := by have q := hg3; simpa using q
      have hmn : ¬ min (min (min a.x a.y) b.x) b.y < (-2097152 : Int) := by have q := hc4; simpa using q
      obtain ⟨hr, hsx1, hsx2, hsy1, hsy2⟩ := len_in hmx hmn
      refine c_quiet (by kernel_rfl) (by kernel_rfl) ?_
      refine q_val (v := .pointer (some ⟨b1, 0, none⟩)) rfl rfl rfl (e_fieldPt (b := b1) (o := 0) rfl tp1) ?_
      refine q_val (v := Ix (a.x)) rfl rfl rfl (e_load1 tp2 (v := Ix (a.x)) rfl (k_pt 1 (cs := #[Ix (a.x), Ix (a.y)]) (vs := [Ix (a.x)]) rfl rfl)) ?_
      refine q_val (v := .pointer (some ⟨b2, 0, none⟩)) rfl rfl rfl (e_fieldPt (b := b2) (o := 0) rfl tp1) ?_
      refine q_val (v := Ix (b.x)) rfl rfl rfl (e_load1 tp2 (v := Ix (b.x)) rfl (k_pt 0 (cs := #[Ix (b.x), Ix (b.y)]) (vs := [Ix (b.x)]) rfl rfl)) ?_
      refine q_val (v := Ix ((a.x) - (b.x))) rfl rfl rfl (e_sub (a := (a.x)) (b := (b.x)) rfl rfl (i64w (by omega))) ?_
      refine q_val (v := .pointer (some ⟨b1, 1, none⟩)) rfl rfl rfl (e_fieldPt (b := b1) (o := 0) rfl tp4) ?_
      refine q_val (v := Ix (a.y)) rfl rfl rfl (e_load1 tp2 (v := Ix (a.y)) rfl (k_pt 1 (cs := #[Ix (a.x), Ix (a.y)]) (vs := [Ix (a.y)]) rfl rfl)) ?_
      refine q_val (v := .pointer (some ⟨b2, 1, none⟩)) rfl rfl rfl (e_fieldPt (b := b2) (o := 0) rfl tp4) ?_
      refine q_val (v := Ix (b.y)) rfl rfl rfl (e_load1 tp2 (v := Ix (b.y)) rfl (k_pt 0 (cs := #[Ix (b.x), Ix (b.y)]) (vs := [Ix (b.y)]) rfl rfl)) ?_
      refine q_val (v := Ix ((a.y) - (b.y))) rfl rfl rfl (e_sub (a := (a.y)) (b := (b.y)) rfl rfl (i64w (by omega))) ?_
      refine q_val (v := Ix ((a.x) - (b.x))) rfl rfl rfl (e_assign) ?_
      refine q_val (v := Ix ((a.y) - (b.y))) rfl rfl rfl (e_assign) ?_
      refine q_nil ?_
      refine f_then ?_
      refine c_seq ?_
      refine c_region ?_
      refine l_val (v := Ix ((a.x) - (b.x))) rfl rfl rfl (e_move) ?_
      refine l_val (v := Ix ((a.x) - (b.x))) rfl rfl rfl (e_move) ?_
      refine l_val (v := Ix (((a.x) - (b.x)) * ((a.x) - (b.x)))) rfl rfl rfl (e_mul (a := ((a.x) - (b.x))) (b := ((a.x) - (b.x))) rfl rfl (i64w (by omega))) ?_
      refine l_val (v := Ix ((a.y) - (b.y))) rfl rfl rfl (e_move) ?_
      refine l_val (v := Ix ((a.y) - (b.y))) rfl rfl rfl (e_move) ?_
      refine l_val (v := Ix (((a.y) - (b.y)) * ((a.y) - (b.y)))) rfl rfl rfl (e_mul (a := ((a.y) - (b.y))) (b := ((a.y) - (b.y))) rfl rfl (i64w (by omega))) ?_
      refine l_val (v := Ix ((((a.x) - (b.x)) * ((a.x) - (b.x))) + (((a.y) - (b.y)) * ((a.y) - (b.y))))) rfl rfl rfl (e_add (a := (((a.x) - (b.x)) * ((a.x) - (b.x)))) (b := (((a.y) - (b.y)) * ((a.y) - (b.y)))) rfl rfl (i64w (by omega))) ?_
      refine l_val (v := Ix ((256 : Int) * ((((a.x) - (b.x)) * ((a.x) - (b.x))) + (((a.y) - (b.y)) * ((a.y) - (b.y)))))) rfl rfl rfl (e_mul (a := (256 : Int)) (b := ((((a.x) - (b.x)) * ((a.x) - (b.x))) + (((a.y) - (b.y)) * ((a.y) - (b.y))))) rfl rfl (i64w (by omega))) ?_
      refine l_mv rfl rfl rfl (m_alloc tu30) ?_
      rintro _ _ ⟨b5, rfl, rfl⟩
      refine l_mu rfl rfl (m_store 0 tp2 (b := b5) (o := 0) (T := 3) (cs := #[.int .i64 (0)]) (cs' := #[Ix ((256 : Int) * ((((a.x) - (b.x)) * ((a.x) - (b.x))) + (((a.y) - (b.y)) * ((a.y) - (b.y)))))]) (v := Ix ((256 : Int) * ((((a.x) - (b.x)) * ((a.x) - (b.x))) + (((a.y) - (b.y)) * ((a.y) - (b.y)))))) rfl rfl rfl rfl rfl rfl rfl) ?_
      refine l_nil ?_
      refine f_then ?_
      refine c_seq ?_
      obtain ⟨d, hd0⟩ : ∃ d, d = 256 * d2 a.x a.y b.x b.y := ⟨_, rfl⟩
      have hdi : ((256 : Int) * ((((a.x) - (b.x)) * ((a.x) - (b.x))) + (((a.y) - (b.y)) * ((a.y) - (b.y))))) = (d : Int) := by rw [hd0, Int.natCast_mul, d2_int]; rfl
      rw [hdi]
      have hd : d < 72057594037927936 := by have := d2_int a.x a.y b.x b.y; omega
      have hq1 : isq d ≤ 268435456 := isq_le (by omega)
      refine c_re (L' := [pt b5 (.cells #[Nx (d)] 3), pt b2 (.cells #[Ix (b.x), Ix (b.y)] 27), pt b1 (.cells #[Ix (a.x), Ix (a.y)] 27)]) rfl ?_
      refine c_freeze2 (M := []) (K := [pt b5 (.cells #[Nx (d)] 3), pt b2 (.cells #[Ix (b.x), Ix (b.y)] 27), pt b1 (.cells #[Ix (a.x), Ix (a.y)] 27)]) rfl (fun βf ext1 kn1 bk1 => ?_)
      have hcf : Cs βf.heap ⟨b5, 0, none⟩ [Nx d] := kn1 _ (k_pt 0 (o := 0) (cs := #[Nx d]) (vs := [Nx d]) rfl rfl)
      refine c_region ?_
      refine l_val (v := .func (.func 34) #[] #[.pointer (some (⟨b5, 0, none⟩))]) rfl rfl rfl (e_func (u := []) (v := [.pointer (some (⟨b5, 0, none⟩))]) rfl rfl) ?_
      refine l_call rfl rfl rfl (cl_value (fst := []) (cap := []) (vs := [.int .i64 (268435456), .func (.func 34) #[] #[.pointer (some (⟨b5, 0, none⟩))]]) (all := [.int .i64 (268435456), .func (.func 34) #[] #[.pointer (some (⟨b5, 0, none⟩))]]) tu42 rfl rfl rfl) ?_
      intro w hw
      obtain ⟨β1, sb, kn, hw1, back⟩ := St.frame_all hw
      refine (search_ok β1 w hw1 _ 268435456 (by omega) (fun z => decide (d ≤ z * z)) (fun i j h1 h2 h3 => decide_eq_true (Nat.le_trans (of_decide_eq_true h3) (Nat.mul_le_mul h1 h1))) (isq d) hq1 (fun j hj => decide_eq_false (by have := isq_lt hj; omega)) (fun _ => decide_eq_true (isq_ge d)) ((less1_fn βf b5 d hd hcf).mono sb)).mono ?_
      rintro e w' ⟨rfl, hw'⟩
      refine ⟨_, rfl, _, back _ _ hw', ?_⟩
      clear hw hw1 hw' back kn sb
      refine l_val (v := Nx (isq d)) rfl rfl rfl (e_assign) ?_
      refine l_nil ?_
      refine f_then ?_
      refine c_ret ?_
      refine ret1 Tryz.results14 (v := Nx (isq d)) rfl ?_
      intro w hw
      exact ⟨congrArg (fun z : Nat => Ending.returned (Nx z)) (by unfold lenV; rw [if_pos hr, ← hd0]), st_mask [false, false, false] rfl (bk1 _ _ hw)⟩
end Go.Proofs
