/-
 Transactions and states read: walked. Printed by a program of my own.
-/
import Derived.Test.YtjejfkajcbdgjaaGreatTd10
import Derived.Test.YtjejfkajcbdgjaaGreatTdLd
namespace Go.Sl
theorem bx_back (x : UInt8) : IntKind.u8.wrap ((x.toNat : Nat) : Int) = (x.toNat : Int) := by
 rw [u8w]; have := x.toNat_lt; omega
end Go.Sl
namespace Go.Proofs
open Go Go.Sl Go.Td Go.Jn
theorem tt136 : cfB Tryz.prog 115 = true := by kernel_rfl
theorem tt137 : stB Tryz.prog 88 [(0, 1), (1, 1), (2, 1), (3, 4), (7, 1)] = true := by kernel_rfl
set_option maxHeartbeats 4000000 in
theorem dealr_ok (β : Base) (w : World) (rb : Nat) (au nu : Int) (al : List KAct) (l : List Bool) (hdf : DealFit au nu al) (hw : St β [rdrR rb (dealK au nu al l)] w) : Calls Tryz.prog 87 #[.agg #[.pointer (some ⟨rb, 0, none⟩)]] w fun r w' => ∃ p c, r = .returned (.agg #[Ix au, Ix nu, .slice p al.length c]) ∧ St β [rowF ActF 47 p c al, rdrR rb l] w' := by
 replace hw : St β [rdrR rb (bitsV (U au) 7 ++ (bitsV (U nu) 41 ++ (bitsV (U ((al.length : Nat) : Int)) 9 ++ actsK al l)))] w := hw
 have hf16 := hdf.few
 refine enter (n := 37) Tryz.func87 rfl Tryz.ntmps87 rfl ?_ hw
 refine c_seq ?_
 refine c_region ?_
 refine l_mv rfl rfl rfl (m_box (v := .agg #[.pointer (some ⟨rb, 0, none⟩)]) rfl) ?_
 rintro _ _ ⟨b1, rfl, rfl⟩
 refine l_mv rfl rfl rfl (m_alloc tt99) ?_
 rintro _ _ ⟨b2, rfl, rfl⟩
 refine l_nil ?_
 refine f_then ?_
 refine c_seq ?_
 refine c_any [⟨[], [], [0], [5], fun f => f 5 = .agg #[.pointer (some ⟨rb, 0, none⟩)]⟩, ⟨[0], [0], [], [6], fun f => f 6 = Ix (au)⟩, ⟨[], [], [0], [7], fun f => f 7 = .agg #[.pointer (some ⟨rb, 0, none⟩)]⟩, ⟨[0, 1, 2], [2], [], [8], fun f => f 8 = Ix (nu)⟩, ⟨[0, 1, 2, 3], [1, 3], [], [9], fun f => f 9 = .agg #[Ix (au), Ix (nu), .slice none 0 0]⟩, ⟨[], [], [], [3], fun f => f 3 = .pointer (some ⟨(blk (f 3)), 0, none⟩)⟩, ⟨[0, 1, 2, 3, 4, 5], [5, 4], [], [], fun _ => True⟩] [⟨none, none, [], [], fun _ => pt b2 (.cells #[.int .i64 (0), .int .i64 (0), .slice none 0 0] 80)⟩, ⟨none, none, [0, 2], [], fun _ => pt b1 (.cells #[.pointer (some ⟨rb, 0, none⟩)] 168)⟩, ⟨none, (some 1), [1], [], fun _ => rdrR rb (bitsV (U au) 7 ++ (bitsV (U nu) 41 ++ (bitsV (U ((al.length : Nat) : Int)) 9 ++ actsK al l)))⟩, ⟨(some 1), (some 3), [3], [], fun _ => rdrR rb (bitsV (U nu) 41 ++ (bitsV (U ((al.length : Nat) : Int)) 9 ++ actsK al l))⟩, ⟨(some 3), none, [], [], fun _ => rdrR rb (bitsV (U ((al.length : Nat) : Int)) 9 ++ actsK al l)⟩, ⟨(some 5), (some 6), [6], [3], fun f => pt (blk (f 3)) (.cells #[.int .i64 (0), .int .i64 (0), .slice none 0 0] 80)⟩, ⟨(some 6), none, [], [3], fun f => pt (blk (f 3)) (.cells #[Ix (au), Ix (nu), .slice none 0 0] 80)⟩] [(1, .pointer (some ⟨b1, 0, none⟩)), (2, .pointer (some ⟨b2, 0, none⟩))] [0, 1] [] (by kernel_rfl) (by kernel_rfl) (by kernel_rfl) (by kernel_rfl) rfl ⟨rfl, rfl, trivial⟩ ⟨?_, ?_, ?_, ?_, ?_, ?_, ?_, trivial⟩ ?_
 ·rintro f M - ⟨i0, -⟩
  have hs1 : f 1 = .pointer (some ⟨b1, 0, none⟩) := i0
  refine ob_start (L' := pt b1 (.cells #[.pointer (some ⟨rb, 0, none⟩)] 168) :: M) (by rfl) (up_cons rfl hs1) ?_
  refine l_val (v := .agg #[.pointer (some ⟨rb, 0, none⟩)]) rfl rfl rfl (e_load tt132 (cs := [.pointer (some ⟨rb, 0, none⟩)]) rfl (k_pt 0 (cs := #[.pointer (some ⟨rb, 0, none⟩)]) (vs := [.pointer (some ⟨rb, 0, none⟩)]) rfl rfl) rfl) ?_
  refine l_nil ?_
  exact f_owes_d (up_cons rfl hs1) rfl (perm_front 0 rfl)
 ·rintro f M ⟨k0, -⟩ -
  have hs5 : f 5 = .agg #[.pointer (some ⟨rb, 0, none⟩)] := k0
  refine ob_start (L' := rdrR rb (bitsV (U au) 7 ++ (bitsV (U nu) 41 ++ (bitsV (U ((al.length : Nat) : Int)) 9 ++ actsK al l))) :: M) (by rfl) (up_cons rfl hs5) ?_
  refine l_call rfl rfl rfl (cl_value (fst := []) (cap := []) (vs := [.agg #[.pointer (some ⟨rb, 0, none⟩)], .int .i64 (7)]) (all := [.agg #[.pointer (some ⟨rb, 0, none⟩)], .int .i64 (7)]) tt133 rfl rfl rfl) ?_
  intro w hw
  replace hw := hw.perm (L' := _ :: M) (by exact (perm_front 0 rfl))
  obtain ⟨β1, sb, kn, hw1, back⟩ := St.frame (L := [_]) (M := M) hw
  refine (tget_ok β1 w rb _ au 7 hdf.a hw1).mono ?_
  rintro e w' ⟨rfl, hw'⟩
  refine ⟨_, rfl, _, back _ _ hw', ?_⟩
  clear hw hw1 hw' back kn sb
  refine l_nil ?_
  exact f_owes_d (up_cons rfl hs5) rfl (perm_front 0 rfl)
 ·rintro f M - ⟨i0, -⟩
  have hs1 : f 1 = .pointer (some ⟨b1, 0, none⟩) := i0
  refine ob_start (L' := pt b1 (.cells #[.pointer (some ⟨rb, 0, none⟩)] 168) :: M) (by rfl) (up_cons rfl hs1) ?_
  refine l_val (v := .agg #[.pointer (some ⟨rb, 0, none⟩)]) rfl rfl rfl (e_load tt132 (cs := [.pointer (some ⟨rb, 0, none⟩)]) rfl (k_pt 0 (cs := #[.pointer (some ⟨rb, 0, none⟩)]) (vs := [.pointer (some ⟨rb, 0, none⟩)]) rfl rfl) rfl) ?_
  refine l_nil ?_
  exact f_owes_d (up_cons rfl hs1) rfl (perm_front 0 rfl)
 ·rintro f M ⟨k0, -⟩ -
  have hs7 : f 7 = .agg #[.pointer (some ⟨rb, 0, none⟩)] := k0
  refine ob_start (L' := rdrR rb (bitsV (U nu) 41 ++ (bitsV (U ((al.length : Nat) : Int)) 9 ++ actsK al l)) :: M) (by rfl) (up_cons rfl hs7) ?_
  refine l_call rfl rfl rfl (cl_value (fst := []) (cap := []) (vs := [.agg #[.pointer (some ⟨rb, 0, none⟩)], .int .i64 (41)]) (all := [.agg #[.pointer (some ⟨rb, 0, none⟩)], .int .i64 (41)]) tt133 rfl rfl rfl) ?_
  intro w hw
  replace hw := hw.perm (L' := _ :: M) (by exact (perm_front 0 rfl))
  obtain ⟨β1, sb, kn, hw1, back⟩ := St.frame (L := [_]) (M := M) hw
  refine (tget_ok β1 w rb _ nu 41 hdf.n hw1).mono ?_
  rintro e w' ⟨rfl, hw'⟩
  refine ⟨_, rfl, _, back _ _ hw', ?_⟩
  clear hw hw1 hw' back kn sb
  refine l_nil ?_
  exact f_owes_d (up_cons rfl hs7) rfl (perm_front 0 rfl)
 ·rintro f M ⟨k0, k1, -⟩ -
  have hs6 : f 6 = Ix (au) := k0
  have hs8 : f 8 = Ix (nu) := k1
  refine ob_start (L' := M) (by rfl) (up_cons (up_cons rfl hs6) hs8) ?_
  refine l_val (v := .agg #[Ix (au), Ix (nu), .slice none 0 0]) rfl rfl rfl (e_build tt99 tt98 (vs := [(0, Ix (au)), (1, Ix (nu))]) (cells := #[Ix (au), Ix (nu), .slice none 0 0]) rfl rfl) ?_
  refine l_nil ?_
  exact f_owes_d (up_cons (up_cons rfl hs6) hs8) rfl (List.Perm.refl _)
 ·rintro f M - -
  refine ob_start (L' := M) (by rfl) rfl ?_
  refine l_mv rfl rfl rfl (m_alloc tt99) ?_
  rintro _ _ ⟨b4, rfl, rfl⟩
  refine l_nil ?_
  exact f_owes_d rfl rfl (perm_front 0 rfl)
 ·rintro f M ⟨k0, k1, -⟩ -
  have hs3 : f 3 = .pointer (some ⟨(blk (f 3)), 0, none⟩) := k0
  have hs9 : f 9 = .agg #[Ix (au), Ix (nu), .slice none 0 0] := k1
  refine ob_start (L' := pt (blk (f 3)) (.cells #[.int .i64 (0), .int .i64 (0), .slice none 0 0] 80) :: M) (by rfl) (up_cons (up_cons rfl hs3) hs9) ?_
  refine l_mu rfl rfl (m_store 0 tt65 (b := (blk (f 3))) (o := 0) (T := 80) (cs := #[.int .i64 (0), .int .i64 (0), .slice none 0 0]) (cs' := #[Ix (au), Ix (nu), .slice none 0 0]) (v := .agg #[Ix (au), Ix (nu), .slice none 0 0]) rfl rfl rfl rfl rfl rfl rfl) ?_
  refine l_nil ?_
  exact f_owes_n (up_cons (up_cons rfl hs3) hs9) trivial (perm_front 0 rfl)
 rintro fa5 ⟨-, -, -, -, -, k5, -, -⟩ ⟨j0, j1, -⟩
 refine f_re (L' := [pt b2 (.cells #[.int .i64 (0), .int .i64 (0), .slice none 0 0] 80), pt b1 (.cells #[.pointer (some ⟨rb, 0, none⟩)] 168), rdrR rb (bitsV (U ((al.length : Nat) : Int)) 9 ++ actsK al l), pt (blk (fa5 3)) (.cells #[Ix (au), Ix (nu), .slice none 0 0] 80)]) (by rfl) ?_
 refine f_rebase (d := 1) (v := .pointer (some ⟨b1, 0, none⟩)) j0 ?_
 refine f_rebase (d := 2) (v := .pointer (some ⟨b2, 0, none⟩)) j1 ?_
 refine f_rebase (d := 3) (v := .pointer (some ⟨(blk (fa5 3)), 0, none⟩)) k5 ?_
 refine f_then ?_
 refine c_seq ?_
 refine c_seq ?_
 refine c_emp (r := rowF ActF 47 none 0 []) (row_nil _ _ _) ?_
 refine c_region ?_
 refine l_val (v := .agg #[.pointer (some ⟨rb, 0, none⟩)]) rfl rfl rfl (e_load tt132 (cs := [.pointer (some ⟨rb, 0, none⟩)]) rfl (k_pt 2 (cs := #[.pointer (some ⟨rb, 0, none⟩)]) (vs := [.pointer (some ⟨rb, 0, none⟩)]) rfl rfl) rfl) ?_
 refine l_call rfl rfl rfl (cl_value (fst := []) (cap := []) (vs := [.agg #[.pointer (some ⟨rb, 0, none⟩)], .int .i64 (9)]) (all := [.agg #[.pointer (some ⟨rb, 0, none⟩)], .int .i64 (9)]) tt133 rfl rfl rfl) ?_
 intro w hw
 replace hw := hw.perm (L' := _ :: _ :: _ :: _ :: _ :: []) (by exact (((((perm_front 4 rfl).trans (perm_front 3 rfl)).trans (perm_front 3 rfl)).trans (perm_front 3 rfl)).trans (perm_front 4 rfl)))
 obtain ⟨β1, sb, kn, hw1, back⟩ := St.frame (L := [_]) (M := _ :: _ :: _ :: _ :: []) hw
 refine (tget_ok β1 w rb _ ((al.length : Nat) : Int) 9 hdf.l hw1).mono ?_
 rintro e w' ⟨rfl, hw'⟩
 refine ⟨_, rfl, _, back _ _ hw', ?_⟩
 clear hw hw1 hw' back kn sb
 refine l_val (v := Nx (min al.length 16)) rfl rfl rfl (ev_eq (congrArg (Value.int .i64) (by omega)) (e_min (a := ((al.length : Nat) : Int)) (b := (16 : Int)) rfl rfl)) ?_
 refine l_val (v := .int .i64 (0)) rfl rfl rfl (e_move) ?_
 refine l_nil ?_
 refine f_then ?_
 refine c_block ?_
 refine c_loop (fun (x_ : Nat × List KAct × Option Addr × Nat) (f : Fm) (L : List Res) => match x_ with | (k, ys, p, c) => (f 1 = .pointer (some ⟨b1, 0, none⟩) ∧ f 2 = .pointer (some ⟨b2, 0, none⟩) ∧ f 3 = .pointer (some ⟨(blk (fa5 3)), 0, none⟩) ∧ f 12 = Nx (min al.length 16) ∧ f 13 = Nx (k)) ∧ L = [rdrR rb (actsK (al.drop k) l), rowF ActF 47 p c ys, pt b2 (.cells #[.int .i64 (0), .int .i64 (0), .slice none 0 0] 80), pt b1 (.cells #[.pointer (some ⟨rb, 0, none⟩)] 168), pt (blk (fa5 3)) (.cells #[Ix (au), Ix (nu), .slice p (ys.length) c] 80)] ∧ (k ≤ al.length ∧ ys = al.take k)) (fun (x_ : Nat × List KAct × Option Addr × Nat) => match x_ with | (k, ys, p, c) => al.length - k) (0, [], none, 0) ?_ ?_
 ·exact ⟨⟨rfl, rfl, rfl, rfl, rfl⟩, rfl, ⟨Nat.zero_le _, rfl⟩⟩
 rintro ⟨k, ys, p, c⟩ f0 L0 ⟨⟨hs1, hs2, hs3, hs12, hs13⟩, hL, ⟨hk, hys⟩⟩
 subst L0
 refine rebase (d := 1) hs1 ?_
 refine rebase (d := 2) hs2 ?_
 refine rebase (d := 3) hs3 ?_
 refine rebase (d := 12) hs12 ?_
 refine rebase (d := 13) hs13 ?_
 clear hs1 hs2 hs3 hs12 hs13
 have hyl : ys.length = k := by rw [hys, List.length_take]; omega
 have h16 := hdf.few
 refine c_seq ?_
 refine c_region ?_
 refine l_val (v := .bool (decide (((k : Nat) : Int) < ((min al.length 16 : Nat) : Int)))) rfl rfl rfl (e_lss (a := ((k : Nat) : Int)) (b := ((min al.length 16 : Nat) : Int)) rfl rfl) ?_
 refine l_nil ?_
 refine f_then ?_
 refine c_seq ?_
 refine c_if (((k : Nat) : Int) < ((min al.length 16 : Nat) : Int)) rfl (fun hc6 => ?_) (fun hc6 => ?_)
 ·
  refine c_skip ?_
  refine f_then ?_
  refine c_seq ?_
  refine c_block ?_
  refine c_seq ?_
  obtain ⟨x, hx⟩ : ∃ x, al[k]? = some x := ⟨_, List.getElem?_eq_getElem (by omega)⟩
  have hxf := hdf.x x (List.mem_of_getElem? hx)
  refine c_re (L' := [rdrR rb (bitsV (U ((x.kind.toNat : Nat) : Int)) 3 ++ (bitsV (U x.owner) 17 ++ (bitsV (U x.other) 17 ++ (bitsV (U x.hold) 64 ++ (amK x.a 31 (actsK (al.drop (k + 1)) l)))))), rowF ActF 47 p c ys, pt b2 (.cells #[.int .i64 (0), .int .i64 (0), .slice none 0 0] 80), pt b1 (.cells #[.pointer (some ⟨rb, 0, none⟩)] 168), pt (blk (fa5 3)) (.cells #[Ix (au), Ix (nu), .slice p (ys.length) c] 80)]) (by rw [actsK_next hx]) ?_
  refine c_any [⟨[], [], [0], [15], fun f => f 15 = .agg #[.pointer (some ⟨rb, 0, none⟩)]⟩, ⟨[0], [0], [], [16], fun f => f 16 = Nx (x.kind.toNat)⟩, ⟨[0, 1], [1], [], [17], fun f => f 17 = Bx (x.kind)⟩, ⟨[], [], [0], [18], fun f => f 18 = .agg #[.pointer (some ⟨rb, 0, none⟩)]⟩, ⟨[0, 1, 3], [3], [], [19], fun f => f 19 = Ix (x.owner)⟩, ⟨[], [], [0], [20], fun f => f 20 = .agg #[.pointer (some ⟨rb, 0, none⟩)]⟩, ⟨[0, 1, 3, 4, 5], [5], [], [21], fun f => f 21 = Ix (x.other)⟩, ⟨[0, 1, 2, 3, 4, 5, 6], [2, 4, 6], [], [22], fun f => f 22 = .agg #[Bx (x.kind), Ix (x.owner), Ix (x.other), .int .i64 (0), .int .i64 (0), .int .i64 (0), .int .i64 (0), .int .i64 (0)]⟩, ⟨[], [], [], [4], fun f => f 4 = .pointer (some ⟨(blk (f 4)), 0, none⟩)⟩, ⟨[0, 1, 2, 3, 4, 5, 6, 7, 8], [8, 7], [], [], fun _ => True⟩] [⟨none, (some 1), [1], [], fun _ => rdrR rb (bitsV (U ((x.kind.toNat : Nat) : Int)) 3 ++ (bitsV (U x.owner) 17 ++ (bitsV (U x.other) 17 ++ (bitsV (U x.hold) 64 ++ (amK x.a 31 (actsK (al.drop (k + 1)) l))))))⟩, ⟨none, none, [], [], fun _ => rowF ActF 47 p c ys⟩, ⟨none, none, [], [], fun _ => pt b2 (.cells #[.int .i64 (0), .int .i64 (0), .slice none 0 0] 80)⟩, ⟨none, none, [0, 3, 5], [], fun _ => pt b1 (.cells #[.pointer (some ⟨rb, 0, none⟩)] 168)⟩, ⟨none, none, [], [], fun _ => pt (blk (fa5 3)) (.cells #[Ix (au), Ix (nu), .slice p (ys.length) c] 80)⟩, ⟨(some 1), (some 4), [4], [], fun _ => rdrR rb (bitsV (U x.owner) 17 ++ (bitsV (U x.other) 17 ++ (bitsV (U x.hold) 64 ++ (amK x.a 31 (actsK (al.drop (k + 1)) l)))))⟩, ⟨(some 4), (some 6), [6], [], fun _ => rdrR rb (bitsV (U x.other) 17 ++ (bitsV (U x.hold) 64 ++ (amK x.a 31 (actsK (al.drop (k + 1)) l))))⟩, ⟨(some 6), none, [], [], fun _ => rdrR rb (bitsV (U x.hold) 64 ++ (amK x.a 31 (actsK (al.drop (k + 1)) l)))⟩, ⟨(some 8), (some 9), [9], [4], fun f => pt (blk (f 4)) (.cells #[.int .u8 (0), .int .i64 (0), .int .i64 (0), .int .i64 (0), .int .i64 (0), .int .i64 (0), .int .i64 (0), .int .i64 (0)] 47)⟩, ⟨(some 9), none, [], [4], fun f => pt (blk (f 4)) (.cells #[Bx (x.kind), Ix (x.owner), Ix (x.other), .int .i64 (0), .int .i64 (0), .int .i64 (0), .int .i64 (0), .int .i64 (0)] 47)⟩] [(1, .pointer (some ⟨b1, 0, none⟩)), (2, .pointer (some ⟨b2, 0, none⟩)), (3, .pointer (some ⟨(blk (fa5 3)), 0, none⟩)), (12, Nx (min al.length 16)), (13, Nx (k))] [0, 1, 2, 3, 4] [] (by kernel_rfl) (by kernel_rfl) (by kernel_rfl) (by kernel_rfl) rfl ⟨rfl, rfl, rfl, rfl, rfl, trivial⟩ ⟨?_, ?_, ?_, ?_, ?_, ?_, ?_, ?_, ?_, ?_, trivial⟩ ?_
  ·rintro f M - ⟨i0, -⟩
   have hs1 : f 1 = .pointer (some ⟨b1, 0, none⟩) := i0
   refine ob_start (L' := pt b1 (.cells #[.pointer (some ⟨rb, 0, none⟩)] 168) :: M) (by rfl) (up_cons rfl hs1) ?_
   refine l_val (v := .agg #[.pointer (some ⟨rb, 0, none⟩)]) rfl rfl rfl (e_load tt132 (cs := [.pointer (some ⟨rb, 0, none⟩)]) rfl (k_pt 0 (cs := #[.pointer (some ⟨rb, 0, none⟩)]) (vs := [.pointer (some ⟨rb, 0, none⟩)]) rfl rfl) rfl) ?_
   refine l_nil ?_
   exact f_owes_d (up_cons rfl hs1) rfl (perm_front 0 rfl)
  ·rintro f M ⟨k0, -⟩ -
   have hs15 : f 15 = .agg #[.pointer (some ⟨rb, 0, none⟩)] := k0
   refine ob_start (L' := rdrR rb (bitsV (U ((x.kind.toNat : Nat) : Int)) 3 ++ (bitsV (U x.owner) 17 ++ (bitsV (U x.other) 17 ++ (bitsV (U x.hold) 64 ++ (amK x.a 31 (actsK (al.drop (k + 1)) l)))))) :: M) (by rfl) (up_cons rfl hs15) ?_
   refine l_call rfl rfl rfl (cl_value (fst := []) (cap := []) (vs := [.agg #[.pointer (some ⟨rb, 0, none⟩)], .int .i64 (3)]) (all := [.agg #[.pointer (some ⟨rb, 0, none⟩)], .int .i64 (3)]) tt133 rfl rfl rfl) ?_
   intro w hw
   replace hw := hw.perm (L' := _ :: M) (by exact (perm_front 0 rfl))
   obtain ⟨β1, sb, kn, hw1, back⟩ := St.frame (L := [_]) (M := M) hw
   refine (tget_ok β1 w rb _ ((x.kind.toNat : Nat) : Int) 3 hxf.k hw1).mono ?_
   rintro e w' ⟨rfl, hw'⟩
   refine ⟨_, rfl, _, back _ _ hw', ?_⟩
   clear hw hw1 hw' back kn sb
   refine l_nil ?_
   exact f_owes_d (up_cons rfl hs15) rfl (perm_front 0 rfl)
  ·rintro f M ⟨k0, -⟩ -
   have hs16 : f 16 = Nx (x.kind.toNat) := k0
   refine ob_start (L' := M) (by rfl) (up_cons rfl hs16) ?_
   refine l_val (v := Bx (x.kind)) rfl rfl rfl (e_conv (a := ((x.kind.toNat : Nat) : Int)) rfl ⟨_, tt80⟩ tt75 (bx_back _)) ?_
   refine l_nil ?_
   exact f_owes_d (up_cons rfl hs16) rfl (List.Perm.refl _)
  ·rintro f M - ⟨i0, -⟩
   have hs1 : f 1 = .pointer (some ⟨b1, 0, none⟩) := i0
   refine ob_start (L' := pt b1 (.cells #[.pointer (some ⟨rb, 0, none⟩)] 168) :: M) (by rfl) (up_cons rfl hs1) ?_
   refine l_val (v := .agg #[.pointer (some ⟨rb, 0, none⟩)]) rfl rfl rfl (e_load tt132 (cs := [.pointer (some ⟨rb, 0, none⟩)]) rfl (k_pt 0 (cs := #[.pointer (some ⟨rb, 0, none⟩)]) (vs := [.pointer (some ⟨rb, 0, none⟩)]) rfl rfl) rfl) ?_
   refine l_nil ?_
   exact f_owes_d (up_cons rfl hs1) rfl (perm_front 0 rfl)
  ·rintro f M ⟨k0, -⟩ -
   have hs18 : f 18 = .agg #[.pointer (some ⟨rb, 0, none⟩)] := k0
   refine ob_start (L' := rdrR rb (bitsV (U x.owner) 17 ++ (bitsV (U x.other) 17 ++ (bitsV (U x.hold) 64 ++ (amK x.a 31 (actsK (al.drop (k + 1)) l))))) :: M) (by rfl) (up_cons rfl hs18) ?_
   refine l_call rfl rfl rfl (cl_value (fst := []) (cap := []) (vs := [.agg #[.pointer (some ⟨rb, 0, none⟩)], .int .i64 (17)]) (all := [.agg #[.pointer (some ⟨rb, 0, none⟩)], .int .i64 (17)]) tt133 rfl rfl rfl) ?_
   intro w hw
   replace hw := hw.perm (L' := _ :: M) (by exact (perm_front 0 rfl))
   obtain ⟨β1, sb, kn, hw1, back⟩ := St.frame (L := [_]) (M := M) hw
   refine (tget_ok β1 w rb _ x.owner 17 hxf.o hw1).mono ?_
   rintro e w' ⟨rfl, hw'⟩
   refine ⟨_, rfl, _, back _ _ hw', ?_⟩
   clear hw hw1 hw' back kn sb
   refine l_nil ?_
   exact f_owes_d (up_cons rfl hs18) rfl (perm_front 0 rfl)
  ·rintro f M - ⟨i0, -⟩
   have hs1 : f 1 = .pointer (some ⟨b1, 0, none⟩) := i0
   refine ob_start (L' := pt b1 (.cells #[.pointer (some ⟨rb, 0, none⟩)] 168) :: M) (by rfl) (up_cons rfl hs1) ?_
   refine l_val (v := .agg #[.pointer (some ⟨rb, 0, none⟩)]) rfl rfl rfl (e_load tt132 (cs := [.pointer (some ⟨rb, 0, none⟩)]) rfl (k_pt 0 (cs := #[.pointer (some ⟨rb, 0, none⟩)]) (vs := [.pointer (some ⟨rb, 0, none⟩)]) rfl rfl) rfl) ?_
   refine l_nil ?_
   exact f_owes_d (up_cons rfl hs1) rfl (perm_front 0 rfl)
  ·rintro f M ⟨k0, -⟩ -
   have hs20 : f 20 = .agg #[.pointer (some ⟨rb, 0, none⟩)] := k0
   refine ob_start (L' := rdrR rb (bitsV (U x.other) 17 ++ (bitsV (U x.hold) 64 ++ (amK x.a 31 (actsK (al.drop (k + 1)) l)))) :: M) (by rfl) (up_cons rfl hs20) ?_
   refine l_call rfl rfl rfl (cl_value (fst := []) (cap := []) (vs := [.agg #[.pointer (some ⟨rb, 0, none⟩)], .int .i64 (17)]) (all := [.agg #[.pointer (some ⟨rb, 0, none⟩)], .int .i64 (17)]) tt133 rfl rfl rfl) ?_
   intro w hw
   replace hw := hw.perm (L' := _ :: M) (by exact (perm_front 0 rfl))
   obtain ⟨β1, sb, kn, hw1, back⟩ := St.frame (L := [_]) (M := M) hw
   refine (tget_ok β1 w rb _ x.other 17 hxf.p hw1).mono ?_
   rintro e w' ⟨rfl, hw'⟩
   refine ⟨_, rfl, _, back _ _ hw', ?_⟩
   clear hw hw1 hw' back kn sb
   refine l_nil ?_
   exact f_owes_d (up_cons rfl hs20) rfl (perm_front 0 rfl)
  ·rintro f M ⟨k0, k1, k2, -⟩ -
   have hs17 : f 17 = Bx (x.kind) := k0
   have hs19 : f 19 = Ix (x.owner) := k1
   have hs21 : f 21 = Ix (x.other) := k2
   refine ob_start (L' := M) (by rfl) (up_cons (up_cons (up_cons rfl hs17) hs19) hs21) ?_
   refine l_val (v := .agg #[Bx (x.kind), Ix (x.owner), Ix (x.other), .int .i64 (0), .int .i64 (0), .int .i64 (0), .int .i64 (0), .int .i64 (0)]) rfl rfl rfl (e_build tt47 tt46 (vs := [(0, Bx (x.kind)), (1, Ix (x.owner)), (2, Ix (x.other))]) (cells := #[Bx (x.kind), Ix (x.owner), Ix (x.other), .int .i64 (0), .int .i64 (0), .int .i64 (0), .int .i64 (0), .int .i64 (0)]) rfl (by kernel_rfl)) ?_
   refine l_nil ?_
   exact f_owes_d (up_cons (up_cons (up_cons rfl hs17) hs19) hs21) rfl (List.Perm.refl _)
  ·rintro f M - -
   refine ob_start (L' := M) (by rfl) rfl ?_
   refine l_mv rfl rfl rfl (m_alloc tt47) ?_
   rintro _ _ ⟨b8, rfl, rfl⟩
   refine l_nil ?_
   exact f_owes_d rfl rfl (perm_front 0 rfl)
  ·rintro f M ⟨k0, k1, -⟩ -
   have hs4 : f 4 = .pointer (some ⟨(blk (f 4)), 0, none⟩) := k0
   have hs22 : f 22 = .agg #[Bx (x.kind), Ix (x.owner), Ix (x.other), .int .i64 (0), .int .i64 (0), .int .i64 (0), .int .i64 (0), .int .i64 (0)] := k1
   refine ob_start (L' := pt (blk (f 4)) (.cells #[.int .u8 (0), .int .i64 (0), .int .i64 (0), .int .i64 (0), .int .i64 (0), .int .i64 (0), .int .i64 (0), .int .i64 (0)] 47) :: M) (by rfl) (up_cons (up_cons rfl hs4) hs22) ?_
   refine l_mu rfl rfl (m_store 0 tt17 (b := (blk (f 4))) (o := 0) (T := 47) (cs := #[.int .u8 (0), .int .i64 (0), .int .i64 (0), .int .i64 (0), .int .i64 (0), .int .i64 (0), .int .i64 (0), .int .i64 (0)]) (cs' := #[Bx (x.kind), Ix (x.owner), Ix (x.other), .int .i64 (0), .int .i64 (0), .int .i64 (0), .int .i64 (0), .int .i64 (0)]) (v := .agg #[Bx (x.kind), Ix (x.owner), Ix (x.other), .int .i64 (0), .int .i64 (0), .int .i64 (0), .int .i64 (0), .int .i64 (0)]) rfl rfl rfl rfl rfl rfl rfl) ?_
   refine l_nil ?_
   exact f_owes_n (up_cons (up_cons rfl hs4) hs22) trivial (perm_front 0 rfl)
  rintro fa9 ⟨-, -, -, -, -, -, -, -, k8, -, -⟩ ⟨j0, j1, j2, j3, j4, -⟩
  refine f_re (L' := [rowF ActF 47 p c ys, pt b2 (.cells #[.int .i64 (0), .int .i64 (0), .slice none 0 0] 80), pt b1 (.cells #[.pointer (some ⟨rb, 0, none⟩)] 168), pt (blk (fa5 3)) (.cells #[Ix (au), Ix (nu), .slice p (ys.length) c] 80), rdrR rb (bitsV (U x.hold) 64 ++ (amK x.a 31 (actsK (al.drop (k + 1)) l))), pt (blk (fa9 4)) (.cells #[Bx (x.kind), Ix (x.owner), Ix (x.other), .int .i64 (0), .int .i64 (0), .int .i64 (0), .int .i64 (0), .int .i64 (0)] 47)]) (by rfl) ?_
  refine f_rebase (d := 1) (v := .pointer (some ⟨b1, 0, none⟩)) j0 ?_
  refine f_rebase (d := 2) (v := .pointer (some ⟨b2, 0, none⟩)) j1 ?_
  refine f_rebase (d := 3) (v := .pointer (some ⟨(blk (fa5 3)), 0, none⟩)) j2 ?_
  refine f_rebase (d := 4) (v := .pointer (some ⟨(blk (fa9 4)), 0, none⟩)) k8 ?_
  refine f_rebase (d := 12) (v := Nx (min al.length 16)) j3 ?_
  refine f_rebase (d := 13) (v := Nx (k)) j4 ?_
  refine f_then ?_
  refine c_seq ?_
  refine c_any [⟨[], [], [0], [23], fun f => f 23 = .agg #[.pointer (some ⟨rb, 0, none⟩)]⟩, ⟨[0], [0], [], [24], fun f => f 24 = Ix (x.hold)⟩, ⟨[], [], [0], [25], fun f => f 25 = .agg #[.pointer (some ⟨rb, 0, none⟩)]⟩, ⟨[0, 1, 2], [2], [], [26], fun f => f 26 = .agg (amC x.a)⟩, ⟨[0, 1], [], [1], [27], fun f => f 27 = .pointer (some ⟨(blk (fa9 4)), 3, none⟩)⟩, ⟨[0, 1, 2, 3, 4], [4, 1], [], [], fun _ => True⟩, ⟨[0, 1, 2, 3, 4, 5], [], [1], [28], fun f => f 28 = .pointer (some ⟨(blk (fa9 4)), 4, none⟩)⟩, ⟨[0, 1, 2, 3, 4, 5, 6], [6, 3], [], [], fun _ => True⟩] [⟨none, none, [], [], fun _ => rowF ActF 47 p c ys⟩, ⟨none, none, [], [], fun _ => pt b2 (.cells #[.int .i64 (0), .int .i64 (0), .slice none 0 0] 80)⟩, ⟨none, none, [0, 2], [], fun _ => pt b1 (.cells #[.pointer (some ⟨rb, 0, none⟩)] 168)⟩, ⟨none, none, [], [], fun _ => pt (blk (fa5 3)) (.cells #[Ix (au), Ix (nu), .slice p (ys.length) c] 80)⟩, ⟨none, (some 1), [1], [], fun _ => rdrR rb (bitsV (U x.hold) 64 ++ (amK x.a 31 (actsK (al.drop (k + 1)) l)))⟩, ⟨none, (some 5), [5], [], fun _ => pt (blk (fa9 4)) (.cells #[Bx (x.kind), Ix (x.owner), Ix (x.other), .int .i64 (0), .int .i64 (0), .int .i64 (0), .int .i64 (0), .int .i64 (0)] 47)⟩, ⟨(some 1), (some 3), [3], [], fun _ => rdrR rb (amK x.a 31 (actsK (al.drop (k + 1)) l))⟩, ⟨(some 3), none, [], [], fun _ => rdrR rb (actsK (al.drop (k + 1)) l)⟩, ⟨(some 5), (some 7), [7], [], fun _ => pt (blk (fa9 4)) (.cells #[Bx (x.kind), Ix (x.owner), Ix (x.other), Ix (x.hold), .int .i64 (0), .int .i64 (0), .int .i64 (0), .int .i64 (0)] 47)⟩, ⟨(some 7), none, [], [], fun _ => pt (blk (fa9 4)) (.cells #[Bx (x.kind), Ix (x.owner), Ix (x.other), Ix (x.hold), Ix (x.a.a0), Ix (x.a.a1), Ix (x.a.a2), Ix (x.a.a3)] 47)⟩] [(1, .pointer (some ⟨b1, 0, none⟩)), (4, .pointer (some ⟨(blk (fa9 4)), 0, none⟩)), (2, .pointer (some ⟨b2, 0, none⟩)), (3, .pointer (some ⟨(blk (fa5 3)), 0, none⟩)), (12, Nx (min al.length 16)), (13, Nx (k))] [0, 2, 3, 1, 4, 5] [] (by kernel_rfl) (by kernel_rfl) (by kernel_rfl) (by kernel_rfl) rfl ⟨rfl, rfl, rfl, rfl, rfl, rfl, trivial⟩ ⟨?_, ?_, ?_, ?_, ?_, ?_, ?_, ?_, trivial⟩ ?_
  ·rintro f M - ⟨i0, -⟩
   have hs1 : f 1 = .pointer (some ⟨b1, 0, none⟩) := i0
   refine ob_start (L' := pt b1 (.cells #[.pointer (some ⟨rb, 0, none⟩)] 168) :: M) (by rfl) (up_cons rfl hs1) ?_
   refine l_val (v := .agg #[.pointer (some ⟨rb, 0, none⟩)]) rfl rfl rfl (e_load tt132 (cs := [.pointer (some ⟨rb, 0, none⟩)]) rfl (k_pt 0 (cs := #[.pointer (some ⟨rb, 0, none⟩)]) (vs := [.pointer (some ⟨rb, 0, none⟩)]) rfl rfl) rfl) ?_
   refine l_nil ?_
   exact f_owes_d (up_cons rfl hs1) rfl (perm_front 0 rfl)
  ·rintro f M ⟨k0, -⟩ -
   have hs23 : f 23 = .agg #[.pointer (some ⟨rb, 0, none⟩)] := k0
   refine ob_start (L' := rdrR rb (bitsV (U x.hold) 64 ++ (amK x.a 31 (actsK (al.drop (k + 1)) l))) :: M) (by rfl) (up_cons rfl hs23) ?_
   refine l_call rfl rfl rfl (cl_value (fst := []) (cap := []) (vs := [.agg #[.pointer (some ⟨rb, 0, none⟩)], .int .i64 (64)]) (all := [.agg #[.pointer (some ⟨rb, 0, none⟩)], .int .i64 (64)]) tt133 rfl rfl rfl) ?_
   intro w hw
   replace hw := hw.perm (L' := _ :: M) (by exact (perm_front 0 rfl))
   obtain ⟨β1, sb, kn, hw1, back⟩ := St.frame (L := [_]) (M := M) hw
   refine (tget_ok β1 w rb _ x.hold 64 hxf.h hw1).mono ?_
   rintro e w' ⟨rfl, hw'⟩
   refine ⟨_, rfl, _, back _ _ hw', ?_⟩
   clear hw hw1 hw' back kn sb
   refine l_nil ?_
   exact f_owes_d (up_cons rfl hs23) rfl (perm_front 0 rfl)
  ·rintro f M - ⟨i0, -⟩
   have hs1 : f 1 = .pointer (some ⟨b1, 0, none⟩) := i0
   refine ob_start (L' := pt b1 (.cells #[.pointer (some ⟨rb, 0, none⟩)] 168) :: M) (by rfl) (up_cons rfl hs1) ?_
   refine l_val (v := .agg #[.pointer (some ⟨rb, 0, none⟩)]) rfl rfl rfl (e_load tt132 (cs := [.pointer (some ⟨rb, 0, none⟩)]) rfl (k_pt 0 (cs := #[.pointer (some ⟨rb, 0, none⟩)]) (vs := [.pointer (some ⟨rb, 0, none⟩)]) rfl rfl) rfl) ?_
   refine l_nil ?_
   exact f_owes_d (up_cons rfl hs1) rfl (perm_front 0 rfl)
  ·rintro f M ⟨k0, -⟩ -
   have hs25 : f 25 = .agg #[.pointer (some ⟨rb, 0, none⟩)] := k0
   refine ob_start (L' := rdrR rb (amK x.a 31 (actsK (al.drop (k + 1)) l)) :: M) (by rfl) (up_cons rfl hs25) ?_
   refine l_call rfl rfl rfl (cl_value (fst := []) (cap := []) (vs := [.agg #[.pointer (some ⟨rb, 0, none⟩)], .int .i64 (31)]) (all := [.agg #[.pointer (some ⟨rb, 0, none⟩)], .int .i64 (31)]) tt136 rfl rfl rfl) ?_
   intro w hw
   replace hw := hw.perm (L' := _ :: M) (by exact (perm_front 0 rfl))
   obtain ⟨β1, sb, kn, hw1, back⟩ := St.frame (L := [_]) (M := M) hw
   refine (tamr_ok β1 w rb _ x.a 31 hxf.a hw1).mono ?_
   rintro e w' ⟨rfl, hw'⟩
   refine ⟨_, rfl, _, back _ _ hw', ?_⟩
   clear hw hw1 hw' back kn sb
   refine l_nil ?_
   exact f_owes_d (up_cons rfl hs25) rfl (perm_front 0 rfl)
  ·rintro f M - ⟨i0, -⟩
   have hs4 : f 4 = .pointer (some ⟨(blk (fa9 4)), 0, none⟩) := i0
   refine ob_start (L' := M) (by rfl) (up_cons rfl hs4) ?_
   refine l_val (v := .pointer (some ⟨(blk (fa9 4)), 3, none⟩)) rfl rfl rfl (e_fieldPt (b := (blk (fa9 4))) (o := 0) rfl tt9) ?_
   refine l_nil ?_
   exact f_owes_d (up_cons rfl hs4) rfl (List.Perm.refl _)
  ·rintro f M ⟨k0, k1, -⟩ -
   have hs27 : f 27 = .pointer (some ⟨(blk (fa9 4)), 3, none⟩) := k0
   have hs24 : f 24 = Ix (x.hold) := k1
   refine ob_start (L' := pt (blk (fa9 4)) (.cells #[Bx (x.kind), Ix (x.owner), Ix (x.other), .int .i64 (0), .int .i64 (0), .int .i64 (0), .int .i64 (0), .int .i64 (0)] 47) :: M) (by rfl) (up_cons (up_cons rfl hs27) hs24) ?_
   refine l_mu rfl rfl (m_store 0 tt2 (b := (blk (fa9 4))) (o := 3) (T := 47) (cs := #[Bx (x.kind), Ix (x.owner), Ix (x.other), .int .i64 (0), .int .i64 (0), .int .i64 (0), .int .i64 (0), .int .i64 (0)]) (cs' := #[Bx (x.kind), Ix (x.owner), Ix (x.other), Ix (x.hold), .int .i64 (0), .int .i64 (0), .int .i64 (0), .int .i64 (0)]) (v := Ix (x.hold)) rfl rfl rfl rfl rfl rfl rfl) ?_
   refine l_nil ?_
   exact f_owes_n (up_cons (up_cons rfl hs27) hs24) trivial (perm_front 0 rfl)
  ·rintro f M - ⟨i0, -⟩
   have hs4 : f 4 = .pointer (some ⟨(blk (fa9 4)), 0, none⟩) := i0
   refine ob_start (L' := M) (by rfl) (up_cons rfl hs4) ?_
   refine l_val (v := .pointer (some ⟨(blk (fa9 4)), 4, none⟩)) rfl rfl rfl (e_fieldPt (b := (blk (fa9 4))) (o := 0) rfl tt10) ?_
   refine l_nil ?_
   exact f_owes_d (up_cons rfl hs4) rfl (List.Perm.refl _)
  ·rintro f M ⟨k0, k1, -⟩ -
   have hs28 : f 28 = .pointer (some ⟨(blk (fa9 4)), 4, none⟩) := k0
   have hs26 : f 26 = .agg (amC x.a) := k1
   refine ob_start (L' := pt (blk (fa9 4)) (.cells #[Bx (x.kind), Ix (x.owner), Ix (x.other), Ix (x.hold), .int .i64 (0), .int .i64 (0), .int .i64 (0), .int .i64 (0)] 47) :: M) (by rfl) (up_cons (up_cons rfl hs28) hs26) ?_
   refine l_mu rfl rfl (m_store 0 tt0 (b := (blk (fa9 4))) (o := 4) (T := 47) (cs := #[Bx (x.kind), Ix (x.owner), Ix (x.other), Ix (x.hold), .int .i64 (0), .int .i64 (0), .int .i64 (0), .int .i64 (0)]) (cs' := #[Bx (x.kind), Ix (x.owner), Ix (x.other), Ix (x.hold), Ix (x.a.a0), Ix (x.a.a1), Ix (x.a.a2), Ix (x.a.a3)]) (v := .agg (amC x.a)) rfl rfl rfl rfl rfl rfl rfl) ?_
   refine l_nil ?_
   exact f_owes_n (up_cons (up_cons rfl hs28) hs26) trivial (perm_front 0 rfl)
  rintro fa10 ⟨-, -, -, -, -, -, -, -, -⟩ ⟨j0, j1, j2, j3, j4, j5, -⟩
  refine f_re (L' := [rowF ActF 47 p c ys, pt b2 (.cells #[.int .i64 (0), .int .i64 (0), .slice none 0 0] 80), pt b1 (.cells #[.pointer (some ⟨rb, 0, none⟩)] 168), pt (blk (fa5 3)) (.cells #[Ix (au), Ix (nu), .slice p (ys.length) c] 80), rdrR rb (actsK (al.drop (k + 1)) l), pt (blk (fa9 4)) (.cells #[Bx (x.kind), Ix (x.owner), Ix (x.other), Ix (x.hold), Ix (x.a.a0), Ix (x.a.a1), Ix (x.a.a2), Ix (x.a.a3)] 47)]) (by rfl) ?_
  refine f_rebase (d := 1) (v := .pointer (some ⟨b1, 0, none⟩)) j0 ?_
  refine f_rebase (d := 2) (v := .pointer (some ⟨b2, 0, none⟩)) j1 ?_
  refine f_rebase (d := 3) (v := .pointer (some ⟨(blk (fa5 3)), 0, none⟩)) j2 ?_
  refine f_rebase (d := 4) (v := .pointer (some ⟨(blk (fa9 4)), 0, none⟩)) j3 ?_
  refine f_rebase (d := 12) (v := Nx (min al.length 16)) j4 ?_
  refine f_rebase (d := 13) (v := Nx (k)) j5 ?_
  refine f_then ?_
  refine c_region ?_
  refine l_val (v := .pointer (some ⟨(blk (fa5 3)), 2, none⟩)) rfl rfl rfl (e_fieldPt (b := (blk (fa5 3))) (o := 0) rfl tt22) ?_
  refine l_val (v := .slice p (ys.length) c) rfl rfl rfl (e_load1 tt23 (v := .slice p (ys.length) c) rfl (k_pt 3 (cs := #[Ix (au), Ix (nu), .slice p (ys.length) c]) (vs := [.slice p (ys.length) c]) rfl rfl)) ?_
  refine l_val (v := .agg #[Bx (x.kind), Ix (x.owner), Ix (x.other), Ix (x.hold), Ix (x.a.a0), Ix (x.a.a1), Ix (x.a.a2), Ix (x.a.a3)]) rfl rfl rfl (e_load tt17 (cs := [Bx (x.kind), Ix (x.owner), Ix (x.other), Ix (x.hold), Ix (x.a.a0), Ix (x.a.a1), Ix (x.a.a2), Ix (x.a.a3)]) rfl (k_pt 5 (cs := #[Bx (x.kind), Ix (x.owner), Ix (x.other), Ix (x.hold), Ix (x.a.a0), Ix (x.a.a1), Ix (x.a.a2), Ix (x.a.a3)]) (vs := [Bx (x.kind), Ix (x.owner), Ix (x.other), Ix (x.hold), Ix (x.a.a0), Ix (x.a.a1), Ix (x.a.a2), Ix (x.a.a3)]) rfl rfl) rfl) ?_
  refine l_mv rfl rfl rfl (m_slices tt16 tt47 (vs := [(0, .agg #[Bx (x.kind), Ix (x.owner), Ix (x.other), Ix (x.hold), Ix (x.a.a0), Ix (x.a.a1), Ix (x.a.a2), Ix (x.a.a3)])]) (cells := #[Bx (x.kind), Ix (x.owner), Ix (x.other), Ix (x.hold), Ix (x.a.a0), Ix (x.a.a1), Ix (x.a.a2), Ix (x.a.a3)]) rfl rfl rfl (by kernel_rfl)) ?_
  rintro _ _ ⟨b11, rfl, rfl⟩
  refine l_mv rfl rfl rfl (m_appendFlN (F := ActF) 1 tt16 tt30 (p := p) (m := ys.length) (xs := ys) (ys := [x]) (ao := (some ⟨b11, 0, none⟩)) (k := 1) (c := 1) rfl rfl rfl rfl rfl (k_ptFl (z := x) 0 rfl rfl) (by first | omega | simp only [List.length_nil, List.length_cons, List.length_append, List.length_set]; omega) (by first | omega | simp only [List.length_nil, List.length_cons, List.length_append, List.length_set]; omega)) ?_
  rintro _ _ ⟨rp12, rc13, rfl, rfl⟩
  refine l_val (v := .pointer (some ⟨(blk (fa5 3)), 2, none⟩)) rfl rfl rfl (e_fieldPt (b := (blk (fa5 3))) (o := 0) rfl tt22) ?_
  refine l_mu rfl rfl (m_store 4 tt23 (b := (blk (fa5 3))) (o := 2) (T := 80) (cs := #[Ix (au), Ix (nu), .slice p (ys.length) c]) (cs' := #[Ix (au), Ix (nu), .slice rp12 ((ys ++ [x]).length) rc13]) (v := .slice rp12 ((ys ++ [x]).length) rc13) rfl rfl rfl rfl rfl rfl rfl) ?_
  refine l_nil ?_
  refine f_block ?_
  refine f_then ?_
  refine c_region ?_
  refine l_val (v := Nx (k + 1)) rfl rfl rfl (e_add (a := ((k : Nat) : Int)) (b := (1 : Int)) rfl rfl (i64n (by omega) (by omega))) ?_
  refine l_val (v := Nx (k + 1)) rfl rfl rfl (e_move) ?_
  refine l_nil ?_
  refine f_perm (L' := [rdrR rb (actsK (al.drop (k + 1)) l), rowF ActF 47 rp12 rc13 (ys ++ [x]), pt b2 (.cells #[.int .i64 (0), .int .i64 (0), .slice none 0 0] 80), pt b1 (.cells #[.pointer (some ⟨rb, 0, none⟩)] 168), pt (blk (fa5 3)) (.cells #[Ix (au), Ix (nu), .slice rp12 ((ys ++ [x]).length) rc13] 80), pt b11 (.cells #[Bx (x.kind), Ix (x.owner), Ix (x.other), Ix (x.hold), Ix (x.a.a0), Ix (x.a.a1), Ix (x.a.a2), Ix (x.a.a3)] 47), pt (blk (fa9 4)) (.cells #[Bx (x.kind), Ix (x.owner), Ix (x.other), Ix (x.hold), Ix (x.a.a0), Ix (x.a.a1), Ix (x.a.a2), Ix (x.a.a3)] 47)]) (perm_ix [5, 1, 2, 3, 4, 0, 6] 7 rfl (by kernel_rfl) (by kernel_rfl)) ?_
  refine f_mask (L' := [rdrR rb (actsK (al.drop (k + 1)) l), rowF ActF 47 rp12 rc13 (ys ++ [x]), pt b2 (.cells #[.int .i64 (0), .int .i64 (0), .slice none 0 0] 80), pt b1 (.cells #[.pointer (some ⟨rb, 0, none⟩)] 168), pt (blk (fa5 3)) (.cells #[Ix (au), Ix (nu), .slice rp12 ((ys ++ [x]).length) rc13] 80)]) [true, true, true, true, true, false, false] rfl ?_
  exact f_cut ⟨(k + 1, (ys ++ [x]), rp12, rc13), ⟨⟨rfl, rfl, rfl, rfl, rfl⟩, rfl, ⟨by omega, by rw [hys]; exact tk_next hx⟩⟩, (show al.length - (k + 1) < al.length - k from by omega)⟩
 ·
  refine c_exit ?_
  refine f_then_exit ?_
  refine f_then_exit ?_
  refine f_exit ?_
  refine f_then ?_
  refine c_seq ?_
  refine c_region ?_
  refine l_val (v := .agg #[Ix (au), Ix (nu), .slice p (ys.length) c]) rfl rfl rfl (e_load tt65 (cs := [Ix (au), Ix (nu), .slice p (ys.length) c]) rfl (k_pt 4 (cs := #[Ix (au), Ix (nu), .slice p (ys.length) c]) (vs := [Ix (au), Ix (nu), .slice p (ys.length) c]) rfl rfl) rfl) ?_
  refine l_mu rfl rfl (m_store 2 tt65 (b := b2) (o := 0) (T := 80) (cs := #[.int .i64 (0), .int .i64 (0), .slice none 0 0]) (cs' := #[Ix (au), Ix (nu), .slice p (ys.length) c]) (v := .agg #[Ix (au), Ix (nu), .slice p (ys.length) c]) rfl rfl rfl rfl rfl rfl rfl) ?_
  refine l_nil ?_
  refine f_then ?_
  refine c_ret ?_
  refine retG (l := [.cell 2 80]) (m := [.agg #[Ix (au), Ix (nu), .slice p (ys.length) c]]) (v := .agg #[Ix (au), Ix (nu), .slice p (ys.length) c]) Tryz.results87 ⟨rd_cell tt65 (cs := [Ix (au), Ix (nu), .slice p (ys.length) c]) rfl (k_pt 2 (cs := #[Ix (au), Ix (nu), .slice p (ys.length) c]) (vs := [Ix (au), Ix (nu), .slice p (ys.length) c]) rfl rfl) rfl, trivial⟩ rfl ?_
  intro w hw
  have hke : ys = al := by rw [hys, List.take_of_length_le (by have := hdf.few; omega)]
  have hde : al.drop k = [] := List.drop_eq_nil_of_le (by have := hdf.few; omega)
  replace hw := hw.perm (L' := [rowF ActF 47 p c ys, rdrR rb (actsK (al.drop k) l), pt b2 (.cells #[Ix (au), Ix (nu), .slice p (ys.length) c] 80), pt b1 (.cells #[.pointer (some ⟨rb, 0, none⟩)] 168), pt (blk (fa5 3)) (.cells #[Ix (au), Ix (nu), .slice p (ys.length) c] 80)]) (by exact (perm_ix [1, 0, 2, 3, 4] 5 rfl (by kernel_rfl) (by kernel_rfl)))
  replace hw := st_mask (L' := [rowF ActF 47 p c ys, rdrR rb (actsK (al.drop k) l)]) [true, true, false, false, false] rfl hw
  rw [hde, hke] at hw
  exact ⟨_, _, by rw [hke], hw⟩
theorem fresh_ok (β : Base) (w : World) (hw : St β [] w) : Calls Tryz.prog 84 #[] w fun r w' => ∃ mp mh mm, r = .returned (.agg #[.map (some mp), .map (some mh), .int .i64 0, .int .i64 0, .int .i64 0, .int .i64 0, .int .i64 0, .map (some mm)]) ∧ St β [mpR PuM mp [], mpR HoM mh [], mpR MeM mm []] w' := by
 refine enter (n := 5) Tryz.func84 rfl Tryz.ntmps84 rfl ?_ hw
 refine c_seq ?_
 refine c_region ?_
 refine l_mv rfl rfl rfl (m_alloc tt52) ?_
 rintro _ _ ⟨b1, rfl, rfl⟩
 refine l_nil ?_
 refine f_then ?_
 refine c_seq ?_
 refine c_region ?_
 refine l_mv rfl rfl rfl (m_mkmap (K := PuM)) ?_
 rintro _ _ ⟨b2, rfl, rfl⟩
 refine l_mv rfl rfl rfl (m_mkmap (K := HoM)) ?_
 rintro _ _ ⟨b3, rfl, rfl⟩
 refine l_mv rfl rfl rfl (m_mkmap (K := MeM)) ?_
 rintro _ _ ⟨b4, rfl, rfl⟩
 refine l_val (v := .agg #[.map (some b2), .map (some b3), .int .i64 (0), .int .i64 (0), .int .i64 (0), .int .i64 (0), .int .i64 (0), .map (some b4)]) rfl rfl rfl (e_build tt52 tt137 (vs := [(0, .map (some b2)), (1, .map (some b3)), (4, .map (some b4))]) (cells := #[.map (some b2), .map (some b3), .int .i64 (0), .int .i64 (0), .int .i64 (0), .int .i64 (0), .int .i64 (0), .map (some b4)]) rfl (by kernel_rfl)) ?_
 refine l_mu rfl rfl (m_store 3 tt54 (b := b1) (o := 0) (T := 88) (cs := #[.map none, .map none, .int .i64 (0), .int .i64 (0), .int .i64 (0), .int .i64 (0), .int .i64 (0), .map none]) (cs' := #[.map (some b2), .map (some b3), .int .i64 (0), .int .i64 (0), .int .i64 (0), .int .i64 (0), .int .i64 (0), .map (some b4)]) (v := .agg #[.map (some b2), .map (some b3), .int .i64 (0), .int .i64 (0), .int .i64 (0), .int .i64 (0), .int .i64 (0), .map (some b4)]) rfl rfl rfl rfl rfl rfl rfl) ?_
 refine l_nil ?_
 refine f_then ?_
 refine c_ret ?_
 refine retG (l := [.cell 0 88]) (m := [.agg #[.map (some b2), .map (some b3), .int .i64 (0), .int .i64 (0), .int .i64 (0), .int .i64 (0), .int .i64 (0), .map (some b4)]]) (v := .agg #[.map (some b2), .map (some b3), .int .i64 (0), .int .i64 (0), .int .i64 (0), .int .i64 (0), .int .i64 (0), .map (some b4)]) Tryz.results84 ⟨rd_cell tt54 (cs := [.map (some b2), .map (some b3), .int .i64 (0), .int .i64 (0), .int .i64 (0), .int .i64 (0), .int .i64 (0), .map (some b4)]) rfl (k_pt 3 (cs := #[.map (some b2), .map (some b3), .int .i64 (0), .int .i64 (0), .int .i64 (0), .int .i64 (0), .int .i64 (0), .map (some b4)]) (vs := [.map (some b2), .map (some b3), .int .i64 (0), .int .i64 (0), .int .i64 (0), .int .i64 (0), .int .i64 (0), .map (some b4)]) rfl rfl) rfl, trivial⟩ rfl ?_
 intro w hw
 replace hw := hw.perm (L' := [mpR PuM b2 [], mpR HoM b3 [], mpR MeM b4 [], pt b1 (.cells #[.map (some b2), .map (some b3), .int .i64 (0), .int .i64 (0), .int .i64 (0), .int .i64 (0), .int .i64 (0), .map (some b4)] 88)]) (by exact (perm_ix [2, 1, 0, 3] 4 rfl (by kernel_rfl) (by kernel_rfl)))
 replace hw := st_mask (L' := [mpR PuM b2 [], mpR HoM b3 [], mpR MeM b4 []]) [true, true, true, false] rfl hw
 exact ⟨b2, b3, b4, rfl, hw⟩
end Go.Proofs
