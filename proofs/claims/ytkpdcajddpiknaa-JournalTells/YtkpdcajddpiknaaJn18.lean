/-
 The reference's reading, walked. Printed by a program of my own.
-/
import Derived.Test.YtkpdcajddpiknaaJn17
import Derived.Test.YtkpdcajddpiknaaJnRf
import Derived.Test.YtkpdcajddpiknaaSlRf
import Derived.Test.YtkpdcajddpiknaaSlC
namespace Go.Proofs
open Go Go.Sl Go.Jn
theorem tf135 : cfB Try.prog 87 = true := by kernel_rfl
theorem tf136 : cfB Try.prog 30 = true := by kernel_rfl
theorem tf137 : cfB Try.prog 88 = true := by kernel_rfl
theorem tf138 : cfB Try.prog 31 = true := by kernel_rfl
theorem tf139 : (Try.prog.info? 54).bind (·.zero) = some (.agg #[.int .i64 (0), .int .i64 (0), .slice none 0 0, .slice none 0 0, .int .i64 (0)]) := by kernel_rfl
theorem tf140 : cfB Try.prog 79 = true := by kernel_rfl
theorem tf141 : stB Try.prog 54 [(0, 1), (1, 1), (2, 1), (3, 1), (4, 1)] = true := by kernel_rfl
theorem tf142 : tyB Try.prog 54 true 5 = true := by kernel_rfl
theorem tf143 : cfB Try.prog 80 = true := by kernel_rfl
theorem tf144 : fldB Try.prog 54 0 0 1 false = true := by kernel_rfl
theorem tf145 : cfB Try.prog 63 = true := by kernel_rfl
theorem tf146 : cfB Try.prog 81 = true := by kernel_rfl
theorem tf147 : fldB Try.prog 54 1 1 1 false = true := by kernel_rfl
theorem tf148 : fldB Try.prog 54 2 2 1 false = true := by kernel_rfl
theorem tf149 : fldB Try.prog 54 4 4 1 false = true := by kernel_rfl
theorem tf150 : fldB Try.prog 54 3 3 1 false = true := by kernel_rfl
set_option maxHeartbeats 4000000 in
theorem repoch_ok (β : Base) (w : World) (hw : St β [] w) (xs : Bs) (v : Value) (h32 : xs.length = 0 ∨ xs.length = 32) (hs : Sl U8R β.heap v xs) : Calls Try.prog 80 #[v] w fun r w' => r = .returned (Nx (epochF xs)) ∧ St β [] w' := by
 obtain ⟨va, vc, rfl, vl, vm, ve⟩ := hs.get
 refine enter (n := 58) Try.func80 rfl Try.ntmps80 rfl ?_ hw
 refine csr ?_
 refine lv e_assign ?_
 refine lnc ?_
 refine lv e_assign ?_
 refine lnf ?_
 refine cs2 ?_
 refine c_region ?_
 refine lv e_assign ?_
 refine lnf ?_
 refine c_block ?_
 refine c_loop (fun (k : Nat) (f : Fm) (L : List Res) => (f 0 = sB va xs (vc) ∧ f 3 = Nx ((epLoop xs k).toNat) ∧ f 4 = Nx (k)) ∧ L = [] ∧ (k ≤ 2 ∧ (0 < k → xs.length = 32))) (fun (k : Nat) => 2 - k) 0 ?_ ?_
 ·exact ⟨⟨rfl, rfl, rfl⟩, rfl, ⟨by omega, fun h => by omega⟩⟩
 rintro k f0 L0 ⟨⟨hs0, hs3, hs4⟩, hL, ⟨hk, hk0⟩⟩
 subst L0
 refine rebase (d := 0) hs0 ?_
 refine rebase (d := 3) hs3 ?_
 refine rebase (d := 4) hs4 ?_
 clear hs0 hs3 hs4
 have hlt := epLoop_lt xs k
 refine cs2 ?_
 refine c_region ?_
 refine lv e_move ?_
 refine lv (e_lss (a := ((k : Nat) : Int)) (b := (2 : Int)) rfl rfl) ?_
 refine lv e_move ?_
 refine l_split (s := 8) (p := ((k : Nat) : Int) < (2 : Int)) rfl (fun hg1 => ?_) (fun hg1 => ?_)
 ·refine g_val (v := sB va xs (vc)) rfl rfl rfl rfl rfl e_move ?_
  refine g_val (v := Nx (xs.length)) rfl rfl rfl rfl rfl (e_len (a := va) (n := xs.length) (c := vc) rfl tf11) ?_
  refine g_val rfl rfl rfl rfl rfl (e_eql (a := ((xs.length : Nat) : Int)) (b := (32 : Int)) rfl rfl) ?_
  refine lv (v := .bool (decide (((xs.length : Nat) : Int) = (32 : Int)))) (e_pick_t rfl) ?_
  refine lnf ?_
  refine c_if (((xs.length : Nat) : Int) = (32 : Int)) rfl (fun hc2 => ?_) (fun hc2 => ?_)
  ·refine csk ?_
   refine c_seq ?_
   refine c_block ?_
   refine c_seq ?_
   have h32' : xs.length = 32 := by omega
   refine c_region ?_
   refine lv e_move ?_
   refine lv e_move ?_
   refine lv (v := Nx (16 * k)) (e_mul (a := (16 : Int)) (b := ((k : Nat) : Int)) rfl rfl (i64n (by omega) (by omega))) ?_
   refine lv e_move ?_
   refine lv (v := Nx (16 * k)) (e_mul (a := (16 : Int)) (b := ((k : Nat) : Int)) rfl rfl (i64n (by omega) (by omega))) ?_
   refine lv (v := Nx ((16 * k) + 8)) (e_add (a := ((16 * k : Nat) : Int)) (b := (8 : Int)) rfl rfl (i64n (by omega) (by omega))) ?_
   obtain ⟨zs3, hz4⟩ : ∃ zs, zs = ((xs.take ((16 * k) + 8)).drop (16 * k)) := ⟨_, rfl⟩
   have zl5 : zs3.length = min ((16 * k) + 8) (xs).length - (16 * k) := by rw [hz4]; simp; try omega
   have ze6 := (Elems.drop (cap := vc) (16 * k) (by first | omega | (simp; omega)) (Elems.take ((16 * k) + 8) ve))
   rw [← hz4] at ze6
   refine lv (v := .slice (adv va vc (16 * k) 1) (zs3.length) ((vc - (16 * k)))) (ev_eq (by rw [show zs3.length = ((16 * k) + 8) - (16 * k) by omega]) (e_slice_lh (a := va) (len := xs.length) (cap := vc) (l := 16 * k) (h := (16 * k) + 8) tf12 rfl rfl rfl (by omega) (by omega))) ?_
   refine lcf (cl0 (vs := [sB (adv va vc (16 * k) 1) zs3 ((vc - (16 * k)))]) tf135 rfl rfl) rfl fun w β1 sb kn hw1 back => (rnum_ok β1 w hw1 zs3 (by omega) _ (Sl.mono _ _ _ _ _ sb (⟨⟨_, _, rfl, by omega, by omega, ze6⟩⟩ : Sl U8R _ _ zs3))).mono ?_
   rintro e w' ⟨rfl, hw'⟩
   refine ⟨_, rfl, _, back _ _ hw', ?_⟩
   clear hw1 hw' back kn sb
   refine lv e_assign ?_
   refine lnf ?_
   refine c_seq ?_
   by_cases hq : (1 : Int) ≤ ((wordU zs3).toNat : Int) ∧ ((wordU zs3).toNat : Int) < (4611686018427387904 : Int) ∧ ((((wordU zs3) % (2 : UInt64)).toNat : Nat) : Int) = ((k : Nat) : Int)
   ·obtain ⟨hq1, hq2, hq3⟩ := hq
    obtain ⟨zs7, hz8⟩ : ∃ zs, zs = ((xs.take ((16 * k) + 16)).drop (16 * k)) := ⟨_, rfl⟩
    have zl9 : zs7.length = min ((16 * k) + 16) (xs).length - (16 * k) := by rw [hz8]; simp; try omega
    have ze10 := (Elems.drop (cap := vc) (16 * k) (by first | omega | (simp; omega)) (Elems.take ((16 * k) + 16) ve))
    rw [← hz8] at ze10
    by_cases hg7 : zs7 = (be 8 (U (((wordU zs3).toNat : Nat) : Int)) ++ be 8 (tickU (((wordU zs3).toNat : Nat) : Int)))
    ·refine c_any [⟨[], [], [0], [23], fun f => f 23 = Ux (wordU zs3)⟩, ⟨[0], [0], [], [24], fun f => f 24 = .bool true⟩, ⟨[0, 1], [1], [], [25], fun f => f 25 = .bool true⟩, ⟨[0, 1, 2], [2], [0], [26], fun f => f 26 = Ux (wordU zs3)⟩, ⟨[0, 1, 2, 3], [3, 2], [], [27], fun f => f 27 = .bool true⟩, ⟨[0, 1, 2, 3, 4], [2, 4], [], [28], fun f => f 28 = .bool true⟩, ⟨(List.range 6), [5], [], [29], fun f => f 29 = .bool true⟩, ⟨(List.range 7), [6], [0], [30], fun f => f 30 = Ux (wordU zs3)⟩, ⟨(List.range 8), [7, 6], [], [31], fun f => f 31 = Ux ((wordU zs3) % (2 : UInt64))⟩, ⟨(List.range 9), [8, 6], [], [32], fun f => f 32 = Nx (((wordU zs3) % (2 : UInt64)).toNat)⟩, ⟨(List.range 7), [6], [1], [33], fun f => f 33 = Nx (k)⟩, ⟨(List.range 11), [9, 10, 6], [], [34], fun f => f 34 = .bool true⟩, ⟨(List.range 12), [6, 11], [], [35], fun f => f 35 = .bool true⟩, ⟨(List.range 13), [12], [], [36], fun f => f 36 = .bool true⟩, ⟨(List.range 14), [13], [2], [37], fun f => f 37 = sB va xs (vc)⟩, ⟨(List.range 14), [13], [1], [38], fun f => f 38 = Nx (k)⟩, ⟨[0, 1, 2, 3, 4, 5, 6, 7, 8, 9, 10, 11, 12, 13, 15], [15, 13], [], [39], fun f => f 39 = Nx (16 * k)⟩, ⟨(List.range 14), [13], [1], [40], fun f => f 40 = Nx (k)⟩, ⟨[0, 1, 2, 3, 4, 5, 6, 7, 8, 9, 10, 11, 12, 13, 17], [17, 13], [], [41], fun f => f 41 = Nx (16 * k)⟩, ⟨[0, 1, 2, 3, 4, 5, 6, 7, 8, 9, 10, 11, 12, 13, 17, 18], [18, 13], [], [42], fun f => f 42 = Nx ((16 * k) + 16)⟩, ⟨(List.range 20), [14, 16, 19, 13], [], [43], fun f => f 43 = sB (adv va vc (16 * k) 1) zs7 ((vc - (16 * k)))⟩, ⟨(List.range 14), [13], [0], [44], fun f => f 44 = Ux (wordU zs3)⟩, ⟨[0, 1, 2, 3, 4, 5, 6, 7, 8, 9, 10, 11, 12, 13, 21], [21, 13], [], [45], fun f => f 45 = Nx ((wordU zs3).toNat)⟩, ⟨[0, 1, 2, 3, 4, 5, 6, 7, 8, 9, 10, 11, 12, 13, 21, 22], [22, 13], [], [46], fun f => f 46 = sB (sla (f 46)) (be 8 (U (((wordU zs3).toNat : Nat) : Int)) ++ be 8 (tickU (((wordU zs3).toNat : Nat) : Int))) (slc (f 46))⟩, ⟨(List.range 24), [20, 23, 13], [], [47], fun f => f 47 = .bool true⟩, ⟨(List.range 25), [13, 24], [], [48], fun f => f 48 = .bool true⟩, ⟨(List.range 26), [25], [], [49], fun f => f 49 = .bool true⟩, ⟨(List.range 27), [26], [0], [50], fun f => f 50 = Ux (wordU zs3)⟩, ⟨(List.range 28), [27, 26], [], [51], fun f => f 51 = Nx ((wordU zs3).toNat)⟩, ⟨(List.range 27), [26], [3], [52], fun f => f 52 = Nx ((epLoop xs k).toNat)⟩, ⟨(List.range 30), [28, 29, 26], [], [53], fun f => f 53 = .bool (decide ((((epLoop xs k).toNat : Nat) : Int) < (((wordU zs3).toNat : Nat) : Int)))⟩, ⟨(List.range 31), [26, 30], [], [54], fun f => f 54 = .bool (decide ((((epLoop xs k).toNat : Nat) : Int) < (((wordU zs3).toNat : Nat) : Int)))⟩] [⟨(some 23), none, [24], [46], fun f => rB (sla (f 46)) (be 8 (U (((wordU zs3).toNat : Nat) : Int)) ++ be 8 (tickU (((wordU zs3).toNat : Nat) : Int))) (slc (f 46))⟩] [(5, Ux (wordU zs3)), (4, Nx (k)), (0, sB va xs (vc)), (3, Nx ((epLoop xs k).toNat))] [2, 3, 1, 0] [] (by kernel_rfl) (by kernel_rfl) (by kernel_rfl) (by kernel_rfl) rfl ⟨rfl, rfl, rfl, rfl, trivial⟩ ⟨?_, ?_, ?_, ?_, ?_, ?_, ?_, ?_, ?_, ?_, ?_, ?_, ?_, ?_, ?_, ?_, ?_, ?_, ?_, ?_, ?_, ?_, ?_, ?_, ?_, ?_, ?_, ?_, ?_, ?_, ?_, ?_, trivial⟩ ?_
     ·rintro f M - ⟨i0, -⟩
      exact ob0 (up_cons (d := 5) rfl i0) rfl e_move (.refl _)
     ·rintro f M ⟨k0, -⟩ -
      exact ob0 (up_cons (d := 23) rfl k0) rfl ((ev_t hq1 (e_geq (a := ((wordU zs3).toNat : Int)) (b := (1 : Int)) rfl rfl))) (.refl _)
     ·rintro f M ⟨k0, -⟩ -
      exact ob0 (up_cons (d := 24) rfl k0) rfl e_move (.refl _)
     ·rintro f M ⟨k0, -⟩ ⟨i0, -⟩
      exact obg (L' := M) (v := Ux (wordU zs3)) (up_cons (d := 25) (up_cons (d := 5) rfl i0) k0) e_move rfl rfl rfl rfl (.refl _) (by rfl)
     ·rintro f M ⟨k0, k1, -⟩ -
      exact obg (L' := M) (v := .bool true) (up_cons (d := 25) (up_cons (d := 26) rfl k0) k1) ((ev_t hq2 (e_lss (a := ((wordU zs3).toNat : Int)) (b := (4611686018427387904 : Int)) rfl rfl))) rfl rfl rfl rfl (.refl _) (by rfl)
     ·rintro f M ⟨k0, k1, -⟩ -
      exact ob0 (up_cons (d := 27) (up_cons (d := 25) rfl k0) k1) rfl (e_pick_t rfl) (.refl _)
     ·rintro f M ⟨k0, -⟩ -
      exact ob0 (up_cons (d := 28) rfl k0) rfl e_move (.refl _)
     ·rintro f M ⟨k0, -⟩ ⟨i0, -⟩
      exact obg (L' := M) (v := Ux (wordU zs3)) (up_cons (d := 29) (up_cons (d := 5) rfl i0) k0) e_move rfl rfl rfl rfl (.refl _) (by rfl)
     ·rintro f M ⟨k0, k1, -⟩ -
      exact obg (L' := M) (v := Ux ((wordU zs3) % (2 : UInt64))) (up_cons (d := 29) (up_cons (d := 30) rfl k0) k1) (e_rem (a := ((wordU zs3).toNat : Int)) (b := ((2 : UInt64).toNat : Int)) rfl rfl (by decide) (ux_rem _ _)) rfl rfl rfl rfl (.refl _) (by rfl)
     ·rintro f M ⟨k0, k1, -⟩ -
      exact obg (L' := M) (v := Nx (((wordU zs3) % (2 : UInt64)).toNat)) (up_cons (d := 29) (up_cons (d := 31) rfl k0) k1) (e_conv (a := (((wordU zs3) % (2 : UInt64)).toNat : Int)) rfl ⟨_, tf2⟩ tf1 (i64n rfl (by have h2 := u64m2 (wordU zs3); omega))) rfl rfl rfl rfl (.refl _) (by rfl)
     ·rintro f M ⟨k0, -⟩ ⟨i0, -⟩
      exact obg (L' := M) (v := Nx (k)) (up_cons (d := 29) (up_cons (d := 4) rfl i0) k0) e_move rfl rfl rfl rfl (.refl _) (by rfl)
     ·rintro f M ⟨k0, k1, k2, -⟩ -
      exact obg (L' := M) (v := .bool true) (up_cons (d := 29) (up_cons (d := 33) (up_cons (d := 32) rfl k0) k1) k2) ((ev_t hq3 (e_eql (a := ((((wordU zs3) % (2 : UInt64)).toNat : Nat) : Int)) (b := ((k : Nat) : Int)) rfl rfl))) rfl rfl rfl rfl (.refl _) (by rfl)
     ·rintro f M ⟨k0, k1, -⟩ -
      exact ob0 (up_cons (d := 34) (up_cons (d := 29) rfl k0) k1) rfl (e_pick_t rfl) (.refl _)
     ·rintro f M ⟨k0, -⟩ -
      exact ob0 (up_cons (d := 35) rfl k0) rfl e_move (.refl _)
     ·rintro f M ⟨k0, -⟩ ⟨i0, -⟩
      exact obg (L' := M) (v := sB va xs (vc)) (up_cons (d := 36) (up_cons (d := 0) rfl i0) k0) e_move rfl rfl rfl rfl (.refl _) (by rfl)
     ·rintro f M ⟨k0, -⟩ ⟨i0, -⟩
      exact obg (L' := M) (v := Nx (k)) (up_cons (d := 36) (up_cons (d := 4) rfl i0) k0) e_move rfl rfl rfl rfl (.refl _) (by rfl)
     ·rintro f M ⟨k0, k1, -⟩ -
      exact obg (L' := M) (v := Nx (16 * k)) (up_cons (d := 36) (up_cons (d := 38) rfl k0) k1) (e_mul (a := (16 : Int)) (b := ((k : Nat) : Int)) rfl rfl (i64n (by omega) (by omega))) rfl rfl rfl rfl (.refl _) (by rfl)
     ·rintro f M ⟨k0, -⟩ ⟨i0, -⟩
      exact obg (L' := M) (v := Nx (k)) (up_cons (d := 36) (up_cons (d := 4) rfl i0) k0) e_move rfl rfl rfl rfl (.refl _) (by rfl)
     ·rintro f M ⟨k0, k1, -⟩ -
      exact obg (L' := M) (v := Nx (16 * k)) (up_cons (d := 36) (up_cons (d := 40) rfl k0) k1) (e_mul (a := (16 : Int)) (b := ((k : Nat) : Int)) rfl rfl (i64n (by omega) (by omega))) rfl rfl rfl rfl (.refl _) (by rfl)
     ·rintro f M ⟨k0, k1, -⟩ -
      exact obg (L' := M) (v := Nx ((16 * k) + 16)) (up_cons (d := 36) (up_cons (d := 41) rfl k0) k1) (e_add (a := ((16 * k : Nat) : Int)) (b := (16 : Int)) rfl rfl (i64n (by omega) (by omega))) rfl rfl rfl rfl (.refl _) (by rfl)
     ·rintro f M ⟨k0, k1, k2, k3, -⟩ -
      exact obg (L' := M) (v := .slice (adv va vc (16 * k) 1) (zs7.length) ((vc - (16 * k)))) (up_cons (d := 36) (up_cons (d := 42) (up_cons (d := 39) (up_cons (d := 37) rfl k0) k1) k2) k3) (ev_eq (by rw [show zs7.length = ((16 * k) + 16) - (16 * k) by omega]) (e_slice_lh (a := va) (len := xs.length) (cap := vc) (l := 16 * k) (h := (16 * k) + 16) tf12 rfl rfl rfl (by omega) (by omega))) rfl rfl rfl rfl (.refl _) (by rfl)
     ·rintro f M ⟨k0, -⟩ ⟨i0, -⟩
      exact obg (L' := M) (v := Ux (wordU zs3)) (up_cons (d := 36) (up_cons (d := 5) rfl i0) k0) e_move rfl rfl rfl rfl (.refl _) (by rfl)
     ·rintro f M ⟨k0, k1, -⟩ -
      exact obg (L' := M) (v := Nx ((wordU zs3).toNat)) (up_cons (d := 36) (up_cons (d := 44) rfl k0) k1) (e_conv (a := ((wordU zs3).toNat : Int)) rfl ⟨_, tf2⟩ tf1 (i64n rfl (by omega))) rfl rfl rfl rfl (.refl _) (by rfl)
     ·rintro f M ⟨k0, k1, -⟩ -
      refine ob_start (L' := M) (by rfl) (up_cons (d := 36) (up_cons (d := 45) rfl k0) k1) ?_
      refine g_call rfl rfl rfl rfl rfl (cl0 (vs := [Nx ((wordU zs3).toNat)]) tf136 rfl rfl) ?_
      intro w hw
      obtain ⟨β1, sb, kn, hw1, back⟩ := St.frame_all hw
      refine (rcopy_ok β1 w hw1 (((wordU zs3).toNat : Nat) : Int)).mono ?_
      rintro e w' ⟨p10, c11, rfl, hw'⟩
      refine ⟨_, rfl, _, back _ _ hw', ?_⟩
      clear hw hw1 hw' back kn sb
      refine l_nil ?_
      exact f_owes_d (up_cons (d := 36) (up_cons (d := 45) rfl k0) k1) rfl (perm_front 0 rfl)
     ·rintro f M ⟨k0, k1, k2, -⟩ -
      have hs46 : f 46 = sB (sla (f 46)) (be 8 (U (((wordU zs3).toNat : Nat) : Int)) ++ be 8 (tickU (((wordU zs3).toNat : Nat) : Int))) (slc (f 46)) := k1
      refine ob_start (L' := rB (sla (f 46)) (be 8 (U (((wordU zs3).toNat : Nat) : Int)) ++ be 8 (tickU (((wordU zs3).toNat : Nat) : Int))) (slc (f 46)) :: M) (by rfl) (up_cons (d := 36) (up_cons (up_cons (d := 43) rfl k0) hs46) k2) ?_
      refine g_call rfl rfl rfl rfl rfl (cl0 (vs := [sB (adv va vc (16 * k) 1) zs7 ((vc - (16 * k))), sB (sla (f 46)) (be 8 (U (((wordU zs3).toNat : Nat) : Int)) ++ be 8 (tickU (((wordU zs3).toNat : Nat) : Int))) (slc (f 46))]) tf137 rfl rfl) ?_
      intro w hw
      obtain ⟨β1, sb, kn, hw1, back⟩ := St.frame_all hw
      refine (rsame_ok β1 w hw1 zs7 (be 8 (U (((wordU zs3).toNat : Nat) : Int)) ++ be 8 (tickU (((wordU zs3).toNat : Nat) : Int))) _ _ (Sl.mono _ _ _ _ _ sb (⟨⟨_, _, rfl, by omega, by omega, ze10⟩⟩ : Sl U8R _ _ zs7)) (kU kn 0 rfl)).mono ?_
      rintro e w' ⟨rfl, hw'⟩
      refine ⟨_, rfl, _, back _ _ hw', ?_⟩
      clear hw hw1 hw' back kn sb
      refine l_nil ?_
      exact f_owes_d (up_cons (d := 36) (up_cons (up_cons (d := 43) rfl k0) hs46) k2) (congrArg Value.bool (decide_eq_true hg7)) (perm_front 0 rfl)
     ·rintro f M ⟨k0, k1, -⟩ -
      exact ob0 (up_cons (d := 47) (up_cons (d := 36) rfl k0) k1) rfl (e_pick_t rfl) (.refl _)
     ·rintro f M ⟨k0, -⟩ -
      exact ob0 (up_cons (d := 48) rfl k0) rfl e_move (.refl _)
     ·rintro f M ⟨k0, -⟩ ⟨i0, -⟩
      exact obg (L' := M) (v := Ux (wordU zs3)) (up_cons (d := 49) (up_cons (d := 5) rfl i0) k0) e_move rfl rfl rfl rfl (.refl _) (by rfl)
     ·rintro f M ⟨k0, k1, -⟩ -
      exact obg (L' := M) (v := Nx ((wordU zs3).toNat)) (up_cons (d := 49) (up_cons (d := 50) rfl k0) k1) (e_conv (a := ((wordU zs3).toNat : Int)) rfl ⟨_, tf2⟩ tf1 (i64n rfl (by omega))) rfl rfl rfl rfl (.refl _) (by rfl)
     ·rintro f M ⟨k0, -⟩ ⟨i0, -⟩
      exact obg (L' := M) (v := Nx ((epLoop xs k).toNat)) (up_cons (d := 49) (up_cons (d := 3) rfl i0) k0) e_move rfl rfl rfl rfl (.refl _) (by rfl)
     ·rintro f M ⟨k0, k1, k2, -⟩ -
      exact obg (L' := M) (up_cons (d := 49) (up_cons (d := 52) (up_cons (d := 51) rfl k0) k1) k2) (e_gtr (a := (((wordU zs3).toNat : Nat) : Int)) (b := (((epLoop xs k).toNat : Nat) : Int)) rfl rfl) rfl rfl rfl rfl (.refl _) (by rfl)
     ·rintro f M ⟨k0, k1, -⟩ -
      exact ob0 (up_cons (d := 53) (up_cons (d := 49) rfl k0) k1) rfl (e_pick_t rfl) (.refl _)
     rintro fa12 ⟨-, -, -, -, -, -, -, -, -, -, -, -, -, -, -, -, -, -, -, -, -, -, -, -, -, -, -, -, -, -, -, k31, -⟩ ⟨j0, j1, j2, j3, -⟩
     refine f_re (L' := [rB (sla (fa12 46)) (be 8 (U (((wordU zs3).toNat : Nat) : Int)) ++ be 8 (tickU (((wordU zs3).toNat : Nat) : Int))) (slc (fa12 46))]) (by rfl) ?_
     refine f_rebase (d := 0) j0 ?_
     refine f_rebase (d := 3) j1 ?_
     refine f_rebase (d := 4) j2 ?_
     refine f_rebase (d := 5) j3 ?_
     refine f_rebase (d := 54) k31 ?_
     refine f_then ?_
     refine c_if ((((epLoop xs k).toNat : Nat) : Int) < (((wordU zs3).toNat : Nat) : Int)) rfl (fun hc13 => ?_) (fun hc13 => ?_)
     ·refine c_region ?_
      refine lv e_move ?_
      refine lv (v := Nx ((wordU zs3).toNat)) (e_conv (a := ((wordU zs3).toNat : Int)) rfl ⟨_, tf2⟩ tf1 (i64n rfl (by omega))) ?_
      refine lv e_assign ?_
      refine l_nil ?_
      refine f_block ?_
      refine f_then ?_
      refine c_region ?_
      refine lv e_move ?_
      refine lv (v := Nx (k + 1)) (e_add (a := ((k : Nat) : Int)) (b := (1 : Int)) rfl rfl (i64n (by omega) (by omega))) ?_
      refine lv e_assign ?_
      refine l_nil ?_
      refine f_mask (L' := []) [false] rfl ?_
      exact f_cut ⟨k + 1, ⟨⟨rfl, (show Nx ((wordU zs3).toNat) = Nx (epLoop xs (k + 1)).toNat by subst hz4; subst hz8; exact congrArg (fun z : Nat => Nx z) (ep_refY (by omega) (by omega) hq2 hq3 hg7 hc13).symm), rfl⟩, rfl, ⟨by omega, fun _ => by omega⟩⟩, (show 2 - (k + 1) < 2 - k from by omega)⟩
     refine c_skip ?_
     refine f_block ?_
     refine f_then ?_
     refine c_region ?_
     refine lv e_move ?_
     refine lv (v := Nx (k + 1)) (e_add (a := ((k : Nat) : Int)) (b := (1 : Int)) rfl rfl (i64n (by omega) (by omega))) ?_
     refine lv e_assign ?_
     refine l_nil ?_
     refine f_mask (L' := []) [false] rfl ?_
     exact f_cut ⟨k + 1, ⟨⟨rfl, (show Nx ((epLoop xs k).toNat) = Nx (epLoop xs (k + 1)).toNat by subst hz4; subst hz8; exact congrArg (fun z : UInt64 => Nx z.toNat) (ep_refN (by omega) (by omega) (by rintro ⟨a1, a2, a3, a4⟩; exact hc13 a4)).symm), rfl⟩, rfl, ⟨by omega, fun _ => by omega⟩⟩, (show 2 - (k + 1) < 2 - k from by omega)⟩
    refine c_any [⟨[], [], [0], [23], fun f => f 23 = Ux (wordU zs3)⟩, ⟨[0], [0], [], [24], fun f => f 24 = .bool true⟩, ⟨[0, 1], [1], [], [25], fun f => f 25 = .bool true⟩, ⟨[0, 1, 2], [2], [0], [26], fun f => f 26 = Ux (wordU zs3)⟩, ⟨[0, 1, 2, 3], [3, 2], [], [27], fun f => f 27 = .bool true⟩, ⟨[0, 1, 2, 3, 4], [2, 4], [], [28], fun f => f 28 = .bool true⟩, ⟨(List.range 6), [5], [], [29], fun f => f 29 = .bool true⟩, ⟨(List.range 7), [6], [0], [30], fun f => f 30 = Ux (wordU zs3)⟩, ⟨(List.range 8), [7, 6], [], [31], fun f => f 31 = Ux ((wordU zs3) % (2 : UInt64))⟩, ⟨(List.range 9), [8, 6], [], [32], fun f => f 32 = Nx (((wordU zs3) % (2 : UInt64)).toNat)⟩, ⟨(List.range 7), [6], [1], [33], fun f => f 33 = Nx (k)⟩, ⟨(List.range 11), [9, 10, 6], [], [34], fun f => f 34 = .bool true⟩, ⟨(List.range 12), [6, 11], [], [35], fun f => f 35 = .bool true⟩, ⟨(List.range 13), [12], [], [36], fun f => f 36 = .bool true⟩, ⟨(List.range 14), [13], [2], [37], fun f => f 37 = sB va xs (vc)⟩, ⟨(List.range 14), [13], [1], [38], fun f => f 38 = Nx (k)⟩, ⟨[0, 1, 2, 3, 4, 5, 6, 7, 8, 9, 10, 11, 12, 13, 15], [15, 13], [], [39], fun f => f 39 = Nx (16 * k)⟩, ⟨(List.range 14), [13], [1], [40], fun f => f 40 = Nx (k)⟩, ⟨[0, 1, 2, 3, 4, 5, 6, 7, 8, 9, 10, 11, 12, 13, 17], [17, 13], [], [41], fun f => f 41 = Nx (16 * k)⟩, ⟨[0, 1, 2, 3, 4, 5, 6, 7, 8, 9, 10, 11, 12, 13, 17, 18], [18, 13], [], [42], fun f => f 42 = Nx ((16 * k) + 16)⟩, ⟨(List.range 20), [14, 16, 19, 13], [], [43], fun f => f 43 = sB (adv va vc (16 * k) 1) zs7 ((vc - (16 * k)))⟩, ⟨(List.range 14), [13], [0], [44], fun f => f 44 = Ux (wordU zs3)⟩, ⟨[0, 1, 2, 3, 4, 5, 6, 7, 8, 9, 10, 11, 12, 13, 21], [21, 13], [], [45], fun f => f 45 = Nx ((wordU zs3).toNat)⟩, ⟨[0, 1, 2, 3, 4, 5, 6, 7, 8, 9, 10, 11, 12, 13, 21, 22], [22, 13], [], [46], fun f => f 46 = sB (sla (f 46)) (be 8 (U (((wordU zs3).toNat : Nat) : Int)) ++ be 8 (tickU (((wordU zs3).toNat : Nat) : Int))) (slc (f 46))⟩, ⟨(List.range 24), [20, 23, 13], [], [47], fun f => f 47 = .bool false⟩, ⟨(List.range 25), [13, 24], [], [48], fun f => f 48 = .bool false⟩, ⟨(List.range 26), [25], [], [49], fun f => f 49 = .bool false⟩, ⟨(List.range 27), [26], [0], [50], fun f => f 50 = undef⟩, ⟨(List.range 28), [27, 26], [], [51], fun f => f 51 = undef⟩, ⟨(List.range 27), [26], [3], [52], fun f => f 52 = undef⟩, ⟨(List.range 30), [28, 29, 26], [], [53], fun f => f 53 = undef⟩, ⟨(List.range 31), [26, 30], [], [54], fun f => f 54 = .bool false⟩] [⟨(some 23), none, [24], [46], fun f => rB (sla (f 46)) (be 8 (U (((wordU zs3).toNat : Nat) : Int)) ++ be 8 (tickU (((wordU zs3).toNat : Nat) : Int))) (slc (f 46))⟩] [(5, Ux (wordU zs3)), (4, Nx (k)), (0, sB va xs (vc)), (3, Nx ((epLoop xs k).toNat))] [2, 3, 1, 0] [] (by kernel_rfl) (by kernel_rfl) (by kernel_rfl) (by kernel_rfl) rfl ⟨rfl, rfl, rfl, rfl, trivial⟩ ⟨?_, ?_, ?_, ?_, ?_, ?_, ?_, ?_, ?_, ?_, ?_, ?_, ?_, ?_, ?_, ?_, ?_, ?_, ?_, ?_, ?_, ?_, ?_, ?_, ?_, ?_, ?_, ?_, ?_, ?_, ?_, ?_, trivial⟩ ?_
    ·rintro f M - ⟨i0, -⟩
     exact ob0 (up_cons (d := 5) rfl i0) rfl e_move (.refl _)
    ·rintro f M ⟨k0, -⟩ -
     exact ob0 (up_cons (d := 23) rfl k0) rfl ((ev_t hq1 (e_geq (a := ((wordU zs3).toNat : Int)) (b := (1 : Int)) rfl rfl))) (.refl _)
    ·rintro f M ⟨k0, -⟩ -
     exact ob0 (up_cons (d := 24) rfl k0) rfl e_move (.refl _)
    ·rintro f M ⟨k0, -⟩ ⟨i0, -⟩
     exact obg (L' := M) (v := Ux (wordU zs3)) (up_cons (d := 25) (up_cons (d := 5) rfl i0) k0) e_move rfl rfl rfl rfl (.refl _) (by rfl)
    ·rintro f M ⟨k0, k1, -⟩ -
     exact obg (L' := M) (v := .bool true) (up_cons (d := 25) (up_cons (d := 26) rfl k0) k1) ((ev_t hq2 (e_lss (a := ((wordU zs3).toNat : Int)) (b := (4611686018427387904 : Int)) rfl rfl))) rfl rfl rfl rfl (.refl _) (by rfl)
    ·rintro f M ⟨k0, k1, -⟩ -
     exact ob0 (up_cons (d := 27) (up_cons (d := 25) rfl k0) k1) rfl (e_pick_t rfl) (.refl _)
    ·rintro f M ⟨k0, -⟩ -
     exact ob0 (up_cons (d := 28) rfl k0) rfl e_move (.refl _)
    ·rintro f M ⟨k0, -⟩ ⟨i0, -⟩
     exact obg (L' := M) (v := Ux (wordU zs3)) (up_cons (d := 29) (up_cons (d := 5) rfl i0) k0) e_move rfl rfl rfl rfl (.refl _) (by rfl)
    ·rintro f M ⟨k0, k1, -⟩ -
     exact obg (L' := M) (v := Ux ((wordU zs3) % (2 : UInt64))) (up_cons (d := 29) (up_cons (d := 30) rfl k0) k1) (e_rem (a := ((wordU zs3).toNat : Int)) (b := ((2 : UInt64).toNat : Int)) rfl rfl (by decide) (ux_rem _ _)) rfl rfl rfl rfl (.refl _) (by rfl)
    ·rintro f M ⟨k0, k1, -⟩ -
     exact obg (L' := M) (v := Nx (((wordU zs3) % (2 : UInt64)).toNat)) (up_cons (d := 29) (up_cons (d := 31) rfl k0) k1) (e_conv (a := (((wordU zs3) % (2 : UInt64)).toNat : Int)) rfl ⟨_, tf2⟩ tf1 (i64n rfl (by have h2 := u64m2 (wordU zs3); omega))) rfl rfl rfl rfl (.refl _) (by rfl)
    ·rintro f M ⟨k0, -⟩ ⟨i0, -⟩
     exact obg (L' := M) (v := Nx (k)) (up_cons (d := 29) (up_cons (d := 4) rfl i0) k0) e_move rfl rfl rfl rfl (.refl _) (by rfl)
    ·rintro f M ⟨k0, k1, k2, -⟩ -
     exact obg (L' := M) (v := .bool true) (up_cons (d := 29) (up_cons (d := 33) (up_cons (d := 32) rfl k0) k1) k2) ((ev_t hq3 (e_eql (a := ((((wordU zs3) % (2 : UInt64)).toNat : Nat) : Int)) (b := ((k : Nat) : Int)) rfl rfl))) rfl rfl rfl rfl (.refl _) (by rfl)
    ·rintro f M ⟨k0, k1, -⟩ -
     exact ob0 (up_cons (d := 34) (up_cons (d := 29) rfl k0) k1) rfl (e_pick_t rfl) (.refl _)
    ·rintro f M ⟨k0, -⟩ -
     exact ob0 (up_cons (d := 35) rfl k0) rfl e_move (.refl _)
    ·rintro f M ⟨k0, -⟩ ⟨i0, -⟩
     exact obg (L' := M) (v := sB va xs (vc)) (up_cons (d := 36) (up_cons (d := 0) rfl i0) k0) e_move rfl rfl rfl rfl (.refl _) (by rfl)
    ·rintro f M ⟨k0, -⟩ ⟨i0, -⟩
     exact obg (L' := M) (v := Nx (k)) (up_cons (d := 36) (up_cons (d := 4) rfl i0) k0) e_move rfl rfl rfl rfl (.refl _) (by rfl)
    ·rintro f M ⟨k0, k1, -⟩ -
     exact obg (L' := M) (v := Nx (16 * k)) (up_cons (d := 36) (up_cons (d := 38) rfl k0) k1) (e_mul (a := (16 : Int)) (b := ((k : Nat) : Int)) rfl rfl (i64n (by omega) (by omega))) rfl rfl rfl rfl (.refl _) (by rfl)
    ·rintro f M ⟨k0, -⟩ ⟨i0, -⟩
     exact obg (L' := M) (v := Nx (k)) (up_cons (d := 36) (up_cons (d := 4) rfl i0) k0) e_move rfl rfl rfl rfl (.refl _) (by rfl)
    ·rintro f M ⟨k0, k1, -⟩ -
     exact obg (L' := M) (v := Nx (16 * k)) (up_cons (d := 36) (up_cons (d := 40) rfl k0) k1) (e_mul (a := (16 : Int)) (b := ((k : Nat) : Int)) rfl rfl (i64n (by omega) (by omega))) rfl rfl rfl rfl (.refl _) (by rfl)
    ·rintro f M ⟨k0, k1, -⟩ -
     exact obg (L' := M) (v := Nx ((16 * k) + 16)) (up_cons (d := 36) (up_cons (d := 41) rfl k0) k1) (e_add (a := ((16 * k : Nat) : Int)) (b := (16 : Int)) rfl rfl (i64n (by omega) (by omega))) rfl rfl rfl rfl (.refl _) (by rfl)
    ·rintro f M ⟨k0, k1, k2, k3, -⟩ -
     exact obg (L' := M) (v := .slice (adv va vc (16 * k) 1) (zs7.length) ((vc - (16 * k)))) (up_cons (d := 36) (up_cons (d := 42) (up_cons (d := 39) (up_cons (d := 37) rfl k0) k1) k2) k3) (ev_eq (by rw [show zs7.length = ((16 * k) + 16) - (16 * k) by omega]) (e_slice_lh (a := va) (len := xs.length) (cap := vc) (l := 16 * k) (h := (16 * k) + 16) tf12 rfl rfl rfl (by omega) (by omega))) rfl rfl rfl rfl (.refl _) (by rfl)
    ·rintro f M ⟨k0, -⟩ ⟨i0, -⟩
     exact obg (L' := M) (v := Ux (wordU zs3)) (up_cons (d := 36) (up_cons (d := 5) rfl i0) k0) e_move rfl rfl rfl rfl (.refl _) (by rfl)
    ·rintro f M ⟨k0, k1, -⟩ -
     exact obg (L' := M) (v := Nx ((wordU zs3).toNat)) (up_cons (d := 36) (up_cons (d := 44) rfl k0) k1) (e_conv (a := ((wordU zs3).toNat : Int)) rfl ⟨_, tf2⟩ tf1 (i64n rfl (by omega))) rfl rfl rfl rfl (.refl _) (by rfl)
    ·rintro f M ⟨k0, k1, -⟩ -
     refine ob_start (L' := M) (by rfl) (up_cons (d := 36) (up_cons (d := 45) rfl k0) k1) ?_
     refine g_call rfl rfl rfl rfl rfl (cl0 (vs := [Nx ((wordU zs3).toNat)]) tf136 rfl rfl) ?_
     intro w hw
     obtain ⟨β1, sb, kn, hw1, back⟩ := St.frame_all hw
     refine (rcopy_ok β1 w hw1 (((wordU zs3).toNat : Nat) : Int)).mono ?_
     rintro e w' ⟨p16, c17, rfl, hw'⟩
     refine ⟨_, rfl, _, back _ _ hw', ?_⟩
     clear hw hw1 hw' back kn sb
     refine l_nil ?_
     exact f_owes_d (up_cons (d := 36) (up_cons (d := 45) rfl k0) k1) rfl (perm_front 0 rfl)
    ·rintro f M ⟨k0, k1, k2, -⟩ -
     have hs46 : f 46 = sB (sla (f 46)) (be 8 (U (((wordU zs3).toNat : Nat) : Int)) ++ be 8 (tickU (((wordU zs3).toNat : Nat) : Int))) (slc (f 46)) := k1
     refine ob_start (L' := rB (sla (f 46)) (be 8 (U (((wordU zs3).toNat : Nat) : Int)) ++ be 8 (tickU (((wordU zs3).toNat : Nat) : Int))) (slc (f 46)) :: M) (by rfl) (up_cons (d := 36) (up_cons (up_cons (d := 43) rfl k0) hs46) k2) ?_
     refine g_call rfl rfl rfl rfl rfl (cl0 (vs := [sB (adv va vc (16 * k) 1) zs7 ((vc - (16 * k))), sB (sla (f 46)) (be 8 (U (((wordU zs3).toNat : Nat) : Int)) ++ be 8 (tickU (((wordU zs3).toNat : Nat) : Int))) (slc (f 46))]) tf137 rfl rfl) ?_
     intro w hw
     obtain ⟨β1, sb, kn, hw1, back⟩ := St.frame_all hw
     refine (rsame_ok β1 w hw1 zs7 (be 8 (U (((wordU zs3).toNat : Nat) : Int)) ++ be 8 (tickU (((wordU zs3).toNat : Nat) : Int))) _ _ (Sl.mono _ _ _ _ _ sb (⟨⟨_, _, rfl, by omega, by omega, ze10⟩⟩ : Sl U8R _ _ zs7)) (kU kn 0 rfl)).mono ?_
     rintro e w' ⟨rfl, hw'⟩
     refine ⟨_, rfl, _, back _ _ hw', ?_⟩
     clear hw hw1 hw' back kn sb
     refine l_nil ?_
     exact f_owes_d (up_cons (d := 36) (up_cons (up_cons (d := 43) rfl k0) hs46) k2) (congrArg Value.bool (decide_eq_false hg7)) (perm_front 0 rfl)
    ·rintro f M ⟨k0, k1, -⟩ -
     exact ob0 (up_cons (d := 47) (up_cons (d := 36) rfl k0) k1) rfl (e_pick_t rfl) (.refl _)
    ·rintro f M ⟨k0, -⟩ -
     exact ob0 (up_cons (d := 48) rfl k0) rfl e_move (.refl _)
    ·rintro f M ⟨k0, -⟩ ⟨i0, -⟩
     exact obs (up_cons (d := 49) (up_cons (d := 5) rfl i0) k0) rfl rfl rfl rfl (.refl _)
    ·rintro f M ⟨k0, k1, -⟩ -
     exact obs (up_cons (d := 49) (up_cons (d := 50) rfl k0) k1) rfl rfl rfl rfl (.refl _)
    ·rintro f M ⟨k0, -⟩ ⟨i0, -⟩
     exact obs (up_cons (d := 49) (up_cons (d := 3) rfl i0) k0) rfl rfl rfl rfl (.refl _)
    ·rintro f M ⟨k0, k1, k2, -⟩ -
     exact obs (up_cons (d := 49) (up_cons (d := 52) (up_cons (d := 51) rfl k0) k1) k2) rfl rfl rfl rfl (.refl _)
    ·rintro f M ⟨k0, k1, -⟩ -
     exact ob0 (up_cons (d := 53) (up_cons (d := 49) rfl k0) k1) rfl (e_pick_f rfl) (.refl _)
    rintro fa18 ⟨-, -, -, -, -, -, -, -, -, -, -, -, -, -, -, -, -, -, -, -, -, -, -, -, -, -, -, -, -, -, -, k31, -⟩ ⟨j0, j1, j2, j3, -⟩
    refine f_re (L' := [rB (sla (fa18 46)) (be 8 (U (((wordU zs3).toNat : Nat) : Int)) ++ be 8 (tickU (((wordU zs3).toNat : Nat) : Int))) (slc (fa18 46))]) (by rfl) ?_
    refine f_rebase (d := 0) j0 ?_
    refine f_rebase (d := 3) j1 ?_
    refine f_rebase (d := 4) j2 ?_
    refine f_rebase (d := 5) j3 ?_
    refine f_rebase (d := 54) k31 ?_
    refine f_then ?_
    refine c_no rfl ?_
    refine c_skip ?_
    refine f_block ?_
    refine f_then ?_
    refine c_region ?_
    refine lv e_move ?_
    refine lv (v := Nx (k + 1)) (e_add (a := ((k : Nat) : Int)) (b := (1 : Int)) rfl rfl (i64n (by omega) (by omega))) ?_
    refine lv e_assign ?_
    refine l_nil ?_
    refine f_mask (L' := []) [false] rfl ?_
    exact f_cut ⟨k + 1, ⟨⟨rfl, (show Nx ((epLoop xs k).toNat) = Nx (epLoop xs (k + 1)).toNat by subst hz4; subst hz8; exact congrArg (fun z : UInt64 => Nx z.toNat) (ep_refN (by omega) (by omega) (by rintro ⟨a1, a2, a3, a4⟩; exact hg7 a3)).symm), rfl⟩, rfl, ⟨by omega, fun _ => by omega⟩⟩, (show 2 - (k + 1) < 2 - k from by omega)⟩
   refine c_quiet (by kernel_rfl) (by kernel_rfl) ?_
   refine q_val (v := Ux (wordU zs3)) rfl rfl rfl e_move ?_
   refine q_val rfl rfl rfl (e_geq (a := ((wordU zs3).toNat : Int)) (b := (1 : Int)) rfl rfl) ?_
   refine q_val (v := .bool (decide ((1 : Int) ≤ ((wordU zs3).toNat : Int)))) rfl rfl rfl e_move ?_
   refine q_split (s := 25) (p := (1 : Int) ≤ ((wordU zs3).toNat : Int)) rfl (fun hg19 => ?_) (fun hg19 => ?_)
   ·refine qg_val (v := Ux (wordU zs3)) rfl rfl rfl rfl rfl e_move ?_
    refine qg_val rfl rfl rfl rfl rfl (e_lss (a := ((wordU zs3).toNat : Int)) (b := (4611686018427387904 : Int)) rfl rfl) ?_
    refine q_val (v := .bool (decide (((wordU zs3).toNat : Int) < (4611686018427387904 : Int)))) rfl rfl rfl (e_pick_t rfl) ?_
    refine q_val (v := .bool (decide (((wordU zs3).toNat : Int) < (4611686018427387904 : Int)))) rfl rfl rfl e_move ?_
    refine q_split (s := 29) (p := ((wordU zs3).toNat : Int) < (4611686018427387904 : Int)) rfl (fun hg20 => ?_) (fun hg20 => ?_)
    ·refine qg_val (v := Ux (wordU zs3)) rfl rfl rfl rfl rfl e_move ?_
     refine qg_val (v := Ux ((wordU zs3) % (2 : UInt64))) rfl rfl rfl rfl rfl (e_rem (a := ((wordU zs3).toNat : Int)) (b := ((2 : UInt64).toNat : Int)) rfl rfl (by decide) (ux_rem _ _)) ?_
     refine qg_val (v := Nx (((wordU zs3) % (2 : UInt64)).toNat)) rfl rfl rfl rfl rfl (e_conv (a := (((wordU zs3) % (2 : UInt64)).toNat : Int)) rfl ⟨_, tf2⟩ tf1 (i64n rfl (by have h2 := u64m2 (wordU zs3); omega))) ?_
     refine qg_val (v := Nx (k)) rfl rfl rfl rfl rfl e_move ?_
     refine qg_val rfl rfl rfl rfl rfl (e_eql (a := ((((wordU zs3) % (2 : UInt64)).toNat : Nat) : Int)) (b := ((k : Nat) : Int)) rfl rfl) ?_
     refine q_val (v := .bool (decide (((((wordU zs3) % (2 : UInt64)).toNat : Nat) : Int) = ((k : Nat) : Int)))) rfl rfl rfl (e_pick_t rfl) ?_
     refine q_val (v := .bool (decide (((((wordU zs3) % (2 : UInt64)).toNat : Nat) : Int) = ((k : Nat) : Int)))) rfl rfl rfl e_move ?_
     refine q_split (s := 36) (p := ((((wordU zs3) % (2 : UInt64)).toNat : Nat) : Int) = ((k : Nat) : Int)) rfl (fun h => ?_) (fun h => ?_)
     exact absurd h (fun h => hq ⟨hg19, hg20, h⟩)
     refine q_skip rfl rfl rfl rfl rfl rfl ?_
     refine q_skip rfl rfl rfl rfl rfl rfl ?_
     refine q_skip rfl rfl rfl rfl rfl rfl ?_
     refine q_skip rfl rfl rfl rfl rfl rfl ?_
     refine q_skip rfl rfl rfl rfl rfl rfl ?_
     refine q_skip rfl rfl rfl rfl rfl rfl ?_
     refine q_skip rfl rfl rfl rfl rfl rfl ?_
     refine q_skip rfl rfl rfl rfl rfl rfl ?_
     refine q_skip rfl rfl rfl rfl rfl rfl ?_
     refine q_skip rfl rfl rfl rfl rfl rfl ?_
     refine q_skip rfl rfl rfl rfl rfl rfl ?_
     refine q_val (v := .bool false) rfl rfl rfl (e_pick_f rfl) ?_
     refine q_val (v := .bool false) rfl rfl rfl e_move ?_
     refine q_skip rfl rfl rfl rfl rfl rfl ?_
     refine q_skip rfl rfl rfl rfl rfl rfl ?_
     refine q_skip rfl rfl rfl rfl rfl rfl ?_
     refine q_skip rfl rfl rfl rfl rfl rfl ?_
     refine q_val (v := .bool false) rfl rfl rfl (e_pick_f rfl) ?_
     refine q_nil ?_
     refine f_then ?_
     refine c_no rfl ?_
     refine c_skip ?_
     refine f_block ?_
     refine f_then ?_
     refine c_region ?_
     refine lv e_move ?_
     refine lv (v := Nx (k + 1)) (e_add (a := ((k : Nat) : Int)) (b := (1 : Int)) rfl rfl (i64n (by omega) (by omega))) ?_
     refine lv e_assign ?_
     refine l_nil ?_
     exact f_cut ⟨k + 1, ⟨⟨rfl, (show Nx ((epLoop xs k).toNat) = Nx (epLoop xs (k + 1)).toNat by subst hz4; exact congrArg (fun z : UInt64 => Nx z.toNat) (ep_refN (by omega) (by omega) (by rintro ⟨a1, a2, a3, a4⟩; exact hq ⟨by omega, a1, a2⟩)).symm), rfl⟩, rfl, ⟨by omega, fun _ => by omega⟩⟩, (show 2 - (k + 1) < 2 - k from by omega)⟩
    refine q_skip rfl rfl rfl rfl rfl rfl ?_
    refine q_skip rfl rfl rfl rfl rfl rfl ?_
    refine q_skip rfl rfl rfl rfl rfl rfl ?_
    refine q_skip rfl rfl rfl rfl rfl rfl ?_
    refine q_skip rfl rfl rfl rfl rfl rfl ?_
    refine q_val (v := .bool false) rfl rfl rfl (e_pick_f rfl) ?_
    refine q_val (v := .bool false) rfl rfl rfl e_move ?_
    refine q_skip rfl rfl rfl rfl rfl rfl ?_
    refine q_skip rfl rfl rfl rfl rfl rfl ?_
    refine q_skip rfl rfl rfl rfl rfl rfl ?_
    refine q_skip rfl rfl rfl rfl rfl rfl ?_
    refine q_skip rfl rfl rfl rfl rfl rfl ?_
    refine q_skip rfl rfl rfl rfl rfl rfl ?_
    refine q_skip rfl rfl rfl rfl rfl rfl ?_
    refine q_skip rfl rfl rfl rfl rfl rfl ?_
    refine q_skip rfl rfl rfl rfl rfl rfl ?_
    refine q_skip rfl rfl rfl rfl rfl rfl ?_
    refine q_skip rfl rfl rfl rfl rfl rfl ?_
    refine q_val (v := .bool false) rfl rfl rfl (e_pick_f rfl) ?_
    refine q_val (v := .bool false) rfl rfl rfl e_move ?_
    refine q_skip rfl rfl rfl rfl rfl rfl ?_
    refine q_skip rfl rfl rfl rfl rfl rfl ?_
    refine q_skip rfl rfl rfl rfl rfl rfl ?_
    refine q_skip rfl rfl rfl rfl rfl rfl ?_
    refine q_val (v := .bool false) rfl rfl rfl (e_pick_f rfl) ?_
    refine q_nil ?_
    refine f_then ?_
    refine c_no rfl ?_
    refine c_skip ?_
    refine f_block ?_
    refine f_then ?_
    refine c_region ?_
    refine lv e_move ?_
    refine lv (v := Nx (k + 1)) (e_add (a := ((k : Nat) : Int)) (b := (1 : Int)) rfl rfl (i64n (by omega) (by omega))) ?_
    refine lv e_assign ?_
    refine l_nil ?_
    exact f_cut ⟨k + 1, ⟨⟨rfl, (show Nx ((epLoop xs k).toNat) = Nx (epLoop xs (k + 1)).toNat by subst hz4; exact congrArg (fun z : UInt64 => Nx z.toNat) (ep_refN (by omega) (by omega) (by rintro ⟨a1, a2, a3, a4⟩; exact hq ⟨by omega, a1, a2⟩)).symm), rfl⟩, rfl, ⟨by omega, fun _ => by omega⟩⟩, (show 2 - (k + 1) < 2 - k from by omega)⟩
   refine q_skip rfl rfl rfl rfl rfl rfl ?_
   refine q_skip rfl rfl rfl rfl rfl rfl ?_
   refine q_val (v := .bool false) rfl rfl rfl (e_pick_f rfl) ?_
   refine q_val (v := .bool false) rfl rfl rfl e_move ?_
   refine q_skip rfl rfl rfl rfl rfl rfl ?_
   refine q_skip rfl rfl rfl rfl rfl rfl ?_
   refine q_skip rfl rfl rfl rfl rfl rfl ?_
   refine q_skip rfl rfl rfl rfl rfl rfl ?_
   refine q_skip rfl rfl rfl rfl rfl rfl ?_
   refine q_val (v := .bool false) rfl rfl rfl (e_pick_f rfl) ?_
   refine q_val (v := .bool false) rfl rfl rfl e_move ?_
   refine q_skip rfl rfl rfl rfl rfl rfl ?_
   refine q_skip rfl rfl rfl rfl rfl rfl ?_
   refine q_skip rfl rfl rfl rfl rfl rfl ?_
   refine q_skip rfl rfl rfl rfl rfl rfl ?_
   refine q_skip rfl rfl rfl rfl rfl rfl ?_
   refine q_skip rfl rfl rfl rfl rfl rfl ?_
   refine q_skip rfl rfl rfl rfl rfl rfl ?_
   refine q_skip rfl rfl rfl rfl rfl rfl ?_
   refine q_skip rfl rfl rfl rfl rfl rfl ?_
   refine q_skip rfl rfl rfl rfl rfl rfl ?_
   refine q_skip rfl rfl rfl rfl rfl rfl ?_
   refine q_val (v := .bool false) rfl rfl rfl (e_pick_f rfl) ?_
   refine q_val (v := .bool false) rfl rfl rfl e_move ?_
   refine q_skip rfl rfl rfl rfl rfl rfl ?_
   refine q_skip rfl rfl rfl rfl rfl rfl ?_
   refine q_skip rfl rfl rfl rfl rfl rfl ?_
   refine q_skip rfl rfl rfl rfl rfl rfl ?_
   refine q_val (v := .bool false) rfl rfl rfl (e_pick_f rfl) ?_
   refine q_nil ?_
   refine f_then ?_
   refine c_no rfl ?_
   refine c_skip ?_
   refine f_block ?_
   refine f_then ?_
   refine c_region ?_
   refine lv e_move ?_
   refine lv (v := Nx (k + 1)) (e_add (a := ((k : Nat) : Int)) (b := (1 : Int)) rfl rfl (i64n (by omega) (by omega))) ?_
   refine lv e_assign ?_
   refine l_nil ?_
   exact f_cut ⟨k + 1, ⟨⟨rfl, (show Nx ((epLoop xs k).toNat) = Nx (epLoop xs (k + 1)).toNat by subst hz4; exact congrArg (fun z : UInt64 => Nx z.toNat) (ep_refN (by omega) (by omega) (by rintro ⟨a1, a2, a3, a4⟩; exact hq ⟨by omega, a1, a2⟩)).symm), rfl⟩, rfl, ⟨by omega, fun _ => by omega⟩⟩, (show 2 - (k + 1) < 2 - k from by omega)⟩
  refine c_exit ?_
  refine f_then_exit ?_
  refine f_then_exit ?_
  refine f_exit ?_
  refine ftc ?_
  refine lv e_move ?_
  refine lv e_assign ?_
  refine lnf ?_
  refine c_ret ?_
  refine ret1 Try.results80 (v := Nx ((epLoop xs k).toNat)) rfl ?_
  intro w hw
  exact ⟨congrArg (fun z : Nat => Ending.returned (Nx z)) (show (epLoop xs k).toNat = (epLoop xs (xs.length / 16)).toNat by rw [show k = xs.length / 16 by omega]), st_mask [] rfl hw⟩
 refine l_skip rfl rfl rfl rfl rfl rfl ?_
 refine l_skip rfl rfl rfl rfl rfl rfl ?_
 refine l_skip rfl rfl rfl rfl rfl rfl ?_
 refine lv (v := .bool false) (e_pick_f rfl) ?_
 refine lnf ?_
 refine c_no rfl ?_
 refine c_exit ?_
 refine f_then_exit ?_
 refine f_then_exit ?_
 refine f_exit ?_
 refine ftc ?_
 refine lv e_move ?_
 refine lv e_assign ?_
 refine lnf ?_
 refine c_ret ?_
 refine ret1 Try.results80 (v := Nx ((epLoop xs k).toNat)) rfl ?_
 intro w hw
 exact ⟨congrArg (fun z : Nat => Ending.returned (Nx z)) (show (epLoop xs k).toNat = (epLoop xs (xs.length / 16)).toNat by rw [show k = xs.length / 16 by omega]), st_mask [] rfl hw⟩
set_option maxHeartbeats 4000000 in
theorem rrec_ok (β : Base) (w : World) (hw : St β [] w) (e : Int) (xs : Bs) (a : Option Addr) (c : Nat) (hx : xs.length ≤ 1048576) (hl : xs.length ≤ c) (hm : c ≤ 9223372036854775807) (he : Elems U8R β.heap a xs) : Calls Try.prog 81 #[Ix e, sB a xs c] w fun r w' => r = .returned (.tuple #[Nx (rNr xs), sB (rAr a c xs) (rPr xs) (rCr c xs), .bool (recB e xs)]) ∧ St β [] w' := by
 refine enter (n := 50) Try.func81 rfl Try.ntmps81 rfl ?_ hw
 refine csr ?_
 refine lv e_assign ?_
 refine lv e_assign ?_
 refine lv e_assign ?_
 refine lnf ?_
 refine cs2 ?_
 refine c_region ?_
 refine lv e_move ?_
 refine lv (v := Nx (xs.length)) (e_len (a := a) (n := xs.length) (c := c) rfl tf11) ?_
 refine lv (e_lss (a := ((xs.length : Nat) : Int)) (b := (24 : Int)) rfl rfl) ?_
 refine lnf ?_
 refine c_if (((xs.length : Nat) : Int) < (24 : Int)) rfl (fun hc1 => ?_) (fun hc1 => ?_)
 ·refine csr ?_
  refine lv e_assign ?_
  refine lv e_assign ?_
  refine lv e_assign ?_
  refine lnf ?_
  refine c_ret ?_
  refine f_then_ret ?_
  refine ret3 (v := .int .i64 (0)) (v' := .slice none 0 0) (v'' := .bool false) Try.results81 rfl rfl rfl ?_
  intro w hw
  exact ⟨rec_badR (by omega) (.inl hc1), st_mask [] rfl hw⟩
 refine csk ?_
 refine c_seq ?_
 refine c_quiet (by kernel_rfl) (by kernel_rfl) ?_
 refine q_val (v := sB a xs (c)) rfl rfl rfl e_move ?_
 obtain ⟨zs2, hz3⟩ : ∃ zs, zs = (xs.take 4) := ⟨_, rfl⟩
 have zl4 : zs2.length = min 4 (xs).length - 0 := by rw [hz3]; simp; try omega
 have ze5 := (Elems.take 4 he)
 rw [← hz3] at ze5
 refine q_val (v := .slice a (zs2.length) (c)) rfl rfl rfl (ev_eq (by rw [show zs2.length = 4 by omega]) (e_slice_hi (a := a) (len := xs.length) (cap := c) (h := 4) tf12 rfl rfl (by omega))) ?_
 refine q_call (v := Ux (wordU zs2)) rfl rfl rfl (cl0 (vs := [sB a zs2 (c)]) tf135 rfl rfl) (fun w hw => ?_) ?_
 ·obtain ⟨β1, sb, kn, hw1, back⟩ := St.frame_all hw
  exact (rnum_ok β1 w hw1 zs2 (by omega) _ (Sl.mono _ _ _ _ _ sb (⟨⟨_, _, rfl, by omega, by omega, ze5⟩⟩ : Sl U8R _ _ zs2))).mono (fun e w' ⟨he, hw'⟩ => ⟨he, st_mask [] rfl (back _ _ hw')⟩)
 refine q_val (v := sB a xs (c)) rfl rfl rfl e_move ?_
 obtain ⟨zs6, hz7⟩ : ∃ zs, zs = ((xs.take 16).drop 8) := ⟨_, rfl⟩
 have zl8 : zs6.length = min 16 (xs).length - 8 := by rw [hz7]; simp; try omega
 have ze9 := (Elems.drop (cap := c) 8 (by first | omega | (simp; omega)) (Elems.take 16 he))
 rw [← hz7] at ze9
 refine q_val (v := .slice (adv a c 8 1) (zs6.length) ((c - 8))) rfl rfl rfl (ev_eq (by rw [show zs6.length = 16 - 8 by omega]) (e_slice_lh (a := a) (len := xs.length) (cap := c) (l := 8) (h := 16) tf12 rfl rfl rfl (by omega) (by omega))) ?_
 refine q_call (v := Ux (wordU zs6)) rfl rfl rfl (cl0 (vs := [sB (adv a c 8 1) zs6 ((c - 8))]) tf135 rfl rfl) (fun w hw => ?_) ?_
 ·obtain ⟨β1, sb, kn, hw1, back⟩ := St.frame_all hw
  exact (rnum_ok β1 w hw1 zs6 (by omega) _ (Sl.mono _ _ _ _ _ sb (⟨⟨_, _, rfl, by omega, by omega, ze9⟩⟩ : Sl U8R _ _ zs6))).mono (fun e w' ⟨he, hw'⟩ => ⟨he, st_mask [] rfl (back _ _ hw')⟩)
 refine q_val (v := Ux (wordU zs2)) rfl rfl rfl e_assign ?_
 refine q_val (v := Ux (wordU zs6)) rfl rfl rfl e_assign ?_
 refine q_nil ?_
 refine fts ?_
 refine csr ?_
 refine lv e_move ?_
 refine lv (e_gtr (a := ((wordU zs2).toNat : Int)) (b := (65536 : Int)) rfl rfl) ?_
 refine lv e_move ?_
 refine l_split (s := 21) (p := (65536 : Int) < ((wordU zs2).toNat : Int)) rfl (fun hg10 => ?_) (fun hg10 => ?_)
 ·refine l_skip rfl rfl rfl rfl rfl rfl ?_
  refine l_skip rfl rfl rfl rfl rfl rfl ?_
  refine l_skip rfl rfl rfl rfl rfl rfl ?_
  refine l_skip rfl rfl rfl rfl rfl rfl ?_
  refine l_skip rfl rfl rfl rfl rfl rfl ?_
  refine l_skip rfl rfl rfl rfl rfl rfl ?_
  refine lv (v := .bool true) (e_pick_t rfl) ?_
  refine lv e_move ?_
  refine l_skip rfl rfl rfl rfl rfl rfl ?_
  refine l_skip rfl rfl rfl rfl rfl rfl ?_
  refine lv (v := .bool true) (e_pick_t rfl) ?_
  refine lnf ?_
  refine c_yes rfl ?_
  refine csr ?_
  refine lv e_assign ?_
  refine lv e_assign ?_
  refine lv e_assign ?_
  refine lnf ?_
  refine c_ret ?_
  refine f_then_ret ?_
  refine ret3 (v := .int .i64 (0)) (v' := .slice none 0 0) (v'' := .bool false) Try.results81 rfl rfl rfl ?_
  intro w hw
  subst hz3
  subst hz7
  exact ⟨rec_badR (by omega) (.inr (.inl hg10)), st_mask [] rfl hw⟩
 refine g_val (v := sB a xs (c)) rfl rfl rfl rfl rfl e_move ?_
 refine g_val (v := Nx (xs.length)) rfl rfl rfl rfl rfl (e_len (a := a) (n := xs.length) (c := c) rfl tf11) ?_
 refine g_val (v := Ux (U ((xs.length : Nat) : Int))) rfl rfl rfl rfl rfl (e_conv (a := ((xs.length : Nat) : Int)) rfl ⟨_, tf1⟩ tf2 (ux_of _)) ?_
 refine g_val (v := Ux (wordU zs2)) rfl rfl rfl rfl rfl e_move ?_
 refine g_val (v := Ux ((wordU zs2) + (24 : UInt64))) rfl rfl rfl rfl rfl (e_add (a := ((wordU zs2).toNat : Int)) (b := ((24 : UInt64).toNat : Int)) rfl rfl (ux_add _ _)) ?_
 refine g_val rfl rfl rfl rfl rfl (e_lss (a := ((U ((xs.length : Nat) : Int)).toNat : Int)) (b := (((wordU zs2) + (24 : UInt64)).toNat : Int)) rfl rfl) ?_
 refine lv (v := .bool (decide (((U ((xs.length : Nat) : Int)).toNat : Int) < (((wordU zs2) + (24 : UInt64)).toNat : Int)))) (e_pick_f rfl) ?_
 refine lv e_move ?_
 refine l_split (s := 29) (p := ((U ((xs.length : Nat) : Int)).toNat : Int) < (((wordU zs2) + (24 : UInt64)).toNat : Int)) rfl (fun hg11 => ?_) (fun hg11 => ?_)
 ·refine l_skip rfl rfl rfl rfl rfl rfl ?_
  refine l_skip rfl rfl rfl rfl rfl rfl ?_
  refine lv (v := .bool true) (e_pick_t rfl) ?_
  refine lnf ?_
  refine c_yes rfl ?_
  refine csr ?_
  refine lv e_assign ?_
  refine lv e_assign ?_
  refine lv e_assign ?_
  refine lnf ?_
  refine c_ret ?_
  refine f_then_ret ?_
  refine ret3 (v := .int .i64 (0)) (v' := .slice none 0 0) (v'' := .bool false) Try.results81 rfl rfl rfl ?_
  intro w hw
  subst hz3
  subst hz7
  exact ⟨rec_badR (by omega) (.inr (.inr (.inl hg11))), st_mask [] rfl hw⟩
 refine g_val (v := Ux (wordU zs6)) rfl rfl rfl rfl rfl e_move ?_
 refine g_val rfl rfl rfl rfl rfl (e_gtr (a := ((wordU zs6).toNat : Int)) (b := (4611686018427387904 : Int)) rfl rfl) ?_
 refine lv (v := .bool (decide ((4611686018427387904 : Int) < ((wordU zs6).toNat : Int)))) (e_pick_f rfl) ?_
 refine lnf ?_
 refine c_if ((4611686018427387904 : Int) < ((wordU zs6).toNat : Int)) rfl (fun hc12 => ?_) (fun hc12 => ?_)
 ·refine csr ?_
  refine lv e_assign ?_
  refine lv e_assign ?_
  refine lv e_assign ?_
  refine lnf ?_
  refine c_ret ?_
  refine f_then_ret ?_
  refine ret3 (v := .int .i64 (0)) (v' := .slice none 0 0) (v'' := .bool false) Try.results81 rfl rfl rfl ?_
  intro w hw
  subst hz3
  subst hz7
  exact ⟨rec_badR (by omega) (.inr (.inr (.inr hc12))), st_mask [] rfl hw⟩
 refine csk ?_
 refine c_seq ?_
 have h24 := sz24 (s := wordU zs2) (by omega)
 have hUl := U_toNat (n := xs.length) (by omega)
 refine c_region ?_
 refine lv e_move ?_
 refine lv e_move ?_
 refine lv (v := Ux ((16 : UInt64) + (wordU zs2))) (e_add (a := ((16 : UInt64).toNat : Int)) (b := ((wordU zs2).toNat : Int)) rfl rfl (ux_add _ _)) ?_
 obtain ⟨zs13, hz14⟩ : ∃ zs, zs = ((xs.take (16 + ((wordU zs2)).toNat)).drop 16) := ⟨_, rfl⟩
 have zl15 : zs13.length = min (16 + ((wordU zs2)).toNat) (xs).length - 16 := by rw [hz14]; simp; try omega
 have ze16 := (Elems.drop (cap := c) 16 (by first | omega | (simp; omega)) (Elems.take (16 + ((wordU zs2)).toNat) he))
 rw [← hz14] at ze16
 refine lv (v := .slice (adv a c 16 1) (zs13.length) ((c - 16))) (ev_eq (by rw [show zs13.length = (16 + ((wordU zs2)).toNat) - 16 by omega]) (e_slice_lh_k (ki := .i64) (kj := .u64) (a := a) (len := xs.length) (cap := c) (l := 16) (h := 16 + ((wordU zs2)).toNat) tf12 rfl rfl (show Ux ((16 : UInt64) + (wordU zs2)) = .int .u64 (((16 + ((wordU zs2)).toNat : Nat)) : Int) from congrArg (Value.int .u64) (by rw [sz16 (by omega)])) (by omega) (by omega))) ?_
 refine lv e_assign ?_
 refine lnf ?_
 refine c_seq ?_
 obtain ⟨zs17, hz18⟩ : ∃ zs, zs = (xs.take (((wordU zs2)).toNat + 24)) := ⟨_, rfl⟩
 have zl19 : zs17.length = min (((wordU zs2)).toNat + 24) (xs).length - 0 := by rw [hz18]; simp; try omega
 have ze20 := (Elems.take (((wordU zs2)).toNat + 24) he)
 rw [← hz18] at ze20
 refine c_any [⟨[], [], [0], [37], fun f => f 37 = Ux (wordU zs6)⟩, ⟨[0], [0], [], [38], fun f => f 38 = Nx ((wordU zs6).toNat)⟩, ⟨[], [], [1], [39], fun f => f 39 = sB (adv a c 16 1) zs13 ((c - 16))⟩, ⟨[], [], [2], [40], fun f => f 40 = sB a xs (c)⟩, ⟨[], [], [3], [41], fun f => f 41 = Ux (wordU zs2)⟩, ⟨[4], [4], [], [42], fun f => f 42 = Ux ((wordU zs2) + (24 : UInt64))⟩, ⟨[3, 4, 5], [3, 5], [], [43], fun f => f 43 = sB a zs17 (c)⟩, ⟨[], [], [4], [44], fun f => f 44 = Ix (e)⟩, ⟨[], [], [0], [45], fun f => f 45 = Ux (wordU zs6)⟩, ⟨[8], [8], [], [46], fun f => f 46 = Nx ((wordU zs6).toNat)⟩, ⟨[], [], [1], [47], fun f => f 47 = sB (adv a c 16 1) zs13 ((c - 16))⟩, ⟨[7, 8, 9, 10], [7, 9, 10], [], [48], fun f => f 48 = sB (sla (f 48)) (formB (e) (((wordU zs6).toNat : Nat) : Int) zs13) (slc (f 48))⟩, ⟨[3, 4, 5, 6, 7, 8, 9, 10, 11], [6, 11], [], [49], fun f => f 49 = .bool (decide (zs17 = (formB (e) (((wordU zs6).toNat : Nat) : Int) zs13)))⟩, ⟨[0, 1, 3, 4, 5, 6, 7, 8, 9, 10, 11, 12], [1], [], [4], fun f => f 4 = Nx ((wordU zs6).toNat)⟩, ⟨(List.range 14), [2], [], [5], fun f => f 5 = sB (adv a c 16 1) zs13 ((c - 16))⟩, ⟨(List.range 15), [12], [], [6], fun f => f 6 = .bool (decide (zs17 = (formB (e) (((wordU zs6).toNat : Nat) : Int) zs13)))⟩] [⟨(some 11), none, [12], [48], fun f => rB (sla (f 48)) (formB (e) (((wordU zs6).toNat : Nat) : Int) zs13) (slc (f 48))⟩] [(8, Ux (wordU zs6)), (9, sB (adv a c 16 1) zs13 ((c - 16))), (1, sB a xs (c)), (7, Ux (wordU zs2)), (0, Ix (e))] [] [] (by kernel_rfl) (by kernel_rfl) (by kernel_rfl) (by kernel_rfl) rfl ⟨rfl, rfl, rfl, rfl, rfl, trivial⟩ ⟨?_, ?_, ?_, ?_, ?_, ?_, ?_, ?_, ?_, ?_, ?_, ?_, ?_, ?_, ?_, ?_, trivial⟩ ?_
 ·rintro f M - ⟨i0, -⟩
  exact ob0 (up_cons (d := 8) rfl i0) rfl e_move (.refl _)
 ·rintro f M ⟨k0, -⟩ -
  exact ob0 (up_cons (d := 37) rfl k0) rfl (e_conv (a := ((wordU zs6).toNat : Int)) rfl ⟨_, tf2⟩ tf1 (i64n rfl (by omega))) (.refl _)
 ·rintro f M - ⟨i0, -⟩
  exact ob0 (up_cons (d := 9) rfl i0) rfl e_move (.refl _)
 ·rintro f M - ⟨i0, -⟩
  exact ob0 (up_cons (d := 1) rfl i0) rfl e_move (.refl _)
 ·rintro f M - ⟨i0, -⟩
  exact ob0 (up_cons (d := 7) rfl i0) rfl e_move (.refl _)
 ·rintro f M ⟨k0, -⟩ -
  exact ob0 (up_cons (d := 41) rfl k0) rfl (e_add (a := ((wordU zs2).toNat : Int)) (b := ((24 : UInt64).toNat : Int)) rfl rfl (ux_add _ _)) (.refl _)
 ·rintro f M ⟨k0, k1, -⟩ -
  exact ob0 (up_cons (d := 42) (up_cons (d := 40) rfl k0) k1) rfl (ev_eq (by rw [show zs17.length = ((wordU zs2)).toNat + 24 by omega]) (e_slice_hi_k (ki := .u64) (a := a) (len := xs.length) (cap := c) (h := ((wordU zs2)).toNat + 24) tf12 rfl (show Ux ((wordU zs2) + (24 : UInt64)) = .int .u64 (((((wordU zs2)).toNat + 24 : Nat)) : Int) from congrArg (Value.int .u64) (by rw [sz24 (by omega)])) (by omega))) (.refl _)
 ·rintro f M - ⟨i0, -⟩
  exact ob0 (up_cons (d := 0) rfl i0) rfl e_move (.refl _)
 ·rintro f M - ⟨i0, -⟩
  exact ob0 (up_cons (d := 8) rfl i0) rfl e_move (.refl _)
 ·rintro f M ⟨k0, -⟩ -
  exact ob0 (up_cons (d := 45) rfl k0) rfl (e_conv (a := ((wordU zs6).toNat : Int)) rfl ⟨_, tf2⟩ tf1 (i64n rfl (by omega))) (.refl _)
 ·rintro f M - ⟨i0, -⟩
  exact ob0 (up_cons (d := 9) rfl i0) rfl e_move (.refl _)
 ·rintro f M ⟨k0, k1, k2, -⟩ -
  refine ob_start (L' := M) (by rfl) (up_cons (d := 47) (up_cons (d := 46) (up_cons (d := 44) rfl k0) k1) k2) ?_
  refine lcf (cl0 (vs := [Ix (e), Nx ((wordU zs6).toNat), sB (adv a c 16 1) zs13 ((c - 16))]) tf138 rfl rfl) rfl fun w β1 sb kn hw1 back => (rform_ok β1 w hw1 (e) (((wordU zs6).toNat : Nat) : Int) zs13 _ (by omega) (Sl.mono _ _ _ _ _ sb (⟨⟨_, _, rfl, by omega, by omega, ze16⟩⟩ : Sl U8R _ _ zs13))).mono ?_
  rintro e w' ⟨p23, c24, rfl, hw'⟩
  refine ⟨_, rfl, _, back _ _ hw', ?_⟩
  clear hw1 hw' back kn sb
  refine l_nil ?_
  exact f_owes_d (up_cons (d := 47) (up_cons (d := 46) (up_cons (d := 44) rfl k0) k1) k2) rfl (perm_front 0 rfl)
 ·rintro f M ⟨k0, k1, -⟩ -
  have hs48 : f 48 = sB (sla (f 48)) (formB (e) (((wordU zs6).toNat : Nat) : Int) zs13) (slc (f 48)) := k1
  refine ob_start (L' := rB (sla (f 48)) (formB (e) (((wordU zs6).toNat : Nat) : Int) zs13) (slc (f 48)) :: M) (by rfl) (up_cons (up_cons (d := 43) rfl k0) hs48) ?_
  refine lcf (cl0 (vs := [sB a zs17 (c), sB (sla (f 48)) (formB (e) (((wordU zs6).toNat : Nat) : Int) zs13) (slc (f 48))]) tf137 rfl rfl) rfl fun w β1 sb kn hw1 back => (rsame_ok β1 w hw1 zs17 (formB (e) (((wordU zs6).toNat : Nat) : Int) zs13) _ _ (Sl.mono _ _ _ _ _ sb (⟨⟨_, _, rfl, by omega, by omega, ze20⟩⟩ : Sl U8R _ _ zs17)) (kU kn 0 rfl)).mono ?_
  rintro e w' ⟨rfl, hw'⟩
  refine ⟨_, rfl, _, back _ _ hw', ?_⟩
  clear hw1 hw' back kn sb
  refine l_nil ?_
  exact f_owes_d (up_cons (up_cons (d := 43) rfl k0) hs48) rfl (perm_front 0 rfl)
 ·rintro f M ⟨k0, -⟩ -
  exact ob0 (up_cons (d := 38) rfl k0) rfl e_assign (.refl _)
 ·rintro f M ⟨k0, -⟩ -
  exact ob0 (up_cons (d := 39) rfl k0) rfl e_assign (.refl _)
 ·rintro f M ⟨k0, -⟩ -
  exact ob0 (up_cons (d := 49) rfl k0) rfl e_assign (.refl _)
 rintro fa25 ⟨-, -, -, -, -, -, -, -, -, -, -, -, -, k13, k14, k15, -⟩ -
 refine f_re (L' := [rB (sla (fa25 48)) (formB (e) (((wordU zs6).toNat : Nat) : Int) zs13) (slc (fa25 48))]) (by rfl) ?_
 refine f_rebase (d := 4) k13 ?_
 refine f_rebase (d := 5) k14 ?_
 refine f_rebase (d := 6) k15 ?_
 refine ftr ?_
 refine ret3 (v := Nx ((wordU zs6).toNat)) (v' := sB (adv a c 16 1) zs13 ((c - 16))) (v'' := .bool (decide (zs17 = (formB (e) (((wordU zs6).toNat : Nat) : Int) zs13)))) Try.results81 rfl rfl rfl ?_
 intro w hw
 subst hz3
 subst hz7
 subst hz14
 subst hz18
 have hok : ¬ rbadR xs := by
  rintro (q | q | q | q)
  ·exact hc1 q
  ·exact hg10 q
  ·exact hg11 q
  ·exact hc12 q
 exact ⟨rec_goodR (by omega) hok, st_mask [false] rfl hw⟩
theorem rarea0_ok (β : Base) (w : World) (hw : St β [] w) (e : Nat) (he : e % 2 = 0) (k : KS) (vh va vb : Value) (hH : Sl U8R β.heap vh k.head) (hA : Sl U8R β.heap va k.a) (hB : Sl U8R β.heap vb k.b) : Calls Try.prog 63 #[.agg #[vh, va, vb, Ix k.power], Nx e] w fun r w' => r = .returned va ∧ St β [] w' := by
 refine (rarea_ok β w hw e k vh va vb hH hA hB).mono ?_
 rintro r w' ⟨rfl, hw'⟩
 exact ⟨by rw [if_pos (by omega)], hw'⟩
theorem rarea1_ok (β : Base) (w : World) (hw : St β [] w) (e : Nat) (he : e % 2 = 1) (k : KS) (vh va vb : Value) (hH : Sl U8R β.heap vh k.head) (hA : Sl U8R β.heap va k.a) (hB : Sl U8R β.heap vb k.b) : Calls Try.prog 63 #[.agg #[vh, va, vb, Ix k.power], Nx e] w fun r w' => r = .returned vb ∧ St β [] w' := by
 refine (rarea_ok β w hw e k vh va vb hH hA hB).mono ?_
 rintro r w' ⟨rfl, hw'⟩
 exact ⟨by rw [if_neg (by omega)], hw'⟩
theorem rareaX_ok (β : Base) (w : World) (hw : St β [] w) (e : Nat) (k : KS) (vh va vb : Value) (hH : Sl U8R β.heap vh k.head) (hA : Sl U8R β.heap va k.a) (hB : Sl U8R β.heap vb k.b) : Calls Try.prog 63 #[.agg #[vh, va, vb, Ix k.power], Nx e] w fun r w' => ∃ ar a c, k.area e = ar ∧ r = .returned (sB a ar c) ∧ (∀ h, Sl U8R h va k.a → Sl U8R h vb k.b → Sl U8R h (sB a ar c) ar) ∧ St β [] w' := by
 refine (rarea_ok β w hw e k vh va vb hH hA hB).mono ?_
 rintro r w' ⟨rfl, hw'⟩
 obtain ⟨a, c, rfl, _⟩ := hA.get
 obtain ⟨a', c', rfl, _⟩ := hB.get
 by_cases he : e % 2 = 0
 ·exact ⟨_, a, c, area_even he, by rw [if_pos he], fun _ h _ => h, hw'⟩
 exact ⟨_, a', c', area_odd (by omega), by rw [if_neg he], fun _ _ h => h, hw'⟩
set_option maxHeartbeats 4000000 in
theorem rread_ok (β : Base) (w : World) (hw : St β [] w) (k : KS) (vh va vb : Value) (hH : Sl U8R β.heap vh k.head) (hA : Sl U8R β.heap va k.a) (hB : Sl U8R β.heap vb k.b) : Calls Try.prog 59 #[.agg #[vh, va, vb, Ix k.power]] w fun r w' => (r = .returned (.tuple #[.agg #[.int .i64 0, .int .i64 0, .slice none 0 0, .slice none 0 0, .int .i64 0], .int .i64 2]) ∧ ¬ k.okP ∧ St β [] w') ∨ (r = .returned (.tuple #[.agg #[.int .i64 0, .int .i64 0, .slice none 0 0, .slice none 0 0, .int .i64 0], .int .i64 311]) ∧ k.okP ∧ readI k = none ∧ St β [] w') ∨
  (∃ i, k.okP ∧ readI k = some i ∧ ∃ ps cs pr cr us, r = .returned (.tuple #[.agg #[Nx i.epoch, Nx i.next, sB ps i.state cs, sB pr i.recs cr, Nx i.size], .int .i64 0]) ∧ (∀ h, Sl U8R h va k.a → Sl U8R h vb k.b → Sl U8R h (sB ps i.state cs) i.state ∧ inn us i.recs h) ∧ St β [row (sB pr i.recs cr) 30 1 i.recs.length us] w') := by
 obtain ⟨vha, vhc, rfl, vhl, vhm, vhe⟩ := hH.get
 obtain ⟨vaa, vac, rfl, val, vam, vae⟩ := hA.get
 obtain ⟨vba, vbc, rfl, vbl, vbm, vbe⟩ := hB.get
 refine enter (n := 87) Try.func59 rfl Try.ntmps59 rfl ?_ hw
 refine csr ?_
 refine l_mv rfl rfl rfl (m_box (v := .agg #[sB vha k.head (vhc), sB vaa k.a (vac), sB vba k.b (vbc), Ix (k.power)]) rfl) ?_
 rintro _ _ ⟨b1, rfl, rfl⟩
 refine l_mv rfl rfl rfl (m_alloc tf139) ?_
 rintro _ _ ⟨b2, rfl, rfl⟩
 refine lv e_assign ?_
 refine lnf ?_
 refine cs2 ?_
 refine c_region ?_
 refine lv (v := .agg #[sB vha k.head (vhc), sB vaa k.a (vac), sB vba k.b (vbc), Ix (k.power)]) (e_load tf56 rfl (k_pt 1 rfl rfl) rfl) ?_
 refine lcf (cl0 (vs := [.agg #[sB vha k.head (vhc), sB vaa k.a (vac), sB vba k.b (vbc), Ix (k.power)]]) tf140 rfl rfl) rfl fun w β1 sb kn hw1 back => (rvalid_ok β1 w hw1 k _ _ _ (Sl.mono _ _ _ _ _ sb (⟨⟨_, _, rfl, vhl, vhm, vhe⟩⟩ : Sl U8R _ _ k.head)) (Sl.mono _ _ _ _ _ sb (⟨⟨_, _, rfl, val, vam, vae⟩⟩ : Sl U8R _ _ k.a)) (Sl.mono _ _ _ _ _ sb (⟨⟨_, _, rfl, vbl, vbm, vbe⟩⟩ : Sl U8R _ _ k.b))).mono ?_
 rintro e w' ⟨rfl, hw'⟩
 refine ⟨_, rfl, _, back _ _ hw', ?_⟩
 clear hw1 hw' back kn sb
 refine lv (v := .bool (decide (¬ (k.okP)))) (e_not_p (p := k.okP) rfl) ?_
 refine lnf ?_
 refine c_if (¬ (k.okP)) rfl (fun hc3 => ?_) (fun hc3 => ?_)
 ·refine csr ?_
  refine lv (v := .agg #[.int .i64 (0), .int .i64 (0), .slice none 0 0, .slice none 0 0, .int .i64 (0)]) (e_build tf139 tf141 (vs := []) (cells := #[.int .i64 (0), .int .i64 (0), .slice none 0 0, .slice none 0 0, .int .i64 (0)]) rfl rfl) ?_
  refine lu (m_store 0 tf142 (cs' := #[.int .i64 (0), .int .i64 (0), .slice none 0 0, .slice none 0 0, .int .i64 (0)]) rfl rfl rfl rfl rfl rfl rfl) ?_
  refine lv e_assign ?_
  refine lnf ?_
  refine c_ret ?_
  refine f_then_ret ?_
  refine retG (m := [.agg #[.int .i64 (0), .int .i64 (0), .slice none 0 0, .slice none 0 0, .int .i64 (0)], .int .i64 (2)]) Try.results59 ⟨rd_cell tf142 rfl (k_pt 0 rfl rfl) rfl, rd_tmp (v := .int .i64 (2)) rfl, trivial⟩ rfl ?_
  intro w hw
  exact .inl ⟨rfl, by simpa using hc3, st_mask [false, false] rfl hw⟩
 have hok : k.okP := Decidable.not_not.1 hc3
 refine csk ?_
 refine c_seq ?_
 have h032 : k.head.length = 0 ∨ k.head.length = 32 := by unfold KS.okP at hok; omega
 have hhd : k.head.length ≤ 32 := by unfold KS.okP at hok; omega
 refine c_region ?_
 refine lv (e_fieldPt rfl tf20) ?_
 refine lv (v := sB vha k.head (vhc)) (e_load1 tf21 rfl (k_pt 1 rfl rfl)) ?_
 refine lcf (cl0 (vs := [sB vha k.head (vhc)]) tf143 rfl rfl) rfl fun w β1 sb kn hw1 back => (repoch_ok β1 w hw1 k.head _ (by omega) (Sl.mono _ _ _ _ _ sb (⟨⟨_, _, rfl, vhl, vhm, vhe⟩⟩ : Sl U8R _ _ k.head))).mono ?_
 rintro e w' ⟨rfl, hw'⟩
 refine ⟨_, rfl, _, back _ _ hw', ?_⟩
 clear hw1 hw' back kn sb
 refine lv (v := .agg #[Nx (epochF k.head), .int .i64 (0), .slice none 0 0, .slice none 0 0, .int .i64 (0)]) (e_build tf139 tf141 (vs := [(0, Nx (epochF k.head))]) (cells := #[Nx (epochF k.head), .int .i64 (0), .slice none 0 0, .slice none 0 0, .int .i64 (0)]) rfl rfl) ?_
 refine l_mv rfl rfl rfl (m_alloc tf139) ?_
 rintro _ _ ⟨b4, rfl, rfl⟩
 refine lu (m_store 0 tf142 (cs' := #[Nx (epochF k.head), .int .i64 (0), .slice none 0 0, .slice none 0 0, .int .i64 (0)]) rfl rfl rfl rfl rfl rfl rfl) ?_
 refine lnc ?_
 refine lv (v := .agg #[sB vha k.head (vhc), sB vaa k.a (vac), sB vba k.b (vbc), Ix (k.power)]) (e_load tf56 rfl (k_pt 2 rfl rfl) rfl) ?_
 refine lv (e_fieldPt rfl tf144) ?_
 refine lv (v := Nx (epochF k.head)) (e_load1 tf25 rfl (k_pt 0 rfl rfl)) ?_
 refine lcf (cl0 (vs := [.agg #[sB vha k.head (vhc), sB vaa k.a (vac), sB vba k.b (vbc), Ix (k.power)], Nx (epochF k.head)]) tf145 rfl rfl) rfl fun w β1 sb kn hw1 back => (rareaX_ok β1 w hw1 (epochF k.head) k _ _ _ (Sl.mono _ _ _ _ _ sb (⟨⟨_, _, rfl, vhl, vhm, vhe⟩⟩ : Sl U8R _ _ k.head)) (Sl.mono _ _ _ _ _ sb (⟨⟨_, _, rfl, val, vam, vae⟩⟩ : Sl U8R _ _ k.a)) (Sl.mono _ _ _ _ _ sb (⟨⟨_, _, rfl, vbl, vbm, vbe⟩⟩ : Sl U8R _ _ k.b))).mono ?_
 rintro e w' ⟨ar5, aa6, ac7, har8, rfl, has9, hw'⟩
 refine ⟨_, rfl, _, back _ _ hw', ?_⟩
 clear hw1 hw' back kn sb
 have har8L := congrArg List.length har8
 obtain ⟨_, has9l, has9m, has9e⟩ := (has9 _ (⟨⟨_, _, rfl, val, vam, vae⟩⟩ : Sl U8R _ _ k.a) (⟨⟨_, _, rfl, vbl, vbm, vbe⟩⟩ : Sl U8R _ _ k.b)).parts
 refine lv e_assign ?_
 refine lnf ?_
 refine cs2 ?_
 have hl4 : ar5.length ≤ 262144 := by rw [← har8]; unfold KS.okP at hok; exact area_both (P := fun z => z.length ≤ 262144) hok.2.1 hok.2.2.1 _
 refine c_region ?_
 refine lv (e_fieldPt rfl tf144) ?_
 refine lv (v := Nx (epochF k.head)) (e_load1 tf25 rfl (k_pt 0 rfl rfl)) ?_
 refine lv (e_gtr (a := ((epochF k.head : Nat) : Int)) (b := (0 : Int)) rfl rfl) ?_
 refine lnf ?_
 refine c_if ((0 : Int) < ((epochF k.head : Nat) : Int)) rfl (fun hc10 => ?_) (fun hc10 => ?_)
 ·refine csr ?_
  refine lv (e_fieldPt rfl tf144) ?_
  refine lv (v := Nx (epochF k.head)) (e_load1 tf25 rfl (k_pt 0 rfl rfl)) ?_
  refine lv e_move ?_
  refine lcf (cl0 (vs := [Nx (epochF k.head), sB aa6 ar5 (ac7)]) tf146 rfl rfl) rfl fun w β1 sb kn hw1 back => (rrec_ok β1 w hw1 ((epochF k.head : Nat) : Int) ar5 aa6 ac7 (by omega) (by omega) (by omega) (Elems.mono _ _ _ _ _ sb has9e)).mono ?_
  rintro e w' ⟨rfl, hw'⟩
  refine ⟨_, rfl, _, back _ _ hw', ?_⟩
  clear hw1 hw' back kn sb
  refine lv e_move ?_
  refine lv (v := Nx (rNr ar5)) (e_extract (vs := #[Nx (rNr ar5), sB (rAr aa6 ac7 ar5) (rPr ar5) ((rCr ac7 ar5)), .bool (recB ((epochF k.head : Nat) : Int) ar5)]) rfl rfl) ?_
  refine lv (v := sB (rAr aa6 ac7 ar5) (rPr ar5) ((rCr ac7 ar5))) (e_extract (vs := #[Nx (rNr ar5), sB (rAr aa6 ac7 ar5) (rPr ar5) ((rCr ac7 ar5)), .bool (recB ((epochF k.head : Nat) : Int) ar5)]) rfl rfl) ?_
  refine lv (v := .bool (recB ((epochF k.head : Nat) : Int) ar5)) (e_extract (vs := #[Nx (rNr ar5), sB (rAr aa6 ac7 ar5) (rPr ar5) ((rCr ac7 ar5)), .bool (recB ((epochF k.head : Nat) : Int) ar5)]) rfl rfl) ?_
  refine lv e_assign ?_
  refine lv e_assign ?_
  refine lv e_assign ?_
  refine lnf ?_
  refine cs2 ?_
  refine c_region ?_
  refine lv e_move ?_
  refine lv (v := .bool (!(recB ((epochF k.head : Nat) : Int) ar5))) (e_not rfl) ?_
  refine lnf ?_
  refine c_ifb (!(recB ((epochF k.head : Nat) : Int) ar5)) rfl (fun hc11 => ?_) (fun hc11 => ?_)
  ·refine csr ?_
   refine lv (v := .agg #[.int .i64 (0), .int .i64 (0), .slice none 0 0, .slice none 0 0, .int .i64 (0)]) (e_build tf139 tf141 (vs := []) (cells := #[.int .i64 (0), .int .i64 (0), .slice none 0 0, .slice none 0 0, .int .i64 (0)]) rfl rfl) ?_
   refine lu (m_store 1 tf142 (cs' := #[.int .i64 (0), .int .i64 (0), .slice none 0 0, .slice none 0 0, .int .i64 (0)]) rfl rfl rfl rfl rfl rfl rfl) ?_
   refine lv e_assign ?_
   refine lnf ?_
   refine c_ret ?_
   refine f_then_ret ?_
   refine f_then_ret ?_
   refine retG (m := [.agg #[.int .i64 (0), .int .i64 (0), .slice none 0 0, .slice none 0 0, .int .i64 (0)], .int .i64 (311)]) Try.results59 ⟨rd_cell tf142 rfl (k_pt 1 rfl rfl) rfl, rd_tmp (v := .int .i64 (311)) rfl, trivial⟩ rfl ?_
   intro w hw
   exact .inr (.inl ⟨rfl, hok, read_none har8 (by omega) (by simpa using hc11), st_mask [false, false, false] rfl hw⟩)
  refine csk ?_
  have hrb0 : recB ((epochF k.head : Nat) : Int) ar5 = true := by simpa using hc11
  have hrl0 := recP_len hrb0
  have hsame0 := rec_same (xs := ar5) (by omega) hrb0
  have hsl0 := congrArg List.length hsame0.2
  have hrN0 := recN_small (xs := ar5)
  have hrP0 := recP_small (xs := ar5)
  refine rebase (d := 6) (v := Nx (recN ar5)) (congrArg (fun z : Nat => Nx z) hsame0.1) ?_
  refine rebase (d := 7) (v := sB (rAr aa6 ac7 ar5) (recP ar5) ((rCr ac7 ar5))) (show (sB (rAr aa6 ac7 ar5) (rPr ar5) ((rCr ac7 ar5)) : Value) = _ by rw [hsame0.2]) ?_
  refine c_region ?_
  refine lv e_move ?_
  refine lv e_move ?_
  refine lv e_move ?_
  refine lv (v := Nx ((recP ar5).length)) (e_len (a := (rAr aa6 ac7 ar5)) (n := (recP ar5).length) (c := (rCr ac7 ar5)) rfl tf11) ?_
  refine lv (v := Nx (24 + ((recP ar5).length))) (e_add (a := (24 : Int)) (b := (((recP ar5).length : Nat) : Int)) rfl rfl (i64n (by omega) (by omega))) ?_
  refine lv (e_fieldPt rfl tf147) ?_
  refine lu (m_store 0 tf25 (cs' := #[Nx (epochF k.head), Nx (recN ar5), .slice none 0 0, .slice none 0 0, .int .i64 (0)]) rfl rfl rfl rfl rfl rfl rfl) ?_
  refine lv (e_fieldPt rfl tf148) ?_
  refine lu (m_store 0 tf21 (cs' := #[Nx (epochF k.head), Nx (recN ar5), sB (rAr aa6 ac7 ar5) (recP ar5) ((rCr ac7 ar5)), .slice none 0 0, .int .i64 (0)]) rfl rfl rfl rfl rfl rfl rfl) ?_
  refine lv (e_fieldPt rfl tf149) ?_
  refine lu (m_store 0 tf25 (cs' := #[Nx (epochF k.head), Nx (recN ar5), sB (rAr aa6 ac7 ar5) (recP ar5) ((rCr ac7 ar5)), .slice none 0 0, Nx (24 + ((recP ar5).length))]) rfl rfl rfl rfl rfl rfl rfl) ?_
  refine lnf ?_
  refine c_block ?_
  refine c_emp (r := row (.slice none 0 0) 30 1 0 []) (row_nil _ _ _) ?_
  refine c_loop (fun (x_ : Nat × List Bs × List Value × Option Addr × Nat) (f : Fm) (L : List Res) => match x_ with | (fu, rs, us, pr, cr) => (f 2 = pp b2 0 ∧ f 4 = pp b4 0 ∧ f 5 = sB aa6 ar5 (ac7)) ∧ L = [row (sB pr rs cr) 30 1 ((rs).length) (us), pt b4 (.cells #[Nx (epochF k.head), Nx ((recN ar5) + rs.length), sB (rAr aa6 ac7 ar5) (recP ar5) ((rCr ac7 ar5)), sB pr rs cr, Nx ((24 + (recP ar5).length) + sizes rs)] 54), pt b2 (.cells #[.int .i64 (0), .int .i64 (0), .slice none 0 0, .slice none 0 0, .int .i64 (0)] 54), pt b1 (.cells #[sB vha k.head (vhc), sB vaa k.a (vac), sB vba k.b (vbc), Ix (k.power)] 32)] ∧ (((ar5.drop ((24 + (recP ar5).length) + sizes rs)).length < fu) ∧ (24 + (recP ar5).length) + sizes rs ≤ ar5.length ∧ rs ++ parse ((epochF k.head : Nat) : Int) fu ((recN ar5) + rs.length) (ar5.drop ((24 + (recP ar5).length) + sizes rs)) = (recsF (epochF k.head) (recN ar5) (ar5.drop (24 + (recP ar5).length))) ∧ (∀ h, Elems U8R h aa6 ar5 → inn us rs h))) (fun (x_ : Nat × List Bs × List Value × Option Addr × Nat) => match x_ with | (fu, rs, us, pr, cr) => fu) (((ar5.drop (24 + (recP ar5).length)).length + 1), [], [], none, 0) ?_ ?_
  ·exact ⟨⟨rfl, rfl, rfl⟩, (by show [row (.slice none 0 0) 30 1 (0) ([]), pt b4 (.cells #[Nx (epochF k.head), Nx (recN ar5), sB (rAr aa6 ac7 ar5) (recP ar5) ((rCr ac7 ar5)), .slice none 0 0, Nx (24 + ((recP ar5).length))] 54), pt b2 (.cells #[.int .i64 (0), .int .i64 (0), .slice none 0 0, .slice none 0 0, .int .i64 (0)] 54), pt b1 (.cells #[sB vha k.head (vhc), sB vaa k.a (vac), sB vba k.b (vbc), Ix (k.power)] 32)] = _; simp only [sB, rB, sizes, List.length_nil, Nat.add_zero, Nat.zero_add]; try rfl), ⟨by simp [sizes], by simp only [sB, rB, sizes]; omega, by simp [sizes, recsF], fun h _ => inn_nil h⟩⟩
  rintro ⟨fu, rs, us, pr, cr⟩ f0 L0 ⟨⟨hs2, hs4, hs5⟩, hL, ⟨hfu, hle, hrs, hin⟩⟩
  subst L0
  refine rebase (d := 2) hs2 ?_
  refine rebase (d := 4) hs4 ?_
  refine rebase (d := 5) hs5 ?_
  clear hs2 hs4 hs5
  obtain ⟨f, rfl⟩ : ∃ f, fu = f + 1 := ⟨fu - 1, by omega⟩
  have hsg := sizes_ge rs
  refine c_block ?_
  refine c_seq ?_
  refine c_quiet (by kernel_rfl) (by kernel_rfl) ?_
  refine q_val (v := pp b4 0) rfl rfl rfl (e_fieldPt rfl tf144) ?_
  refine q_val (v := Nx (epochF k.head)) rfl rfl rfl (e_load1 tf25 rfl (k_pt 1 rfl rfl)) ?_
  refine q_val (v := sB aa6 ar5 (ac7)) rfl rfl rfl e_move ?_
  refine q_val (v := pp b4 4) rfl rfl rfl (e_fieldPt rfl tf149) ?_
  refine q_val (v := Nx ((24 + (recP ar5).length) + sizes rs)) rfl rfl rfl (e_load1 tf25 rfl (k_pt 1 rfl rfl)) ?_
  obtain ⟨zs12, hz13⟩ : ∃ zs, zs = (ar5.drop ((24 + (recP ar5).length) + sizes rs)) := ⟨_, rfl⟩
  have zl14 : zs12.length = (ar5).length - ((24 + (recP ar5).length) + sizes rs) := by rw [hz13]; simp; try omega
  have ze15 := (Elems.drop (cap := ac7) ((24 + (recP ar5).length) + sizes rs) (by first | omega | (simp; omega)) has9e)
  rw [← hz13] at ze15
  refine q_val (v := .slice (adv aa6 ac7 ((24 + (recP ar5).length) + sizes rs) 1) (zs12.length) ((ac7 - ((24 + (recP ar5).length) + sizes rs)))) rfl rfl rfl (ev_eq (by rw [show zs12.length = ar5.length - ((24 + (recP ar5).length) + sizes rs) by omega]) (e_slice_lo (a := aa6) (len := ar5.length) (cap := ac7) (l := (24 + (recP ar5).length) + sizes rs) tf12 rfl rfl (by omega))) ?_
  refine q_call (v := .tuple #[Nx (rNr zs12), sB (rAr (adv aa6 ac7 ((24 + (recP ar5).length) + sizes rs) 1) (ac7 - ((24 + (recP ar5).length) + sizes rs)) zs12) (rPr zs12) ((rCr (ac7 - ((24 + (recP ar5).length) + sizes rs)) zs12)), .bool (recB ((epochF k.head : Nat) : Int) zs12)]) rfl rfl rfl (cl0 (vs := [Nx (epochF k.head), sB (adv aa6 ac7 ((24 + (recP ar5).length) + sizes rs) 1) zs12 ((ac7 - ((24 + (recP ar5).length) + sizes rs)))]) tf146 rfl rfl) (fun w hw => ?_) ?_
  ·obtain ⟨β1, sb, kn, hw1, back⟩ := St.frame_all hw
   exact (rrec_ok β1 w hw1 ((epochF k.head : Nat) : Int) zs12 (adv aa6 ac7 ((24 + (recP ar5).length) + sizes rs) 1) (ac7 - ((24 + (recP ar5).length) + sizes rs)) (by omega) (by omega) (by omega) (Elems.mono _ _ _ _ _ sb ze15)).mono (fun e w' ⟨he, hw'⟩ => ⟨he, st_mask [true, true, true, true] rfl (back _ _ hw')⟩)
  refine q_val (v := .tuple #[Nx (rNr zs12), sB (rAr (adv aa6 ac7 ((24 + (recP ar5).length) + sizes rs) 1) (ac7 - ((24 + (recP ar5).length) + sizes rs)) zs12) (rPr zs12) ((rCr (ac7 - ((24 + (recP ar5).length) + sizes rs)) zs12)), .bool (recB ((epochF k.head : Nat) : Int) zs12)]) rfl rfl rfl e_move ?_
  refine q_val (v := Nx (rNr zs12)) rfl rfl rfl (e_extract (vs := #[Nx (rNr zs12), sB (rAr (adv aa6 ac7 ((24 + (recP ar5).length) + sizes rs) 1) (ac7 - ((24 + (recP ar5).length) + sizes rs)) zs12) (rPr zs12) ((rCr (ac7 - ((24 + (recP ar5).length) + sizes rs)) zs12)), .bool (recB ((epochF k.head : Nat) : Int) zs12)]) rfl rfl) ?_
  refine q_val (v := sB (rAr (adv aa6 ac7 ((24 + (recP ar5).length) + sizes rs) 1) (ac7 - ((24 + (recP ar5).length) + sizes rs)) zs12) (rPr zs12) ((rCr (ac7 - ((24 + (recP ar5).length) + sizes rs)) zs12))) rfl rfl rfl (e_extract (vs := #[Nx (rNr zs12), sB (rAr (adv aa6 ac7 ((24 + (recP ar5).length) + sizes rs) 1) (ac7 - ((24 + (recP ar5).length) + sizes rs)) zs12) (rPr zs12) ((rCr (ac7 - ((24 + (recP ar5).length) + sizes rs)) zs12)), .bool (recB ((epochF k.head : Nat) : Int) zs12)]) rfl rfl) ?_
  refine q_val (v := .bool (recB ((epochF k.head : Nat) : Int) zs12)) rfl rfl rfl (e_extract (vs := #[Nx (rNr zs12), sB (rAr (adv aa6 ac7 ((24 + (recP ar5).length) + sizes rs) 1) (ac7 - ((24 + (recP ar5).length) + sizes rs)) zs12) (rPr zs12) ((rCr (ac7 - ((24 + (recP ar5).length) + sizes rs)) zs12)), .bool (recB ((epochF k.head : Nat) : Int) zs12)]) rfl rfl) ?_
  refine q_val (v := Nx (rNr zs12)) rfl rfl rfl e_assign ?_
  refine q_val (v := sB (rAr (adv aa6 ac7 ((24 + (recP ar5).length) + sizes rs) 1) (ac7 - ((24 + (recP ar5).length) + sizes rs)) zs12) (rPr zs12) ((rCr (ac7 - ((24 + (recP ar5).length) + sizes rs)) zs12))) rfl rfl rfl e_assign ?_
  refine q_val (v := .bool (recB ((epochF k.head : Nat) : Int) zs12)) rfl rfl rfl e_assign ?_
  refine q_nil ?_
  refine fts ?_
  refine c_seq ?_
  have hrN := rNr_small (xs := zs12)
  have hrP := rPr_small (xs := zs12)
  refine c_region ?_
  refine lv e_move ?_
  refine lv (v := .bool (!(recB ((epochF k.head : Nat) : Int) zs12))) (e_not rfl) ?_
  refine lv e_move ?_
  refine l_splitb (s := 59) (b := !(recB ((epochF k.head : Nat) : Int) zs12)) rfl (fun hg16 => ?_) (fun hg16 => ?_)
  ·refine l_skip rfl rfl rfl rfl rfl rfl ?_
   refine l_skip rfl rfl rfl rfl rfl rfl ?_
   refine l_skip rfl rfl rfl rfl rfl rfl ?_
   refine l_skip rfl rfl rfl rfl rfl rfl ?_
   refine lv (v := .bool true) (e_pick_t rfl) ?_
   refine lv e_move ?_
   refine l_skip rfl rfl rfl rfl rfl rfl ?_
   refine l_skip rfl rfl rfl rfl rfl rfl ?_
   refine lv (v := .bool true) (e_pick_t rfl) ?_
   refine lnf ?_
   refine c_yes rfl ?_
   refine csr ?_
   refine lv (v := .agg #[Nx (epochF k.head), Nx ((recN ar5) + rs.length), sB (rAr aa6 ac7 ar5) (recP ar5) ((rCr ac7 ar5)), sB pr rs cr, Nx ((24 + (recP ar5).length) + sizes rs)]) (e_load tf142 rfl (k_pt 1 rfl rfl) rfl) ?_
   refine lu (m_store 2 tf142 (cs' := #[Nx (epochF k.head), Nx ((recN ar5) + rs.length), sB (rAr aa6 ac7 ar5) (recP ar5) ((rCr ac7 ar5)), sB pr rs cr, Nx ((24 + (recP ar5).length) + sizes rs)]) rfl rfl rfl rfl rfl rfl rfl) ?_
   refine lv e_assign ?_
   refine lnf ?_
   refine c_ret ?_
   refine f_then_ret ?_
   refine f_block_ret ?_
   refine f_then_ret ?_
   refine f_block_ret ?_
   refine retG (m := [.agg #[Nx (epochF k.head), Nx ((recN ar5) + rs.length), sB (rAr aa6 ac7 ar5) (recP ar5) ((rCr ac7 ar5)), sB pr rs cr, Nx ((24 + (recP ar5).length) + sizes rs)], .int .i64 (0)]) Try.results59 ⟨rd_cell tf142 rfl (k_pt 2 rfl rfl) rfl, rd_tmp (v := .int .i64 (0)) rfl, trivial⟩ rfl ?_
   intro w hw
   have hend := read_end hrs (by rw [← hz13]; rintro ⟨q1, q2, q3⟩; simp [q1] at hg16)
   have hw2 := st_mask [true, false, false, false] rfl hw
   rw [hend] at hw2 hin ⊢
   exact .inr (.inr ⟨_, hok, read_some har8 (by omega) hrb0, _, _, _, _, us, rfl, fun h hA' hB' => ⟨(by have h7 := rec_slR (c := ac7) (xs := ar5) (by omega) (by omega) (Sl.parts (has9 h hA' hB')).2.2.2; rw [hsame0.2] at h7; exact h7), hin h (Sl.parts (has9 h hA' hB')).2.2.2⟩, hw2⟩)
  refine g_val (v := Nx (rNr zs12)) rfl rfl rfl rfl rfl e_move ?_
  refine g_val (v := pp b4 1) rfl rfl rfl rfl rfl (e_fieldPt rfl tf147) ?_
  refine g_val (v := Nx ((recN ar5) + rs.length)) rfl rfl rfl rfl rfl (e_load1 tf25 rfl (k_pt 1 rfl rfl)) ?_
  refine g_val rfl rfl rfl rfl rfl (e_neq (a := ((rNr zs12 : Nat) : Int)) (b := (((recN ar5) + rs.length : Nat) : Int)) rfl rfl) ?_
  refine lv (v := .bool (decide (((rNr zs12 : Nat) : Int) ≠ (((recN ar5) + rs.length : Nat) : Int)))) (e_pick_f rfl) ?_
  refine lv e_move ?_
  refine l_split (s := 65) (p := ((rNr zs12 : Nat) : Int) ≠ (((recN ar5) + rs.length : Nat) : Int)) rfl (fun hg17 => ?_) (fun hg17 => ?_)
  ·refine l_skip rfl rfl rfl rfl rfl rfl ?_
   refine l_skip rfl rfl rfl rfl rfl rfl ?_
   refine lv (v := .bool true) (e_pick_t rfl) ?_
   refine lnf ?_
   refine c_yes rfl ?_
   refine csr ?_
   refine lv (v := .agg #[Nx (epochF k.head), Nx ((recN ar5) + rs.length), sB (rAr aa6 ac7 ar5) (recP ar5) ((rCr ac7 ar5)), sB pr rs cr, Nx ((24 + (recP ar5).length) + sizes rs)]) (e_load tf142 rfl (k_pt 1 rfl rfl) rfl) ?_
   refine lu (m_store 2 tf142 (cs' := #[Nx (epochF k.head), Nx ((recN ar5) + rs.length), sB (rAr aa6 ac7 ar5) (recP ar5) ((rCr ac7 ar5)), sB pr rs cr, Nx ((24 + (recP ar5).length) + sizes rs)]) rfl rfl rfl rfl rfl rfl rfl) ?_
   refine lv e_assign ?_
   refine lnf ?_
   refine c_ret ?_
   refine f_then_ret ?_
   refine f_block_ret ?_
   refine f_then_ret ?_
   refine f_block_ret ?_
   refine retG (m := [.agg #[Nx (epochF k.head), Nx ((recN ar5) + rs.length), sB (rAr aa6 ac7 ar5) (recP ar5) ((rCr ac7 ar5)), sB pr rs cr, Nx ((24 + (recP ar5).length) + sizes rs)], .int .i64 (0)]) Try.results59 ⟨rd_cell tf142 rfl (k_pt 2 rfl rfl) rfl, rd_tmp (v := .int .i64 (0)) rfl, trivial⟩ rfl ?_
   intro w hw
   have hend := read_end hrs (by rw [← hz13]; rintro ⟨q1, q2, q3⟩; have hsame := rec_same (xs := zs12) (by omega) q1; omega)
   have hw2 := st_mask [true, false, false, false] rfl hw
   rw [hend] at hw2 hin ⊢
   exact .inr (.inr ⟨_, hok, read_some har8 (by omega) hrb0, _, _, _, _, us, rfl, fun h hA' hB' => ⟨(by have h7 := rec_slR (c := ac7) (xs := ar5) (by omega) (by omega) (Sl.parts (has9 h hA' hB')).2.2.2; rw [hsame0.2] at h7; exact h7), hin h (Sl.parts (has9 h hA' hB')).2.2.2⟩, hw2⟩)
  refine g_val (v := Nx (rNr zs12)) rfl rfl rfl rfl rfl e_move ?_
  refine g_val rfl rfl rfl rfl rfl (e_eql (a := ((rNr zs12 : Nat) : Int)) (b := (4611686018427387904 : Int)) rfl rfl) ?_
  refine lv (v := .bool (decide (((rNr zs12 : Nat) : Int) = (4611686018427387904 : Int)))) (e_pick_f rfl) ?_
  refine lnf ?_
  refine c_if (((rNr zs12 : Nat) : Int) = (4611686018427387904 : Int)) rfl (fun hc18 => ?_) (fun hc18 => ?_)
  ·refine csr ?_
   refine lv (v := .agg #[Nx (epochF k.head), Nx ((recN ar5) + rs.length), sB (rAr aa6 ac7 ar5) (recP ar5) ((rCr ac7 ar5)), sB pr rs cr, Nx ((24 + (recP ar5).length) + sizes rs)]) (e_load tf142 rfl (k_pt 1 rfl rfl) rfl) ?_
   refine lu (m_store 2 tf142 (cs' := #[Nx (epochF k.head), Nx ((recN ar5) + rs.length), sB (rAr aa6 ac7 ar5) (recP ar5) ((rCr ac7 ar5)), sB pr rs cr, Nx ((24 + (recP ar5).length) + sizes rs)]) rfl rfl rfl rfl rfl rfl rfl) ?_
   refine lv e_assign ?_
   refine lnf ?_
   refine c_ret ?_
   refine f_then_ret ?_
   refine f_block_ret ?_
   refine f_then_ret ?_
   refine f_block_ret ?_
   refine retG (m := [.agg #[Nx (epochF k.head), Nx ((recN ar5) + rs.length), sB (rAr aa6 ac7 ar5) (recP ar5) ((rCr ac7 ar5)), sB pr rs cr, Nx ((24 + (recP ar5).length) + sizes rs)], .int .i64 (0)]) Try.results59 ⟨rd_cell tf142 rfl (k_pt 2 rfl rfl) rfl, rd_tmp (v := .int .i64 (0)) rfl, trivial⟩ rfl ?_
   intro w hw
   have hend := read_end hrs (by rw [← hz13]; rintro ⟨q1, q2, q3⟩; have hsame := rec_same (xs := zs12) (by omega) q1; omega)
   have hw2 := st_mask [true, false, false, false] rfl hw
   rw [hend] at hw2 hin ⊢
   exact .inr (.inr ⟨_, hok, read_some har8 (by omega) hrb0, _, _, _, _, us, rfl, fun h hA' hB' => ⟨(by have h7 := rec_slR (c := ac7) (xs := ar5) (by omega) (by omega) (Sl.parts (has9 h hA' hB')).2.2.2; rw [hsame0.2] at h7; exact h7), hin h (Sl.parts (has9 h hA' hB')).2.2.2⟩, hw2⟩)
  refine csk ?_
  refine c_seq ?_
  have hrb : recB ((epochF k.head : Nat) : Int) zs12 = true := by simpa using hg16
  have hsame := rec_same (xs := zs12) (by omega) hrb
  have hrl := recP_len hrb
  have hsl := congrArg List.length hsame.2
  refine c_region ?_
  refine lv (e_fieldPt rfl tf150) ?_
  refine lv (v := sB pr rs cr) (e_load1 tf65 rfl (k_pt 1 rfl rfl)) ?_
  refine lv e_move ?_
  refine l_mv rfl rfl rfl (m_slices tf66 tf67 (cells := #[sB (rAr (adv aa6 ac7 ((24 + (recP ar5).length) + sizes rs) 1) (ac7 - ((24 + (recP ar5).length) + sizes rs)) zs12) (rPr zs12) ((rCr (ac7 - ((24 + (recP ar5).length) + sizes rs)) zs12))]) rfl rfl rfl rfl) ?_
  rintro _ _ ⟨b19, rfl, rfl⟩
  refine l_mv rfl rfl rfl (m_append_w 1 tf66 tf68 (v := sB pr rs cr) (m := (rs).length) (vs := us) (ao := some ⟨b19, 0, none⟩) (k := 1) (c := 1) (news := [sB (rAr (adv aa6 ac7 ((24 + (recP ar5).length) + sizes rs) 1) (ac7 - ((24 + (recP ar5).length) + sizes rs)) zs12) (rPr zs12) ((rCr (ac7 - ((24 + (recP ar5).length) + sizes rs)) zs12))]) rfl rfl rfl rfl (k_pt 0 rfl rfl) rfl (fun _ => rfl) (by unfold maxLen; omega) (by omega)) ?_
  rintro _ _ ⟨rp20, rc21, rfl, rfl⟩
  refine lv (e_fieldPt rfl tf150) ?_
  refine lu (m_store 2 tf65 (cs' := #[Nx (epochF k.head), Nx ((recN ar5) + rs.length), sB (rAr aa6 ac7 ar5) (recP ar5) ((rCr ac7 ar5)), .slice rp20 (((rs).length) + 1) rc21, Nx ((24 + (recP ar5).length) + sizes rs)]) rfl rfl rfl rfl rfl rfl rfl) ?_
  refine lnc ?_
  refine lv (e_fieldPt rfl tf149) ?_
  refine lv (v := Nx ((24 + (recP ar5).length) + sizes rs)) (e_load1 tf25 rfl (k_pt 2 rfl rfl)) ?_
  refine lv (v := Nx (((24 + (recP ar5).length) + sizes rs) + 24)) (e_add (a := (((24 + (recP ar5).length) + sizes rs : Nat) : Int)) (b := (24 : Int)) rfl rfl (i64n (by omega) (by omega))) ?_
  refine lv e_move ?_
  refine lv (v := Nx ((rPr zs12).length)) (e_len (a := (rAr (adv aa6 ac7 ((24 + (recP ar5).length) + sizes rs) 1) (ac7 - ((24 + (recP ar5).length) + sizes rs)) zs12)) (n := (rPr zs12).length) (c := (rCr (ac7 - ((24 + (recP ar5).length) + sizes rs)) zs12)) rfl tf11) ?_
  refine lv (v := Nx ((((24 + (recP ar5).length) + sizes rs) + 24) + ((rPr zs12).length))) (e_add (a := ((((24 + (recP ar5).length) + sizes rs) + 24 : Nat) : Int)) (b := (((rPr zs12).length : Nat) : Int)) rfl rfl (i64n (by omega) (by omega))) ?_
  refine lv (e_fieldPt rfl tf149) ?_
  refine lu (m_store 2 tf25 (cs' := #[Nx (epochF k.head), Nx ((recN ar5) + rs.length), sB (rAr aa6 ac7 ar5) (recP ar5) ((rCr ac7 ar5)), .slice rp20 (((rs).length) + 1) rc21, Nx ((((24 + (recP ar5).length) + sizes rs) + 24) + ((rPr zs12).length))]) rfl rfl rfl rfl rfl rfl rfl) ?_
  refine lnr ?_
  refine lv (e_fieldPt rfl tf147) ?_
  refine lv (v := Nx ((recN ar5) + rs.length)) (e_load1 tf25 rfl (k_pt 2 rfl rfl)) ?_
  refine lv (v := Nx (((recN ar5) + rs.length) + 1)) (e_add (a := (((recN ar5) + rs.length : Nat) : Int)) (b := (1 : Int)) rfl rfl (i64n (by omega) (by omega))) ?_
  refine lv (e_fieldPt rfl tf147) ?_
  refine lu (m_store 2 tf25 (cs' := #[Nx (epochF k.head), Nx (((recN ar5) + rs.length) + 1), sB (rAr aa6 ac7 ar5) (recP ar5) ((rCr ac7 ar5)), .slice rp20 (((rs).length) + 1) rc21, Nx ((((24 + (recP ar5).length) + sizes rs) + 24) + ((rPr zs12).length))]) rfl rfl rfl rfl rfl rfl rfl) ?_
  refine l_nil ?_
  refine f_block ?_
  have hnx := read_step hfu hle hrs (by rw [← hz13]; exact hrb) (by rw [← hz13]; omega) (by omega) (by rw [← hz13]; omega)
  have hsn := rd_snoc (c := ac7) (s := (24 + (recP ar5).length) + sizes rs) hin (by omega) (by omega)
  rw [← hz13] at hnx hsn
  rw [← hsame.2] at hnx
  replace hnx := And.intro hnx.1 (And.intro hnx.2.1 (And.intro hnx.2.2 hsn)) -- ⟨hnx.1, hnx.2.1, hnx.2.2, hsn⟩
  refine f_mask (L' := [row (.slice rp20 (((rs).length) + 1) rc21) 30 1 (((rs).length) + 1) (us ++ [sB (rAr (adv aa6 ac7 ((24 + (recP ar5).length) + sizes rs) 1) (ac7 - ((24 + (recP ar5).length) + sizes rs)) zs12) (rPr zs12) ((rCr (ac7 - ((24 + (recP ar5).length) + sizes rs)) zs12))]), pt b4 (.cells #[Nx (epochF k.head), Nx (((recN ar5) + rs.length) + 1), sB (rAr aa6 ac7 ar5) (recP ar5) ((rCr ac7 ar5)), .slice rp20 (((rs).length) + 1) rc21, Nx ((((24 + (recP ar5).length) + sizes rs) + 24) + ((rPr zs12).length))] 54), pt b2 (.cells #[.int .i64 (0), .int .i64 (0), .slice none 0 0, .slice none 0 0, .int .i64 (0)] 54), pt b1 (.cells #[sB vha k.head (vhc), sB vaa k.a (vac), sB vba k.b (vbc), Ix (k.power)] 32)]) [false, true, true, true, true] rfl ?_
  exact f_cut ⟨(f, (rs ++ [rPr zs12]), (us ++ [sB (rAr (adv aa6 ac7 ((24 + (recP ar5).length) + sizes rs) 1) (ac7 - ((24 + (recP ar5).length) + sizes rs)) zs12) (rPr zs12) ((rCr (ac7 - ((24 + (recP ar5).length) + sizes rs)) zs12))]), rp20, rc21), ⟨⟨rfl, rfl, rfl⟩, (by simp only [sB, rB, sizes_snoc, List.length_append, List.length_cons, List.length_nil, Nat.add_assoc]; try rfl), hnx⟩, (show f < f + 1 from Nat.lt_succ_self f)⟩
 refine csk ?_
 refine c_block ?_
 refine c_emp (r := row (.slice none 0 0) 30 1 0 []) (row_nil _ _ _) ?_
 refine c_loop (fun (x_ : Nat × List Bs × List Value × Option Addr × Nat) (f : Fm) (L : List Res) => match x_ with | (fu, rs, us, pr, cr) => (f 2 = pp b2 0 ∧ f 4 = pp b4 0 ∧ f 5 = sB aa6 ar5 (ac7)) ∧ L = [row (sB pr rs cr) 30 1 ((rs).length) (us), pt b4 (.cells #[Nx (epochF k.head), Nx (0 + rs.length), .slice none 0 0, sB pr rs cr, Nx (0 + sizes rs)] 54), pt b2 (.cells #[.int .i64 (0), .int .i64 (0), .slice none 0 0, .slice none 0 0, .int .i64 (0)] 54), pt b1 (.cells #[sB vha k.head (vhc), sB vaa k.a (vac), sB vba k.b (vbc), Ix (k.power)] 32)] ∧ (((ar5.drop (0 + sizes rs)).length < fu) ∧ 0 + sizes rs ≤ ar5.length ∧ rs ++ parse ((epochF k.head : Nat) : Int) fu (0 + rs.length) (ar5.drop (0 + sizes rs)) = (recsF (epochF k.head) 0 (ar5.drop 0)) ∧ (∀ h, Elems U8R h aa6 ar5 → inn us rs h))) (fun (x_ : Nat × List Bs × List Value × Option Addr × Nat) => match x_ with | (fu, rs, us, pr, cr) => fu) (((ar5.drop 0).length + 1), [], [], none, 0) ?_ ?_
 ·exact ⟨⟨rfl, rfl, rfl⟩, (by show [row (.slice none 0 0) 30 1 (0) ([]), pt b4 (.cells #[Nx (epochF k.head), .int .i64 (0), .slice none 0 0, .slice none 0 0, .int .i64 (0)] 54), pt b2 (.cells #[.int .i64 (0), .int .i64 (0), .slice none 0 0, .slice none 0 0, .int .i64 (0)] 54), pt b1 (.cells #[sB vha k.head (vhc), sB vaa k.a (vac), sB vba k.b (vbc), Ix (k.power)] 32)] = _; simp only [sB, rB, sizes, List.length_nil, Nat.add_zero, Nat.zero_add]; try rfl), ⟨by simp [sizes], by simp only [sB, rB, sizes]; omega, by simp [sizes, recsF], fun h _ => inn_nil h⟩⟩
 rintro ⟨fu, rs, us, pr, cr⟩ f0 L0 ⟨⟨hs2, hs4, hs5⟩, hL, ⟨hfu, hle, hrs, hin⟩⟩
 subst L0
 refine rebase (d := 2) hs2 ?_
 refine rebase (d := 4) hs4 ?_
 refine rebase (d := 5) hs5 ?_
 clear hs2 hs4 hs5
 obtain ⟨f, rfl⟩ : ∃ f, fu = f + 1 := ⟨fu - 1, by omega⟩
 have hsg := sizes_ge rs
 refine c_block ?_
 refine c_seq ?_
 refine c_quiet (by kernel_rfl) (by kernel_rfl) ?_
 refine q_val (v := pp b4 0) rfl rfl rfl (e_fieldPt rfl tf144) ?_
 refine q_val (v := Nx (epochF k.head)) rfl rfl rfl (e_load1 tf25 rfl (k_pt 1 rfl rfl)) ?_
 refine q_val (v := sB aa6 ar5 (ac7)) rfl rfl rfl e_move ?_
 refine q_val (v := pp b4 4) rfl rfl rfl (e_fieldPt rfl tf149) ?_
 refine q_val (v := Nx (0 + sizes rs)) rfl rfl rfl (e_load1 tf25 rfl (k_pt 1 rfl rfl)) ?_
 obtain ⟨zs22, hz23⟩ : ∃ zs, zs = (ar5.drop (0 + sizes rs)) := ⟨_, rfl⟩
 have zl24 : zs22.length = (ar5).length - (0 + sizes rs) := by rw [hz23]; simp; try omega
 have ze25 := (Elems.drop (cap := ac7) (0 + sizes rs) (by first | omega | (simp; omega)) has9e)
 rw [← hz23] at ze25
 refine q_val (v := .slice (adv aa6 ac7 (0 + sizes rs) 1) (zs22.length) ((ac7 - (0 + sizes rs)))) rfl rfl rfl (ev_eq (by rw [show zs22.length = ar5.length - (0 + sizes rs) by omega]) (e_slice_lo (a := aa6) (len := ar5.length) (cap := ac7) (l := 0 + sizes rs) tf12 rfl rfl (by omega))) ?_
 refine q_call (v := .tuple #[Nx (rNr zs22), sB (rAr (adv aa6 ac7 (0 + sizes rs) 1) (ac7 - (0 + sizes rs)) zs22) (rPr zs22) ((rCr (ac7 - (0 + sizes rs)) zs22)), .bool (recB ((epochF k.head : Nat) : Int) zs22)]) rfl rfl rfl (cl0 (vs := [Nx (epochF k.head), sB (adv aa6 ac7 (0 + sizes rs) 1) zs22 ((ac7 - (0 + sizes rs)))]) tf146 rfl rfl) (fun w hw => ?_) ?_
 ·obtain ⟨β1, sb, kn, hw1, back⟩ := St.frame_all hw
  exact (rrec_ok β1 w hw1 ((epochF k.head : Nat) : Int) zs22 (adv aa6 ac7 (0 + sizes rs) 1) (ac7 - (0 + sizes rs)) (by omega) (by omega) (by omega) (Elems.mono _ _ _ _ _ sb ze25)).mono (fun e w' ⟨he, hw'⟩ => ⟨he, st_mask [true, true, true, true] rfl (back _ _ hw')⟩)
 refine q_val (v := .tuple #[Nx (rNr zs22), sB (rAr (adv aa6 ac7 (0 + sizes rs) 1) (ac7 - (0 + sizes rs)) zs22) (rPr zs22) ((rCr (ac7 - (0 + sizes rs)) zs22)), .bool (recB ((epochF k.head : Nat) : Int) zs22)]) rfl rfl rfl e_move ?_
 refine q_val (v := Nx (rNr zs22)) rfl rfl rfl (e_extract (vs := #[Nx (rNr zs22), sB (rAr (adv aa6 ac7 (0 + sizes rs) 1) (ac7 - (0 + sizes rs)) zs22) (rPr zs22) ((rCr (ac7 - (0 + sizes rs)) zs22)), .bool (recB ((epochF k.head : Nat) : Int) zs22)]) rfl rfl) ?_
 refine q_val (v := sB (rAr (adv aa6 ac7 (0 + sizes rs) 1) (ac7 - (0 + sizes rs)) zs22) (rPr zs22) ((rCr (ac7 - (0 + sizes rs)) zs22))) rfl rfl rfl (e_extract (vs := #[Nx (rNr zs22), sB (rAr (adv aa6 ac7 (0 + sizes rs) 1) (ac7 - (0 + sizes rs)) zs22) (rPr zs22) ((rCr (ac7 - (0 + sizes rs)) zs22)), .bool (recB ((epochF k.head : Nat) : Int) zs22)]) rfl rfl) ?_
 refine q_val (v := .bool (recB ((epochF k.head : Nat) : Int) zs22)) rfl rfl rfl (e_extract (vs := #[Nx (rNr zs22), sB (rAr (adv aa6 ac7 (0 + sizes rs) 1) (ac7 - (0 + sizes rs)) zs22) (rPr zs22) ((rCr (ac7 - (0 + sizes rs)) zs22)), .bool (recB ((epochF k.head : Nat) : Int) zs22)]) rfl rfl) ?_
 refine q_val (v := Nx (rNr zs22)) rfl rfl rfl e_assign ?_
 refine q_val (v := sB (rAr (adv aa6 ac7 (0 + sizes rs) 1) (ac7 - (0 + sizes rs)) zs22) (rPr zs22) ((rCr (ac7 - (0 + sizes rs)) zs22))) rfl rfl rfl e_assign ?_
 refine q_val (v := .bool (recB ((epochF k.head : Nat) : Int) zs22)) rfl rfl rfl e_assign ?_
 refine q_nil ?_
 refine fts ?_
 refine c_seq ?_
 have hrN := rNr_small (xs := zs22)
 have hrP := rPr_small (xs := zs22)
 refine c_region ?_
 refine lv e_move ?_
 refine lv (v := .bool (!(recB ((epochF k.head : Nat) : Int) zs22))) (e_not rfl) ?_
 refine lv e_move ?_
 refine l_splitb (s := 59) (b := !(recB ((epochF k.head : Nat) : Int) zs22)) rfl (fun hg26 => ?_) (fun hg26 => ?_)
 ·refine l_skip rfl rfl rfl rfl rfl rfl ?_
  refine l_skip rfl rfl rfl rfl rfl rfl ?_
  refine l_skip rfl rfl rfl rfl rfl rfl ?_
  refine l_skip rfl rfl rfl rfl rfl rfl ?_
  refine lv (v := .bool true) (e_pick_t rfl) ?_
  refine lv e_move ?_
  refine l_skip rfl rfl rfl rfl rfl rfl ?_
  refine l_skip rfl rfl rfl rfl rfl rfl ?_
  refine lv (v := .bool true) (e_pick_t rfl) ?_
  refine lnf ?_
  refine c_yes rfl ?_
  refine csr ?_
  refine lv (v := .agg #[Nx (epochF k.head), Nx (0 + rs.length), .slice none 0 0, sB pr rs cr, Nx (0 + sizes rs)]) (e_load tf142 rfl (k_pt 1 rfl rfl) rfl) ?_
  refine lu (m_store 2 tf142 (cs' := #[Nx (epochF k.head), Nx (0 + rs.length), .slice none 0 0, sB pr rs cr, Nx (0 + sizes rs)]) rfl rfl rfl rfl rfl rfl rfl) ?_
  refine lv e_assign ?_
  refine lnf ?_
  refine c_ret ?_
  refine f_then_ret ?_
  refine f_block_ret ?_
  refine f_then_ret ?_
  refine f_block_ret ?_
  refine retG (m := [.agg #[Nx (epochF k.head), Nx (0 + rs.length), .slice none 0 0, sB pr rs cr, Nx (0 + sizes rs)], .int .i64 (0)]) Try.results59 ⟨rd_cell tf142 rfl (k_pt 2 rfl rfl) rfl, rd_tmp (v := .int .i64 (0)) rfl, trivial⟩ rfl ?_
  intro w hw
  have hend := read_end hrs (by rw [← hz23]; rintro ⟨q1, q2, q3⟩; simp [q1] at hg26)
  have hw2 := st_mask [true, false, false, false] rfl hw
  rw [hend] at hw2 hin ⊢
  exact .inr (.inr ⟨_, hok, read_zero har8 (by omega), none, 0, _, _, us, (by rw [show epochF k.head = 0 by omega]; simp only [Nat.zero_add, Nat.add_zero]; rfl), fun h hA' hB' => ⟨Sl.nil U8R h, by have h9 := hin h (Sl.parts (has9 h hA' hB')).2.2.2; rw [show epochF k.head = 0 by omega] at h9; exact h9⟩, by rw [show epochF k.head = 0 by omega] at hw2; exact hw2⟩)
 refine g_val (v := Nx (rNr zs22)) rfl rfl rfl rfl rfl e_move ?_
 refine g_val (v := pp b4 1) rfl rfl rfl rfl rfl (e_fieldPt rfl tf147) ?_
 refine g_val (v := Nx (0 + rs.length)) rfl rfl rfl rfl rfl (e_load1 tf25 rfl (k_pt 1 rfl rfl)) ?_
 refine g_val rfl rfl rfl rfl rfl (e_neq (a := ((rNr zs22 : Nat) : Int)) (b := ((0 + rs.length : Nat) : Int)) rfl rfl) ?_
 refine lv (v := .bool (decide (((rNr zs22 : Nat) : Int) ≠ ((0 + rs.length : Nat) : Int)))) (e_pick_f rfl) ?_
 refine lv e_move ?_
 refine l_split (s := 65) (p := ((rNr zs22 : Nat) : Int) ≠ ((0 + rs.length : Nat) : Int)) rfl (fun hg27 => ?_) (fun hg27 => ?_)
 ·refine l_skip rfl rfl rfl rfl rfl rfl ?_
  refine l_skip rfl rfl rfl rfl rfl rfl ?_
  refine lv (v := .bool true) (e_pick_t rfl) ?_
  refine lnf ?_
  refine c_yes rfl ?_
  refine csr ?_
  refine lv (v := .agg #[Nx (epochF k.head), Nx (0 + rs.length), .slice none 0 0, sB pr rs cr, Nx (0 + sizes rs)]) (e_load tf142 rfl (k_pt 1 rfl rfl) rfl) ?_
  refine lu (m_store 2 tf142 (cs' := #[Nx (epochF k.head), Nx (0 + rs.length), .slice none 0 0, sB pr rs cr, Nx (0 + sizes rs)]) rfl rfl rfl rfl rfl rfl rfl) ?_
  refine lv e_assign ?_
  refine lnf ?_
  refine c_ret ?_
  refine f_then_ret ?_
  refine f_block_ret ?_
  refine f_then_ret ?_
  refine f_block_ret ?_
  refine retG (m := [.agg #[Nx (epochF k.head), Nx (0 + rs.length), .slice none 0 0, sB pr rs cr, Nx (0 + sizes rs)], .int .i64 (0)]) Try.results59 ⟨rd_cell tf142 rfl (k_pt 2 rfl rfl) rfl, rd_tmp (v := .int .i64 (0)) rfl, trivial⟩ rfl ?_
  intro w hw
  have hend := read_end hrs (by rw [← hz23]; rintro ⟨q1, q2, q3⟩; have hsame := rec_same (xs := zs22) (by omega) q1; omega)
  have hw2 := st_mask [true, false, false, false] rfl hw
  rw [hend] at hw2 hin ⊢
  exact .inr (.inr ⟨_, hok, read_zero har8 (by omega), none, 0, _, _, us, (by rw [show epochF k.head = 0 by omega]; simp only [Nat.zero_add, Nat.add_zero]; rfl), fun h hA' hB' => ⟨Sl.nil U8R h, by have h9 := hin h (Sl.parts (has9 h hA' hB')).2.2.2; rw [show epochF k.head = 0 by omega] at h9; exact h9⟩, by rw [show epochF k.head = 0 by omega] at hw2; exact hw2⟩)
 refine g_val (v := Nx (rNr zs22)) rfl rfl rfl rfl rfl e_move ?_
 refine g_val rfl rfl rfl rfl rfl (e_eql (a := ((rNr zs22 : Nat) : Int)) (b := (4611686018427387904 : Int)) rfl rfl) ?_
 refine lv (v := .bool (decide (((rNr zs22 : Nat) : Int) = (4611686018427387904 : Int)))) (e_pick_f rfl) ?_
 refine lnf ?_
 refine c_if (((rNr zs22 : Nat) : Int) = (4611686018427387904 : Int)) rfl (fun hc28 => ?_) (fun hc28 => ?_)
 ·refine csr ?_
  refine lv (v := .agg #[Nx (epochF k.head), Nx (0 + rs.length), .slice none 0 0, sB pr rs cr, Nx (0 + sizes rs)]) (e_load tf142 rfl (k_pt 1 rfl rfl) rfl) ?_
  refine lu (m_store 2 tf142 (cs' := #[Nx (epochF k.head), Nx (0 + rs.length), .slice none 0 0, sB pr rs cr, Nx (0 + sizes rs)]) rfl rfl rfl rfl rfl rfl rfl) ?_
  refine lv e_assign ?_
  refine lnf ?_
  refine c_ret ?_
  refine f_then_ret ?_
  refine f_block_ret ?_
  refine f_then_ret ?_
  refine f_block_ret ?_
  refine retG (m := [.agg #[Nx (epochF k.head), Nx (0 + rs.length), .slice none 0 0, sB pr rs cr, Nx (0 + sizes rs)], .int .i64 (0)]) Try.results59 ⟨rd_cell tf142 rfl (k_pt 2 rfl rfl) rfl, rd_tmp (v := .int .i64 (0)) rfl, trivial⟩ rfl ?_
  intro w hw
  have hend := read_end hrs (by rw [← hz23]; rintro ⟨q1, q2, q3⟩; have hsame := rec_same (xs := zs22) (by omega) q1; omega)
  have hw2 := st_mask [true, false, false, false] rfl hw
  rw [hend] at hw2 hin ⊢
  exact .inr (.inr ⟨_, hok, read_zero har8 (by omega), none, 0, _, _, us, (by rw [show epochF k.head = 0 by omega]; simp only [Nat.zero_add, Nat.add_zero]; rfl), fun h hA' hB' => ⟨Sl.nil U8R h, by have h9 := hin h (Sl.parts (has9 h hA' hB')).2.2.2; rw [show epochF k.head = 0 by omega] at h9; exact h9⟩, by rw [show epochF k.head = 0 by omega] at hw2; exact hw2⟩)
 refine csk ?_
 refine c_seq ?_
 have hrb : recB ((epochF k.head : Nat) : Int) zs22 = true := by simpa using hg26
 have hsame := rec_same (xs := zs22) (by omega) hrb
 have hrl := recP_len hrb
 have hsl := congrArg List.length hsame.2
 refine c_region ?_
 refine lv (e_fieldPt rfl tf150) ?_
 refine lv (v := sB pr rs cr) (e_load1 tf65 rfl (k_pt 1 rfl rfl)) ?_
 refine lv e_move ?_
 refine l_mv rfl rfl rfl (m_slices tf66 tf67 (cells := #[sB (rAr (adv aa6 ac7 (0 + sizes rs) 1) (ac7 - (0 + sizes rs)) zs22) (rPr zs22) ((rCr (ac7 - (0 + sizes rs)) zs22))]) rfl rfl rfl rfl) ?_
 rintro _ _ ⟨b29, rfl, rfl⟩
 refine l_mv rfl rfl rfl (m_append_w 1 tf66 tf68 (v := sB pr rs cr) (m := (rs).length) (vs := us) (ao := some ⟨b29, 0, none⟩) (k := 1) (c := 1) (news := [sB (rAr (adv aa6 ac7 (0 + sizes rs) 1) (ac7 - (0 + sizes rs)) zs22) (rPr zs22) ((rCr (ac7 - (0 + sizes rs)) zs22))]) rfl rfl rfl rfl (k_pt 0 rfl rfl) rfl (fun _ => rfl) (by unfold maxLen; omega) (by omega)) ?_
 rintro _ _ ⟨rp30, rc31, rfl, rfl⟩
 refine lv (e_fieldPt rfl tf150) ?_
 refine lu (m_store 2 tf65 (cs' := #[Nx (epochF k.head), Nx (0 + rs.length), .slice none 0 0, .slice rp30 (((rs).length) + 1) rc31, Nx (0 + sizes rs)]) rfl rfl rfl rfl rfl rfl rfl) ?_
 refine lnc ?_
 refine lv (e_fieldPt rfl tf149) ?_
 refine lv (v := Nx (0 + sizes rs)) (e_load1 tf25 rfl (k_pt 2 rfl rfl)) ?_
 refine lv (v := Nx ((0 + sizes rs) + 24)) (e_add (a := ((0 + sizes rs : Nat) : Int)) (b := (24 : Int)) rfl rfl (i64n (by omega) (by omega))) ?_
 refine lv e_move ?_
 refine lv (v := Nx ((rPr zs22).length)) (e_len (a := (rAr (adv aa6 ac7 (0 + sizes rs) 1) (ac7 - (0 + sizes rs)) zs22)) (n := (rPr zs22).length) (c := (rCr (ac7 - (0 + sizes rs)) zs22)) rfl tf11) ?_
 refine lv (v := Nx (((0 + sizes rs) + 24) + ((rPr zs22).length))) (e_add (a := (((0 + sizes rs) + 24 : Nat) : Int)) (b := (((rPr zs22).length : Nat) : Int)) rfl rfl (i64n (by omega) (by omega))) ?_
 refine lv (e_fieldPt rfl tf149) ?_
 refine lu (m_store 2 tf25 (cs' := #[Nx (epochF k.head), Nx (0 + rs.length), .slice none 0 0, .slice rp30 (((rs).length) + 1) rc31, Nx (((0 + sizes rs) + 24) + ((rPr zs22).length))]) rfl rfl rfl rfl rfl rfl rfl) ?_
 refine lnr ?_
 refine lv (e_fieldPt rfl tf147) ?_
 refine lv (v := Nx (0 + rs.length)) (e_load1 tf25 rfl (k_pt 2 rfl rfl)) ?_
 refine lv (v := Nx ((0 + rs.length) + 1)) (e_add (a := ((0 + rs.length : Nat) : Int)) (b := (1 : Int)) rfl rfl (i64n (by omega) (by omega))) ?_
 refine lv (e_fieldPt rfl tf147) ?_
 refine lu (m_store 2 tf25 (cs' := #[Nx (epochF k.head), Nx ((0 + rs.length) + 1), .slice none 0 0, .slice rp30 (((rs).length) + 1) rc31, Nx (((0 + sizes rs) + 24) + ((rPr zs22).length))]) rfl rfl rfl rfl rfl rfl rfl) ?_
 refine l_nil ?_
 refine f_block ?_
 have hnx := read_step hfu hle hrs (by rw [← hz23]; exact hrb) (by rw [← hz23]; omega) (by omega) (by rw [← hz23]; omega)
 have hsn := rd_snoc (c := ac7) (s := 0 + sizes rs) hin (by omega) (by omega)
 rw [← hz23] at hnx hsn
 rw [← hsame.2] at hnx
 replace hnx := And.intro hnx.1 (And.intro hnx.2.1 (And.intro hnx.2.2 hsn)) -- ⟨hnx.1, hnx.2.1, hnx.2.2, hsn⟩
 refine f_mask (L' := [row (.slice rp30 (((rs).length) + 1) rc31) 30 1 (((rs).length) + 1) (us ++ [sB (rAr (adv aa6 ac7 (0 + sizes rs) 1) (ac7 - (0 + sizes rs)) zs22) (rPr zs22) ((rCr (ac7 - (0 + sizes rs)) zs22))]), pt b4 (.cells #[Nx (epochF k.head), Nx ((0 + rs.length) + 1), .slice none 0 0, .slice rp30 (((rs).length) + 1) rc31, Nx (((0 + sizes rs) + 24) + ((rPr zs22).length))] 54), pt b2 (.cells #[.int .i64 (0), .int .i64 (0), .slice none 0 0, .slice none 0 0, .int .i64 (0)] 54), pt b1 (.cells #[sB vha k.head (vhc), sB vaa k.a (vac), sB vba k.b (vbc), Ix (k.power)] 32)]) [false, true, true, true, true] rfl ?_
 exact f_cut ⟨(f, (rs ++ [rPr zs22]), (us ++ [sB (rAr (adv aa6 ac7 (0 + sizes rs) 1) (ac7 - (0 + sizes rs)) zs22) (rPr zs22) ((rCr (ac7 - (0 + sizes rs)) zs22))]), rp30, rc31), ⟨⟨rfl, rfl, rfl⟩, (by simp only [sB, rB, sizes_snoc, List.length_append, List.length_cons, List.length_nil, Nat.add_assoc]; try rfl), hnx⟩, (show f < f + 1 from Nat.lt_succ_self f)⟩
end Go.Proofs
