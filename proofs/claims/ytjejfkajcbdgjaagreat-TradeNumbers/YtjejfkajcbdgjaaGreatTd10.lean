/-
 The reader of bits: walked. Printed by a program of my own.
-/
import Derived.Test.YtjejfkajcbdgjaaGreatTd9
import Derived.Test.YtjejfkajcbdgjaaGreatTdRd
namespace Go.Proofs
open Go Go.Sl Go.Td Go.Jn
theorem tt118 : fldB Tryz.prog 198 1 1 1 false = true := by kernel_rfl
theorem tt119 : fldB Tryz.prog 198 2 2 1 false = true := by kernel_rfl
theorem tt120 : Tryz.prog.underlying 27 = some (.slice 5) := by kernel_rfl
theorem tt121 : cfB Tryz.prog 117 = true := by kernel_rfl
theorem tt122 : cfB Tryz.prog 118 = true := by kernel_rfl
theorem tt123 : Tryz.prog.underlying 165 = some (.pointer (Tryz.prog.pointee 165)) := by kernel_rfl
theorem tt124 : fldB Tryz.prog 198 0 0 1 false = true := by kernel_rfl
theorem tt125 : fldB Tryz.prog 198 3 3 1 false = true := by kernel_rfl
theorem tt126 : tyB Tryz.prog 34 false 1 = true := by kernel_rfl
theorem tt127 : cfB Tryz.prog 150 = true := by kernel_rfl
theorem tt128 : cfB Tryz.prog 149 = true := by kernel_rfl
theorem tt129 : fldB Tryz.prog 168 0 0 1 false = true := by kernel_rfl
theorem tt130 : tyB Tryz.prog 165 false 1 = true := by kernel_rfl
theorem tt131 : cfB Tryz.prog 137 = true := by kernel_rfl
theorem tt132 : tyB Tryz.prog 168 true 1 = true := by kernel_rfl
theorem tt133 : cfB Tryz.prog 116 = true := by kernel_rfl
theorem tt134 : stB Tryz.prog 198 [(0, 1), (1, 1), (2, 1), (3, 1)] = true := by kernel_rfl
theorem tt135 : (Tryz.prog.info? 198).bind (·.zero) = some (.agg #[.bool false, .slice none 0 0, .int .i64 (0), .int .i64 (0)]) := by kernel_rfl
set_option maxHeartbeats 4000000 in
theorem rget_ok (β : Base) (w : World) (rb : Nat) (p : Option Addr) (c : Nat) (xs : List UInt8) (n : Nat) (hw : St β (rdL rb p c xs n) w) (hxl : xs.length ≤ 65536) (k : Nat) (hn : n + k ≤ 8 * xs.length) : Calls Tryz.prog 118 #[.pointer (some ⟨rb, 0, none⟩), Nx k] w fun r w' => r = .returned (Ux (rdU xs n k)) ∧ St β (rdL rb p c xs (n + k)) w' := by
 refine enter (n := 41) Tryz.func118 rfl Tryz.ntmps118 rfl ?_ hw
 refine c_seq ?_
 refine c_region ?_
 refine l_val (v := .int .u64 (0)) rfl rfl rfl (e_assign) ?_
 refine l_nil ?_
 refine f_then ?_
 refine c_seq ?_
 refine c_region ?_
 refine l_val (v := .int .u64 (0)) rfl rfl rfl (e_assign) ?_
 refine l_nil ?_
 refine f_then ?_
 refine c_seq ?_
 refine c_seq ?_
 refine c_region ?_
 refine l_val (v := Nx (k)) rfl rfl rfl (e_move) ?_
 refine l_val (v := .int .i64 (0)) rfl rfl rfl (e_move) ?_
 refine l_nil ?_
 refine f_then ?_
 refine c_block ?_
 refine c_loop (fun (j : Nat) (f : Fm) (L : List Res) => (f 0 = .pointer (some ⟨rb, 0, none⟩) ∧ f 5 = Ux (rdU xs n j) ∧ f 6 = Nx (k) ∧ f 7 = Nx (j)) ∧ L = [pt rb (.cells #[.bool true, .slice p (xs.length) c, Nx (n + j), .int .i64 (0)] 198), rowF BytF 5 p c xs] ∧ (j ≤ k)) (fun (j : Nat) => k - j) 0 ?_ ?_
 ·exact ⟨⟨rfl, rfl, rfl, rfl⟩, rfl, Nat.zero_le _⟩
 rintro j f0 L0 ⟨⟨hs0, hs5, hs6, hs7⟩, hL, hj⟩
 subst L0
 refine rebase (d := 0) hs0 ?_
 refine rebase (d := 5) hs5 ?_
 refine rebase (d := 6) hs6 ?_
 refine rebase (d := 7) hs7 ?_
 clear hs0 hs5 hs6 hs7
 refine c_seq ?_
 refine c_region ?_
 refine l_val (v := .bool (decide (((j : Nat) : Int) < ((k : Nat) : Int)))) rfl rfl rfl (e_lss (a := ((j : Nat) : Int)) (b := ((k : Nat) : Int)) rfl rfl) ?_
 refine l_nil ?_
 refine f_then ?_
 refine c_seq ?_
 refine c_if (((j : Nat) : Int) < ((k : Nat) : Int)) rfl (fun hc1 => ?_) (fun hc1 => ?_)
 ·
  refine c_skip ?_
  refine f_then ?_
  refine c_seq ?_
  refine c_block ?_
  refine c_seq ?_
  refine c_quiet (by kernel_rfl) (by kernel_rfl) ?_
  refine q_val (v := Ux (rdU xs n j)) rfl rfl rfl (e_move) ?_
  refine q_val (v := Ux ((rdU xs n j) <<< (1 : UInt64))) rfl rfl rfl (e_shl (a := ((rdU xs n j).toNat : Int)) (b := ((1 : Nat) : Int)) rfl rfl (by decide) (ux_shl _ 1 (by decide))) ?_
  refine q_val (v := .pointer (some ⟨rb, 0, none⟩)) rfl rfl rfl (e_move) ?_
  refine q_val (v := .pointer (some ⟨rb, 0, none⟩)) rfl rfl rfl (e_nil (a := ⟨rb, 0, none⟩) rfl) ?_
  refine q_val (v := .pointer (some ⟨rb, 1, none⟩)) rfl rfl rfl (e_fieldPt (b := rb) (o := 0) rfl tt118) ?_
  refine q_val (v := .slice p (xs.length) c) rfl rfl rfl (e_load1 tt70 (v := .slice p (xs.length) c) rfl (k_pt 0 (cs := #[.bool true, .slice p (xs.length) c, Nx (n + j), .int .i64 (0)]) (vs := [.slice p (xs.length) c]) rfl rfl)) ?_
  refine q_val (v := .pointer (some ⟨rb, 0, none⟩)) rfl rfl rfl (e_move) ?_
  refine q_val (v := .pointer (some ⟨rb, 0, none⟩)) rfl rfl rfl (e_nil (a := ⟨rb, 0, none⟩) rfl) ?_
  refine q_val (v := .pointer (some ⟨rb, 2, none⟩)) rfl rfl rfl (e_fieldPt (b := rb) (o := 0) rfl tt119) ?_
  refine q_val (v := Nx (n + j)) rfl rfl rfl (e_load1 tt2 (v := Nx (n + j)) rfl (k_pt 0 (cs := #[.bool true, .slice p (xs.length) c, Nx (n + j), .int .i64 (0)]) (vs := [Nx (n + j)]) rfl rfl)) ?_
  refine q_val (v := Nx ((n + j) / 8)) rfl rfl rfl (e_quo (a := ((n + j : Nat) : Int)) (b := (8 : Int)) rfl rfl (by decide) (i64n (nat_tdiv _ 8) (by omega))) ?_
  refine q_val (v := .pointer (some ((ba p).add (((n + j) / 8) * 1)))) rfl rfl rfl (e_indexFlN 1 (F := BytF) (j := (n + j) / 8) (m := xs.length) (xs := xs) rfl rfl rfl tt71 (by omega) rfl) ?_
  obtain ⟨x2, hx3⟩ : ∃ x_, xs[(n + j) / 8]? = some x_ := ⟨_, List.getElem?_eq_getElem (by first | omega | decide)⟩
  refine q_val (v := Bx (x2)) rfl rfl rfl (e_load1 tt5 (v := Bx (x2)) rfl (k_flAt 1 (F := BytF) rfl hx3)) ?_
  refine q_val (v := .pointer (some ⟨rb, 0, none⟩)) rfl rfl rfl (e_move) ?_
  refine q_val (v := .pointer (some ⟨rb, 0, none⟩)) rfl rfl rfl (e_nil (a := ⟨rb, 0, none⟩) rfl) ?_
  refine q_val (v := .pointer (some ⟨rb, 2, none⟩)) rfl rfl rfl (e_fieldPt (b := rb) (o := 0) rfl tt119) ?_
  refine q_val (v := Nx (n + j)) rfl rfl rfl (e_load1 tt2 (v := Nx (n + j)) rfl (k_pt 0 (cs := #[.bool true, .slice p (xs.length) c, Nx (n + j), .int .i64 (0)]) (vs := [Nx (n + j)]) rfl rfl)) ?_
  refine q_val (v := Nx ((n + j) % 8)) rfl rfl rfl (e_rem (a := ((n + j : Nat) : Int)) (b := (8 : Int)) rfl rfl (by decide) (nat_tmod _ 8)) ?_
  refine q_val (v := Nx (7 - ((n + j) % 8))) rfl rfl rfl (ev_eq (congrArg (Value.int .i64) (by omega)) (e_sub (a := (7 : Int)) (b := (((n + j) % 8 : Nat) : Int)) rfl rfl (i64w (by omega)))) ?_
  refine q_val (v := Bx (x2 >>> UInt8.ofNat (7 - ((n + j) % 8)))) rfl rfl rfl (e_shr (a := ((x2).toNat : Int)) (b := ((7 - ((n + j) % 8) : Nat) : Int)) rfl rfl (by omega) (bx_shr _ (7 - ((n + j) % 8)) (by omega))) ?_
  refine q_val (v := Bx ((x2 >>> UInt8.ofNat (7 - ((n + j) % 8))) &&& (1 : UInt8))) rfl rfl rfl (e_and (a := ((x2 >>> UInt8.ofNat (7 - ((n + j) % 8))).toNat : Int)) (b := (((1 : UInt8)).toNat : Int)) rfl rfl (bx_and _ _)) ?_
  refine q_val (v := Ux (((x2 >>> UInt8.ofNat (7 - ((n + j) % 8))) &&& (1 : UInt8)).toUInt64)) rfl rfl rfl (e_conv (a := (((x2 >>> UInt8.ofNat (7 - ((n + j) % 8))) &&& (1 : UInt8)).toNat : Int)) rfl ⟨_, tt75⟩ tt74 (ux_of8 _)) ?_
  refine q_val (v := Ux (((rdU xs n j) <<< (1 : UInt64)) ||| (((x2 >>> UInt8.ofNat (7 - ((n + j) % 8))) &&& (1 : UInt8)).toUInt64))) rfl rfl rfl (e_or (a := (((rdU xs n j) <<< (1 : UInt64)).toNat : Int)) (b := ((((x2 >>> UInt8.ofNat (7 - ((n + j) % 8))) &&& (1 : UInt8)).toUInt64).toNat : Int)) rfl rfl (ux_or _ _)) ?_
  refine q_val (v := Ux (((rdU xs n j) <<< (1 : UInt64)) ||| (((x2 >>> UInt8.ofNat (7 - ((n + j) % 8))) &&& (1 : UInt8)).toUInt64))) rfl rfl rfl (e_assign) ?_
  refine q_nil ?_
  refine f_then ?_
  refine c_region ?_
  refine l_val (v := .pointer (some ⟨rb, 0, none⟩)) rfl rfl rfl (e_move) ?_
  refine l_val (v := .pointer (some ⟨rb, 0, none⟩)) rfl rfl rfl (e_nil (a := ⟨rb, 0, none⟩) rfl) ?_
  refine l_val (v := .pointer (some ⟨rb, 2, none⟩)) rfl rfl rfl (e_fieldPt (b := rb) (o := 0) rfl tt119) ?_
  refine l_val (v := Nx (n + j)) rfl rfl rfl (e_load1 tt2 (v := Nx (n + j)) rfl (k_pt 0 (cs := #[.bool true, .slice p (xs.length) c, Nx (n + j), .int .i64 (0)]) (vs := [Nx (n + j)]) rfl rfl)) ?_
  refine l_val (v := Nx ((n + j) + 1)) rfl rfl rfl (e_add (a := ((n + j : Nat) : Int)) (b := (1 : Int)) rfl rfl (i64n (by omega) (by omega))) ?_
  refine l_val (v := .pointer (some ⟨rb, 0, none⟩)) rfl rfl rfl (e_nil (a := ⟨rb, 0, none⟩) rfl) ?_
  refine l_val (v := .pointer (some ⟨rb, 2, none⟩)) rfl rfl rfl (e_fieldPt (b := rb) (o := 0) rfl tt119) ?_
  refine l_mu rfl rfl (m_store 0 tt2 (b := rb) (o := 2) (T := 198) (cs := #[.bool true, .slice p (xs.length) c, Nx (n + j), .int .i64 (0)]) (cs' := #[.bool true, .slice p (xs.length) c, Nx ((n + j) + 1), .int .i64 (0)]) (v := Nx ((n + j) + 1)) rfl rfl rfl rfl rfl rfl rfl) ?_
  refine l_nil ?_
  refine f_block ?_
  refine f_then ?_
  refine c_region ?_
  refine l_val (v := Nx (j + 1)) rfl rfl rfl (e_add (a := ((j : Nat) : Int)) (b := (1 : Int)) rfl rfl (i64n (by omega) (by omega))) ?_
  refine l_val (v := Nx (j + 1)) rfl rfl rfl (e_move) ?_
  refine l_nil ?_
  exact f_cut ⟨j + 1, ⟨⟨rfl, congrArg (fun z : UInt64 => Value.int .u64 (z.toNat : Int)) (rd_step hx3), rfl, rfl⟩, rfl, (by omega)⟩, (show k - (j + 1) < k - j from by omega)⟩
 ·
  refine c_exit ?_
  refine f_then_exit ?_
  refine f_then_exit ?_
  refine f_exit ?_
  refine f_then ?_
  refine c_seq ?_
  refine c_region ?_
  refine l_val (v := Ux (rdU xs n j)) rfl rfl rfl (e_move) ?_
  refine l_val (v := Ux (rdU xs n j)) rfl rfl rfl (e_assign) ?_
  refine l_nil ?_
  refine f_then ?_
  refine c_ret ?_
  refine ret1 Tryz.results118 (v := Ux (rdU xs n j)) rfl ?_
  intro w hw
  have hjk : j = k := by omega
  subst hjk
  exact ⟨rfl, hw⟩
theorem rrest_ok (β : Base) (w : World) (hw : St β [] w) (rb : Nat) (p : Option Addr) (m c n : Nat) (hc : Cs β.heap ⟨rb, 0, none⟩ [.bool true, .slice p m c, Nx n, Ix 0]) (hm : m ≤ 65536) (hn : n ≤ 8 * m) : Calls Tryz.prog 117 #[.pointer (some ⟨rb, 0, none⟩)] w fun r w' => r = .returned (Nx (8 * m - n)) ∧ St β [] w' := by
 refine enter (n := 14) Tryz.func117 rfl Tryz.ntmps117 rfl ?_ hw
 refine c_seq ?_
 refine c_region ?_
 refine l_val (v := .int .i64 (0)) rfl rfl rfl (e_assign) ?_
 refine l_nil ?_
 refine f_then ?_
 refine c_seq ?_
 refine c_quiet (by kernel_rfl) (by kernel_rfl) ?_
 refine q_val (v := .pointer (some (⟨rb, 0, none⟩))) rfl rfl rfl (e_move) ?_
 refine q_val (v := .pointer (some (⟨rb, 0, none⟩))) rfl rfl rfl (e_nil (a := ⟨rb, 0, none⟩) rfl) ?_
 refine q_val (v := .pointer (some ((⟨rb, 0, none⟩ : Addr).add 1))) rfl rfl rfl (e_fieldAddr (a := ⟨rb, 0, none⟩) rfl tt118) ?_
 refine q_val (v := .slice p (m) c) rfl rfl rfl (e_load1 tt70 (v := .slice p (m) c) rfl (Knows.imp (Knows.of_base (Cs.mono _ _) hc) (fun _ h => Cs.sub (vs := [.slice p (m) c]) 1 h rfl))) ?_
 refine q_val (v := Nx (m)) rfl rfl rfl (e_len (a := p) (n := m) (c := c) rfl tt120) ?_
 refine q_val (v := Nx (8 * m)) rfl rfl rfl (e_mul (a := (8 : Int)) (b := ((m : Nat) : Int)) rfl rfl (i64n (by omega) (by omega))) ?_
 refine q_val (v := .pointer (some (⟨rb, 0, none⟩))) rfl rfl rfl (e_move) ?_
 refine q_val (v := .pointer (some (⟨rb, 0, none⟩))) rfl rfl rfl (e_nil (a := ⟨rb, 0, none⟩) rfl) ?_
 refine q_val (v := .pointer (some ((⟨rb, 0, none⟩ : Addr).add 2))) rfl rfl rfl (e_fieldAddr (a := ⟨rb, 0, none⟩) rfl tt119) ?_
 refine q_val (v := Nx (n)) rfl rfl rfl (e_load1 tt2 (v := Nx (n)) rfl (Knows.imp (Knows.of_base (Cs.mono _ _) hc) (fun _ h => Cs.sub (vs := [Nx (n)]) 2 h rfl))) ?_
 refine q_val (v := Nx ((8 * m) - n)) rfl rfl rfl (ev_eq (congrArg (Value.int .i64) (by omega)) (e_sub (a := ((8 * m : Nat) : Int)) (b := ((n : Nat) : Int)) rfl rfl (i64w (by omega)))) ?_
 refine q_val (v := Nx ((8 * m) - n)) rfl rfl rfl (e_assign) ?_
 refine q_nil ?_
 refine f_then ?_
 refine c_ret ?_
 refine ret1 Tryz.results117 (v := Nx ((8 * m) - n)) rfl ?_
 intro w hw
 exact ⟨rfl, st_mask [] rfl hw⟩
theorem rnum_ok (β : Base) (w : World) (rb : Nat) (p : Option Addr) (c : Nat) (xs : List UInt8) (n : Nat) (hw : St β (rdL rb p c xs n) w) (hxl : xs.length ≤ 65536) (k : Nat) (hn : n + k ≤ 8 * xs.length) : Calls Tryz.prog 150 #[.pointer (some ⟨rb, 0, none⟩), Nx k] w fun r w' => r = .returned (.tuple #[Ux (rdU xs n k), .int .i64 0]) ∧ St β (rdL rb p c xs (n + k)) w' := by
 refine enter (n := 13) Tryz.func150 rfl Tryz.ntmps150 rfl ?_ hw
 refine c_seq ?_
 refine c_region ?_
 refine l_val (v := .int .u64 (0)) rfl rfl rfl (e_assign) ?_
 refine l_val (v := .int .i64 (0)) rfl rfl rfl (e_assign) ?_
 refine l_nil ?_
 refine f_then ?_
 refine c_seq ?_
 refine c_seq ?_
 refine c_region ?_
 refine l_val (v := Nx (k)) rfl rfl rfl (e_move) ?_
 refine l_val (v := .pointer (some ⟨rb, 0, none⟩)) rfl rfl rfl (e_move) ?_
 refine l_call rfl rfl rfl (cl_value (fst := []) (cap := []) (vs := [.pointer (some ⟨rb, 0, none⟩)]) (all := [.pointer (some ⟨rb, 0, none⟩)]) tt121 rfl rfl rfl) ?_
 intro w hw
 obtain ⟨β1, sb, kn, hw1, back⟩ := St.frame_all hw
 refine (rrest_ok β1 w hw1 rb _ _ _ _ (kn _ (k_pt 0 (vs := [.bool true, .slice p (xs.length) c, Nx (n), .int .i64 (0)]) rfl rfl)) hxl (by omega)).mono ?_
 rintro e w' ⟨rfl, hw'⟩
 refine ⟨_, rfl, _, back _ _ hw', ?_⟩
 clear hw hw1 hw' back kn sb
 refine l_val (v := .bool (decide (((8 * xs.length - n : Nat) : Int) < ((k : Nat) : Int)))) rfl rfl rfl (e_gtr (a := ((k : Nat) : Int)) (b := ((8 * xs.length - n : Nat) : Int)) rfl rfl) ?_
 refine l_nil ?_
 refine f_then ?_
 refine c_if (((8 * xs.length - n : Nat) : Int) < ((k : Nat) : Int)) rfl (fun hc1 => ?_) (fun hc1 => ?_)
 ·
  exact absurd hc1 (by omega)
 ·
  refine c_skip ?_
  refine f_then ?_
  refine c_seq ?_
  refine c_region ?_
  refine l_val (v := .pointer (some ⟨rb, 0, none⟩)) rfl rfl rfl (e_move) ?_
  refine l_val (v := Nx (k)) rfl rfl rfl (e_move) ?_
  refine l_call rfl rfl rfl (cl_value (fst := []) (cap := []) (vs := [.pointer (some ⟨rb, 0, none⟩), Nx (k)]) (all := [.pointer (some ⟨rb, 0, none⟩), Nx (k)]) tt122 rfl rfl rfl) ?_
  intro w hw
  replace hw := hw.perm (L' := _ :: _ :: []) (by exact ((perm_front 1 rfl).trans (perm_front 1 rfl)))
  obtain ⟨β1, sb, kn, hw1, back⟩ := St.frame (L := [_, _]) (M := []) hw
  refine (rget_ok β1 w rb _ _ xs n hw1 hxl k (by omega)).mono ?_
  rintro e w' ⟨rfl, hw'⟩
  refine ⟨_, rfl, _, back _ _ hw', ?_⟩
  clear hw hw1 hw' back kn sb
  refine l_val (v := Ux (rdU xs n k)) rfl rfl rfl (e_assign) ?_
  refine l_val (v := .int .i64 (0)) rfl rfl rfl (e_assign) ?_
  refine l_nil ?_
  refine f_then ?_
  refine c_ret ?_
  refine ret2 (v := Ux (rdU xs n k)) (v' := .int .i64 (0)) Tryz.results150 rfl rfl ?_
  intro w hw
  exact ⟨rfl, hw⟩
set_option maxHeartbeats 4000000 in
theorem rread_ok (β : Base) (w : World) (rb : Nat) (p : Option Addr) (c : Nat) (xs : List UInt8) (n : Nat) (hw : St β (rdL rb p c xs n) w) (hxl : xs.length ≤ 65536) (k : Nat) (hn : n + k ≤ 8 * xs.length) (hk : k ≤ 64) : Calls Tryz.prog 149 #[.pointer (some ⟨rb, 0, none⟩), Nx k, .int .i64 64, .func (.func 150) #[.pointer (some ⟨rb, 0, none⟩)] #[]] w fun r w' => r = .returned (.tuple #[Ux (rdU xs n k), .int .i64 0]) ∧ St β (rdL rb p c xs (n + k)) w' := by
 refine enter (n := 54) Tryz.func149 rfl Tryz.ntmps149 rfl ?_ hw
 refine c_seq ?_
 refine c_region ?_
 refine l_val (v := .int .u64 (0)) rfl rfl rfl (e_assign) ?_
 refine l_val (v := .int .i64 (0)) rfl rfl rfl (e_assign) ?_
 refine l_nil ?_
 refine f_then ?_
 refine c_seq ?_
 refine c_block ?_
 refine c_seq ?_
 refine c_region ?_
 refine l_val (v := .pointer (some ⟨rb, 0, none⟩)) rfl rfl rfl (e_move) ?_
 refine l_val (v := .bool false) rfl rfl rfl (e_eql_pnil (p := some (⟨rb, 0, none⟩)) rfl rfl tt123) ?_
 refine l_val (v := .bool false) rfl rfl rfl (e_move) ?_
 refine g_val (v := .pointer (some ⟨rb, 0, none⟩)) rfl rfl rfl rfl rfl (e_move) ?_
 refine g_val (v := .pointer (some ⟨rb, 0, none⟩)) rfl rfl rfl rfl rfl (e_nil (a := ⟨rb, 0, none⟩) rfl) ?_
 refine g_val (v := .pointer (some ⟨rb, 0, none⟩)) rfl rfl rfl rfl rfl (e_fieldPt (b := rb) (o := 0) rfl tt124) ?_
 refine g_val (v := .bool true) rfl rfl rfl rfl rfl (e_load1 tt95 (v := .bool true) rfl (k_pt 0 (cs := #[.bool true, .slice p (xs.length) c, Nx (n), .int .i64 (0)]) (vs := [.bool true]) rfl rfl)) ?_
 refine g_val (v := .bool false) rfl rfl rfl rfl rfl (e_not (a := true) rfl) ?_
 refine l_val (v := .bool false) rfl rfl rfl (e_pick_f rfl) ?_
 refine l_val (v := .bool false) rfl rfl rfl (e_assign) ?_
 refine l_nil ?_
 refine f_then ?_
 refine c_no rfl ?_
 refine c_seq ?_
 refine c_region ?_
 refine l_val (v := Nx (k)) rfl rfl rfl (e_move) ?_
 refine l_val (v := .bool (decide (((k : Nat) : Int) < (0 : Int)))) rfl rfl rfl (e_lss (a := ((k : Nat) : Int)) (b := (0 : Int)) rfl rfl) ?_
 refine l_val (v := .bool (decide (((k : Nat) : Int) < (0 : Int)))) rfl rfl rfl (e_move) ?_
 refine l_split (s := 25) (p := ((k : Nat) : Int) < (0 : Int)) rfl (fun h => ?_) (fun h => ?_)
 exact absurd h (by omega)
 refine g_val (v := Nx (k)) rfl rfl rfl rfl rfl (e_move) ?_
 refine g_val (v := .int .i64 (64)) rfl rfl rfl rfl rfl (e_move) ?_
 refine g_val (v := .bool (decide ((64 : Int) < ((k : Nat) : Int)))) rfl rfl rfl rfl rfl (e_gtr (a := ((k : Nat) : Int)) (b := (64 : Int)) rfl rfl) ?_
 refine l_val (v := .bool (decide ((64 : Int) < ((k : Nat) : Int)))) rfl rfl rfl (e_pick_f rfl) ?_
 refine l_val (v := .bool (decide ((64 : Int) < ((k : Nat) : Int)))) rfl rfl rfl (e_assign) ?_
 refine l_nil ?_
 refine f_then ?_
 refine c_if ((64 : Int) < ((k : Nat) : Int)) rfl (fun hc1 => ?_) (fun hc1 => ?_)
 ·
  exact absurd hc1 (by omega)
 ·
  refine c_seq ?_
  refine c_region ?_
  refine l_val (v := .pointer (some ⟨rb, 0, none⟩)) rfl rfl rfl (e_move) ?_
  refine l_val (v := .pointer (some ⟨rb, 0, none⟩)) rfl rfl rfl (e_nil (a := ⟨rb, 0, none⟩) rfl) ?_
  refine l_val (v := .pointer (some ⟨rb, 3, none⟩)) rfl rfl rfl (e_fieldPt (b := rb) (o := 0) rfl tt125) ?_
  refine l_val (v := .int .i64 (0)) rfl rfl rfl (e_load1 tt126 (v := .int .i64 (0)) rfl (k_pt 0 (cs := #[.bool true, .slice p (xs.length) c, Nx (n), .int .i64 (0)]) (vs := [.int .i64 (0)]) rfl rfl)) ?_
  refine l_val (v := .bool false) rfl rfl rfl (e_neq (a := (0 : Int)) (b := (0 : Int)) rfl rfl) ?_
  refine l_val (v := .bool false) rfl rfl rfl (e_assign) ?_
  refine l_nil ?_
  refine f_then ?_
  refine c_no rfl ?_
  refine c_skip ?_
  refine f_block ?_
  refine f_then ?_
  refine c_seq ?_
  refine c_region ?_
  refine l_val (v := .func (.func 150) #[.pointer (some ⟨rb, 0, none⟩)] #[]) rfl rfl rfl (e_move) ?_
  refine l_val (v := Nx (k)) rfl rfl rfl (e_move) ?_
  refine l_call rfl rfl rfl (cl_value (fst := [.pointer (some ⟨rb, 0, none⟩)]) (cap := []) (vs := [Nx (k)]) (all := [.pointer (some ⟨rb, 0, none⟩), Nx (k)]) tt127 rfl rfl rfl) ?_
  intro w hw
  replace hw := hw.perm (L' := _ :: _ :: []) (by exact ((perm_front 1 rfl).trans (perm_front 1 rfl)))
  obtain ⟨β1, sb, kn, hw1, back⟩ := St.frame (L := [_, _]) (M := []) hw
  refine (rnum_ok β1 w rb _ _ xs n hw1 hxl k (by omega)).mono ?_
  rintro e w' ⟨rfl, hw'⟩
  refine ⟨_, rfl, _, back _ _ hw', ?_⟩
  clear hw hw1 hw' back kn sb
  refine l_val (v := .tuple #[Ux (rdU xs n k), .int .i64 (0)]) rfl rfl rfl (e_move) ?_
  refine l_val (v := Ux (rdU xs n k)) rfl rfl rfl (e_extract (vs := #[Ux (rdU xs n k), .int .i64 (0)]) rfl rfl) ?_
  refine l_val (v := .int .i64 (0)) rfl rfl rfl (e_extract (vs := #[Ux (rdU xs n k), .int .i64 (0)]) rfl rfl) ?_
  refine l_val (v := Ux (rdU xs n k)) rfl rfl rfl (e_assign) ?_
  refine l_val (v := .int .i64 (0)) rfl rfl rfl (e_assign) ?_
  refine l_nil ?_
  refine f_then ?_
  refine c_seq ?_
  refine c_seq ?_
  refine c_region ?_
  refine l_val (v := .int .i64 (0)) rfl rfl rfl (e_move) ?_
  refine l_val (v := .bool false) rfl rfl rfl (e_neq (a := (0 : Int)) (b := (0 : Int)) rfl rfl) ?_
  refine l_nil ?_
  refine f_then ?_
  refine c_no rfl ?_
  refine c_skip ?_
  refine f_then ?_
  refine c_seq ?_
  refine c_region ?_
  refine l_val (v := Ux (rdU xs n k)) rfl rfl rfl (e_move) ?_
  refine l_val (v := Ux (rdU xs n k)) rfl rfl rfl (e_assign) ?_
  refine l_val (v := .int .i64 (0)) rfl rfl rfl (e_assign) ?_
  refine l_nil ?_
  refine f_then ?_
  refine c_ret ?_
  refine ret2 (v := Ux (rdU xs n k)) (v' := .int .i64 (0)) Tryz.results149 rfl rfl ?_
  intro w hw
  exact ⟨rfl, hw⟩
theorem rgetx_ok (β : Base) (w : World) (rb : Nat) (p : Option Addr) (c : Nat) (xs : List UInt8) (n : Nat) (hw : St β (rdL rb p c xs n) w) (hxl : xs.length ≤ 65536) (k : Nat) (hn : n + k ≤ 8 * xs.length) (hk : k ≤ 64) : Calls Tryz.prog 137 #[.pointer (some ⟨rb, 0, none⟩), Nx k] w fun r w' => r = .returned (.tuple #[Ux (rdU xs n k), .int .i64 0]) ∧ St β (rdL rb p c xs (n + k)) w' := by
 refine enter (n := 13) Tryz.func137 rfl Tryz.ntmps137 rfl ?_ hw
 refine c_seq ?_
 refine c_region ?_
 refine l_val (v := .int .u64 (0)) rfl rfl rfl (e_assign) ?_
 refine l_val (v := .int .i64 (0)) rfl rfl rfl (e_assign) ?_
 refine l_nil ?_
 refine f_then ?_
 refine c_seq ?_
 refine c_region ?_
 refine l_val (v := .pointer (some ⟨rb, 0, none⟩)) rfl rfl rfl (e_move) ?_
 refine l_val (v := Nx (k)) rfl rfl rfl (e_move) ?_
 refine l_val (v := .pointer (some ⟨rb, 0, none⟩)) rfl rfl rfl (e_move) ?_
 refine l_val (v := .func (.func 150) #[.pointer (some ⟨rb, 0, none⟩)] #[]) rfl rfl rfl (e_func (u := [.pointer (some ⟨rb, 0, none⟩)]) (v := []) rfl rfl) ?_
 refine l_call rfl rfl rfl (cl_value (fst := []) (cap := []) (vs := [.pointer (some ⟨rb, 0, none⟩), Nx (k), .int .i64 (64), .func (.func 150) #[.pointer (some ⟨rb, 0, none⟩)] #[]]) (all := [.pointer (some ⟨rb, 0, none⟩), Nx (k), .int .i64 (64), .func (.func 150) #[.pointer (some ⟨rb, 0, none⟩)] #[]]) tt128 rfl rfl rfl) ?_
 intro w hw
 replace hw := hw.perm (L' := _ :: _ :: []) (by exact ((perm_front 1 rfl).trans (perm_front 1 rfl)))
 obtain ⟨β1, sb, kn, hw1, back⟩ := St.frame (L := [_, _]) (M := []) hw
 refine (rread_ok β1 w rb _ _ xs n hw1 hxl k (by omega) hk).mono ?_
 rintro e w' ⟨rfl, hw'⟩
 refine ⟨_, rfl, _, back _ _ hw', ?_⟩
 clear hw hw1 hw' back kn sb
 refine l_val (v := Ux (rdU xs n k)) rfl rfl rfl (e_extract (vs := #[Ux (rdU xs n k), .int .i64 (0)]) rfl rfl) ?_
 refine l_val (v := .int .i64 (0)) rfl rfl rfl (e_extract (vs := #[Ux (rdU xs n k), .int .i64 (0)]) rfl rfl) ?_
 refine l_val (v := Ux (rdU xs n k)) rfl rfl rfl (e_assign) ?_
 refine l_val (v := .int .i64 (0)) rfl rfl rfl (e_assign) ?_
 refine l_nil ?_
 refine f_then ?_
 refine c_ret ?_
 refine ret2 (v := Ux (rdU xs n k)) (v' := .int .i64 (0)) Tryz.results137 rfl rfl ?_
 intro w hw
 exact ⟨rfl, hw⟩
theorem rgetv_ok (β : Base) (w : World) (rb : Nat) (p : Option Addr) (c : Nat) (xs : List UInt8) (n : Nat) (hw : St β (rdL rb p c xs n) w) (hxl : xs.length ≤ 65536) (k : Nat) (hn : n + k ≤ 8 * xs.length) (hk : k ≤ 64) (u : UInt64) (hu : rdU xs n k = u) : Calls Tryz.prog 137 #[.pointer (some ⟨rb, 0, none⟩), Nx k] w fun r w' => r = .returned (.tuple #[Ux u, .int .i64 0]) ∧ St β (rdL rb p c xs (n + k)) w' := by
 subst hu
 exact rgetx_ok β w rb p c xs n hw hxl k hn hk
theorem tget_ok (β : Base) (w : World) (rb : Nat) (l : List Bool) (v : Int) (k : Nat) (hfit : Fits v k) (hw : St β [rdrR rb (bitsV (U v) k ++ l)] w) : Calls Tryz.prog 116 #[.agg #[.pointer (some ⟨rb, 0, none⟩)], Nx k] w fun r w' => r = .returned (Ix v) ∧ St β [rdrR rb l] w' := by
 obtain ⟨p, c, xs, n, hrd, hxl, hw⟩ := St.openRd hw
 obtain ⟨hrv, hrd2, hn⟩ := hrd.get hfit.k64 (U_fits hfit.f)
 have hk := hfit.k64
 refine enter (n := 16) Tryz.func116 rfl Tryz.ntmps116 rfl ?_ hw
 refine c_seq ?_
 refine c_region ?_
 refine l_mv rfl rfl rfl (m_box (v := .agg #[.pointer (some ⟨rb, 0, none⟩)]) rfl) ?_
 rintro _ _ ⟨b1, rfl, rfl⟩
 refine l_val (v := .int .i64 (0)) rfl rfl rfl (e_assign) ?_
 refine l_nil ?_
 refine f_then ?_
 refine c_seq ?_
 refine c_region ?_
 refine l_val (v := .pointer (some ⟨b1, 0, none⟩)) rfl rfl rfl (e_fieldPt (b := b1) (o := 0) rfl tt129) ?_
 refine l_val (v := .pointer (some ⟨rb, 0, none⟩)) rfl rfl rfl (e_load1 tt130 (v := .pointer (some ⟨rb, 0, none⟩)) rfl (k_pt 0 (cs := #[.pointer (some ⟨rb, 0, none⟩)]) (vs := [.pointer (some ⟨rb, 0, none⟩)]) rfl rfl)) ?_
 refine l_val (v := Nx (k)) rfl rfl rfl (e_move) ?_
 refine l_call rfl rfl rfl (cl_value (fst := []) (cap := []) (vs := [.pointer (some ⟨rb, 0, none⟩), Nx (k)]) (all := [.pointer (some ⟨rb, 0, none⟩), Nx (k)]) tt131 rfl rfl rfl) ?_
 intro w hw
 replace hw := hw.perm (L' := _ :: _ :: _ :: []) (by exact (((perm_front 0 rfl).trans (perm_front 2 rfl)).trans (perm_front 2 rfl)))
 obtain ⟨β1, sb, kn, hw1, back⟩ := St.frame (L := [_, _]) (M := _ :: []) hw
 refine (rgetv_ok β1 w rb _ _ xs n hw1 hxl k (by omega) hk _ hrv).mono ?_
 rintro e w' ⟨rfl, hw'⟩
 refine ⟨_, rfl, _, back _ _ hw', ?_⟩
 clear hw hw1 hw' back kn sb
 refine l_val (v := .tuple #[Ux (U v), .int .i64 (0)]) rfl rfl rfl (e_move) ?_
 refine l_val (v := Ux (U v)) rfl rfl rfl (e_extract (vs := #[Ux (U v), .int .i64 (0)]) rfl rfl) ?_
 refine l_val (v := .int .i64 (0)) rfl rfl rfl (e_extract (vs := #[Ux (U v), .int .i64 (0)]) rfl rfl) ?_
 refine l_val (v := Ux (U v)) rfl rfl rfl (e_assign) ?_
 refine l_val (v := .int .i64 (0)) rfl rfl rfl (e_assign) ?_
 refine l_nil ?_
 refine f_then ?_
 refine c_seq ?_
 refine c_region ?_
 refine l_val (v := Ux (U v)) rfl rfl rfl (e_move) ?_
 refine l_val (v := Ix (v)) rfl rfl rfl (e_conv (a := ((U v).toNat : Int)) rfl ⟨_, tt74⟩ tt80 (i64_U hfit.w)) ?_
 refine l_val (v := Ix (v)) rfl rfl rfl (e_assign) ?_
 refine l_nil ?_
 refine f_then ?_
 refine c_ret ?_
 refine ret1 Tryz.results116 (v := Ix (v)) rfl ?_
 intro w hw
 replace hw := st_mask (L' := [pt rb (.cells #[.bool true, .slice p (xs.length) c, Nx (n + k), .int .i64 (0)] 198), rowF BytF 5 p c xs]) [true, true, false] rfl hw
 exact ⟨rfl, St.closeRd (M := []) hrd2 hxl hw⟩
set_option maxHeartbeats 4000000 in
theorem tamr_ok (β : Base) (w : World) (rb : Nat) (l : List Bool) (a : KAm) (k : Nat) (hf : Fits a.a0 k ∧ Fits a.a1 k ∧ Fits a.a2 k ∧ Fits a.a3 k) (hw : St β [rdrR rb (amK a k l)] w) : Calls Tryz.prog 115 #[.agg #[.pointer (some ⟨rb, 0, none⟩)], Nx k] w fun r w' => r = .returned (.agg (amC a)) ∧ St β [rdrR rb l] w' := by
 replace hw : St β [rdrR rb (bitsV (U a.a0) k ++ (bitsV (U a.a1) k ++ (bitsV (U a.a2) k ++ (bitsV (U a.a3) k ++ l))))] w := hw
 refine enter (n := 17) Tryz.func115 rfl Tryz.ntmps115 rfl ?_ hw
 refine c_seq ?_
 refine c_region ?_
 refine l_mv rfl rfl rfl (m_box (v := .agg #[.pointer (some ⟨rb, 0, none⟩)]) rfl) ?_
 rintro _ _ ⟨b1, rfl, rfl⟩
 refine l_mv rfl rfl rfl (m_alloc tt3) ?_
 rintro _ _ ⟨b2, rfl, rfl⟩
 refine l_nil ?_
 refine f_then ?_
 refine c_seq ?_
 refine c_region ?_
 refine l_mv rfl rfl rfl (m_alloc tt3) ?_
 rintro _ _ ⟨b3, rfl, rfl⟩
 refine l_nil ?_
 refine f_then ?_
 refine c_seq ?_
 refine c_seq ?_
 refine c_region ?_
 refine l_val (v := .int .i64 (0)) rfl rfl rfl (e_move) ?_
 refine l_nil ?_
 refine f_then ?_
 refine c_block ?_
 refine c_unroll 5 ?_
 refine un_succ 4 ?_
 refine c_seq ?_
 refine c_region ?_
 refine l_val (v := .bool true) rfl rfl rfl (e_lss (a := (0 : Int)) (b := (4 : Int)) rfl rfl) ?_
 refine l_nil ?_
 refine f_then ?_
 refine c_seq ?_
 refine c_yes rfl ?_
 refine c_skip ?_
 refine f_then ?_
 refine c_seq ?_
 refine c_block ?_
 refine c_seq ?_
 refine c_region ?_
 refine l_val (v := .int .i64 (0)) rfl rfl rfl (e_move) ?_
 refine l_val (v := .int .i64 (0)) rfl rfl rfl (e_assign) ?_
 refine l_nil ?_
 refine f_then ?_
 refine c_region ?_
 refine l_val (v := .int .i64 (0)) rfl rfl rfl (e_move) ?_
 refine l_val (v := .agg #[.pointer (some ⟨rb, 0, none⟩)]) rfl rfl rfl (e_load tt132 (cs := [.pointer (some ⟨rb, 0, none⟩)]) rfl (k_pt 2 (cs := #[.pointer (some ⟨rb, 0, none⟩)]) (vs := [.pointer (some ⟨rb, 0, none⟩)]) rfl rfl) rfl) ?_
 refine l_val (v := Nx (k)) rfl rfl rfl (e_move) ?_
 refine l_call rfl rfl rfl (cl_value (fst := []) (cap := []) (vs := [.agg #[.pointer (some ⟨rb, 0, none⟩)], Nx (k)]) (all := [.agg #[.pointer (some ⟨rb, 0, none⟩)], Nx (k)]) tt133 rfl rfl rfl) ?_
 intro w hw
 replace hw := hw.perm (L' := _ :: _ :: _ :: _ :: []) (by exact ((((perm_front 2 rfl).trans (perm_front 2 rfl)).trans (perm_front 2 rfl)).trans (perm_front 3 rfl)))
 obtain ⟨β1, sb, kn, hw1, back⟩ := St.frame (L := [_]) (M := _ :: _ :: _ :: []) hw
 refine (tget_ok β1 w rb _ a.a0 k hf.1 hw1).mono ?_
 rintro e w' ⟨rfl, hw'⟩
 refine ⟨_, rfl, _, back _ _ hw', ?_⟩
 clear hw hw1 hw' back kn sb
 refine l_val (v := .pointer (some ⟨b3, 0, none⟩)) rfl rfl rfl (e_indexArrK (b := b3) (o := 0) (k := 0) rfl rfl tt1 (by decide)) ?_
 refine l_mu rfl rfl (m_store 1 tt2 (b := b3) (o := 0) (T := 44) (cs := #[.int .i64 (0), .int .i64 (0), .int .i64 (0), .int .i64 (0)]) (cs' := #[Ix (a.a0), .int .i64 (0), .int .i64 (0), .int .i64 (0)]) (v := Ix (a.a0)) rfl rfl rfl rfl rfl rfl rfl) ?_
 refine l_nil ?_
 refine f_block ?_
 refine f_then ?_
 refine c_region ?_
 refine l_val (v := .int .i64 (1)) rfl rfl rfl (e_add (a := (0 : Int)) (b := (1 : Int)) rfl rfl (by decide)) ?_
 refine l_val (v := .int .i64 (1)) rfl rfl rfl (e_move) ?_
 refine l_nil ?_
 refine f_cut ?_
 refine un_succ 3 ?_
 refine c_seq ?_
 refine c_region ?_
 refine l_val (v := .bool true) rfl rfl rfl (e_lss (a := (1 : Int)) (b := (4 : Int)) rfl rfl) ?_
 refine l_nil ?_
 refine f_then ?_
 refine c_seq ?_
 refine c_yes rfl ?_
 refine c_skip ?_
 refine f_then ?_
 refine c_seq ?_
 refine c_block ?_
 refine c_seq ?_
 refine c_region ?_
 refine l_val (v := .int .i64 (1)) rfl rfl rfl (e_move) ?_
 refine l_val (v := .int .i64 (1)) rfl rfl rfl (e_assign) ?_
 refine l_nil ?_
 refine f_then ?_
 refine c_region ?_
 refine l_val (v := .int .i64 (1)) rfl rfl rfl (e_move) ?_
 refine l_val (v := .agg #[.pointer (some ⟨rb, 0, none⟩)]) rfl rfl rfl (e_load tt132 (cs := [.pointer (some ⟨rb, 0, none⟩)]) rfl (k_pt 3 (cs := #[.pointer (some ⟨rb, 0, none⟩)]) (vs := [.pointer (some ⟨rb, 0, none⟩)]) rfl rfl) rfl) ?_
 refine l_val (v := Nx (k)) rfl rfl rfl (e_move) ?_
 refine l_call rfl rfl rfl (cl_value (fst := []) (cap := []) (vs := [.agg #[.pointer (some ⟨rb, 0, none⟩)], Nx (k)]) (all := [.agg #[.pointer (some ⟨rb, 0, none⟩)], Nx (k)]) tt133 rfl rfl rfl) ?_
 intro w hw
 replace hw := hw.perm (L' := _ :: _ :: _ :: _ :: []) (by exact ((((perm_front 3 rfl).trans (perm_front 3 rfl)).trans (perm_front 3 rfl)).trans (perm_front 3 rfl)))
 obtain ⟨β1, sb, kn, hw1, back⟩ := St.frame (L := [_]) (M := _ :: _ :: _ :: []) hw
 refine (tget_ok β1 w rb _ a.a1 k hf.2.1 hw1).mono ?_
 rintro e w' ⟨rfl, hw'⟩
 refine ⟨_, rfl, _, back _ _ hw', ?_⟩
 clear hw hw1 hw' back kn sb
 refine l_val (v := .pointer (some ⟨b3, 1, none⟩)) rfl rfl rfl (e_indexArrK (b := b3) (o := 0) (k := 1) rfl rfl tt1 (by decide)) ?_
 refine l_mu rfl rfl (m_store 1 tt2 (b := b3) (o := 1) (T := 44) (cs := #[Ix (a.a0), .int .i64 (0), .int .i64 (0), .int .i64 (0)]) (cs' := #[Ix (a.a0), Ix (a.a1), .int .i64 (0), .int .i64 (0)]) (v := Ix (a.a1)) rfl rfl rfl rfl rfl rfl rfl) ?_
 refine l_nil ?_
 refine f_block ?_
 refine f_then ?_
 refine c_region ?_
 refine l_val (v := .int .i64 (2)) rfl rfl rfl (e_add (a := (1 : Int)) (b := (1 : Int)) rfl rfl (by decide)) ?_
 refine l_val (v := .int .i64 (2)) rfl rfl rfl (e_move) ?_
 refine l_nil ?_
 refine f_cut ?_
 refine un_succ 2 ?_
 refine c_seq ?_
 refine c_region ?_
 refine l_val (v := .bool true) rfl rfl rfl (e_lss (a := (2 : Int)) (b := (4 : Int)) rfl rfl) ?_
 refine l_nil ?_
 refine f_then ?_
 refine c_seq ?_
 refine c_yes rfl ?_
 refine c_skip ?_
 refine f_then ?_
 refine c_seq ?_
 refine c_block ?_
 refine c_seq ?_
 refine c_region ?_
 refine l_val (v := .int .i64 (2)) rfl rfl rfl (e_move) ?_
 refine l_val (v := .int .i64 (2)) rfl rfl rfl (e_assign) ?_
 refine l_nil ?_
 refine f_then ?_
 refine c_region ?_
 refine l_val (v := .int .i64 (2)) rfl rfl rfl (e_move) ?_
 refine l_val (v := .agg #[.pointer (some ⟨rb, 0, none⟩)]) rfl rfl rfl (e_load tt132 (cs := [.pointer (some ⟨rb, 0, none⟩)]) rfl (k_pt 3 (cs := #[.pointer (some ⟨rb, 0, none⟩)]) (vs := [.pointer (some ⟨rb, 0, none⟩)]) rfl rfl) rfl) ?_
 refine l_val (v := Nx (k)) rfl rfl rfl (e_move) ?_
 refine l_call rfl rfl rfl (cl_value (fst := []) (cap := []) (vs := [.agg #[.pointer (some ⟨rb, 0, none⟩)], Nx (k)]) (all := [.agg #[.pointer (some ⟨rb, 0, none⟩)], Nx (k)]) tt133 rfl rfl rfl) ?_
 intro w hw
 replace hw := hw.perm (L' := _ :: _ :: _ :: _ :: []) (by exact ((((perm_front 3 rfl).trans (perm_front 3 rfl)).trans (perm_front 3 rfl)).trans (perm_front 3 rfl)))
 obtain ⟨β1, sb, kn, hw1, back⟩ := St.frame (L := [_]) (M := _ :: _ :: _ :: []) hw
 refine (tget_ok β1 w rb _ a.a2 k hf.2.2.1 hw1).mono ?_
 rintro e w' ⟨rfl, hw'⟩
 refine ⟨_, rfl, _, back _ _ hw', ?_⟩
 clear hw hw1 hw' back kn sb
 refine l_val (v := .pointer (some ⟨b3, 2, none⟩)) rfl rfl rfl (e_indexArrK (b := b3) (o := 0) (k := 2) rfl rfl tt1 (by decide)) ?_
 refine l_mu rfl rfl (m_store 1 tt2 (b := b3) (o := 2) (T := 44) (cs := #[Ix (a.a0), Ix (a.a1), .int .i64 (0), .int .i64 (0)]) (cs' := #[Ix (a.a0), Ix (a.a1), Ix (a.a2), .int .i64 (0)]) (v := Ix (a.a2)) rfl rfl rfl rfl rfl rfl rfl) ?_
 refine l_nil ?_
 refine f_block ?_
 refine f_then ?_
 refine c_region ?_
 refine l_val (v := .int .i64 (3)) rfl rfl rfl (e_add (a := (2 : Int)) (b := (1 : Int)) rfl rfl (by decide)) ?_
 refine l_val (v := .int .i64 (3)) rfl rfl rfl (e_move) ?_
 refine l_nil ?_
 refine f_cut ?_
 refine un_succ 1 ?_
 refine c_seq ?_
 refine c_region ?_
 refine l_val (v := .bool true) rfl rfl rfl (e_lss (a := (3 : Int)) (b := (4 : Int)) rfl rfl) ?_
 refine l_nil ?_
 refine f_then ?_
 refine c_seq ?_
 refine c_yes rfl ?_
 refine c_skip ?_
 refine f_then ?_
 refine c_seq ?_
 refine c_block ?_
 refine c_seq ?_
 refine c_region ?_
 refine l_val (v := .int .i64 (3)) rfl rfl rfl (e_move) ?_
 refine l_val (v := .int .i64 (3)) rfl rfl rfl (e_assign) ?_
 refine l_nil ?_
 refine f_then ?_
 refine c_region ?_
 refine l_val (v := .int .i64 (3)) rfl rfl rfl (e_move) ?_
 refine l_val (v := .agg #[.pointer (some ⟨rb, 0, none⟩)]) rfl rfl rfl (e_load tt132 (cs := [.pointer (some ⟨rb, 0, none⟩)]) rfl (k_pt 3 (cs := #[.pointer (some ⟨rb, 0, none⟩)]) (vs := [.pointer (some ⟨rb, 0, none⟩)]) rfl rfl) rfl) ?_
 refine l_val (v := Nx (k)) rfl rfl rfl (e_move) ?_
 refine l_call rfl rfl rfl (cl_value (fst := []) (cap := []) (vs := [.agg #[.pointer (some ⟨rb, 0, none⟩)], Nx (k)]) (all := [.agg #[.pointer (some ⟨rb, 0, none⟩)], Nx (k)]) tt133 rfl rfl rfl) ?_
 intro w hw
 replace hw := hw.perm (L' := _ :: _ :: _ :: _ :: []) (by exact ((((perm_front 3 rfl).trans (perm_front 3 rfl)).trans (perm_front 3 rfl)).trans (perm_front 3 rfl)))
 obtain ⟨β1, sb, kn, hw1, back⟩ := St.frame (L := [_]) (M := _ :: _ :: _ :: []) hw
 refine (tget_ok β1 w rb _ a.a3 k hf.2.2.2 hw1).mono ?_
 rintro e w' ⟨rfl, hw'⟩
 refine ⟨_, rfl, _, back _ _ hw', ?_⟩
 clear hw hw1 hw' back kn sb
 refine l_val (v := .pointer (some ⟨b3, 3, none⟩)) rfl rfl rfl (e_indexArrK (b := b3) (o := 0) (k := 3) rfl rfl tt1 (by decide)) ?_
 refine l_mu rfl rfl (m_store 1 tt2 (b := b3) (o := 3) (T := 44) (cs := #[Ix (a.a0), Ix (a.a1), Ix (a.a2), .int .i64 (0)]) (cs' := (amC a)) (v := Ix (a.a3)) rfl rfl rfl rfl rfl rfl rfl) ?_
 refine l_nil ?_
 refine f_block ?_
 refine f_then ?_
 refine c_region ?_
 refine l_val (v := .int .i64 (4)) rfl rfl rfl (e_add (a := (3 : Int)) (b := (1 : Int)) rfl rfl (by decide)) ?_
 refine l_val (v := .int .i64 (4)) rfl rfl rfl (e_move) ?_
 refine l_nil ?_
 refine f_cut ?_
 refine un_succ 0 ?_
 refine c_seq ?_
 refine c_region ?_
 refine l_val (v := .bool false) rfl rfl rfl (e_lss (a := (4 : Int)) (b := (4 : Int)) rfl rfl) ?_
 refine l_nil ?_
 refine f_then ?_
 refine c_seq ?_
 refine c_no rfl ?_
 refine c_exit ?_
 refine f_then_exit ?_
 refine f_then_exit ?_
 refine f_exit ?_
 refine f_then ?_
 refine c_seq ?_
 refine c_region ?_
 refine l_val (v := .agg (amC a)) rfl rfl rfl (e_load tt0 (cs := (amE a)) rfl (k_pt 1 (cs := (amC a)) (vs := (amE a)) rfl rfl) rfl) ?_
 refine l_mu rfl rfl (m_store 2 tt0 (b := b2) (o := 0) (T := 44) (cs := #[.int .i64 (0), .int .i64 (0), .int .i64 (0), .int .i64 (0)]) (cs' := (amC a)) (v := .agg (amC a)) rfl rfl rfl rfl rfl rfl rfl) ?_
 refine l_nil ?_
 refine f_then ?_
 refine c_ret ?_
 refine retG (l := [.cell 4 44]) (m := [.agg (amC a)]) (v := .agg (amC a)) Tryz.results115 ⟨rd_cell tt0 (cs := (amE a)) rfl (k_pt 2 (cs := (amC a)) (vs := (amE a)) rfl rfl) rfl, trivial⟩ rfl ?_
 intro w hw
 replace hw := st_mask (L' := [rdrR rb l]) [true, false, false, false] rfl hw
 exact ⟨rfl, hw⟩
set_option maxHeartbeats 4000000 in
theorem rend_ok (β : Base) (w : World) (rb : Nat) (hw : St β [rdrR rb []] w) : Calls Tryz.prog 88 #[.pointer (some ⟨rb, 0, none⟩)] w fun r w' => r = .returned (Ix 0) ∧ St β [rdrR rb []] w' := by
 obtain ⟨p, c, xs, n, hrd, hxl, hw⟩ := St.openRd hw
 obtain ⟨he0, he1, he2⟩ := hrd.end_
 refine enter (n := 45) Tryz.func88 rfl Tryz.ntmps88 rfl ?_ hw
 refine c_seq ?_
 refine c_region ?_
 refine l_val (v := .int .i64 (0)) rfl rfl rfl (e_assign) ?_
 refine l_nil ?_
 refine f_then ?_
 refine c_seq ?_
 refine c_block ?_
 refine c_seq ?_
 refine c_region ?_
 refine l_val (v := .pointer (some ⟨rb, 0, none⟩)) rfl rfl rfl (e_move) ?_
 refine l_val (v := .bool false) rfl rfl rfl (e_eql_pnil (p := some (⟨rb, 0, none⟩)) rfl rfl tt123) ?_
 refine l_val (v := .bool false) rfl rfl rfl (e_move) ?_
 refine g_val (v := .pointer (some ⟨rb, 0, none⟩)) rfl rfl rfl rfl rfl (e_move) ?_
 refine g_val (v := .pointer (some ⟨rb, 0, none⟩)) rfl rfl rfl rfl rfl (e_nil (a := ⟨rb, 0, none⟩) rfl) ?_
 refine g_val (v := .pointer (some ⟨rb, 0, none⟩)) rfl rfl rfl rfl rfl (e_fieldPt (b := rb) (o := 0) rfl tt124) ?_
 refine g_val (v := .bool true) rfl rfl rfl rfl rfl (e_load1 tt95 (v := .bool true) rfl (k_pt 0 (cs := #[.bool true, .slice p (xs.length) c, Nx (n), .int .i64 (0)]) (vs := [.bool true]) rfl rfl)) ?_
 refine g_val (v := .bool false) rfl rfl rfl rfl rfl (e_not (a := true) rfl) ?_
 refine l_val (v := .bool false) rfl rfl rfl (e_pick_f rfl) ?_
 refine l_val (v := .bool false) rfl rfl rfl (e_assign) ?_
 refine l_nil ?_
 refine f_then ?_
 refine c_no rfl ?_
 refine c_seq ?_
 refine c_region ?_
 refine l_val (v := .pointer (some ⟨rb, 0, none⟩)) rfl rfl rfl (e_move) ?_
 refine l_val (v := .pointer (some ⟨rb, 0, none⟩)) rfl rfl rfl (e_nil (a := ⟨rb, 0, none⟩) rfl) ?_
 refine l_val (v := .pointer (some ⟨rb, 3, none⟩)) rfl rfl rfl (e_fieldPt (b := rb) (o := 0) rfl tt125) ?_
 refine l_val (v := .int .i64 (0)) rfl rfl rfl (e_load1 tt126 (v := .int .i64 (0)) rfl (k_pt 0 (cs := #[.bool true, .slice p (xs.length) c, Nx (n), .int .i64 (0)]) (vs := [.int .i64 (0)]) rfl rfl)) ?_
 refine l_val (v := .bool false) rfl rfl rfl (e_neq (a := (0 : Int)) (b := (0 : Int)) rfl rfl) ?_
 refine l_val (v := .bool false) rfl rfl rfl (e_assign) ?_
 refine l_nil ?_
 refine f_then ?_
 refine c_no rfl ?_
 refine c_skip ?_
 refine f_block ?_
 refine f_then ?_
 refine c_seq ?_
 refine c_region ?_
 refine l_val (v := .pointer (some ⟨rb, 0, none⟩)) rfl rfl rfl (e_move) ?_
 refine l_val (v := .pointer (some ⟨rb, 0, none⟩)) rfl rfl rfl (e_nil (a := ⟨rb, 0, none⟩) rfl) ?_
 refine l_val (v := .pointer (some ⟨rb, 2, none⟩)) rfl rfl rfl (e_fieldPt (b := rb) (o := 0) rfl tt119) ?_
 refine l_val (v := Nx (n)) rfl rfl rfl (e_load1 tt2 (v := Nx (n)) rfl (k_pt 0 (cs := #[.bool true, .slice p (xs.length) c, Nx (n), .int .i64 (0)]) (vs := [Nx (n)]) rfl rfl)) ?_
 refine l_val (v := Nx (n)) rfl rfl rfl (e_assign) ?_
 refine l_nil ?_
 refine f_then ?_
 refine c_seq ?_
 refine c_seq ?_
 refine c_region ?_
 refine l_val (v := .pointer (some ⟨rb, 0, none⟩)) rfl rfl rfl (e_move) ?_
 refine l_call rfl rfl rfl (cl_value (fst := []) (cap := []) (vs := [.pointer (some ⟨rb, 0, none⟩)]) (all := [.pointer (some ⟨rb, 0, none⟩)]) tt121 rfl rfl rfl) ?_
 intro w hw
 obtain ⟨β1, sb, kn, hw1, back⟩ := St.frame_all hw
 refine (rrest_ok β1 w hw1 rb _ _ _ _ (kn _ (k_pt 0 (vs := [.bool true, .slice p (xs.length) c, Nx (n), .int .i64 (0)]) rfl rfl)) hxl (by omega)).mono ?_
 rintro e w' ⟨rfl, hw'⟩
 refine ⟨_, rfl, _, back _ _ hw', ?_⟩
 clear hw hw1 hw' back kn sb
 refine l_val (v := .bool (decide ((7 : Int) < ((8 * xs.length - n : Nat) : Int)))) rfl rfl rfl (e_gtr (a := ((8 * xs.length - n : Nat) : Int)) (b := (7 : Int)) rfl rfl) ?_
 refine l_val (v := .bool (decide ((7 : Int) < ((8 * xs.length - n : Nat) : Int)))) rfl rfl rfl (e_move) ?_
 refine l_split (s := 31) (p := (7 : Int) < ((8 * xs.length - n : Nat) : Int)) rfl (fun h => ?_) (fun h => ?_)
 exact absurd h (by omega)
 refine g_val (v := .pointer (some ⟨rb, 0, none⟩)) rfl rfl rfl rfl rfl (e_move) ?_
 refine g_val (v := .pointer (some ⟨rb, 0, none⟩)) rfl rfl rfl rfl rfl (e_move) ?_
 refine g_call rfl rfl rfl rfl rfl (cl_value (fst := []) (cap := []) (vs := [.pointer (some ⟨rb, 0, none⟩)]) (all := [.pointer (some ⟨rb, 0, none⟩)]) tt121 rfl rfl rfl) ?_
 intro w hw
 obtain ⟨β1, sb, kn, hw1, back⟩ := St.frame_all hw
 refine (rrest_ok β1 w hw1 rb _ _ _ _ (kn _ (k_pt 0 (vs := [.bool true, .slice p (xs.length) c, Nx (n), .int .i64 (0)]) rfl rfl)) hxl (by omega)).mono ?_
 rintro e w' ⟨rfl, hw'⟩
 refine ⟨_, rfl, _, back _ _ hw', ?_⟩
 clear hw hw1 hw' back kn sb
 refine g_call rfl rfl rfl rfl rfl (cl_value (fst := []) (cap := []) (vs := [.pointer (some ⟨rb, 0, none⟩), Nx (8 * xs.length - n)]) (all := [.pointer (some ⟨rb, 0, none⟩), Nx (8 * xs.length - n)]) tt122 rfl rfl rfl) ?_
 intro w hw
 replace hw := hw.perm (L' := _ :: _ :: []) (by exact ((perm_front 1 rfl).trans (perm_front 1 rfl)))
 obtain ⟨β1, sb, kn, hw1, back⟩ := St.frame (L := [_, _]) (M := []) hw
 refine (rget_ok β1 w rb _ _ xs n hw1 hxl (8 * xs.length - n) (by omega)).mono ?_
 rintro e w' ⟨rfl, hw'⟩
 refine ⟨_, rfl, _, back _ _ hw', ?_⟩
 clear hw hw1 hw' back kn sb
 refine g_val (v := .bool (decide (((rdU xs n (8 * xs.length - n)).toNat : Int) ≠ (0 : Int)))) rfl rfl rfl rfl rfl (e_neq (a := ((rdU xs n (8 * xs.length - n)).toNat : Int)) (b := (0 : Int)) rfl rfl) ?_
 refine l_val (v := .bool (decide (((rdU xs n (8 * xs.length - n)).toNat : Int) ≠ (0 : Int)))) rfl rfl rfl (e_pick_f rfl) ?_
 refine l_nil ?_
 refine f_then ?_
 refine c_if (((rdU xs n (8 * xs.length - n)).toNat : Int) ≠ (0 : Int)) rfl (fun hc1 => ?_) (fun hc1 => ?_)
 ·
  exact absurd hc1 (by rw [he0]; decide)
 ·
  refine c_skip ?_
  refine f_then ?_
  refine c_seq ?_
  refine c_region ?_
  refine l_val (v := .pointer (some ⟨rb, 0, none⟩)) rfl rfl rfl (e_move) ?_
  refine l_val (v := Nx (n)) rfl rfl rfl (e_move) ?_
  refine l_val (v := .pointer (some ⟨rb, 0, none⟩)) rfl rfl rfl (e_nil (a := ⟨rb, 0, none⟩) rfl) ?_
  refine l_val (v := .pointer (some ⟨rb, 2, none⟩)) rfl rfl rfl (e_fieldPt (b := rb) (o := 0) rfl tt119) ?_
  refine l_mu rfl rfl (m_store 0 tt2 (b := rb) (o := 2) (T := 198) (cs := #[.bool true, .slice p (xs.length) c, Nx (n + (8 * xs.length - n)), .int .i64 (0)]) (cs' := #[.bool true, .slice p (xs.length) c, Nx (n), .int .i64 (0)]) (v := Nx (n)) rfl rfl rfl rfl rfl rfl rfl) ?_
  refine l_nil ?_
  refine f_then ?_
  refine c_seq ?_
  refine c_region ?_
  refine l_val (v := .int .i64 (0)) rfl rfl rfl (e_assign) ?_
  refine l_nil ?_
  refine f_then ?_
  refine c_ret ?_
  refine ret1 Tryz.results88 (v := .int .i64 (0)) rfl ?_
  intro w hw
  exact ⟨rfl, St.closeRd (M := []) hrd hxl hw⟩
theorem newr_ok (β : Base) (w : World) (hw : St β [] w) (v : Value) (bs : List UInt8) (hs : Sl U8R β.heap v bs) (n : Nat) (l : List Bool) (hb : Wr bs n l) (hbl : bs.length ≤ 65536) : Calls Tryz.prog 86 #[v] w fun r w' => ∃ rb, r = .returned (.pointer (some ⟨rb, 0, none⟩)) ∧ St β [rdrR rb l] w' := by
 obtain ⟨va, vc, rfl, vl, vm, ve⟩ := hs.get
 refine enter (n := 7) Tryz.func86 rfl Tryz.ntmps86 rfl ?_ hw
 refine c_seq ?_
 refine c_region ?_
 refine l_val (v := .pointer none) rfl rfl rfl (e_assign) ?_
 refine l_nil ?_
 refine f_then ?_
 refine c_seq ?_
 refine c_region ?_
 refine l_val (v := .slice va (bs.length) (vc)) rfl rfl rfl (e_move) ?_
 refine l_call rfl rfl rfl (cl_value (fst := []) (cap := []) (vs := [.slice va (bs.length) (vc)]) (all := [.slice va (bs.length) (vc)]) tt84 rfl rfl rfl) ?_
 intro w hw
 obtain ⟨β1, sb, kn, hw1, back⟩ := St.frame_all hw
 refine (clone_ok β1 w hw1 bs _ (by omega) (Sl.mono _ _ _ _ _ sb (⟨⟨_, _, rfl, vl, vm, ve⟩⟩ : Sl U8R _ _ bs))).mono ?_
 rintro e w' ⟨p1, c2, rfl, hw'⟩
 refine ⟨_, rfl, _, back _ _ hw', ?_⟩
 clear hw hw1 hw' back kn sb
 refine l_val (v := .agg #[.bool true, .slice p1 (bs).length c2, .int .i64 (0), .int .i64 (0)]) rfl rfl rfl (e_build tt135 tt134 (vs := [(0, .bool true), (1, .slice p1 (bs).length c2)]) (cells := #[.bool true, .slice p1 (bs).length c2, .int .i64 (0), .int .i64 (0)]) rfl rfl) ?_
 refine l_mv rfl rfl rfl (m_box (v := .agg #[.bool true, .slice p1 (bs).length c2, .int .i64 (0), .int .i64 (0)]) rfl) ?_
 rintro _ _ ⟨b3, rfl, rfl⟩
 refine l_val (v := .pointer (some ⟨b3, 0, none⟩)) rfl rfl rfl (e_assign) ?_
 refine l_nil ?_
 refine f_then ?_
 refine c_ret ?_
 refine ret1 Tryz.results86 (v := .pointer (some ⟨b3, 0, none⟩)) rfl ?_
 intro w hw
 rw [rowB_eq] at hw
 exact ⟨_, rfl, St.closeRd (M := []) hb.rd hbl hw⟩
end Go.Proofs
