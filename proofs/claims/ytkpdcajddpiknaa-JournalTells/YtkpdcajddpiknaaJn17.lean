/-
 The reference's small functions, walked. Printed by a program of my own.
-/
import Derived.Test.YtkpdcajddpiknaaJn16
import Derived.Test.YtkpdcajddpiknaaJnRef
import Derived.Test.YtkpdcajddpiknaaJnDig
import Derived.Test.YtkpdcajddpiknaaSlC
namespace Go.Proofs
open Go Go.Sl Go.Jn
def markU (n : Nat) : UInt8 := (((U ((n : Nat) : Int)) * (11400714819323198485 : UInt64)) >>> (56 : UInt64)).toUInt8
theorem tf125 : cfB Try.prog 84 = true := by kernel_rfl
theorem tf126 : Try.prog.underlying 121 = some (.slice 99) := by kernel_rfl
theorem tf127 : slB Try.prog 121 99 1 = true := by kernel_rfl
theorem tf128 : cfB Try.prog 83 = true := by kernel_rfl
theorem tf129 : elB Try.prog 99 1 8 = true := by kernel_rfl
theorem tf130 : cfB Try.prog 68 = true := by kernel_rfl
theorem tf131 : cfB Try.prog 69 = true := by kernel_rfl
theorem tf132 : cfB Try.prog 71 = true := by kernel_rfl
theorem tf133 : cfB Try.prog 70 = true := by kernel_rfl
theorem tf134 : cfB Try.prog 82 = true := by kernel_rfl
theorem rmix_ok (β : Base) (w : World) (hw : St β [] w) (x : UInt64) : Calls Try.prog 84 #[Ux x] w fun r w' => r = .returned (Ux (mixU x)) ∧ St β [] w' := by
 refine enter (n := 17) Try.func84 rfl Try.ntmps84 rfl ?_ hw
 refine csr ?_
 refine lv e_assign ?_
 refine lnc ?_
 refine lv e_move ?_
 refine lv e_move ?_
 refine lv (v := Ux (x >>> (30 : UInt64))) (e_shr (a := ((x).toNat : Int)) (b := ((30 : Nat) : Int)) rfl rfl (by decide) (ux_shr _ 30 (by decide))) ?_
 refine lv (v := Ux (x ^^^ (x >>> (30 : UInt64)))) (e_xor (a := ((x).toNat : Int)) (b := ((x >>> (30 : UInt64)).toNat : Int)) rfl rfl (ux_xor _ _)) ?_
 refine lv (v := Ux ((x ^^^ (x >>> (30 : UInt64))) * (13787848793156543929 : UInt64))) (e_mul (a := ((x ^^^ (x >>> (30 : UInt64))).toNat : Int)) (b := ((13787848793156543929 : UInt64).toNat : Int)) rfl rfl (ux_mul _ _)) ?_
 refine lv e_assign ?_
 refine lnc ?_
 refine lv e_move ?_
 refine lv e_move ?_
 refine lv (v := Ux (((x ^^^ (x >>> (30 : UInt64))) * (13787848793156543929 : UInt64)) >>> (27 : UInt64))) (e_shr (a := (((x ^^^ (x >>> (30 : UInt64))) * (13787848793156543929 : UInt64)).toNat : Int)) (b := ((27 : Nat) : Int)) rfl rfl (by decide) (ux_shr _ 27 (by decide))) ?_
 refine lv (v := Ux (((x ^^^ (x >>> (30 : UInt64))) * (13787848793156543929 : UInt64)) ^^^ (((x ^^^ (x >>> (30 : UInt64))) * (13787848793156543929 : UInt64)) >>> (27 : UInt64)))) (e_xor (a := (((x ^^^ (x >>> (30 : UInt64))) * (13787848793156543929 : UInt64)).toNat : Int)) (b := ((((x ^^^ (x >>> (30 : UInt64))) * (13787848793156543929 : UInt64)) >>> (27 : UInt64)).toNat : Int)) rfl rfl (ux_xor _ _)) ?_
 refine lv (v := Ux ((((x ^^^ (x >>> (30 : UInt64))) * (13787848793156543929 : UInt64)) ^^^ (((x ^^^ (x >>> (30 : UInt64))) * (13787848793156543929 : UInt64)) >>> (27 : UInt64))) * (10723151780598845931 : UInt64))) (e_mul (a := ((((x ^^^ (x >>> (30 : UInt64))) * (13787848793156543929 : UInt64)) ^^^ (((x ^^^ (x >>> (30 : UInt64))) * (13787848793156543929 : UInt64)) >>> (27 : UInt64))).toNat : Int)) (b := ((10723151780598845931 : UInt64).toNat : Int)) rfl rfl (ux_mul _ _)) ?_
 refine lv e_assign ?_
 refine lnc ?_
 refine lv e_move ?_
 refine lv e_move ?_
 refine lv (v := Ux (((((x ^^^ (x >>> (30 : UInt64))) * (13787848793156543929 : UInt64)) ^^^ (((x ^^^ (x >>> (30 : UInt64))) * (13787848793156543929 : UInt64)) >>> (27 : UInt64))) * (10723151780598845931 : UInt64)) >>> (31 : UInt64))) (e_shr (a := (((((x ^^^ (x >>> (30 : UInt64))) * (13787848793156543929 : UInt64)) ^^^ (((x ^^^ (x >>> (30 : UInt64))) * (13787848793156543929 : UInt64)) >>> (27 : UInt64))) * (10723151780598845931 : UInt64)).toNat : Int)) (b := ((31 : Nat) : Int)) rfl rfl (by decide) (ux_shr _ 31 (by decide))) ?_
 refine lv (v := Ux (((((x ^^^ (x >>> (30 : UInt64))) * (13787848793156543929 : UInt64)) ^^^ (((x ^^^ (x >>> (30 : UInt64))) * (13787848793156543929 : UInt64)) >>> (27 : UInt64))) * (10723151780598845931 : UInt64)) ^^^ (((((x ^^^ (x >>> (30 : UInt64))) * (13787848793156543929 : UInt64)) ^^^ (((x ^^^ (x >>> (30 : UInt64))) * (13787848793156543929 : UInt64)) >>> (27 : UInt64))) * (10723151780598845931 : UInt64)) >>> (31 : UInt64)))) (e_xor (a := (((((x ^^^ (x >>> (30 : UInt64))) * (13787848793156543929 : UInt64)) ^^^ (((x ^^^ (x >>> (30 : UInt64))) * (13787848793156543929 : UInt64)) >>> (27 : UInt64))) * (10723151780598845931 : UInt64)).toNat : Int)) (b := ((((((x ^^^ (x >>> (30 : UInt64))) * (13787848793156543929 : UInt64)) ^^^ (((x ^^^ (x >>> (30 : UInt64))) * (13787848793156543929 : UInt64)) >>> (27 : UInt64))) * (10723151780598845931 : UInt64)) >>> (31 : UInt64)).toNat : Int)) rfl rfl (ux_xor _ _)) ?_
 refine lv e_assign ?_
 refine lnf ?_
 refine c_ret ?_
 refine ret1 Try.results84 (v := Ux (((((x ^^^ (x >>> (30 : UInt64))) * (13787848793156543929 : UInt64)) ^^^ (((x ^^^ (x >>> (30 : UInt64))) * (13787848793156543929 : UInt64)) >>> (27 : UInt64))) * (10723151780598845931 : UInt64)) ^^^ (((((x ^^^ (x >>> (30 : UInt64))) * (13787848793156543929 : UInt64)) ^^^ (((x ^^^ (x >>> (30 : UInt64))) * (13787848793156543929 : UInt64)) >>> (27 : UInt64))) * (10723151780598845931 : UInt64)) >>> (31 : UInt64)))) rfl ?_
 intro w hw
 exact ⟨rfl, st_mask [] rfl hw⟩
theorem rchain_ok (β : Base) (w : World) (hw : St β [] w) (x y : UInt64) : Calls Try.prog 70 #[Ux x, Ux y] w fun r w' => r = .returned (Ux (chainU x y)) ∧ St β [] w' := by
 refine enter (n := 11) Try.func70 rfl Try.ntmps70 rfl ?_ hw
 refine csr ?_
 refine lv e_assign ?_
 refine lnc ?_
 refine lv e_move ?_
 refine lv (v := Ux (x * (11400714819323198485 : UInt64))) (e_mul (a := ((x).toNat : Int)) (b := ((11400714819323198485 : UInt64).toNat : Int)) rfl rfl (ux_mul _ _)) ?_
 refine lv e_move ?_
 refine lv (v := Ux ((x * (11400714819323198485 : UInt64)) + y)) (e_add (a := ((x * (11400714819323198485 : UInt64)).toNat : Int)) (b := ((y).toNat : Int)) rfl rfl (ux_add _ _)) ?_
 refine lv (v := Ux (((x * (11400714819323198485 : UInt64)) + y) + (1 : UInt64))) (e_add (a := (((x * (11400714819323198485 : UInt64)) + y).toNat : Int)) (b := ((1 : UInt64).toNat : Int)) rfl rfl (ux_add _ _)) ?_
 refine lcf (cl0 (vs := [Ux (((x * (11400714819323198485 : UInt64)) + y) + (1 : UInt64))]) tf125 rfl rfl) rfl fun w β1 sb kn hw1 back => (rmix_ok β1 w hw1 (((x * (11400714819323198485 : UInt64)) + y) + (1 : UInt64))).mono ?_
 rintro e w' ⟨rfl, hw'⟩
 refine ⟨_, rfl, _, back _ _ hw', ?_⟩
 clear hw1 hw' back kn sb
 refine lv e_assign ?_
 refine lnf ?_
 refine c_ret ?_
 refine ret1 Try.results70 (v := Ux (mixU (((x * (11400714819323198485 : UInt64)) + y) + (1 : UInt64)))) rfl ?_
 intro w hw
 exact ⟨rfl, st_mask [] rfl hw⟩
theorem rnum_ok (β : Base) (w : World) (hw : St β [] w) (xs : Bs) (hl8 : xs.length ≤ 8) (v : Value) (hs : Sl U8R β.heap v xs) : Calls Try.prog 87 #[v] w fun r w' => r = .returned (Ux (wordU xs)) ∧ St β [] w' := by
 obtain ⟨va, vc, rfl, vl, vm, ve⟩ := hs.get
 refine enter (n := 20) Try.func87 rfl Try.ntmps87 rfl ?_ hw
 refine csr ?_
 refine lv e_assign ?_
 refine lnc ?_
 refine lv e_assign ?_
 refine lnf ?_
 refine cs2 ?_
 refine c_region ?_
 refine lv e_assign ?_
 refine lnf ?_
 refine c_block ?_
 refine c_loop (fun (k : Nat) (f : Fm) (L : List Res) => (f 0 = sB va xs (vc) ∧ f 3 = Ux (wordF 0 (xs.take k)) ∧ f 4 = Nx (k)) ∧ L = [] ∧ (k ≤ xs.length)) (fun (k : Nat) => xs.length - k) 0 ?_ ?_
 ·exact ⟨⟨rfl, rfl, rfl⟩, rfl, (by omega)⟩
 rintro k f0 L0 ⟨⟨hs0, hs3, hs4⟩, hL, hk⟩
 subst L0
 refine rebase (d := 0) hs0 ?_
 refine rebase (d := 3) hs3 ?_
 refine rebase (d := 4) hs4 ?_
 clear hs0 hs3 hs4
 refine cs2 ?_
 refine c_region ?_
 refine lv e_move ?_
 refine lv e_move ?_
 refine lv (v := Nx (xs.length)) (e_len (a := va) (n := xs.length) (c := vc) rfl tf11) ?_
 refine lv (e_lss (a := ((k : Nat) : Int)) (b := ((xs.length : Nat) : Int)) rfl rfl) ?_
 refine lnf ?_
 refine c_if (((k : Nat) : Int) < ((xs.length : Nat) : Int)) rfl (fun hc1 => ?_) (fun hc1 => ?_)
 ·refine csk ?_
  refine c_seq ?_
  refine c_block ?_
  refine c_region ?_
  refine lv e_move ?_
  refine lv (v := Ux ((wordF 0 (xs.take k)) * (256 : UInt64))) (e_mul (a := ((wordF 0 (xs.take k)).toNat : Int)) (b := ((256 : UInt64).toNat : Int)) rfl rfl (ux_mul _ _)) ?_
  refine lv e_move ?_
  refine lv e_move ?_
  obtain ⟨x2, hx3⟩ : ∃ x_, (xs)[k]? = some x_ := ⟨_, List.getElem?_eq_getElem (by omega)⟩
  obtain ⟨ha4, cs5, hc6, rfl⟩ := ve _ _ hx3
  refine lv (v := .pointer (some ((ba va).add (k * 1)))) (e_indexAddr (k := k) (len := xs.length) (cap := vc) (a := va) rfl rfl tf12 (by omega) ha4) ?_
  refine lv (v := Bx (x2)) (e_load1 tf13 rfl (kB hc6)) ?_
  refine lv (v := Ux (x2.toUInt64)) (e_conv (a := ((x2).toNat : Int)) rfl ⟨_, tf8⟩ tf2 (ux_of8 _)) ?_
  refine lv (v := Ux (((wordF 0 (xs.take k)) * (256 : UInt64)) + x2.toUInt64)) (e_add (a := (((wordF 0 (xs.take k)) * (256 : UInt64)).toNat : Int)) (b := ((x2.toUInt64).toNat : Int)) rfl rfl (ux_add _ _)) ?_
  refine lv e_assign ?_
  refine l_nil ?_
  refine f_block ?_
  refine f_then ?_
  refine c_region ?_
  refine lv e_move ?_
  refine lv (v := Nx (k + 1)) (e_add (a := ((k : Nat) : Int)) (b := (1 : Int)) rfl rfl (i64n (by omega) (by omega))) ?_
  refine lv e_assign ?_
  refine l_nil ?_
  exact f_cut ⟨k + 1, ⟨⟨rfl, (show Ux (((wordF 0 (xs.take k)) * (256 : UInt64)) + x2.toUInt64) = Ux (wordF 0 (xs.take (k + 1))) by rw [wordF_take_mul hx3 hl8]), rfl⟩, rfl, (by omega)⟩, (show xs.length - (k + 1) < xs.length - k from by omega)⟩
 refine c_exit ?_
 refine f_then_exit ?_
 refine f_then_exit ?_
 refine f_exit ?_
 refine ftc ?_
 refine lv e_move ?_
 refine lv e_assign ?_
 refine lnf ?_
 refine c_ret ?_
 refine ret1 Try.results87 (v := Ux (wordF 0 (xs.take k))) rfl ?_
 intro w hw
 rw [List.take_of_length_le (show xs.length ≤ k by omega)]
 exact ⟨rfl, st_mask [] rfl hw⟩
set_option maxHeartbeats 4000000 in
theorem rsame_ok (β : Base) (w : World) (hw : St β [] w) (xs ys : Bs) (v u : Value) (hx : Sl U8R β.heap v xs) (hy : Sl U8R β.heap u ys) : Calls Try.prog 88 #[v, u] w fun r w' => r = .returned (.bool (decide (xs = ys))) ∧ St β [] w' := by
 obtain ⟨va, vc, rfl, vl, vm, ve⟩ := hx.get
 obtain ⟨ua, uc, rfl, ul, um, ue⟩ := hy.get
 refine enter (n := 26) Try.func88 rfl Try.ntmps88 rfl ?_ hw
 refine csr ?_
 refine lv e_assign ?_
 refine lnf ?_
 refine cs2 ?_
 refine c_region ?_
 refine lv e_move ?_
 refine lv (v := Nx (xs.length)) (e_len (a := va) (n := xs.length) (c := vc) rfl tf11) ?_
 refine lv e_move ?_
 refine lv (v := Nx (ys.length)) (e_len (a := ua) (n := ys.length) (c := uc) rfl tf11) ?_
 refine lv (e_neq (a := ((xs.length : Nat) : Int)) (b := ((ys.length : Nat) : Int)) rfl rfl) ?_
 refine lnf ?_
 refine c_if (((xs.length : Nat) : Int) ≠ ((ys.length : Nat) : Int)) rfl (fun hc1 => ?_) (fun hc1 => ?_)
 ·refine csr ?_
  refine lv e_assign ?_
  refine lnf ?_
  refine c_ret ?_
  refine f_then_ret ?_
  refine ret1 Try.results88 (v := .bool false) rfl ?_
  intro w hw
  exact ⟨bool_f (fun h => by subst h; omega), st_mask [] rfl hw⟩
 refine csk ?_
 refine cs2 ?_
 refine c_region ?_
 refine lv e_assign ?_
 refine lnf ?_
 refine c_block ?_
 refine c_loop (fun (k : Nat) (f : Fm) (L : List Res) => (f 0 = sB va xs (vc) ∧ f 1 = sB ua ys (uc) ∧ f 5 = Nx (k)) ∧ L = [] ∧ (k ≤ xs.length ∧ xs.take k = ys.take k)) (fun (k : Nat) => xs.length - k) 0 ?_ ?_
 ·exact ⟨⟨rfl, rfl, rfl⟩, rfl, ⟨by omega, rfl⟩⟩
 rintro k f0 L0 ⟨⟨hs0, hs1, hs5⟩, hL, ⟨hp1, hp2⟩⟩
 subst L0
 refine rebase (d := 0) hs0 ?_
 refine rebase (d := 1) hs1 ?_
 refine rebase (d := 5) hs5 ?_
 clear hs0 hs1 hs5
 refine cs2 ?_
 refine c_region ?_
 refine lv e_move ?_
 refine lv e_move ?_
 refine lv (v := Nx (xs.length)) (e_len (a := va) (n := xs.length) (c := vc) rfl tf11) ?_
 refine lv (e_lss (a := ((k : Nat) : Int)) (b := ((xs.length : Nat) : Int)) rfl rfl) ?_
 refine lnf ?_
 refine c_if (((k : Nat) : Int) < ((xs.length : Nat) : Int)) rfl (fun hc2 => ?_) (fun hc2 => ?_)
 ·refine csk ?_
  refine c_seq ?_
  refine c_block ?_
  refine c_seq ?_
  refine c_quiet (by kernel_rfl) (by kernel_rfl) ?_
  refine q_val (v := sB va xs (vc)) rfl rfl rfl e_move ?_
  refine q_val (v := Nx (k)) rfl rfl rfl e_move ?_
  obtain ⟨x3, hx4⟩ : ∃ x_, (xs)[k]? = some x_ := ⟨_, List.getElem?_eq_getElem (by omega)⟩
  obtain ⟨ha5, cs6, hc7, rfl⟩ := ve _ _ hx4
  refine q_val (v := .pointer (some ((ba va).add (k * 1)))) rfl rfl rfl (e_indexAddr (k := k) (len := xs.length) (cap := vc) (a := va) rfl rfl tf12 (by omega) ha5) ?_
  refine q_val (v := Bx (x3)) rfl rfl rfl (e_load1 tf13 rfl (kB hc7)) ?_
  refine q_val (v := sB ua ys (uc)) rfl rfl rfl e_move ?_
  refine q_val (v := Nx (k)) rfl rfl rfl e_move ?_
  obtain ⟨x9, hx10⟩ : ∃ x_, (ys)[k]? = some x_ := ⟨_, List.getElem?_eq_getElem (by omega)⟩
  obtain ⟨ha11, cs12, hc13, rfl⟩ := ue _ _ hx10
  refine q_val (v := .pointer (some ((ba ua).add (k * 1)))) rfl rfl rfl (e_indexAddr (k := k) (len := ys.length) (cap := uc) (a := ua) rfl rfl tf12 (by omega) ha11) ?_
  refine q_val (v := Bx (x9)) rfl rfl rfl (e_load1 tf13 rfl (kB hc13)) ?_
  refine q_val rfl rfl rfl (e_neq (a := ((x3).toNat : Int)) (b := ((x9).toNat : Int)) rfl rfl) ?_
  refine q_nil ?_
  refine f_then ?_
  refine c_if (((x3).toNat : Int) ≠ ((x9).toNat : Int)) rfl (fun hc15 => ?_) (fun hc15 => ?_)
  ·refine csr ?_
   refine lv e_assign ?_
   refine lnf ?_
   refine c_ret ?_
   refine f_block_ret ?_
   refine f_then_ret ?_
   refine f_then_ret ?_
   refine f_block_ret ?_
   refine f_then_ret ?_
   refine ret1 Try.results88 (v := .bool false) rfl ?_
   intro w hw
   exact ⟨bool_f (list_ne hx4 hx10 (fun h => hc15 (by rw [h]))), st_mask [] rfl hw⟩
  refine c_skip ?_
  refine f_block ?_
  refine f_then ?_
  refine c_region ?_
  refine lv e_move ?_
  refine lv (v := Nx (k + 1)) (e_add (a := ((k : Nat) : Int)) (b := (1 : Int)) rfl rfl (i64n (by omega) (by omega))) ?_
  refine lv e_assign ?_
  refine l_nil ?_
  exact f_cut ⟨k + 1, ⟨⟨rfl, rfl, rfl⟩, rfl, ⟨by omega, take_next hx4 (by rw [hx10, UInt8.toNat_inj.1 (Int.ofNat.inj (Decidable.not_not.1 hc15))]) hp2⟩⟩, (show xs.length - (k + 1) < xs.length - k from by omega)⟩
 refine c_exit ?_
 refine f_then_exit ?_
 refine f_then_exit ?_
 refine f_exit ?_
 refine ftc ?_
 refine lv e_assign ?_
 refine lnf ?_
 refine c_ret ?_
 refine ret1 Try.results88 (v := .bool true) rfl ?_
 intro w hw
 exact ⟨bool_t (take_all hp2 (by omega) (by omega)), st_mask [] rfl hw⟩
theorem mark_ok (β : Base) (w : World) (hw : St β [] w) (i : Nat) (hi : i ≤ 4611686018427387904) : Calls Try.prog 82 #[.int .i64 1, Nx i] w fun r w' => r = .returned (Nx (8000024 + i)) ∧ St β [] w' := by
 refine enter (n := 10) Try.func82 rfl Try.ntmps82 rfl ?_ hw
 refine csr ?_
 refine lv e_assign ?_
 refine lnc ?_
 refine lv e_move ?_
 refine lv (v := .int .i64 (8)) (e_add (a := (1 : Int)) (b := (7 : Int)) rfl rfl (by decide)) ?_
 refine lv (v := .int .i64 (8000024)) (e_mul (a := (1000003 : Int)) (b := (8 : Int)) rfl rfl (by decide)) ?_
 refine lv e_move ?_
 refine lv (v := Nx (8000024 + i)) (e_add (a := (8000024 : Int)) (b := ((i : Nat) : Int)) rfl rfl (i64n (by omega) (by omega))) ?_
 refine lv e_assign ?_
 refine lnf ?_
 refine c_ret ?_
 refine ret1 Try.results82 (v := Nx (8000024 + i)) rfl ?_
 intro w hw
 exact ⟨rfl, st_mask [] rfl hw⟩
set_option maxHeartbeats 4000000 in
theorem rseq_ok (β : Base) (w : World) (hw : St β [] w) (v : Value) (xs : List UInt64) (hs : Sl U64R β.heap v xs) : Calls Try.prog 83 #[v] w fun r w' => r = .returned (Ux (seqU xs)) ∧ St β [] w' := by
 obtain ⟨va, vc, rfl, vl, vm, ve⟩ := hs.get
 refine enter (n := 21) Try.func83 rfl Try.ntmps83 rfl ?_ hw
 refine csr ?_
 refine lv e_assign ?_
 refine lnc ?_
 refine lv e_assign ?_
 refine lnf ?_
 refine cs2 ?_
 refine c_region ?_
 refine lv e_assign ?_
 refine lnf ?_
 refine c_block ?_
 refine c_loop (fun (k : Nat) (f : Fm) (L : List Res) => (f 0 = sB va xs (vc) ∧ f 3 = Ux (seqF 0 (xs.take k)) ∧ f 4 = Nx (k)) ∧ L = [] ∧ (k ≤ xs.length)) (fun (k : Nat) => xs.length - k) 0 ?_ ?_
 ·exact ⟨⟨rfl, rfl, rfl⟩, rfl, (by omega)⟩
 rintro k f0 L0 ⟨⟨hs0, hs3, hs4⟩, hL, hk⟩
 subst L0
 refine rebase (d := 0) hs0 ?_
 refine rebase (d := 3) hs3 ?_
 refine rebase (d := 4) hs4 ?_
 clear hs0 hs3 hs4
 refine cs2 ?_
 refine c_region ?_
 refine lv e_move ?_
 refine lv e_move ?_
 refine lv (v := Nx (xs.length)) (e_len (a := va) (n := xs.length) (c := vc) rfl tf126) ?_
 refine lv (e_lss (a := ((k : Nat) : Int)) (b := ((xs.length : Nat) : Int)) rfl rfl) ?_
 refine lnf ?_
 refine c_if (((k : Nat) : Int) < ((xs.length : Nat) : Int)) rfl (fun hc1 => ?_) (fun hc1 => ?_)
 ·refine csk ?_
  refine c_seq ?_
  refine c_block ?_
  refine c_region ?_
  refine lv e_move ?_
  refine lv (v := Ux ((seqF 0 (xs.take k)) * (11400714819323198485 : UInt64))) (e_mul (a := ((seqF 0 (xs.take k)).toNat : Int)) (b := ((11400714819323198485 : UInt64).toNat : Int)) rfl rfl (ux_mul _ _)) ?_
  refine lv e_move ?_
  refine lv e_move ?_
  obtain ⟨x2, hx3⟩ : ∃ x_, (xs)[k]? = some x_ := ⟨_, List.getElem?_eq_getElem (by omega)⟩
  obtain ⟨ha4, cs5, hc6, rfl⟩ := ve _ _ hx3
  refine lv (v := .pointer (some ((ba va).add (k * 1)))) (e_indexAddr (k := k) (len := xs.length) (cap := vc) (a := va) rfl rfl tf127 (by omega) ha4) ?_
  refine lv (v := Ux (x2)) (e_load1 tf5 rfl (kB hc6)) ?_
  refine lv (v := Ux (((seqF 0 (xs.take k)) * (11400714819323198485 : UInt64)) + x2)) (e_add (a := (((seqF 0 (xs.take k)) * (11400714819323198485 : UInt64)).toNat : Int)) (b := ((x2).toNat : Int)) rfl rfl (ux_add _ _)) ?_
  refine lv (v := Ux ((((seqF 0 (xs.take k)) * (11400714819323198485 : UInt64)) + x2) + (1 : UInt64))) (e_add (a := ((((seqF 0 (xs.take k)) * (11400714819323198485 : UInt64)) + x2).toNat : Int)) (b := ((1 : UInt64).toNat : Int)) rfl rfl (ux_add _ _)) ?_
  refine lv e_assign ?_
  refine l_nil ?_
  refine f_block ?_
  refine f_then ?_
  refine c_region ?_
  refine lv e_move ?_
  refine lv (v := Nx (k + 1)) (e_add (a := ((k : Nat) : Int)) (b := (1 : Int)) rfl rfl (i64n (by omega) (by omega))) ?_
  refine lv e_assign ?_
  refine l_nil ?_
  exact f_cut ⟨k + 1, ⟨⟨rfl, congrArg (fun z => Ux z) (seqF_take hx3).symm, rfl⟩, rfl, (by omega)⟩, (show xs.length - (k + 1) < xs.length - k from by omega)⟩
 refine c_exit ?_
 refine f_then_exit ?_
 refine f_then_exit ?_
 refine f_exit ?_
 refine ftc ?_
 refine lv e_move ?_
 refine lcf (cl0 (vs := [Ux (seqF 0 (xs.take k))]) tf125 rfl rfl) rfl fun w β1 sb kn hw1 back => (rmix_ok β1 w hw1 (seqF 0 (xs.take k))).mono ?_
 rintro e w' ⟨rfl, hw'⟩
 refine ⟨_, rfl, _, back _ _ hw', ?_⟩
 clear hw1 hw' back kn sb
 refine lv e_assign ?_
 refine lnf ?_
 refine c_ret ?_
 refine ret1 Try.results83 (v := Ux (mixU (seqF 0 (xs.take k)))) rfl ?_
 intro w hw
 exact ⟨by rw [seqU, List.take_of_length_le (show xs.length ≤ k by omega)], st_mask [] rfl hw⟩
theorem rtick_ok (β : Base) (w : World) (hw : St β [] w) (t : Int) : Calls Try.prog 69 #[Ix t] w fun r w' => r = .returned (Ux (tickU t)) ∧ St β [] w' := by
 refine enter (n := 7) Try.func69 rfl Try.ntmps69 rfl ?_ hw
 refine csr ?_
 refine lv e_assign ?_
 refine lnc ?_
 refine lv e_move ?_
 refine lv (v := Ux (U (t))) (e_conv (a := (t)) rfl ⟨_, tf1⟩ tf2 (ux_of _)) ?_
 refine l_mv rfl rfl rfl (m_slices tf127 tf4 (cells := #[Ux (U (t))]) rfl rfl rfl rfl) ?_
 rintro _ _ ⟨b1, rfl, rfl⟩
 refine lcf (cl0 (vs := [.slice (some ⟨b1, 0, none⟩) 1 1]) tf128 rfl rfl) rfl fun w β1 sb kn hw1 back => (rseq_ok β1 w hw1 _ [(U (t))] (kn (fun h => Sl U64R h _ [(U (t))]) (Knows.of_res 0 rfl (fun _ _ hs h => Sl.mono U64R _ _ _ _ hs h) fun _ h => pt_sl64 (xs := [(U (t))]) h rfl rfl))).mono ?_
 rintro e w' ⟨rfl, hw'⟩
 refine ⟨_, rfl, _, back _ _ hw', ?_⟩
 clear hw1 hw' back kn sb
 refine lv e_assign ?_
 refine lnf ?_
 refine c_ret ?_
 refine ret1 Try.results69 (v := Ux (seqU [(U (t))])) rfl ?_
 intro w hw
 exact ⟨rfl, st_mask [false] rfl hw⟩
set_option maxHeartbeats 4000000 in
theorem rname_ok (β : Base) (w : World) (hw : St β [] w) (s : ByteArray) (hs : s.size ≤ 1048576) : Calls Try.prog 71 #[.string s] w fun r w' => r = .returned (Ux (seqU (wordsB s))) ∧ St β [] w' := by
 refine enter (n := 20) Try.func71 rfl Try.ntmps71 rfl ?_ hw
 refine csr ?_
 refine lv e_assign ?_
 refine lnc ?_
 refine lv e_assign ?_
 refine lnf ?_
 refine cs2 ?_
 refine c_emp (r := row (.slice none 0 0) 99 1 0 ([].map (fun z : UInt64 => Ux z))) (row_nil _ _ _) ?_
 refine c_region ?_
 refine lv e_assign ?_
 refine lnf ?_
 refine c_block ?_
 refine c_loop (fun (x_ : Nat × List UInt64 × Option Addr × Nat) (f : Fm) (L : List Res) => match x_ with | (k, ys, p, c) => (f 0 = .string (s) ∧ f 3 = sB p ys c ∧ f 4 = Nx (k)) ∧ L = [row (sB p ys c) 99 1 ((ys).length) (ys.map (fun z : UInt64 => Ux z))] ∧ (k ≤ s.size ∧ ys = (wordsB s).take k)) (fun (x_ : Nat × List UInt64 × Option Addr × Nat) => match x_ with | (k, ys, p, c) => s.size - k) (0, [], none, 0) ?_ ?_
 ·exact ⟨⟨rfl, rfl, rfl⟩, rfl, ⟨by omega, rfl⟩⟩
 rintro ⟨k, ys, p, c⟩ f0 L0 ⟨⟨hs0, hs3, hs4⟩, hL, ⟨hk, hys⟩⟩
 subst L0
 refine rebase (d := 0) hs0 ?_
 refine rebase (d := 3) hs3 ?_
 refine rebase (d := 4) hs4 ?_
 clear hs0 hs3 hs4
 have hyl : ys.length ≤ s.size := by rw [hys]; simp [wordsB]; try omega
 refine cs2 ?_
 refine c_region ?_
 refine lv e_move ?_
 refine lv e_move ?_
 refine lv (v := Nx ((s).size)) (e_len_s (s := s) rfl tf7) ?_
 refine lv (e_lss (a := ((k : Nat) : Int)) (b := (((s).size : Nat) : Int)) rfl rfl) ?_
 refine lnf ?_
 refine c_if (((k : Nat) : Int) < (((s).size : Nat) : Int)) rfl (fun hc1 => ?_) (fun hc1 => ?_)
 ·refine csk ?_
  refine c_seq ?_
  refine c_block ?_
  refine c_region ?_
  refine lv e_move ?_
  refine lv e_move ?_
  refine lv e_move ?_
  obtain ⟨c2, hc3⟩ : ∃ c, (s).data.toList[k]? = some c := ⟨_, List.getElem?_eq_getElem (by simp; omega)⟩
  refine lv (v := Bx (c2)) (e_index_s (s := s) (k := k) (c := c2) rfl rfl tf7 hc3) ?_
  refine lv (v := Ux (c2.toUInt64)) (e_conv (a := ((c2).toNat : Int)) rfl ⟨_, tf8⟩ tf2 (ux_of8 _)) ?_
  refine l_mv rfl rfl rfl (m_slices tf127 tf4 (cells := #[Ux (c2.toUInt64)]) rfl rfl rfl rfl) ?_
  rintro _ _ ⟨b4, rfl, rfl⟩
  refine l_mv rfl rfl rfl (m_appendE (enc := (fun z : UInt64 => Ux z)) 1 ux_cell tf127 tf129 (v := sB p ys c) (xs := ys) (ys := [c2.toUInt64]) (ao := some ⟨b4, 0, none⟩) (c := 1) rfl rfl (by first | rfl | simp) rfl (by first | rfl | simp) (k_ptE 0 (xs := [c2.toUInt64]) rfl) (by first | omega | (simp only [List.length_append, List.length_nil, List.length_cons, be_length] at *; omega)) (by first | omega | (simp only [List.length_append, List.length_nil, List.length_cons, be_length] at *; omega))) ?_
  rintro _ _ ⟨rp5, rc6, rfl, rfl⟩
  refine lv e_assign ?_
  refine l_nil ?_
  refine f_block ?_
  refine f_then ?_
  refine c_region ?_
  refine lv e_move ?_
  refine lv (v := Nx (k + 1)) (e_add (a := ((k : Nat) : Int)) (b := (1 : Int)) rfl rfl (i64n (by omega) (by omega))) ?_
  refine lv e_assign ?_
  refine l_nil ?_
  refine f_mask (L' := [row (sB rp5 (ys ++ [c2.toUInt64]) rc6) 99 1 ((ys ++ [c2.toUInt64]).length) ((ys ++ [c2.toUInt64]).map (fun z : UInt64 => Ux z))]) [false, true] rfl ?_
  exact f_cut ⟨(k + 1, ys ++ [c2.toUInt64], rp5, rc6), ⟨⟨rfl, rfl, rfl⟩, rfl, ⟨by omega, by rw [hys, take_succ (xs := wordsB s) (a := c2.toUInt64) (by simp [wordsB, hc3])]⟩⟩, (show s.size - (k + 1) < s.size - k from by omega)⟩
 refine c_exit ?_
 refine f_then_exit ?_
 refine f_then_exit ?_
 refine f_exit ?_
 refine fts ?_
 rw [List.take_of_length_le (show (wordsB s).length ≤ k by simp [wordsB]; omega)] at hys
 refine c_region ?_
 refine lv e_move ?_
 refine lcf (cl0 (vs := [sB p ys c]) tf128 rfl rfl) rfl fun w β1 sb kn hw1 back => (rseq_ok β1 w hw1 _ ys (kn (fun h => Sl U64R h _ ys) (Knows.of_res 0 rfl (fun _ _ hs h => Sl.mono U64R _ _ _ _ hs h) fun _ h => row_sl64 h))).mono ?_
 rintro e w' ⟨rfl, hw'⟩
 refine ⟨_, rfl, _, back _ _ hw', ?_⟩
 clear hw1 hw' back kn sb
 refine lv e_assign ?_
 refine lnf ?_
 refine c_ret ?_
 refine ret1 Try.results71 (v := Ux (seqU ys)) rfl ?_
 intro w hw
 exact ⟨by rw [hys], st_mask [false] rfl hw⟩
set_option maxHeartbeats 4000000 in
theorem rbytes_ok (β : Base) (w : World) (hw : St β [] w) (n : UInt64) (sz : Nat) (hs1 : 1 ≤ sz) (hs8 : sz ≤ 8) : Calls Try.prog 68 #[Ux n, Nx sz] w fun r w' => ∃ p c, r = .returned (sB p (be sz n) c) ∧ St β [rB p (be sz n) c] w' := by
 refine enter (n := 24) Try.func68 rfl Try.ntmps68 rfl ?_ hw
 refine csr ?_
 refine lv e_assign ?_
 refine lnc ?_
 refine lv e_move ?_
 refine l_mv rfl rfl rfl (m_makeB (c := sz) tf12 tf15 tf14 rfl rfl (by omega) (by omega)) ?_
 rintro _ _ ⟨b1, rfl, rfl⟩
 refine lv e_assign ?_
 refine lnf ?_
 refine cs2 ?_
 refine c_region ?_
 refine lv e_move ?_
 refine lv (v := Ix (((sz : Nat) : Int) - (1 : Int))) (e_sub (a := ((sz : Nat) : Int)) (b := (1 : Int)) rfl rfl (i64w (by omega))) ?_
 refine lv e_assign ?_
 refine lnf ?_
 refine c_block ?_
 refine c_loop (fun (x_ : Nat × UInt64 × Bs) (f : Fm) (L : List Res) => match x_ with | (q, m, ys) => (f 0 = Ux (m) ∧ f 5 = sB (some ⟨b1, 0, none⟩) ys sz ∧ f 6 = Ix (((q : Nat) : Int) - 1)) ∧ L = [rB (some ⟨b1, 0, none⟩) ys sz] ∧ (q ≤ sz ∧ ys.length = sz ∧ ys.drop q = be (sz - q) n ∧ m.toNat = n.toNat / 256 ^ (sz - q))) (fun (x_ : Nat × UInt64 × Bs) => match x_ with | (q, m, ys) => q) (sz, n, (List.replicate sz (0 : UInt8))) ?_ ?_
 ·exact ⟨⟨rfl, rfl, rfl⟩, rfl, ⟨by omega, by simp, by rw [Nat.sub_self]; simp [be], by rw [Nat.sub_self]; simp⟩⟩
 rintro ⟨q, m, ys⟩ f0 L0 ⟨⟨hs0, hs5, hs6⟩, hL, ⟨hq, hyl, hyd, hym⟩⟩
 subst L0
 refine rebase (d := 0) hs0 ?_
 refine rebase (d := 5) hs5 ?_
 refine rebase (d := 6) hs6 ?_
 clear hs0 hs5 hs6
 refine cs2 ?_
 refine c_region ?_
 refine lv e_move ?_
 refine lv (e_geq (a := (((q : Nat) : Int) - 1)) (b := (0 : Int)) rfl rfl) ?_
 refine lnf ?_
 refine c_if ((0 : Int) ≤ (((q : Nat) : Int) - 1)) rfl (fun hc2 => ?_) (fun hc2 => ?_)
 ·refine csk ?_
  refine c_seq ?_
  refine c_block ?_
  refine c_seq ?_
  obtain ⟨z, hz⟩ : ∃ z, q = z + 1 := ⟨q - 1, by omega⟩
  subst hz
  refine rebase (d := 6) (v := Nx z) (congrArg (Value.int .i64) (by omega)) ?_
  refine c_region ?_
  refine lv e_move ?_
  refine lv e_move ?_
  refine lv e_move ?_
  refine lv (v := Ux (m % (256 : UInt64))) (e_rem (a := ((m).toNat : Int)) (b := ((256 : UInt64).toNat : Int)) rfl rfl (by decide) (ux_rem _ _)) ?_
  refine lv (v := Bx ((m % (256 : UInt64)).toUInt8)) (e_conv (a := ((m % (256 : UInt64)).toNat : Int)) rfl ⟨_, tf2⟩ tf8 (bx_of64 _)) ?_
  refine lv (v := .pointer (some ((ba (some ⟨b1, 0, none⟩)).add (z * 1)))) (e_indexRow 0 (j := z) (len := (ys).length) (cap := sz) (p := (some ⟨b1, 0, none⟩)) rfl rfl tf12 (by omega) (by omega) rfl) ?_
  refine lu (m_storeRow 0 tf13 (o := z * 1) (v := Bx ((m % (256 : UInt64)).toUInt8)) rfl rfl rfl rfl rfl (by omega) (by omega)) ?_
  refine l_re (L' := [row (.slice (some ⟨b1, 0, none⟩) ((ys.set z ((m % (256 : UInt64)).toUInt8))).length sz) 5 1 (((ys.set z ((m % (256 : UInt64)).toUInt8))).length) (BX (ys.set z ((m % (256 : UInt64)).toUInt8)))]) (by show [row (.slice (some ⟨b1, 0, none⟩) (ys).length sz) 5 1 ((ys).length) ((overL (BX ys) (z * 1) [Bx ((m % (256 : UInt64)).toUInt8)]))] = _; rw [overL_bx (by omega)]; simp only [List.length_set]) ?_
  refine lnr ?_
  refine lv e_move ?_
  refine lv (v := Ux (m / (256 : UInt64))) (e_quo (a := ((m).toNat : Int)) (b := (((256 : UInt64)).toNat : Int)) rfl rfl (by decide) (ux_quo _ _)) ?_
  refine lv e_assign ?_
  refine l_nil ?_
  refine f_block ?_
  refine f_then ?_
  refine c_region ?_
  refine lv e_move ?_
  refine lv (v := Ix (((z : Nat) : Int) - (1 : Int))) (e_sub (a := ((z : Nat) : Int)) (b := (1 : Int)) rfl rfl (i64w (by omega))) ?_
  refine lv e_assign ?_
  refine l_nil ?_
  exact f_cut ⟨(z, (m / (256 : UInt64)), (ys.set z ((m % (256 : UInt64)).toUInt8))), ⟨⟨rfl, (show (sB (some ⟨b1, 0, none⟩) ys sz : Value) = _ by simp only [sB, List.length_set]), (congrArg (Value.int .i64) (by omega))⟩, (by simp [rB, sB]), ⟨by omega, by simp; omega, by rw [show sz - z = (sz - (z + 1)) + 1 by omega]; exact be_set (by omega) hyd (be_div_byte (by omega) hym), by rw [show sz - z = (sz - (z + 1)) + 1 by omega]; exact be_div_next hym⟩⟩, (show z < z + 1 from Nat.lt_succ_self z)⟩
 refine c_exit ?_
 refine f_then_exit ?_
 refine f_then_exit ?_
 refine f_exit ?_
 refine ftc ?_
 refine lv e_move ?_
 refine lv e_assign ?_
 refine lnf ?_
 refine c_ret ?_
 refine ret1 Try.results68 (v := sB (some ⟨b1, 0, none⟩) ys sz) rfl ?_
 intro w hw
 have hz : q = 0 := by omega
 subst hz
 have he : ys = be sz n := by simpa using hyd
 subst he
 exact ⟨_, _, rfl, st_mask [true] rfl hw⟩
theorem rcopy_ok (β : Base) (w : World) (hw : St β [] w) (e : Int) : Calls Try.prog 30 #[Ix e] w fun r w' => ∃ p c, r = .returned (sB p (be 8 (U e) ++ be 8 (tickU e)) c) ∧ St β [rB p (be 8 (U e) ++ be 8 (tickU e)) c] w' := by
 refine enter (n := 10) Try.func30 rfl Try.ntmps30 rfl ?_ hw
 refine csr ?_
 refine lv e_assign ?_
 refine lnc ?_
 refine lv e_move ?_
 refine lv (v := Ux (U (e))) (e_conv (a := (e)) rfl ⟨_, tf1⟩ tf2 (ux_of _)) ?_
 refine lcf (cl0 (vs := [Ux (U (e)), .int .i64 (8)]) tf130 rfl rfl) rfl fun w β1 sb kn hw1 back => (rbytes_ok β1 w hw1 (U (e)) 8 (by decide) (by decide)).mono ?_
 rintro e w' ⟨p1, c2, rfl, hw'⟩
 refine ⟨_, rfl, _, back _ _ hw', ?_⟩
 clear hw1 hw' back kn sb
 refine lv e_move ?_
 refine lcf (cl0 (vs := [Ix (e)]) tf131 rfl rfl) rfl fun w β1 sb kn hw1 back => (rtick_ok β1 w hw1 (e)).mono ?_
 rintro e w' ⟨rfl, hw'⟩
 refine ⟨_, rfl, _, back _ _ hw', ?_⟩
 clear hw1 hw' back kn sb
 refine lcf (cl0 (vs := [Ux (tickU (e)), .int .i64 (8)]) tf130 rfl rfl) rfl fun w β1 sb kn hw1 back => (rbytes_ok β1 w hw1 (tickU (e)) 8 (by decide) (by decide)).mono ?_
 rintro e w' ⟨p3, c4, rfl, hw'⟩
 refine ⟨_, rfl, _, back _ _ hw', ?_⟩
 clear hw1 hw' back kn sb
 refine l_mv rfl rfl rfl (m_appendE (enc := fun c : UInt8 => Bx c) 1 bx_cell tf12 tf15 (v := sB p1 (be 8 (U (e))) c2) (xs := be 8 (U (e))) (ys := be 8 (tickU (e))) (ao := p3) (c := c4) rfl rfl (by first | rfl | simp) rfl (by first | rfl | simp) (k_rowE 0 rfl) (by first | omega | (simp only [List.length_append, List.length_nil, List.length_cons, be_length] at *; omega)) (by first | omega | (simp only [List.length_append, List.length_nil, List.length_cons, be_length] at *; omega))) ?_
 rintro _ _ ⟨rp5, rc6, rfl, rfl⟩
 refine lv e_assign ?_
 refine lnf ?_
 refine c_ret ?_
 refine ret1 Try.results30 (v := sB rp5 ((be 8 (U (e))) ++ (be 8 (tickU (e)))) rc6) rfl ?_
 intro w hw
 exact ⟨_, _, rfl, st_mask [false, true] rfl hw⟩
set_option maxHeartbeats 4000000 in
theorem rform_ok (β : Base) (w : World) (hw : St β [] w) (e n : Int) (xs : Bs) (v : Value) (hx : xs.length ≤ 1048576) (hs : Sl U8R β.heap v xs) : Calls Try.prog 31 #[Ix e, Ix n, v] w fun r w' => ∃ p c, r = .returned (sB p (formB e n xs) c) ∧ St β [rB p (formB e n xs) c] w' := by
 obtain ⟨va, vc, rfl, vl, vm, ve⟩ := hs.get
 refine enter (n := 40) Try.func31 rfl Try.ntmps31 rfl ?_ hw
 refine csr ?_
 refine lv e_assign ?_
 refine lnc ?_
 refine lv e_move ?_
 refine lv (v := Nx (xs.length)) (e_len (a := va) (n := xs.length) (c := vc) rfl tf11) ?_
 refine lv (v := Ux (U ((xs.length : Nat) : Int))) (e_conv (a := ((xs.length : Nat) : Int)) rfl ⟨_, tf1⟩ tf2 (ux_of _)) ?_
 refine lcf (cl0 (vs := [Ux (U ((xs.length : Nat) : Int)), .int .i64 (4)]) tf130 rfl rfl) rfl fun w β1 sb kn hw1 back => (rbytes_ok β1 w hw1 (U ((xs.length : Nat) : Int)) 4 (by decide) (by decide)).mono ?_
 rintro e w' ⟨p1, c2, rfl, hw'⟩
 refine ⟨_, rfl, _, back _ _ hw', ?_⟩
 clear hw1 hw' back kn sb
 refine lv e_move ?_
 refine lv (v := Nx (xs.length)) (e_len (a := va) (n := xs.length) (c := vc) rfl tf11) ?_
 refine lv (v := Ux (U ((xs.length : Nat) : Int))) (e_conv (a := ((xs.length : Nat) : Int)) rfl ⟨_, tf1⟩ tf2 (ux_of _)) ?_
 refine lv (v := Ux ((4294967295 : UInt64) - (U ((xs.length : Nat) : Int)))) (e_sub (a := ((4294967295 : UInt64).toNat : Int)) (b := ((U ((xs.length : Nat) : Int)).toNat : Int)) rfl rfl (ux_sub _ _)) ?_
 refine lcf (cl0 (vs := [Ux ((4294967295 : UInt64) - (U ((xs.length : Nat) : Int))), .int .i64 (4)]) tf130 rfl rfl) rfl fun w β1 sb kn hw1 back => (rbytes_ok β1 w hw1 ((4294967295 : UInt64) - (U ((xs.length : Nat) : Int))) 4 (by decide) (by decide)).mono ?_
 rintro e w' ⟨p3, c4, rfl, hw'⟩
 refine ⟨_, rfl, _, back _ _ hw', ?_⟩
 clear hw1 hw' back kn sb
 refine l_mv rfl rfl rfl (m_appendE (enc := fun c : UInt8 => Bx c) 1 bx_cell tf12 tf15 (v := sB p1 (be 4 (U ((xs.length : Nat) : Int))) c2) (xs := be 4 (U ((xs.length : Nat) : Int))) (ys := be 4 ((4294967295 : UInt64) - (U ((xs.length : Nat) : Int)))) (ao := p3) (c := c4) rfl rfl (by first | rfl | simp) rfl (by first | rfl | simp) (k_rowE 0 rfl) (by first | omega | (simp only [List.length_append, List.length_nil, List.length_cons, be_length] at *; omega)) (by first | omega | (simp only [List.length_append, List.length_nil, List.length_cons, be_length] at *; omega))) ?_
 rintro _ _ ⟨rp5, rc6, rfl, rfl⟩
 refine lv e_assign ?_
 refine lnc ?_
 refine lv e_move ?_
 refine lv e_move ?_
 refine lv (v := Ux (U (n))) (e_conv (a := (n)) rfl ⟨_, tf1⟩ tf2 (ux_of _)) ?_
 refine lcf (cl0 (vs := [Ux (U (n)), .int .i64 (8)]) tf130 rfl rfl) rfl fun w β1 sb kn hw1 back => (rbytes_ok β1 w hw1 (U (n)) 8 (by decide) (by decide)).mono ?_
 rintro e w' ⟨p7, c8, rfl, hw'⟩
 refine ⟨_, rfl, _, back _ _ hw', ?_⟩
 clear hw1 hw' back kn sb
 refine l_mv rfl rfl rfl (m_appendE (enc := fun c : UInt8 => Bx c) 2 bx_cell tf12 tf15 (v := sB rp5 ((be 4 (U ((xs.length : Nat) : Int))) ++ (be 4 ((4294967295 : UInt64) - (U ((xs.length : Nat) : Int))))) rc6) (xs := (be 4 (U ((xs.length : Nat) : Int))) ++ (be 4 ((4294967295 : UInt64) - (U ((xs.length : Nat) : Int))))) (ys := be 8 (U (n))) (ao := p7) (c := c8) rfl rfl (by first | rfl | simp) rfl (by first | rfl | simp) (k_rowE 0 rfl) (by first | omega | (simp only [List.length_append, List.length_nil, List.length_cons, be_length] at *; omega)) (by first | omega | (simp only [List.length_append, List.length_nil, List.length_cons, be_length] at *; omega))) ?_
 rintro _ _ ⟨rp9, rc10, rfl, rfl⟩
 refine lv e_assign ?_
 refine lnc ?_
 refine lv e_move ?_
 refine lv e_move ?_
 refine l_mv rfl rfl rfl (m_appendE (enc := fun c : UInt8 => Bx c) 2 bx_cell tf12 tf15 (v := sB rp9 (((be 4 (U ((xs.length : Nat) : Int))) ++ (be 4 ((4294967295 : UInt64) - (U ((xs.length : Nat) : Int))))) ++ (be 8 (U (n)))) rc10) (xs := ((be 4 (U ((xs.length : Nat) : Int))) ++ (be 4 ((4294967295 : UInt64) - (U ((xs.length : Nat) : Int))))) ++ (be 8 (U (n)))) (ys := xs) (ao := va) (c := vc) rfl rfl (by first | rfl | simp) rfl (by first | rfl | simp) (Knows.of_base (Elems.mono _ _ _) ve) (by first | omega | (simp only [List.length_append, List.length_nil, List.length_cons, be_length] at *; omega)) (by first | omega | (simp only [List.length_append, List.length_nil, List.length_cons, be_length] at *; omega))) ?_
 rintro _ _ ⟨rp11, rc12, rfl, rfl⟩
 refine lv e_assign ?_
 refine lnc ?_
 refine lv e_move ?_
 refine lv (v := .string (str xs)) (e_bytesStr (a := va) (bs := xs) (m := xs.length) (c := vc) rfl (by first | rfl | simp) tf11 tf8 tf7 (Knows.of_base (Elems.mono _ _ _) ve)) ?_
 refine lcf (cl0 (vs := [.string (str xs)]) tf132 rfl rfl) rfl fun w β1 sb kn hw1 back => (rname_ok β1 w hw1 (str xs) (show (xs.length : Nat) ≤ _ by omega)).mono ?_
 rintro e w' ⟨rfl, hw'⟩
 refine ⟨_, rfl, _, back _ _ hw', ?_⟩
 clear hw1 hw' back kn sb
 refine lv e_move ?_
 refine lv (v := Ux (U (n))) (e_conv (a := (n)) rfl ⟨_, tf1⟩ tf2 (ux_of _)) ?_
 refine lcf (cl0 (vs := [Ux (nameU xs), Ux (U (n))]) tf133 rfl rfl) rfl fun w β1 sb kn hw1 back => (rchain_ok β1 w hw1 (nameU xs) (U (n))).mono ?_
 rintro e w' ⟨rfl, hw'⟩
 refine ⟨_, rfl, _, back _ _ hw', ?_⟩
 clear hw1 hw' back kn sb
 refine lv e_move ?_
 refine lv (v := Ux (U (e))) (e_conv (a := (e)) rfl ⟨_, tf1⟩ tf2 (ux_of _)) ?_
 refine lcf (cl0 (vs := [Ux (chainU (nameU xs) (U (n))), Ux (U (e))]) tf133 rfl rfl) rfl fun w β1 sb kn hw1 back => (rchain_ok β1 w hw1 (chainU (nameU xs) (U (n))) (U (e))).mono ?_
 rintro e w' ⟨rfl, hw'⟩
 refine ⟨_, rfl, _, back _ _ hw', ?_⟩
 clear hw1 hw' back kn sb
 refine lv e_assign ?_
 refine lnc ?_
 refine lv e_move ?_
 refine lv e_move ?_
 refine lcf (cl0 (vs := [Ux (chainU (chainU (nameU xs) (U (n))) (U (e))), .int .i64 (8)]) tf130 rfl rfl) rfl fun w β1 sb kn hw1 back => (rbytes_ok β1 w hw1 (chainU (chainU (nameU xs) (U (n))) (U (e))) 8 (by decide) (by decide)).mono ?_
 rintro e w' ⟨p13, c14, rfl, hw'⟩
 refine ⟨_, rfl, _, back _ _ hw', ?_⟩
 clear hw1 hw' back kn sb
 refine l_mv rfl rfl rfl (m_appendE (enc := fun c : UInt8 => Bx c) 3 bx_cell tf12 tf15 (v := sB rp11 ((((be 4 (U ((xs.length : Nat) : Int))) ++ (be 4 ((4294967295 : UInt64) - (U ((xs.length : Nat) : Int))))) ++ (be 8 (U (n)))) ++ xs) rc12) (xs := (((be 4 (U ((xs.length : Nat) : Int))) ++ (be 4 ((4294967295 : UInt64) - (U ((xs.length : Nat) : Int))))) ++ (be 8 (U (n)))) ++ xs) (ys := be 8 (chainU (chainU (nameU xs) (U (n))) (U (e)))) (ao := p13) (c := c14) rfl rfl (by first | rfl | simp) rfl (by first | rfl | simp) (k_rowE 0 rfl) (by first | omega | (simp only [List.length_append, List.length_nil, List.length_cons, be_length] at *; omega)) (by first | omega | (simp only [List.length_append, List.length_nil, List.length_cons, be_length] at *; omega))) ?_
 rintro _ _ ⟨rp15, rc16, rfl, rfl⟩
 refine lv e_assign ?_
 refine lnf ?_
 refine c_ret ?_
 refine ret1 Try.results31 (v := sB rp15 (((((be 4 (U ((xs.length : Nat) : Int))) ++ (be 4 ((4294967295 : UInt64) - (U ((xs.length : Nat) : Int))))) ++ (be 8 (U (n)))) ++ xs) ++ (be 8 (chainU (chainU (nameU xs) (U (n))) (U (e))))) rc16) rfl ?_
 intro w hw
 rw [be_compl (by rw [U_toNat (by omega)]; omega)] at hw ⊢
 exact ⟨_, _, rfl, st_mask [false, false, false, true] rfl hw⟩
set_option maxHeartbeats 4000000 in
theorem rvalid_ok (β : Base) (w : World) (hw : St β [] w) (k : KS) (vh va vb : Value) (hH : Sl U8R β.heap vh k.head) (hA : Sl U8R β.heap va k.a) (hB : Sl U8R β.heap vb k.b) : Calls Try.prog 79 #[.agg #[vh, va, vb, Ix k.power]] w fun r w' => r = .returned (.bool (decide k.okP)) ∧ St β [] w' := by
 obtain ⟨vha, vhc, rfl, vhl, vhm, vhe⟩ := hH.get
 obtain ⟨vaa, vac, rfl, val, vam, vae⟩ := hA.get
 obtain ⟨vba, vbc, rfl, vbl, vbm, vbe⟩ := hB.get
 refine enter (n := 30) Try.func79 rfl Try.ntmps79 rfl ?_ hw
 refine csr ?_
 refine l_mv rfl rfl rfl (m_box (v := .agg #[sB vha k.head (vhc), sB vaa k.a (vac), sB vba k.b (vbc), Ix (k.power)]) rfl) ?_
 rintro _ _ ⟨b1, rfl, rfl⟩
 refine lv e_assign ?_
 refine lnc ?_
 refine lv (e_fieldPt rfl tf20) ?_
 refine lv (v := sB vha k.head (vhc)) (e_load1 tf21 rfl (k_pt 0 rfl rfl)) ?_
 refine lv (v := Nx (k.head.length)) (e_len (a := vha) (n := k.head.length) (c := vhc) rfl tf11) ?_
 refine lv (e_eql (a := ((k.head.length : Nat) : Int)) (b := (0 : Int)) rfl rfl) ?_
 refine lv e_move ?_
 refine l_split (s := 7) (p := ((k.head.length : Nat) : Int) = (0 : Int)) rfl (fun hg2 => ?_) (fun hg2 => ?_)
 ·refine l_skip rfl rfl rfl rfl rfl rfl ?_
  refine l_skip rfl rfl rfl rfl rfl rfl ?_
  refine l_skip rfl rfl rfl rfl rfl rfl ?_
  refine l_skip rfl rfl rfl rfl rfl rfl ?_
  refine lv (v := .bool true) (e_pick_t rfl) ?_
  refine lv e_move ?_
  refine g_val (v := pp b1 1) rfl rfl rfl rfl rfl (e_fieldPt rfl tf22) ?_
  refine g_val (v := sB vaa k.a (vac)) rfl rfl rfl rfl rfl (e_load1 tf21 rfl (k_pt 0 rfl rfl)) ?_
  refine g_val (v := Nx (k.a.length)) rfl rfl rfl rfl rfl (e_len (a := vaa) (n := k.a.length) (c := vac) rfl tf11) ?_
  refine g_val rfl rfl rfl rfl rfl (e_leq (a := ((k.a.length : Nat) : Int)) (b := (262144 : Int)) rfl rfl) ?_
  refine lv (v := .bool (decide (((k.a.length : Nat) : Int) ≤ (262144 : Int)))) (e_pick_t rfl) ?_
  refine lv e_move ?_
  refine l_split (s := 19) (p := ((k.a.length : Nat) : Int) ≤ (262144 : Int)) rfl (fun hg3 => ?_) (fun hg3 => ?_)
  ·refine g_val (v := pp b1 2) rfl rfl rfl rfl rfl (e_fieldPt rfl tf23) ?_
   refine g_val (v := sB vba k.b (vbc)) rfl rfl rfl rfl rfl (e_load1 tf21 rfl (k_pt 0 rfl rfl)) ?_
   refine g_val (v := Nx (k.b.length)) rfl rfl rfl rfl rfl (e_len (a := vba) (n := k.b.length) (c := vbc) rfl tf11) ?_
   refine g_val rfl rfl rfl rfl rfl (e_leq (a := ((k.b.length : Nat) : Int)) (b := (262144 : Int)) rfl rfl) ?_
   refine lv (v := .bool (decide (((k.b.length : Nat) : Int) ≤ (262144 : Int)))) (e_pick_t rfl) ?_
   refine lv e_move ?_
   refine l_split (s := 25) (p := ((k.b.length : Nat) : Int) ≤ (262144 : Int)) rfl (fun hg4 => ?_) (fun hg4 => ?_)
   ·refine g_val (v := pp b1 3) rfl rfl rfl rfl rfl (e_fieldPt rfl tf24) ?_
    refine g_val (v := Ix (k.power)) rfl rfl rfl rfl rfl (e_load1 tf25 rfl (k_pt 0 rfl rfl)) ?_
    refine g_val rfl rfl rfl rfl rfl (e_geq (a := (k.power)) (b := (-1 : Int)) rfl rfl) ?_
    refine lv (v := .bool (decide ((-1 : Int) ≤ (k.power)))) (e_pick_t rfl) ?_
    refine lv e_assign ?_
    refine lnf ?_
    refine c_ret ?_
    refine ret1 Try.results79 (v := .bool (decide ((-1 : Int) ≤ (k.power)))) rfl ?_
    intro w hw
    exact ⟨bool_d (by unfold KS.okP; omega), st_mask [false] rfl hw⟩
   refine l_skip rfl rfl rfl rfl rfl rfl ?_
   refine l_skip rfl rfl rfl rfl rfl rfl ?_
   refine l_skip rfl rfl rfl rfl rfl rfl ?_
   refine lv (v := .bool false) (e_pick_f rfl) ?_
   refine lv e_assign ?_
   refine lnf ?_
   refine c_ret ?_
   refine ret1 Try.results79 (v := .bool false) rfl ?_
   intro w hw
   exact ⟨bool_f (by unfold KS.okP; omega), st_mask [false] rfl hw⟩
  refine l_skip rfl rfl rfl rfl rfl rfl ?_
  refine l_skip rfl rfl rfl rfl rfl rfl ?_
  refine l_skip rfl rfl rfl rfl rfl rfl ?_
  refine l_skip rfl rfl rfl rfl rfl rfl ?_
  refine lv (v := .bool false) (e_pick_f rfl) ?_
  refine lv e_move ?_
  refine l_skip rfl rfl rfl rfl rfl rfl ?_
  refine l_skip rfl rfl rfl rfl rfl rfl ?_
  refine l_skip rfl rfl rfl rfl rfl rfl ?_
  refine lv (v := .bool false) (e_pick_f rfl) ?_
  refine lv e_assign ?_
  refine lnf ?_
  refine c_ret ?_
  refine ret1 Try.results79 (v := .bool false) rfl ?_
  intro w hw
  exact ⟨bool_f (by unfold KS.okP; omega), st_mask [false] rfl hw⟩
 refine g_val (v := pp b1 0) rfl rfl rfl rfl rfl (e_fieldPt rfl tf20) ?_
 refine g_val (v := sB vha k.head (vhc)) rfl rfl rfl rfl rfl (e_load1 tf21 rfl (k_pt 0 rfl rfl)) ?_
 refine g_val (v := Nx (k.head.length)) rfl rfl rfl rfl rfl (e_len (a := vha) (n := k.head.length) (c := vhc) rfl tf11) ?_
 refine g_val rfl rfl rfl rfl rfl (e_eql (a := ((k.head.length : Nat) : Int)) (b := (32 : Int)) rfl rfl) ?_
 refine lv (v := .bool (decide (((k.head.length : Nat) : Int) = (32 : Int)))) (e_pick_f rfl) ?_
 refine lv e_move ?_
 refine l_split (s := 13) (p := ((k.head.length : Nat) : Int) = (32 : Int)) rfl (fun hg5 => ?_) (fun hg5 => ?_)
 ·refine g_val (v := pp b1 1) rfl rfl rfl rfl rfl (e_fieldPt rfl tf22) ?_
  refine g_val (v := sB vaa k.a (vac)) rfl rfl rfl rfl rfl (e_load1 tf21 rfl (k_pt 0 rfl rfl)) ?_
  refine g_val (v := Nx (k.a.length)) rfl rfl rfl rfl rfl (e_len (a := vaa) (n := k.a.length) (c := vac) rfl tf11) ?_
  refine g_val rfl rfl rfl rfl rfl (e_leq (a := ((k.a.length : Nat) : Int)) (b := (262144 : Int)) rfl rfl) ?_
  refine lv (v := .bool (decide (((k.a.length : Nat) : Int) ≤ (262144 : Int)))) (e_pick_t rfl) ?_
  refine lv e_move ?_
  refine l_split (s := 19) (p := ((k.a.length : Nat) : Int) ≤ (262144 : Int)) rfl (fun hg6 => ?_) (fun hg6 => ?_)
  ·refine g_val (v := pp b1 2) rfl rfl rfl rfl rfl (e_fieldPt rfl tf23) ?_
   refine g_val (v := sB vba k.b (vbc)) rfl rfl rfl rfl rfl (e_load1 tf21 rfl (k_pt 0 rfl rfl)) ?_
   refine g_val (v := Nx (k.b.length)) rfl rfl rfl rfl rfl (e_len (a := vba) (n := k.b.length) (c := vbc) rfl tf11) ?_
   refine g_val rfl rfl rfl rfl rfl (e_leq (a := ((k.b.length : Nat) : Int)) (b := (262144 : Int)) rfl rfl) ?_
   refine lv (v := .bool (decide (((k.b.length : Nat) : Int) ≤ (262144 : Int)))) (e_pick_t rfl) ?_
   refine lv e_move ?_
   refine l_split (s := 25) (p := ((k.b.length : Nat) : Int) ≤ (262144 : Int)) rfl (fun hg7 => ?_) (fun hg7 => ?_)
   ·refine g_val (v := pp b1 3) rfl rfl rfl rfl rfl (e_fieldPt rfl tf24) ?_
    refine g_val (v := Ix (k.power)) rfl rfl rfl rfl rfl (e_load1 tf25 rfl (k_pt 0 rfl rfl)) ?_
    refine g_val rfl rfl rfl rfl rfl (e_geq (a := (k.power)) (b := (-1 : Int)) rfl rfl) ?_
    refine lv (v := .bool (decide ((-1 : Int) ≤ (k.power)))) (e_pick_t rfl) ?_
    refine lv e_assign ?_
    refine lnf ?_
    refine c_ret ?_
    refine ret1 Try.results79 (v := .bool (decide ((-1 : Int) ≤ (k.power)))) rfl ?_
    intro w hw
    exact ⟨bool_d (by unfold KS.okP; omega), st_mask [false] rfl hw⟩
   refine l_skip rfl rfl rfl rfl rfl rfl ?_
   refine l_skip rfl rfl rfl rfl rfl rfl ?_
   refine l_skip rfl rfl rfl rfl rfl rfl ?_
   refine lv (v := .bool false) (e_pick_f rfl) ?_
   refine lv e_assign ?_
   refine lnf ?_
   refine c_ret ?_
   refine ret1 Try.results79 (v := .bool false) rfl ?_
   intro w hw
   exact ⟨bool_f (by unfold KS.okP; omega), st_mask [false] rfl hw⟩
  refine l_skip rfl rfl rfl rfl rfl rfl ?_
  refine l_skip rfl rfl rfl rfl rfl rfl ?_
  refine l_skip rfl rfl rfl rfl rfl rfl ?_
  refine l_skip rfl rfl rfl rfl rfl rfl ?_
  refine lv (v := .bool false) (e_pick_f rfl) ?_
  refine lv e_move ?_
  refine l_skip rfl rfl rfl rfl rfl rfl ?_
  refine l_skip rfl rfl rfl rfl rfl rfl ?_
  refine l_skip rfl rfl rfl rfl rfl rfl ?_
  refine lv (v := .bool false) (e_pick_f rfl) ?_
  refine lv e_assign ?_
  refine lnf ?_
  refine c_ret ?_
  refine ret1 Try.results79 (v := .bool false) rfl ?_
  intro w hw
  exact ⟨bool_f (by unfold KS.okP; omega), st_mask [false] rfl hw⟩
 refine l_skip rfl rfl rfl rfl rfl rfl ?_
 refine l_skip rfl rfl rfl rfl rfl rfl ?_
 refine l_skip rfl rfl rfl rfl rfl rfl ?_
 refine l_skip rfl rfl rfl rfl rfl rfl ?_
 refine lv (v := .bool false) (e_pick_f rfl) ?_
 refine lv e_move ?_
 refine l_skip rfl rfl rfl rfl rfl rfl ?_
 refine l_skip rfl rfl rfl rfl rfl rfl ?_
 refine l_skip rfl rfl rfl rfl rfl rfl ?_
 refine l_skip rfl rfl rfl rfl rfl rfl ?_
 refine lv (v := .bool false) (e_pick_f rfl) ?_
 refine lv e_move ?_
 refine l_skip rfl rfl rfl rfl rfl rfl ?_
 refine l_skip rfl rfl rfl rfl rfl rfl ?_
 refine l_skip rfl rfl rfl rfl rfl rfl ?_
 refine lv (v := .bool false) (e_pick_f rfl) ?_
 refine lv e_assign ?_
 refine lnf ?_
 refine c_ret ?_
 refine ret1 Try.results79 (v := .bool false) rfl ?_
 intro w hw
 exact ⟨bool_f (by unfold KS.okP; omega), st_mask [false] rfl hw⟩
theorem rarea_ok (β : Base) (w : World) (hw : St β [] w) (e : Nat) (k : KS) (vh va vb : Value) (hH : Sl U8R β.heap vh k.head) (hA : Sl U8R β.heap va k.a) (hB : Sl U8R β.heap vb k.b) : Calls Try.prog 63 #[.agg #[vh, va, vb, Ix k.power], Nx e] w fun r w' => r = .returned (if e % 2 = 0 then va else vb) ∧ St β [] w' := by
 obtain ⟨vha, vhc, rfl, vhl, vhm, vhe⟩ := hH.get
 obtain ⟨vaa, vac, rfl, val, vam, vae⟩ := hA.get
 obtain ⟨vba, vbc, rfl, vbl, vbm, vbe⟩ := hB.get
 refine enter (n := 12) Try.func63 rfl Try.ntmps63 rfl ?_ hw
 refine csr ?_
 refine l_mv rfl rfl rfl (m_box (v := .agg #[sB vha k.head (vhc), sB vaa k.a (vac), sB vba k.b (vbc), Ix (k.power)]) rfl) ?_
 rintro _ _ ⟨b1, rfl, rfl⟩
 refine lv e_assign ?_
 refine lnf ?_
 refine cs2 ?_
 refine c_region ?_
 refine lv e_move ?_
 refine lv (v := Nx (e % 2)) (e_rem (a := ((e : Nat) : Int)) (b := (2 : Int)) rfl rfl (by decide) (nat_tmod _ 2)) ?_
 refine lv (e_eql (a := ((e % 2 : Nat) : Int)) (b := (0 : Int)) rfl rfl) ?_
 refine lnf ?_
 refine c_if (((e % 2 : Nat) : Int) = (0 : Int)) rfl (fun hc2 => ?_) (fun hc2 => ?_)
 ·refine csr ?_
  refine lv (e_fieldPt rfl tf22) ?_
  refine lv (v := sB vaa k.a (vac)) (e_load1 tf21 rfl (k_pt 0 rfl rfl)) ?_
  refine lv e_assign ?_
  refine lnf ?_
  refine c_ret ?_
  refine f_then_ret ?_
  refine ret1 Try.results63 (v := sB vaa k.a (vac)) rfl ?_
  intro w hw
  exact ⟨by first | rw [if_pos (by omega)] | rw [if_neg (by omega)], st_mask [false] rfl hw⟩
 refine csk ?_
 refine csr ?_
 refine lv (e_fieldPt rfl tf23) ?_
 refine lv (v := sB vba k.b (vbc)) (e_load1 tf21 rfl (k_pt 0 rfl rfl)) ?_
 refine lv e_assign ?_
 refine lnf ?_
 refine c_ret ?_
 refine ret1 Try.results63 (v := sB vba k.b (vbc)) rfl ?_
 intro w hw
 exact ⟨by first | rw [if_pos (by omega)] | rw [if_neg (by omega)], st_mask [false] rfl hw⟩
theorem mark2_ok (β : Base) (w : World) (hw : St β [] w) (i : Nat) (hi : i ≤ 4611686018427387904) : Calls Try.prog 82 #[.int .i64 2, Nx i] w fun r w' => r = .returned (Nx (9000027 + i)) ∧ St β [] w' := by
 refine enter (n := 10) Try.func82 rfl Try.ntmps82 rfl ?_ hw
 refine csr ?_
 refine lv e_assign ?_
 refine lnc ?_
 refine lv e_move ?_
 refine lv (v := .int .i64 (9)) (e_add (a := (2 : Int)) (b := (7 : Int)) rfl rfl (by decide)) ?_
 refine lv (v := .int .i64 (9000027)) (e_mul (a := (1000003 : Int)) (b := (9 : Int)) rfl rfl (by decide)) ?_
 refine lv e_move ?_
 refine lv (v := Nx (9000027 + i)) (e_add (a := (9000027 : Int)) (b := ((i : Nat) : Int)) rfl rfl (i64n (by omega) (by omega))) ?_
 refine lv e_assign ?_
 refine lnf ?_
 refine c_ret ?_
 refine ret1 Try.results82 (v := Nx (9000027 + i)) rfl ?_
 intro w hw
 exact ⟨rfl, st_mask [] rfl hw⟩
theorem markb1_ok (β : Base) (w : World) (hw : St β [] w) (i : Nat) (hi : i ≤ 4611686018427387904) : Calls Try.prog 62 #[.int .i64 1, Nx i] w fun r w' => r = .returned (Bx (markU (8000024 + i))) ∧ St β [] w' := by
 refine enter (n := 12) Try.func62 rfl Try.ntmps62 rfl ?_ hw
 refine csr ?_
 refine lv e_assign ?_
 refine lnc ?_
 refine lv e_move ?_
 refine lv e_move ?_
 refine lcf (cl0 (vs := [.int .i64 (1), Nx (i)]) tf134 rfl rfl) rfl fun w β1 sb kn hw1 back => (mark_ok β1 w hw1 i (by omega)).mono ?_
 rintro e w' ⟨rfl, hw'⟩
 refine ⟨_, rfl, _, back _ _ hw', ?_⟩
 clear hw1 hw' back kn sb
 refine lv (v := Ux (U ((8000024 + i : Nat) : Int))) (e_conv (a := ((8000024 + i : Nat) : Int)) rfl ⟨_, tf1⟩ tf2 (ux_of _)) ?_
 refine lv (v := Ux ((U ((8000024 + i : Nat) : Int)) * (11400714819323198485 : UInt64))) (e_mul (a := ((U ((8000024 + i : Nat) : Int)).toNat : Int)) (b := ((11400714819323198485 : UInt64).toNat : Int)) rfl rfl (ux_mul _ _)) ?_
 refine lv (v := Ux (((U ((8000024 + i : Nat) : Int)) * (11400714819323198485 : UInt64)) >>> (56 : UInt64))) (e_shr (a := (((U ((8000024 + i : Nat) : Int)) * (11400714819323198485 : UInt64)).toNat : Int)) (b := ((56 : Nat) : Int)) rfl rfl (by decide) (ux_shr _ 56 (by decide))) ?_
 refine lv (v := Bx ((((U ((8000024 + i : Nat) : Int)) * (11400714819323198485 : UInt64)) >>> (56 : UInt64)).toUInt8)) (e_conv (a := ((((U ((8000024 + i : Nat) : Int)) * (11400714819323198485 : UInt64)) >>> (56 : UInt64)).toNat : Int)) rfl ⟨_, tf2⟩ tf8 (bx_of64 _)) ?_
 refine lv e_assign ?_
 refine lnf ?_
 refine c_ret ?_
 refine ret1 Try.results62 (v := Bx ((((U ((8000024 + i : Nat) : Int)) * (11400714819323198485 : UInt64)) >>> (56 : UInt64)).toUInt8)) rfl ?_
 intro w hw
 exact ⟨rfl, st_mask [] rfl hw⟩
theorem markb2_ok (β : Base) (w : World) (hw : St β [] w) (i : Nat) (hi : i ≤ 4611686018427387904) : Calls Try.prog 62 #[.int .i64 2, Nx i] w fun r w' => r = .returned (Bx (markU (9000027 + i))) ∧ St β [] w' := by
 refine enter (n := 12) Try.func62 rfl Try.ntmps62 rfl ?_ hw
 refine csr ?_
 refine lv e_assign ?_
 refine lnc ?_
 refine lv e_move ?_
 refine lv e_move ?_
 refine lcf (cl0 (vs := [.int .i64 (2), Nx (i)]) tf134 rfl rfl) rfl fun w β1 sb kn hw1 back => (mark2_ok β1 w hw1 i (by omega)).mono ?_
 rintro e w' ⟨rfl, hw'⟩
 refine ⟨_, rfl, _, back _ _ hw', ?_⟩
 clear hw1 hw' back kn sb
 refine lv (v := Ux (U ((9000027 + i : Nat) : Int))) (e_conv (a := ((9000027 + i : Nat) : Int)) rfl ⟨_, tf1⟩ tf2 (ux_of _)) ?_
 refine lv (v := Ux ((U ((9000027 + i : Nat) : Int)) * (11400714819323198485 : UInt64))) (e_mul (a := ((U ((9000027 + i : Nat) : Int)).toNat : Int)) (b := ((11400714819323198485 : UInt64).toNat : Int)) rfl rfl (ux_mul _ _)) ?_
 refine lv (v := Ux (((U ((9000027 + i : Nat) : Int)) * (11400714819323198485 : UInt64)) >>> (56 : UInt64))) (e_shr (a := (((U ((9000027 + i : Nat) : Int)) * (11400714819323198485 : UInt64)).toNat : Int)) (b := ((56 : Nat) : Int)) rfl rfl (by decide) (ux_shr _ 56 (by decide))) ?_
 refine lv (v := Bx ((((U ((9000027 + i : Nat) : Int)) * (11400714819323198485 : UInt64)) >>> (56 : UInt64)).toUInt8)) (e_conv (a := ((((U ((9000027 + i : Nat) : Int)) * (11400714819323198485 : UInt64)) >>> (56 : UInt64)).toNat : Int)) rfl ⟨_, tf2⟩ tf8 (bx_of64 _)) ?_
 refine lv e_assign ?_
 refine lnf ?_
 refine c_ret ?_
 refine ret1 Try.results62 (v := Bx ((((U ((9000027 + i : Nat) : Int)) * (11400714819323198485 : UInt64)) >>> (56 : UInt64)).toUInt8)) rfl ?_
 intro w hw
 exact ⟨rfl, st_mask [] rfl hw⟩
set_option maxHeartbeats 4000000 in
theorem rcopied_ok (β : Base) (w : World) (hw : St β [] w) (k : KS) (vh va vb : Value) (hH : Sl U8R β.heap vh k.head) (hA : Sl U8R β.heap va k.a) (hB : Sl U8R β.heap vb k.b) (h1 : k.head.length ≤ 1048576) (h2 : k.a.length ≤ 1048576) (h3 : k.b.length ≤ 1048576) : Calls Try.prog 65 #[.agg #[vh, va, vb, Ix k.power]] w fun r w' => ∃ pH pA pB cH cA cB, r = .returned (.agg #[sB pH k.head cH, sB pA k.a cA, sB pB k.b cB, Ix k.power]) ∧ St β [rB pH k.head cH, rB pA k.a cA, rB pB k.b cB] w' := by
 obtain ⟨vha, vhc, rfl, vhl, vhm, vhe⟩ := hH.get
 obtain ⟨vaa, vac, rfl, val, vam, vae⟩ := hA.get
 obtain ⟨vba, vbc, rfl, vbl, vbm, vbe⟩ := hB.get
 refine enter (n := 19) Try.func65 rfl Try.ntmps65 rfl ?_ hw
 refine csr ?_
 refine l_mv rfl rfl rfl (m_box (v := .agg #[sB vha k.head (vhc), sB vaa k.a (vac), sB vba k.b (vbc), Ix (k.power)]) rfl) ?_
 rintro _ _ ⟨b1, rfl, rfl⟩
 refine l_mv rfl rfl rfl (m_alloc tf106) ?_
 rintro _ _ ⟨b2, rfl, rfl⟩
 refine lnf ?_
 refine c_seq ?_
 refine c_any [⟨[], [], [], [3], fun f => f 3 = .slice (some ⟨(blk (f 3)), 0, none⟩) 0 0⟩, ⟨[], [], [0], [4], fun f => f 4 = pp b1 0⟩, ⟨[1], [1], [], [5], fun f => f 5 = sB vha k.head (vhc)⟩, ⟨[0, 1, 2], [0, 2], [], [6], fun f => f 6 = sB (sla (f 6)) ([] ++ k.head) (slc (f 6))⟩, ⟨[], [], [], [7], fun f => f 7 = .slice (some ⟨(blk (f 7)), 0, none⟩) 0 0⟩, ⟨[], [], [0], [8], fun f => f 8 = pp b1 1⟩, ⟨[5], [5], [], [9], fun f => f 9 = sB vaa k.a (vac)⟩, ⟨(List.range 7), [4, 6], [], [10], fun f => f 10 = sB (sla (f 10)) ([] ++ k.a) (slc (f 10))⟩, ⟨[], [], [], [11], fun f => f 11 = .slice (some ⟨(blk (f 11)), 0, none⟩) 0 0⟩, ⟨[], [], [0], [12], fun f => f 12 = pp b1 2⟩, ⟨[9], [9], [], [13], fun f => f 13 = sB vba k.b (vbc)⟩, ⟨(List.range 11), [8, 10], [], [14], fun f => f 14 = sB (sla (f 14)) ([] ++ k.b) (slc (f 14))⟩, ⟨[0, 1, 2, 3, 5, 6, 9, 10], [], [0], [15], fun f => f 15 = pp b1 0⟩, ⟨(List.range 13), [12, 3], [], [], fun _ => True⟩, ⟨(List.range 14), [], [0], [16], fun f => f 16 = pp b1 1⟩, ⟨(List.range 15), [14, 7], [], [], fun _ => True⟩, ⟨(List.range 16), [], [0], [17], fun f => f 17 = pp b1 2⟩, ⟨(List.range 17), [16, 11], [], [], fun _ => True⟩] [⟨none, none, [], [], fun _ => pt b2 (.cells #[.slice none 0 0, .slice none 0 0, .slice none 0 0, .int .i64 (0)] 32)⟩, ⟨none, (some 13), [2, 6, 10, 13], [], fun _ => pt b1 (.cells #[sB vha k.head (vhc), sB vaa k.a (vac), sB vba k.b (vbc), Ix (k.power)] 32)⟩, ⟨(some 0), (some 3), [3], [3], fun f => pt (blk (f 3)) (.cells #[] 5)⟩, ⟨(some 3), none, [], [6], fun f => rB (sla (f 6)) ([] ++ k.head) (slc (f 6))⟩, ⟨(some 4), (some 7), [7], [7], fun f => pt (blk (f 7)) (.cells #[] 5)⟩, ⟨(some 7), none, [], [10], fun f => rB (sla (f 10)) ([] ++ k.a) (slc (f 10))⟩, ⟨(some 8), (some 11), [11], [11], fun f => pt (blk (f 11)) (.cells #[] 5)⟩, ⟨(some 11), none, [], [14], fun f => rB (sla (f 14)) ([] ++ k.b) (slc (f 14))⟩, ⟨(some 13), (some 15), [15], [6], fun f => pt b1 (.cells #[sB (sla (f 6)) ([] ++ k.head) (slc (f 6)), sB vaa k.a (vac), sB vba k.b (vbc), Ix (k.power)] 32)⟩, ⟨(some 15), (some 17), [17], [6, 10], fun f => pt b1 (.cells #[sB (sla (f 6)) ([] ++ k.head) (slc (f 6)), sB (sla (f 10)) ([] ++ k.a) (slc (f 10)), sB vba k.b (vbc), Ix (k.power)] 32)⟩, ⟨(some 17), none, [], [6, 10, 14], fun f => pt b1 (.cells #[sB (sla (f 6)) ([] ++ k.head) (slc (f 6)), sB (sla (f 10)) ([] ++ k.a) (slc (f 10)), sB (sla (f 14)) ([] ++ k.b) (slc (f 14)), Ix (k.power)] 32)⟩] [(1, pp b1 0), (2, pp b2 0)] [0, 1] [] (by kernel_rfl) (by kernel_rfl) (by kernel_rfl) (by kernel_rfl) rfl ⟨rfl, rfl, trivial⟩ ⟨?_, ?_, ?_, ?_, ?_, ?_, ?_, ?_, ?_, ?_, ?_, ?_, ?_, ?_, ?_, ?_, ?_, ?_, trivial⟩ ?_
 ·rintro f M - -
  refine ob_start (L' := M) (by rfl) rfl ?_
  refine l_mv rfl rfl rfl (m_slice0 tf12) ?_
  rintro _ _ ⟨b4, rfl, rfl⟩
  refine l_nil ?_
  exact f_owes_d rfl rfl (perm_front 0 rfl)
 ·rintro f M - ⟨i0, -⟩
  exact ob0 (up_cons (d := 1) rfl i0) rfl (e_fieldPt rfl tf20) (.refl _)
 ·rintro f M ⟨k0, -⟩ -
  exact obv (L' := pt b1 (.cells #[sB vha k.head (vhc), sB vaa k.a (vac), sB vba k.b (vbc), Ix (k.power)] 32) :: M) (up_cons (d := 4) rfl k0) rfl (e_load1 tf21 rfl (k_pt 0 rfl rfl)) (perm_front 0 rfl) (by rfl)
 ·rintro f M ⟨k0, k1, -⟩ -
  have hs3 : f 3 = .slice (some ⟨(blk (f 3)), 0, none⟩) 0 0 := k0
  refine ob_start (L' := pt (blk (f 3)) (.cells #[] 5) :: M) (by rfl) (up_cons (d := 5) (up_cons rfl hs3) k1) ?_
  refine l_conseq 0 (r' := row (.slice (some ⟨(blk (f 3)), 0, none⟩) 0 0) 5 1 0 (BX [])) rfl (fun a h => pt_row (m := 0) (by decide) rfl a h) ?_
  refine l_mv rfl rfl rfl (m_appendE (enc := fun c : UInt8 => Bx c) 0 bx_cell tf12 tf15 (v := .slice (some ⟨(blk (f 3)), 0, none⟩) 0 0) (xs := []) (ys := k.head) (ao := vha) (c := vhc) rfl rfl (by first | rfl | simp) rfl (by first | rfl | simp) (Knows.of_base (Elems.mono _ _ _) vhe) (by first | omega | (simp only [List.length_append, List.length_nil, List.length_cons, be_length] at *; omega)) (by first | omega | (simp only [List.length_append, List.length_nil, List.length_cons, be_length] at *; omega))) ?_
  rintro _ _ ⟨rp7, rc8, rfl, rfl⟩
  refine l_nil ?_
  exact f_owes_d (up_cons (d := 5) (up_cons rfl hs3) k1) rfl (perm_front 0 rfl)
 ·rintro f M - -
  refine ob_start (L' := M) (by rfl) rfl ?_
  refine l_mv rfl rfl rfl (m_slice0 tf12) ?_
  rintro _ _ ⟨b10, rfl, rfl⟩
  refine l_nil ?_
  exact f_owes_d rfl rfl (perm_front 0 rfl)
 ·rintro f M - ⟨i0, -⟩
  exact ob0 (up_cons (d := 1) rfl i0) rfl (e_fieldPt rfl tf22) (.refl _)
 ·rintro f M ⟨k0, -⟩ -
  exact obv (L' := pt b1 (.cells #[sB vha k.head (vhc), sB vaa k.a (vac), sB vba k.b (vbc), Ix (k.power)] 32) :: M) (up_cons (d := 8) rfl k0) rfl (e_load1 tf21 rfl (k_pt 0 rfl rfl)) (perm_front 0 rfl) (by rfl)
 ·rintro f M ⟨k0, k1, -⟩ -
  have hs7 : f 7 = .slice (some ⟨(blk (f 7)), 0, none⟩) 0 0 := k0
  refine ob_start (L' := pt (blk (f 7)) (.cells #[] 5) :: M) (by rfl) (up_cons (d := 9) (up_cons rfl hs7) k1) ?_
  refine l_conseq 0 (r' := row (.slice (some ⟨(blk (f 7)), 0, none⟩) 0 0) 5 1 0 (BX [])) rfl (fun a h => pt_row (m := 0) (by decide) rfl a h) ?_
  refine l_mv rfl rfl rfl (m_appendE (enc := fun c : UInt8 => Bx c) 0 bx_cell tf12 tf15 (v := .slice (some ⟨(blk (f 7)), 0, none⟩) 0 0) (xs := []) (ys := k.a) (ao := vaa) (c := vac) rfl rfl (by first | rfl | simp) rfl (by first | rfl | simp) (Knows.of_base (Elems.mono _ _ _) vae) (by first | omega | (simp only [List.length_append, List.length_nil, List.length_cons, be_length] at *; omega)) (by first | omega | (simp only [List.length_append, List.length_nil, List.length_cons, be_length] at *; omega))) ?_
  rintro _ _ ⟨rp13, rc14, rfl, rfl⟩
  refine l_nil ?_
  exact f_owes_d (up_cons (d := 9) (up_cons rfl hs7) k1) rfl (perm_front 0 rfl)
 ·rintro f M - -
  refine ob_start (L' := M) (by rfl) rfl ?_
  refine l_mv rfl rfl rfl (m_slice0 tf12) ?_
  rintro _ _ ⟨b16, rfl, rfl⟩
  refine l_nil ?_
  exact f_owes_d rfl rfl (perm_front 0 rfl)
 ·rintro f M - ⟨i0, -⟩
  exact ob0 (up_cons (d := 1) rfl i0) rfl (e_fieldPt rfl tf23) (.refl _)
 ·rintro f M ⟨k0, -⟩ -
  exact obv (L' := pt b1 (.cells #[sB vha k.head (vhc), sB vaa k.a (vac), sB vba k.b (vbc), Ix (k.power)] 32) :: M) (up_cons (d := 12) rfl k0) rfl (e_load1 tf21 rfl (k_pt 0 rfl rfl)) (perm_front 0 rfl) (by rfl)
 ·rintro f M ⟨k0, k1, -⟩ -
  have hs11 : f 11 = .slice (some ⟨(blk (f 11)), 0, none⟩) 0 0 := k0
  refine ob_start (L' := pt (blk (f 11)) (.cells #[] 5) :: M) (by rfl) (up_cons (d := 13) (up_cons rfl hs11) k1) ?_
  refine l_conseq 0 (r' := row (.slice (some ⟨(blk (f 11)), 0, none⟩) 0 0) 5 1 0 (BX [])) rfl (fun a h => pt_row (m := 0) (by decide) rfl a h) ?_
  refine l_mv rfl rfl rfl (m_appendE (enc := fun c : UInt8 => Bx c) 0 bx_cell tf12 tf15 (v := .slice (some ⟨(blk (f 11)), 0, none⟩) 0 0) (xs := []) (ys := k.b) (ao := vba) (c := vbc) rfl rfl (by first | rfl | simp) rfl (by first | rfl | simp) (Knows.of_base (Elems.mono _ _ _) vbe) (by first | omega | (simp only [List.length_append, List.length_nil, List.length_cons, be_length] at *; omega)) (by first | omega | (simp only [List.length_append, List.length_nil, List.length_cons, be_length] at *; omega))) ?_
  rintro _ _ ⟨rp19, rc20, rfl, rfl⟩
  refine l_nil ?_
  exact f_owes_d (up_cons (d := 13) (up_cons rfl hs11) k1) rfl (perm_front 0 rfl)
 ·rintro f M - ⟨i0, -⟩
  exact ob0 (up_cons (d := 1) rfl i0) rfl (e_fieldPt rfl tf20) (.refl _)
 ·rintro f M ⟨k0, k1, -⟩ -
  have hs6 : f 6 = sB (sla (f 6)) ([] ++ k.head) (slc (f 6)) := k1
  refine ob_start (L' := pt b1 (.cells #[sB vha k.head (vhc), sB vaa k.a (vac), sB vba k.b (vbc), Ix (k.power)] 32) :: M) (by rfl) (up_cons (up_cons (d := 15) rfl k0) hs6) ?_
  refine lu (m_store 0 tf21 (cs' := #[sB (sla (f 6)) ([] ++ k.head) (slc (f 6)), sB vaa k.a (vac), sB vba k.b (vbc), Ix (k.power)]) rfl rfl rfl rfl rfl rfl rfl) ?_
  refine l_nil ?_
  exact f_owes_n (up_cons (up_cons (d := 15) rfl k0) hs6) trivial (perm_front 0 rfl)
 ·rintro f M - ⟨i0, -⟩
  exact ob0 (up_cons (d := 1) rfl i0) rfl (e_fieldPt rfl tf22) (.refl _)
 ·rintro f M ⟨k0, k1, -⟩ -
  have hs10 : f 10 = sB (sla (f 10)) ([] ++ k.a) (slc (f 10)) := k1
  refine ob_start (L' := pt b1 (.cells #[sB (sla (f 6)) ([] ++ k.head) (slc (f 6)), sB vaa k.a (vac), sB vba k.b (vbc), Ix (k.power)] 32) :: M) (by rfl) (up_cons (up_cons (d := 16) rfl k0) hs10) ?_
  refine lu (m_store 0 tf21 (cs' := #[sB (sla (f 6)) ([] ++ k.head) (slc (f 6)), sB (sla (f 10)) ([] ++ k.a) (slc (f 10)), sB vba k.b (vbc), Ix (k.power)]) rfl rfl rfl rfl rfl rfl rfl) ?_
  refine l_nil ?_
  exact f_owes_n (up_cons (up_cons (d := 16) rfl k0) hs10) trivial (perm_front 0 rfl)
 ·rintro f M - ⟨i0, -⟩
  exact ob0 (up_cons (d := 1) rfl i0) rfl (e_fieldPt rfl tf23) (.refl _)
 ·rintro f M ⟨k0, k1, -⟩ -
  have hs14 : f 14 = sB (sla (f 14)) ([] ++ k.b) (slc (f 14)) := k1
  refine ob_start (L' := pt b1 (.cells #[sB (sla (f 6)) ([] ++ k.head) (slc (f 6)), sB (sla (f 10)) ([] ++ k.a) (slc (f 10)), sB vba k.b (vbc), Ix (k.power)] 32) :: M) (by rfl) (up_cons (up_cons (d := 17) rfl k0) hs14) ?_
  refine lu (m_store 0 tf21 (cs' := #[sB (sla (f 6)) ([] ++ k.head) (slc (f 6)), sB (sla (f 10)) ([] ++ k.a) (slc (f 10)), sB (sla (f 14)) ([] ++ k.b) (slc (f 14)), Ix (k.power)]) rfl rfl rfl rfl rfl rfl rfl) ?_
  refine l_nil ?_
  exact f_owes_n (up_cons (up_cons (d := 17) rfl k0) hs14) trivial (perm_front 0 rfl)
 rintro fa21 ⟨-, -, -, -, -, -, -, -, -, -, -, -, -, -, -, -, -, -, -⟩ ⟨j0, j1, -⟩
 refine f_re (L' := [pt b2 (.cells #[.slice none 0 0, .slice none 0 0, .slice none 0 0, .int .i64 (0)] 32), rB (sla (fa21 6)) ([] ++ k.head) (slc (fa21 6)), rB (sla (fa21 10)) ([] ++ k.a) (slc (fa21 10)), rB (sla (fa21 14)) ([] ++ k.b) (slc (fa21 14)), pt b1 (.cells #[sB (sla (fa21 6)) ([] ++ k.head) (slc (fa21 6)), sB (sla (fa21 10)) ([] ++ k.a) (slc (fa21 10)), sB (sla (fa21 14)) ([] ++ k.b) (slc (fa21 14)), Ix (k.power)] 32)]) (by rfl) ?_
 refine f_rebase (d := 1) j0 ?_
 refine f_rebase (d := 2) j1 ?_
 refine ftc ?_
 refine lv (v := .agg #[sB (sla (fa21 6)) ([] ++ k.head) (slc (fa21 6)), sB (sla (fa21 10)) ([] ++ k.a) (slc (fa21 10)), sB (sla (fa21 14)) ([] ++ k.b) (slc (fa21 14)), Ix (k.power)]) (e_load tf56 rfl (k_pt 4 rfl rfl) rfl) ?_
 refine lu (m_store 0 tf56 (cs' := #[sB (sla (fa21 6)) ([] ++ k.head) (slc (fa21 6)), sB (sla (fa21 10)) ([] ++ k.a) (slc (fa21 10)), sB (sla (fa21 14)) ([] ++ k.b) (slc (fa21 14)), Ix (k.power)]) rfl rfl rfl rfl rfl rfl rfl) ?_
 refine lnf ?_
 refine c_ret ?_
 refine retG (m := [.agg #[sB (sla (fa21 6)) ([] ++ k.head) (slc (fa21 6)), sB (sla (fa21 10)) ([] ++ k.a) (slc (fa21 10)), sB (sla (fa21 14)) ([] ++ k.b) (slc (fa21 14)), Ix (k.power)]]) Try.results65 ⟨rd_cell tf56 rfl (k_pt 0 rfl rfl) rfl, trivial⟩ rfl ?_
 intro w hw
 exact ⟨_, _, _, _, _, _, rfl, st_mask [true, true, true, false, false] rfl (hw.perm (L' := [rB (sla (fa21 6)) ([] ++ k.head) (slc (fa21 6)), rB (sla (fa21 10)) ([] ++ k.a) (slc (fa21 10)), rB (sla (fa21 14)) ([] ++ k.b) (slc (fa21 14)), pt b2 (.cells #[sB (sla (fa21 6)) ([] ++ k.head) (slc (fa21 6)), sB (sla (fa21 10)) ([] ++ k.a) (slc (fa21 10)), sB (sla (fa21 14)) ([] ++ k.b) (slc (fa21 14)), Ix (k.power)] 32), pt b1 (.cells #[sB (sla (fa21 6)) ([] ++ k.head) (slc (fa21 6)), sB (sla (fa21 10)) ([] ++ k.a) (slc (fa21 10)), sB (sla (fa21 14)) ([] ++ k.b) (slc (fa21 14)), Ix (k.power)] 32)]) (by exact (perm_ix [1, 2, 3, 0, 4] 5 rfl (by kernel_rfl) (by kernel_rfl))))⟩
end Go.Proofs
