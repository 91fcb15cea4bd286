/-
 The journal's small functions, walked. Printed by a program of my own.
-/
import Derived.Test.YtjejfkajcbdgjaaGreatJnDef
import Derived.Test.YtjejfkajcbdgjaaGreatSlJb
import Derived.Test.YtjejfkajcbdgjaaGreatProg
namespace Go.Proofs
open Go Go.Sl Go.Jn
theorem rec_bad {e : Int} {xs : Bs} {a : Option Addr} {c : Nat} (h : rbad xs) : Ending.returned (.tuple #[.int .i64 0, .slice none 0 0, .bool false]) = .returned (.tuple #[Nx (recN xs), .slice (recA a c xs) (recP xs).length (recC c xs), .bool (recB e xs)]) := by
 unfold recN recA recP recC recB
 simp [h]
theorem rec_good {e : Int} {xs : Bs} {a : Option Addr} {c : Nat} (h : ¬ rbad xs) :
  Ending.returned (.tuple #[Nx (rno xs).toNat, .slice (adv a c 16 1) (rpl xs).length (c - 16), .bool (decide (((rsum xs).toNat : Int) = ((chkU e ((rno xs).toNat : Int) (rpl xs)).toNat : Int)))]) =
  .returned (.tuple #[Nx (recN xs), .slice (recA a c xs) (recP xs).length (recC c xs), .bool (recB e xs)]) := by
 unfold recN recA recP recC recB
 simp only [if_neg h]
 rw [ux_eq]
theorem bool_d {p q : Prop} [Decidable p] [Decidable q] (h : p ↔ q) : Ending.returned (.bool (decide p)) = .returned (.bool (decide q)) := by rw [decide_eq_decide.2 h]
theorem tf0 : cfB Tryz.prog 138 = true := by kernel_rfl
theorem tf1 : Tryz.prog.underlying 3 = some (.int .i64) := by kernel_rfl
theorem tf2 : Tryz.prog.underlying 172 = some (.int .u64) := by kernel_rfl
theorem tf3 : cfB Tryz.prog 119 = true := by kernel_rfl
theorem tf4 : (Tryz.prog.info? 172).bind (·.zero) = some (.int .u64 (0)) := by kernel_rfl
theorem tf5 : tyB Tryz.prog 172 false 1 = true := by kernel_rfl
theorem tf6 : tyB Tryz.prog 9 false 1 = true := by kernel_rfl
theorem tf7 : Tryz.prog.underlying 9 = some .string := by kernel_rfl
theorem tf8 : Tryz.prog.underlying 5 = some (.int .u8) := by kernel_rfl
theorem tf9 : cfB Tryz.prog 142 = true := by kernel_rfl
theorem tf10 : cfB Tryz.prog 141 = true := by kernel_rfl
theorem tf11 : Tryz.prog.underlying 27 = some (.slice 5) := by kernel_rfl
theorem tf12 : slB Tryz.prog 27 5 1 = true := by kernel_rfl
theorem tf13 : tyB Tryz.prog 5 false 1 = true := by kernel_rfl
theorem tf14 : (Tryz.prog.info? 5).bind (·.zero) = some (.int .u8 (0)) := by kernel_rfl
theorem tf15 : elB Tryz.prog 5 1 1 = true := by kernel_rfl
theorem tf16 : cfB Tryz.prog 125 = true := by kernel_rfl
theorem tf17 : cfB Tryz.prog 92 = true := by kernel_rfl
theorem tf18 : cfB Tryz.prog 104 = true := by kernel_rfl
theorem tf19 : cfB Tryz.prog 114 = true := by kernel_rfl
theorem tf20 : fldB Tryz.prog 29 0 0 1 false = true := by kernel_rfl
theorem tf21 : tyB Tryz.prog 27 false 1 = true := by kernel_rfl
theorem tf22 : fldB Tryz.prog 29 1 1 1 false = true := by kernel_rfl
theorem tf23 : fldB Tryz.prog 29 2 2 1 false = true := by kernel_rfl
theorem tf24 : fldB Tryz.prog 29 3 3 1 false = true := by kernel_rfl
theorem tf25 : tyB Tryz.prog 3 false 1 = true := by kernel_rfl
theorem tf26 : cfB Tryz.prog 93 = true := by kernel_rfl
theorem tf27 : (Tryz.prog.info? 148).bind (·.zero) = some (.agg #[.pointer none, .pointer none]) := by kernel_rfl
theorem tf28 : arB Tryz.prog 148 2 147 1 = true := by kernel_rfl
theorem tf29 : tyB Tryz.prog 148 true 2 = true := by kernel_rfl
theorem mix_ok (β : Base) (w : World) (hw : St β [] w) (x : UInt64) : Calls Tryz.prog 138 #[Ux x] w fun r w' => r = .returned (Ux (mixU x)) ∧ St β [] w' := by
 refine enter (n := 17) Tryz.func138 rfl Tryz.ntmps138 rfl ?_ hw
 refine c_seq ?_
 refine c_region ?_
 refine l_val (v := .int .u64 (0)) rfl rfl rfl (e_assign) ?_
 refine l_nil ?_
 refine f_then ?_
 refine c_seq ?_
 refine c_region ?_
 refine l_val (v := Ux (x)) rfl rfl rfl (e_move) ?_
 refine l_val (v := Ux (x)) rfl rfl rfl (e_move) ?_
 refine l_val (v := Ux (x >>> (30 : UInt64))) rfl rfl rfl (e_shr (a := ((x).toNat : Int)) (b := ((30 : Nat) : Int)) rfl rfl (by decide) (ux_shr _ 30 (by decide))) ?_
 refine l_val (v := Ux (x ^^^ (x >>> (30 : UInt64)))) rfl rfl rfl (e_xor (a := ((x).toNat : Int)) (b := ((x >>> (30 : UInt64)).toNat : Int)) rfl rfl (ux_xor _ _)) ?_
 refine l_val (v := Ux ((x ^^^ (x >>> (30 : UInt64))) * (13787848793156543929 : UInt64))) rfl rfl rfl (e_mul (a := ((x ^^^ (x >>> (30 : UInt64))).toNat : Int)) (b := ((13787848793156543929 : UInt64).toNat : Int)) rfl rfl (ux_mul _ _)) ?_
 refine l_val (v := Ux ((x ^^^ (x >>> (30 : UInt64))) * (13787848793156543929 : UInt64))) rfl rfl rfl (e_assign) ?_
 refine l_nil ?_
 refine f_then ?_
 refine c_seq ?_
 refine c_region ?_
 refine l_val (v := Ux ((x ^^^ (x >>> (30 : UInt64))) * (13787848793156543929 : UInt64))) rfl rfl rfl (e_move) ?_
 refine l_val (v := Ux ((x ^^^ (x >>> (30 : UInt64))) * (13787848793156543929 : UInt64))) rfl rfl rfl (e_move) ?_
 refine l_val (v := Ux (((x ^^^ (x >>> (30 : UInt64))) * (13787848793156543929 : UInt64)) >>> (27 : UInt64))) rfl rfl rfl (e_shr (a := (((x ^^^ (x >>> (30 : UInt64))) * (13787848793156543929 : UInt64)).toNat : Int)) (b := ((27 : Nat) : Int)) rfl rfl (by decide) (ux_shr _ 27 (by decide))) ?_
 refine l_val (v := Ux (((x ^^^ (x >>> (30 : UInt64))) * (13787848793156543929 : UInt64)) ^^^ (((x ^^^ (x >>> (30 : UInt64))) * (13787848793156543929 : UInt64)) >>> (27 : UInt64)))) rfl rfl rfl (e_xor (a := (((x ^^^ (x >>> (30 : UInt64))) * (13787848793156543929 : UInt64)).toNat : Int)) (b := ((((x ^^^ (x >>> (30 : UInt64))) * (13787848793156543929 : UInt64)) >>> (27 : UInt64)).toNat : Int)) rfl rfl (ux_xor _ _)) ?_
 refine l_val (v := Ux ((((x ^^^ (x >>> (30 : UInt64))) * (13787848793156543929 : UInt64)) ^^^ (((x ^^^ (x >>> (30 : UInt64))) * (13787848793156543929 : UInt64)) >>> (27 : UInt64))) * (10723151780598845931 : UInt64))) rfl rfl rfl (e_mul (a := ((((x ^^^ (x >>> (30 : UInt64))) * (13787848793156543929 : UInt64)) ^^^ (((x ^^^ (x >>> (30 : UInt64))) * (13787848793156543929 : UInt64)) >>> (27 : UInt64))).toNat : Int)) (b := ((10723151780598845931 : UInt64).toNat : Int)) rfl rfl (ux_mul _ _)) ?_
 refine l_val (v := Ux ((((x ^^^ (x >>> (30 : UInt64))) * (13787848793156543929 : UInt64)) ^^^ (((x ^^^ (x >>> (30 : UInt64))) * (13787848793156543929 : UInt64)) >>> (27 : UInt64))) * (10723151780598845931 : UInt64))) rfl rfl rfl (e_assign) ?_
 refine l_nil ?_
 refine f_then ?_
 refine c_seq ?_
 refine c_region ?_
 refine l_val (v := Ux ((((x ^^^ (x >>> (30 : UInt64))) * (13787848793156543929 : UInt64)) ^^^ (((x ^^^ (x >>> (30 : UInt64))) * (13787848793156543929 : UInt64)) >>> (27 : UInt64))) * (10723151780598845931 : UInt64))) rfl rfl rfl (e_move) ?_
 refine l_val (v := Ux ((((x ^^^ (x >>> (30 : UInt64))) * (13787848793156543929 : UInt64)) ^^^ (((x ^^^ (x >>> (30 : UInt64))) * (13787848793156543929 : UInt64)) >>> (27 : UInt64))) * (10723151780598845931 : UInt64))) rfl rfl rfl (e_move) ?_
 refine l_val (v := Ux (((((x ^^^ (x >>> (30 : UInt64))) * (13787848793156543929 : UInt64)) ^^^ (((x ^^^ (x >>> (30 : UInt64))) * (13787848793156543929 : UInt64)) >>> (27 : UInt64))) * (10723151780598845931 : UInt64)) >>> (31 : UInt64))) rfl rfl rfl (e_shr (a := (((((x ^^^ (x >>> (30 : UInt64))) * (13787848793156543929 : UInt64)) ^^^ (((x ^^^ (x >>> (30 : UInt64))) * (13787848793156543929 : UInt64)) >>> (27 : UInt64))) * (10723151780598845931 : UInt64)).toNat : Int)) (b := ((31 : Nat) : Int)) rfl rfl (by decide) (ux_shr _ 31 (by decide))) ?_
 refine l_val (v := Ux (((((x ^^^ (x >>> (30 : UInt64))) * (13787848793156543929 : UInt64)) ^^^ (((x ^^^ (x >>> (30 : UInt64))) * (13787848793156543929 : UInt64)) >>> (27 : UInt64))) * (10723151780598845931 : UInt64)) ^^^ (((((x ^^^ (x >>> (30 : UInt64))) * (13787848793156543929 : UInt64)) ^^^ (((x ^^^ (x >>> (30 : UInt64))) * (13787848793156543929 : UInt64)) >>> (27 : UInt64))) * (10723151780598845931 : UInt64)) >>> (31 : UInt64)))) rfl rfl rfl (e_xor (a := (((((x ^^^ (x >>> (30 : UInt64))) * (13787848793156543929 : UInt64)) ^^^ (((x ^^^ (x >>> (30 : UInt64))) * (13787848793156543929 : UInt64)) >>> (27 : UInt64))) * (10723151780598845931 : UInt64)).toNat : Int)) (b := ((((((x ^^^ (x >>> (30 : UInt64))) * (13787848793156543929 : UInt64)) ^^^ (((x ^^^ (x >>> (30 : UInt64))) * (13787848793156543929 : UInt64)) >>> (27 : UInt64))) * (10723151780598845931 : UInt64)) >>> (31 : UInt64)).toNat : Int)) rfl rfl (ux_xor _ _)) ?_
 refine l_val (v := Ux (((((x ^^^ (x >>> (30 : UInt64))) * (13787848793156543929 : UInt64)) ^^^ (((x ^^^ (x >>> (30 : UInt64))) * (13787848793156543929 : UInt64)) >>> (27 : UInt64))) * (10723151780598845931 : UInt64)) ^^^ (((((x ^^^ (x >>> (30 : UInt64))) * (13787848793156543929 : UInt64)) ^^^ (((x ^^^ (x >>> (30 : UInt64))) * (13787848793156543929 : UInt64)) >>> (27 : UInt64))) * (10723151780598845931 : UInt64)) >>> (31 : UInt64)))) rfl rfl rfl (e_assign) ?_
 refine l_nil ?_
 refine f_then ?_
 refine c_ret ?_
 refine ret1 Tryz.results138 (v := Ux (((((x ^^^ (x >>> (30 : UInt64))) * (13787848793156543929 : UInt64)) ^^^ (((x ^^^ (x >>> (30 : UInt64))) * (13787848793156543929 : UInt64)) >>> (27 : UInt64))) * (10723151780598845931 : UInt64)) ^^^ (((((x ^^^ (x >>> (30 : UInt64))) * (13787848793156543929 : UInt64)) ^^^ (((x ^^^ (x >>> (30 : UInt64))) * (13787848793156543929 : UInt64)) >>> (27 : UInt64))) * (10723151780598845931 : UInt64)) >>> (31 : UInt64)))) rfl ?_
 intro w hw
 exact ⟨rfl, st_mask [] rfl hw⟩
theorem chain_ok (β : Base) (w : World) (hw : St β [] w) (x y : UInt64) : Calls Tryz.prog 119 #[Ux x, Ux y] w fun r w' => r = .returned (Ux (chainU x y)) ∧ St β [] w' := by
 refine enter (n := 11) Tryz.func119 rfl Tryz.ntmps119 rfl ?_ hw
 refine c_seq ?_
 refine c_region ?_
 refine l_val (v := .int .u64 (0)) rfl rfl rfl (e_assign) ?_
 refine l_nil ?_
 refine f_then ?_
 refine c_seq ?_
 refine c_region ?_
 refine l_val (v := Ux (x)) rfl rfl rfl (e_move) ?_
 refine l_val (v := Ux (x * (11400714819323198485 : UInt64))) rfl rfl rfl (e_mul (a := ((x).toNat : Int)) (b := ((11400714819323198485 : UInt64).toNat : Int)) rfl rfl (ux_mul _ _)) ?_
 refine l_val (v := Ux (y)) rfl rfl rfl (e_move) ?_
 refine l_val (v := Ux ((x * (11400714819323198485 : UInt64)) + y)) rfl rfl rfl (e_add (a := ((x * (11400714819323198485 : UInt64)).toNat : Int)) (b := ((y).toNat : Int)) rfl rfl (ux_add _ _)) ?_
 refine l_val (v := Ux (((x * (11400714819323198485 : UInt64)) + y) + (1 : UInt64))) rfl rfl rfl (e_add (a := (((x * (11400714819323198485 : UInt64)) + y).toNat : Int)) (b := ((1 : UInt64).toNat : Int)) rfl rfl (ux_add _ _)) ?_
 refine l_call rfl rfl rfl (cl_value (fst := []) (cap := []) (vs := [Ux (((x * (11400714819323198485 : UInt64)) + y) + (1 : UInt64))]) (all := [Ux (((x * (11400714819323198485 : UInt64)) + y) + (1 : UInt64))]) tf0 rfl rfl rfl) ?_
 intro w hw
 obtain ⟨β1, sb, kn, hw1, back⟩ := St.frame_all hw
 refine (mix_ok β1 w hw1 (((x * (11400714819323198485 : UInt64)) + y) + (1 : UInt64))).mono ?_
 rintro e w' ⟨rfl, hw'⟩
 refine ⟨_, rfl, _, back _ _ hw', ?_⟩
 clear hw hw1 hw' back kn sb
 refine l_val (v := Ux (mixU (((x * (11400714819323198485 : UInt64)) + y) + (1 : UInt64)))) rfl rfl rfl (e_assign) ?_
 refine l_nil ?_
 refine f_then ?_
 refine c_ret ?_
 refine ret1 Tryz.results119 (v := Ux (mixU (((x * (11400714819323198485 : UInt64)) + y) + (1 : UInt64)))) rfl ?_
 intro w hw
 exact ⟨rfl, st_mask [] rfl hw⟩
theorem tick_ok (β : Base) (w : World) (hw : St β [] w) (t : Int) : Calls Tryz.prog 93 #[Ix t] w fun r w' => r = .returned (Ux (tickU t)) ∧ St β [] w' := by
 refine enter (n := 6) Tryz.func93 rfl Tryz.ntmps93 rfl ?_ hw
 refine c_seq ?_
 refine c_region ?_
 refine l_val (v := .int .u64 (0)) rfl rfl rfl (e_assign) ?_
 refine l_nil ?_
 refine f_then ?_
 refine c_seq ?_
 refine c_region ?_
 refine l_val (v := Ix (t)) rfl rfl rfl (e_move) ?_
 refine l_val (v := Ux (U (t))) rfl rfl rfl (e_conv (a := (t)) rfl ⟨_, tf1⟩ tf2 (ux_of _)) ?_
 refine l_call rfl rfl rfl (cl_value (fst := []) (cap := []) (vs := [.int .u64 (0), Ux (U (t))]) (all := [.int .u64 (0), Ux (U (t))]) tf3 rfl rfl rfl) ?_
 intro w hw
 obtain ⟨β1, sb, kn, hw1, back⟩ := St.frame_all hw
 refine (chain_ok β1 w hw1 (0 : UInt64) (U (t))).mono ?_
 rintro e w' ⟨rfl, hw'⟩
 refine ⟨_, rfl, _, back _ _ hw', ?_⟩
 clear hw hw1 hw' back kn sb
 refine l_val (v := Ux (chainU (0 : UInt64) (U (t)))) rfl rfl rfl (e_assign) ?_
 refine l_nil ?_
 refine f_then ?_
 refine c_ret ?_
 refine ret1 Tryz.results93 (v := Ux (chainU (0 : UInt64) (U (t)))) rfl ?_
 intro w hw
 exact ⟨rfl, st_mask [] rfl hw⟩
theorem sequence_ok (β : Base) (w : World) (hw : St β [] w) (v : Value) (xs : List UInt64) (hs : SeqOf Tryz.prog β v (fun x => [Ux x]) (· = xs)) : Calls Tryz.prog 141 #[v] w fun r w' => r = .returned (Ux (seqU xs)) ∧ St β [] w' := by
 refine enterM (n := 14) Tryz.func141 rfl Tryz.ntmps141 rfl ?_ hw
 refine c_seq ?_
 refine c_region ?_
 refine l_val (v := .int .u64 (0)) rfl rfl rfl (e_assign) ?_
 refine l_nil ?_
 refine f_then ?_
 refine c_seq ?_
 refine c_region ?_
 refine l_mv rfl rfl rfl (m_alloc tf4) ?_
 rintro _ _ ⟨b1, rfl, rfl⟩
 refine l_mu rfl rfl (m_store 0 tf5 (b := b1) (o := 0) (T := 172) (cs := #[.int .u64 (0)]) (cs' := #[.int .u64 (0)]) (v := .int .u64 (0)) rfl rfl rfl rfl rfl rfl rfl) ?_
 refine l_nil ?_
 refine f_then ?_
 refine c_seq ?_
 refine c_seq ?_
 refine c_region ?_
 refine l_val (v := v) rfl rfl rfl (e_move) ?_
 refine l_nil ?_
 refine f_then ?_
 refine c_block ?_
 refine c_range (α := UInt64) (enc := fun x => [Ux x]) (S := (· = xs)) (ps := [6]) (I := fun (pre : List (UInt64)) (L : List Res) => L = [pt b1 (.cells #[Ux (seqF 0 pre)] 172)] ∧ (True)) (X := fun _ _ _ => False) rfl (hs) (fun _ => rfl) rfl ⟨rfl, trivial⟩ ?_ ?_ ?_
 ·rintro l β1 pre x M ext hpre ⟨rfl, -⟩
  refine c_region ?_
  refine l_val (v := Ux (x)) rfl rfl rfl (e_assign) ?_
  refine l_nil ?_
  refine f_cut (fun β2 ext2 => ?_)
  refine c_block ?_
  refine c_region ?_
  refine l_val (v := Ux (seqF 0 pre)) rfl rfl rfl (e_load1 tf5 (v := Ux (seqF 0 pre)) rfl (k_pt 0 (cs := #[Ux (seqF 0 pre)]) (vs := [Ux (seqF 0 pre)]) rfl rfl)) ?_
  refine l_val (v := Ux ((seqF 0 pre) * (11400714819323198485 : UInt64))) rfl rfl rfl (e_mul (a := ((seqF 0 pre).toNat : Int)) (b := ((11400714819323198485 : UInt64).toNat : Int)) rfl rfl (ux_mul _ _)) ?_
  refine l_val (v := Ux (x)) rfl rfl rfl (e_move) ?_
  refine l_val (v := Ux (((seqF 0 pre) * (11400714819323198485 : UInt64)) + x)) rfl rfl rfl (e_add (a := (((seqF 0 pre) * (11400714819323198485 : UInt64)).toNat : Int)) (b := ((x).toNat : Int)) rfl rfl (ux_add _ _)) ?_
  refine l_val (v := Ux ((((seqF 0 pre) * (11400714819323198485 : UInt64)) + x) + (1 : UInt64))) rfl rfl rfl (e_add (a := ((((seqF 0 pre) * (11400714819323198485 : UInt64)) + x).toNat : Int)) (b := ((1 : UInt64).toNat : Int)) rfl rfl (ux_add _ _)) ?_
  refine l_mu rfl rfl (m_store 0 tf5 (b := b1) (o := 0) (T := 172) (cs := #[Ux (seqF 0 pre)]) (cs' := #[Ux ((((seqF 0 pre) * (11400714819323198485 : UInt64)) + x) + (1 : UInt64))]) (v := Ux ((((seqF 0 pre) * (11400714819323198485 : UInt64)) + x) + (1 : UInt64))) rfl rfl rfl rfl rfl rfl rfl) ?_
  refine l_nil ?_
  refine f_block ?_
  exact fun a w ha hw => ⟨_, ⟨(by rw [seqF_snoc]; rfl), trivial⟩, hw⟩
 ·rintro D ys M hS ⟨rfl, -⟩
  subst hS
  refine f_block ?_
  refine f_then ?_
  refine c_seq ?_
  refine c_region ?_
  refine l_val (v := Ux (seqF 0 ys)) rfl rfl rfl (e_load1 tf5 (v := Ux (seqF 0 ys)) rfl (k_pt 0 (cs := #[Ux (seqF 0 ys)]) (vs := [Ux (seqF 0 ys)]) rfl rfl)) ?_
  refine l_call rfl rfl rfl (cl_value (fst := []) (cap := []) (vs := [Ux (seqF 0 ys)]) (all := [Ux (seqF 0 ys)]) tf0 rfl rfl rfl) ?_
  intro w hw
  obtain ⟨β1, sb, kn, hw1, back⟩ := St.frame_all hw
  refine (mix_ok β1 w hw1 (seqF 0 ys)).mono ?_
  rintro e w' ⟨rfl, hw'⟩
  refine ⟨_, rfl, _, back _ _ hw', ?_⟩
  clear hw hw1 hw' back kn sb
  refine l_val (v := Ux (mixU (seqF 0 ys))) rfl rfl rfl (e_assign) ?_
  refine l_nil ?_
  refine f_then ?_
  refine c_ret ?_
  refine retM 1 rfl Tryz.results141 (v := Ux (mixU (seqF 0 ys))) rfl ?_
  intro w hw
  exact ⟨rfl, st_mask [false, false] rfl hw⟩
 ·intro D c pre M h; exact h.elim
theorem bytes_ok (β : Base) (w : World) (hw : St β [] w) (s : ByteArray) : Calls Tryz.prog 142 #[.string s] w fun e w' => ∃ b, e = .returned (.func (.func 151) #[] #[.pointer (some ⟨b, 0, none⟩)]) ∧ St β [pt b (.cells #[.string s] 9)] w' := by
 refine enter (n := 4) Tryz.func142 rfl Tryz.ntmps142 rfl ?_ hw
 refine c_seq ?_
 refine c_region ?_
 refine l_mv rfl rfl rfl (m_box (v := .string (s)) rfl) ?_
 rintro _ _ ⟨b1, rfl, rfl⟩
 refine l_val (v := .nilFunc) rfl rfl rfl (e_assign) ?_
 refine l_nil ?_
 refine f_then ?_
 refine c_seq ?_
 refine c_region ?_
 refine l_val (v := .func (.func 151) #[] #[.pointer (some ⟨b1, 0, none⟩)]) rfl rfl rfl (e_func (u := []) (v := [.pointer (some ⟨b1, 0, none⟩)]) rfl rfl) ?_
 refine l_val (v := .func (.func 151) #[] #[.pointer (some ⟨b1, 0, none⟩)]) rfl rfl rfl (e_assign) ?_
 refine l_nil ?_
 refine f_then ?_
 refine c_ret ?_
 refine ret1 Tryz.results142 (v := .func (.func 151) #[] #[.pointer (some ⟨b1, 0, none⟩)]) rfl ?_
 intro w hw
 exact ⟨_, rfl, hw⟩
theorem bytes_seq (β : Base) (b : Nat) (s : ByteArray) (hb : Cs β.heap ⟨b, 0, none⟩ [.string s]) (hs : s.size ≤ 9223372036854775807) : SeqOf Tryz.prog β (.func (.func 151) #[] #[.pointer (some ⟨b, 0, none⟩)]) (fun x : UInt64 => [Ux x]) (· = wordsB s) := by
 refine ⟨151, [], [.pointer (some ⟨b, 0, none⟩)], rfl, by kernel_rfl, fun β₁ ext l J X hY M w hJ hw => ?_⟩
 have hb1 := Cs.mono _ _ _ _ ext.sub hb
 refine enter (n := 17) Tryz.func151 rfl Tryz.ntmps151 rfl ?_ hw
 refine c_seq ?_
 refine c_region ?_
 refine l_val (v := .string (s)) rfl rfl rfl (e_load1 tf6 (v := .string (s)) rfl (Knows.of_base (Cs.mono _ _) hb1)) ?_
 refine l_val (v := Nx ((s).size)) rfl rfl rfl (e_len_s (s := s) rfl tf7) ?_
 refine l_val (v := .int .i64 (0)) rfl rfl rfl (e_move) ?_
 refine l_nil ?_
 refine f_then ?_
 refine c_block ?_
 refine c_loop (fun (x_ : Nat × List Res) (f : Fm) (L : List Res) => match x_ with | (k, M) => (f 0 = yfn l ∧ f 1 = .pointer (some (⟨b, 0, none⟩)) ∧ f 5 = Nx ((s).size) ∧ f 6 = Nx (k)) ∧ L = (M) ∧ (k ≤ s.size ∧ J ((wordsB s).take (k)) M)) (fun (x_ : Nat × List Res) => match x_ with | (k, M) => s.size - k) (0, M) ?_ ?_
 ·exact ⟨⟨rfl, rfl, rfl, rfl⟩, rfl, ⟨by omega, by simpa using hJ⟩⟩
 rintro ⟨k, M⟩ f0 L0 ⟨⟨hs0, hs1, hs5, hs6⟩, hL, ⟨hk, hJ⟩⟩
 subst L0
 refine rebase (d := 0) hs0 ?_
 refine rebase (d := 1) hs1 ?_
 refine rebase (d := 5) hs5 ?_
 refine rebase (d := 6) hs6 ?_
 clear hs0 hs1 hs5 hs6
 refine c_seq ?_
 refine c_region ?_
 refine l_val (v := .bool (decide (((k : Nat) : Int) < (((s).size : Nat) : Int)))) rfl rfl rfl (e_lss (a := ((k : Nat) : Int)) (b := (((s).size : Nat) : Int)) rfl rfl) ?_
 refine l_nil ?_
 refine f_then ?_
 refine c_seq ?_
 refine c_if (((k : Nat) : Int) < (((s).size : Nat) : Int)) rfl (fun hc1 => ?_) (fun hc1 => ?_)
 ·
  refine c_skip ?_
  refine f_then ?_
  refine c_seq ?_
  refine c_block ?_
  refine c_seq ?_
  refine c_region ?_
  refine l_val (v := Nx (k)) rfl rfl rfl (e_move) ?_
  refine l_val (v := Nx (k)) rfl rfl rfl (e_assign) ?_
  refine l_nil ?_
  refine f_then ?_
  refine c_seq ?_
  refine c_region ?_
  refine l_val (v := yfn l) rfl rfl rfl (e_move) ?_
  refine l_val (v := .string (s)) rfl rfl rfl (e_load1 tf6 (v := .string (s)) rfl (Knows.of_base (Cs.mono _ _) hb1)) ?_
  refine l_val (v := Nx (k)) rfl rfl rfl (e_move) ?_
  obtain ⟨c2, hc3⟩ : ∃ c, (s).data.toList[k]? = some c := ⟨_, List.getElem?_eq_getElem (by simp; omega)⟩
  refine l_val (v := Bx (c2)) rfl rfl rfl (e_index_s (s := s) (k := k) (c := c2) rfl rfl tf7 hc3) ?_
  refine l_val (v := Ux (c2.toUInt64)) rfl rfl rfl (e_conv (a := ((c2).toNat : Int)) rfl ⟨_, tf8⟩ tf2 (ux_of8 _)) ?_
  refine l_yield (own := []) (M := M) (d := 14) (enc := fun x => [Ux x]) (pre := (wordsB s).take k) (x := c2.toUInt64) rfl rfl rfl rfl hY (⟨_, rfl, take_prefix (by simp [wordsB, hc3])⟩) hJ (fun M1 hJ1 => ?_) (fun M1 hX1 => ?_)
  ·
   refine l_val (v := .bool false) rfl rfl rfl (e_not (a := true) rfl) ?_
   refine l_nil ?_
   refine f_then ?_
   refine c_no rfl ?_
   refine c_skip ?_
   refine f_block ?_
   refine f_then ?_
   refine c_region ?_
   refine l_val (v := Nx (k + 1)) rfl rfl rfl (e_add (a := ((k : Nat) : Int)) (b := (1 : Int)) rfl rfl (i64n (by omega) (by omega))) ?_
   refine l_val (v := Nx (k + 1)) rfl rfl rfl (e_move) ?_
   refine l_nil ?_
   exact f_cut ⟨(k + 1, M1), ⟨⟨rfl, rfl, rfl, rfl⟩, rfl, ⟨by omega, by rw [take_succ (a := c2.toUInt64) (by simp [wordsB, hc3])]; exact hJ1⟩⟩, (show s.size - (k + 1) < s.size - k from by omega)⟩
  ·
   refine l_val (v := .bool true) rfl rfl rfl (e_not (a := false) rfl) ?_
   refine l_nil ?_
   refine f_then ?_
   refine c_yes rfl ?_
   refine c_ret ?_
   refine f_block_ret ?_
   refine f_then_ret ?_
   refine f_then_ret ?_
   refine f_block_ret ?_
   refine ret0 Tryz.results151 ?_
   intro w hw
   exact ⟨⟨_, rfl⟩, .inr ⟨_, M1, hX1, st_mask [] rfl hw⟩⟩
 ·
  refine c_exit ?_
  refine f_then_exit ?_
  refine f_then_exit ?_
  refine f_exit ?_
  refine end0 Tryz.results151 ?_
  intro w hw
  exact ⟨⟨_, rfl⟩, .inl ⟨_, M, rfl, (by rw [List.take_of_length_le (by simp [wordsB]; omega)] at hJ; exact hJ), st_mask [] rfl hw⟩⟩
theorem name_ok (β : Base) (w : World) (hw : St β [] w) (s : ByteArray) (hs : s.size ≤ 9223372036854775807) : Calls Tryz.prog 125 #[.string s] w fun r w' => r = .returned (Ux (seqU (wordsB s))) ∧ St β [] w' := by
 refine enter (n := 6) Tryz.func125 rfl Tryz.ntmps125 rfl ?_ hw
 refine c_seq ?_
 refine c_region ?_
 refine l_val (v := .int .u64 (0)) rfl rfl rfl (e_assign) ?_
 refine l_nil ?_
 refine f_then ?_
 refine c_seq ?_
 refine c_region ?_
 refine l_val (v := .string (s)) rfl rfl rfl (e_move) ?_
 refine l_call rfl rfl rfl (cl_value (fst := []) (cap := []) (vs := [.string (s)]) (all := [.string (s)]) tf9 rfl rfl rfl) ?_
 intro w hw
 obtain ⟨β1, sb, kn, hw1, back⟩ := St.frame_all hw
 refine (bytes_ok β1 w hw1 s).mono ?_
 rintro e w' ⟨b1, rfl, hw'⟩
 refine ⟨_, rfl, _, back _ _ hw', ?_⟩
 clear hw hw1 hw' back kn sb
 refine l_call rfl rfl rfl (cl_value (fst := []) (cap := []) (vs := [.func (.func 151) #[] #[.pointer (some ⟨b1, 0, none⟩)]]) (all := [.func (.func 151) #[] #[.pointer (some ⟨b1, 0, none⟩)]]) tf10 rfl rfl rfl) ?_
 intro w hw
 obtain ⟨β1, sb, kn, hw1, back⟩ := St.frame_all hw
 have hsq := bytes_seq β1 b1 s (kn _ (k_pt 0 (cs := #[.string (s)]) (vs := [.string (s)]) rfl rfl)) (by omega)
 refine (sequence_ok β1 w hw1 _ (wordsB s) hsq).mono ?_
 rintro e w' ⟨rfl, hw'⟩
 refine ⟨_, rfl, _, back _ _ hw', ?_⟩
 clear hw hw1 hw' back kn sb
 refine l_val (v := Ux (seqU (wordsB s))) rfl rfl rfl (e_assign) ?_
 refine l_nil ?_
 refine f_then ?_
 refine c_ret ?_
 refine ret1 Tryz.results125 (v := Ux (seqU (wordsB s))) rfl ?_
 intro w hw
 exact ⟨rfl, st_mask [false] rfl hw⟩
set_option maxHeartbeats 4000000 in
theorem word_ok (β : Base) (w : World) (hw : St β [] w) (xs : Bs) (v : Value) (hs : Sl U8R β.heap v xs) : Calls Tryz.prog 114 #[v] w fun r w' => r = .returned (Ux (wordU xs)) ∧ St β [] w' := by
 obtain ⟨va, vc, rfl, vl, vm, ve⟩ := hs.get
 refine enter (n := 19) Tryz.func114 rfl Tryz.ntmps114 rfl ?_ hw
 refine c_seq ?_
 refine c_region ?_
 refine l_val (v := .int .u64 (0)) rfl rfl rfl (e_assign) ?_
 refine l_nil ?_
 refine f_then ?_
 refine c_seq ?_
 refine c_region ?_
 refine l_val (v := .int .u64 (0)) rfl rfl rfl (e_assign) ?_
 refine l_nil ?_
 refine f_then ?_
 refine c_seq ?_
 refine c_seq ?_
 refine c_region ?_
 refine l_val (v := .slice va (xs.length) (vc)) rfl rfl rfl (e_move) ?_
 refine l_val (v := Nx (xs.length)) rfl rfl rfl (e_len (a := va) (n := xs.length) (c := vc) rfl tf11) ?_
 refine l_val (v := .int .i64 (0)) rfl rfl rfl (e_move) ?_
 refine l_nil ?_
 refine f_then ?_
 refine c_block ?_
 refine c_loop (fun (k : Nat) (f : Fm) (L : List Res) => (f 3 = Ux (wordF 0 (xs.take k)) ∧ f 6 = .slice va (xs.length) (vc) ∧ f 7 = Nx (xs.length) ∧ f 8 = Nx (k)) ∧ L = [] ∧ (k ≤ xs.length)) (fun (k : Nat) => xs.length - k) 0 ?_ ?_
 ·exact ⟨⟨rfl, rfl, rfl, rfl⟩, rfl, (by omega)⟩
 rintro k f0 L0 ⟨⟨hs3, hs6, hs7, hs8⟩, hL, hk⟩
 subst L0
 refine rebase (d := 3) hs3 ?_
 refine rebase (d := 6) hs6 ?_
 refine rebase (d := 7) hs7 ?_
 refine rebase (d := 8) hs8 ?_
 clear hs3 hs6 hs7 hs8
 refine c_seq ?_
 refine c_region ?_
 refine l_val (v := .bool (decide (((k : Nat) : Int) < ((xs.length : Nat) : Int)))) rfl rfl rfl (e_lss (a := ((k : Nat) : Int)) (b := ((xs.length : Nat) : Int)) rfl rfl) ?_
 refine l_nil ?_
 refine f_then ?_
 refine c_seq ?_
 refine c_if (((k : Nat) : Int) < ((xs.length : Nat) : Int)) rfl (fun hc1 => ?_) (fun hc1 => ?_)
 ·
  refine c_skip ?_
  refine f_then ?_
  refine c_seq ?_
  refine c_block ?_
  refine c_seq ?_
  refine c_region ?_
  obtain ⟨x2, hx3⟩ : ∃ x_, (xs)[k]? = some x_ := ⟨_, List.getElem?_eq_getElem (by omega)⟩
  obtain ⟨ha4, cs5, hc6, rfl⟩ := ve _ _ hx3
  refine l_val (v := .pointer (some ((ba va).add (k * 1)))) rfl rfl rfl (e_indexAddr (k := k) (len := xs.length) (cap := vc) (a := va) rfl rfl tf12 (by omega) ha4) ?_
  refine l_val (v := Bx (x2)) rfl rfl rfl (e_load1 tf13 (v := Bx (x2)) rfl (Knows.of_base (Cs.mono _ _) hc6)) ?_
  refine l_val (v := Bx (x2)) rfl rfl rfl (e_assign) ?_
  refine l_nil ?_
  refine f_then ?_
  refine c_region ?_
  refine l_val (v := Ux (wordF 0 (xs.take k))) rfl rfl rfl (e_move) ?_
  refine l_val (v := Ux ((wordF 0 (xs.take k)) <<< (8 : UInt64))) rfl rfl rfl (e_shl (a := ((wordF 0 (xs.take k)).toNat : Int)) (b := ((8 : Nat) : Int)) rfl rfl (by decide) (ux_shl _ 8 (by decide))) ?_
  refine l_val (v := Bx (x2)) rfl rfl rfl (e_move) ?_
  refine l_val (v := Ux (x2.toUInt64)) rfl rfl rfl (e_conv (a := ((x2).toNat : Int)) rfl ⟨_, tf8⟩ tf2 (ux_of8 _)) ?_
  refine l_val (v := Ux (((wordF 0 (xs.take k)) <<< (8 : UInt64)) ||| x2.toUInt64)) rfl rfl rfl (e_or (a := (((wordF 0 (xs.take k)) <<< (8 : UInt64)).toNat : Int)) (b := ((x2.toUInt64).toNat : Int)) rfl rfl (ux_or _ _)) ?_
  refine l_val (v := Ux (((wordF 0 (xs.take k)) <<< (8 : UInt64)) ||| x2.toUInt64)) rfl rfl rfl (e_assign) ?_
  refine l_nil ?_
  refine f_block ?_
  refine f_then ?_
  refine c_region ?_
  refine l_val (v := Nx (k + 1)) rfl rfl rfl (e_add (a := ((k : Nat) : Int)) (b := (1 : Int)) rfl rfl (i64n (by omega) (by omega))) ?_
  refine l_val (v := Nx (k + 1)) rfl rfl rfl (e_move) ?_
  refine l_nil ?_
  exact f_cut ⟨k + 1, ⟨⟨(show Ux (((wordF 0 (xs.take k)) <<< (8 : UInt64)) ||| x2.toUInt64) = Ux (wordF 0 (xs.take (k + 1))) by rw [take_succ hx3, wordF_snoc]), rfl, rfl, rfl⟩, rfl, (by omega)⟩, (show xs.length - (k + 1) < xs.length - k from by omega)⟩
 ·
  refine c_exit ?_
  refine f_then_exit ?_
  refine f_then_exit ?_
  refine f_exit ?_
  refine f_then ?_
  refine c_seq ?_
  refine c_region ?_
  refine l_val (v := Ux (wordF 0 (xs.take k))) rfl rfl rfl (e_move) ?_
  refine l_val (v := Ux (wordF 0 (xs.take k))) rfl rfl rfl (e_assign) ?_
  refine l_nil ?_
  refine f_then ?_
  refine c_ret ?_
  refine ret1 Tryz.results114 (v := Ux (wordF 0 (xs.take k))) rfl ?_
  intro w hw
  rw [List.take_of_length_le (show xs.length ≤ k by omega)]
  exact ⟨rfl, st_mask [] rfl hw⟩
set_option maxHeartbeats 4000000 in
theorem appended_ok (β : Base) (w : World) (p0 : Option Addr) (c0 : Nat) (bs : Bs) (n : UInt64) (sz : Nat) (hsz : sz ≤ 8) (hbs : bs.length ≤ 1099511627776) (hw : St β [row (.slice p0 (bs).length c0) 5 1 ((bs).length) (BX bs)] w) : Calls Tryz.prog 92 #[.slice p0 (bs).length c0, Ux n, Nx sz] w fun r w' => ∃ p c, r = .returned (.slice p (bs ++ be sz n).length c) ∧ St β [row (.slice p (bs ++ be sz n).length c) 5 1 (bs ++ be sz n).length (BX (bs ++ be sz n))] w' := by
 refine enter (n := 23) Tryz.func92 rfl Tryz.ntmps92 rfl ?_ hw
 refine c_seq ?_
 refine c_region ?_
 refine l_val (v := .slice none 0 0) rfl rfl rfl (e_assign) ?_
 refine l_nil ?_
 refine f_then ?_
 refine c_seq ?_
 refine c_seq ?_
 refine c_region ?_
 refine l_val (v := Nx (sz)) rfl rfl rfl (e_move) ?_
 refine l_val (v := Ix (((sz : Nat) : Int) - (1 : Int))) rfl rfl rfl (e_sub (a := ((sz : Nat) : Int)) (b := (1 : Int)) rfl rfl (i64w (by omega))) ?_
 refine l_val (v := Ix (((sz : Nat) : Int) - (1 : Int))) rfl rfl rfl (e_assign) ?_
 refine l_nil ?_
 refine f_then ?_
 refine c_block ?_
 refine c_loop (fun (x_ : Nat × Bs × Option Addr × Nat) (f : Fm) (L : List Res) => match x_ with | (r, ys, p, c) => (f 0 = .slice p (ys).length c ∧ f 1 = Ux (n) ∧ f 7 = Ix (((r : Nat) : Int) - 1)) ∧ L = [row (.slice p (ys).length c) 5 1 ((ys).length) (BX ys)] ∧ (r ≤ sz ∧ ys ++ be r n = bs ++ be sz n)) (fun (x_ : Nat × Bs × Option Addr × Nat) => match x_ with | (r, ys, p, c) => r) (sz, bs, p0, c0) ?_ ?_
 ·exact ⟨⟨rfl, rfl, rfl⟩, rfl, ⟨by omega, rfl⟩⟩
 rintro ⟨r, ys, p, c⟩ f0 L0 ⟨⟨hs0, hs1, hs7⟩, hL, ⟨hr, he⟩⟩
 subst L0
 refine rebase (d := 0) hs0 ?_
 refine rebase (d := 1) hs1 ?_
 refine rebase (d := 7) hs7 ?_
 clear hs0 hs1 hs7
 have hyl := congrArg List.length he
 simp only [List.length_append, be_length] at hyl
 refine c_seq ?_
 refine c_seq ?_
 refine c_region ?_
 refine l_val (v := Ix (((r : Nat) : Int) - 1)) rfl rfl rfl (e_move) ?_
 refine l_val (v := .bool (decide ((0 : Int) ≤ (((r : Nat) : Int) - 1)))) rfl rfl rfl (e_geq (a := (((r : Nat) : Int) - 1)) (b := (0 : Int)) rfl rfl) ?_
 refine l_nil ?_
 refine f_then ?_
 refine c_if ((0 : Int) ≤ (((r : Nat) : Int) - 1)) rfl (fun hc1 => ?_) (fun hc1 => ?_)
 ·
  refine c_skip ?_
  refine f_then ?_
  refine c_seq ?_
  refine c_block ?_
  obtain ⟨q, hq⟩ : ∃ q, r = q + 1 := ⟨r - 1, by omega⟩
  subst hq
  refine rebase (d := 7) (v := Nx q) (congrArg (Value.int .i64) (by omega)) ?_
  refine c_region ?_
  refine l_val (v := .slice p (ys).length c) rfl rfl rfl (e_move) ?_
  refine l_val (v := Ux (n)) rfl rfl rfl (e_move) ?_
  refine l_val (v := Nx (q)) rfl rfl rfl (e_move) ?_
  refine l_val (v := Nx (8 * q)) rfl rfl rfl (e_mul (a := (8 : Int)) (b := ((q : Nat) : Int)) rfl rfl (i64n (by omega) (by omega))) ?_
  refine l_val (v := Ux (n >>> UInt64.ofNat (8 * q))) rfl rfl rfl (e_shr (a := ((n).toNat : Int)) (b := ((8 * q : Nat) : Int)) rfl rfl (by omega) (ux_shr _ (8 * q) (by omega))) ?_
  refine l_val (v := Bx ((n >>> UInt64.ofNat (8 * q)).toUInt8)) rfl rfl rfl (e_conv (a := ((n >>> UInt64.ofNat (8 * q)).toNat : Int)) rfl ⟨_, tf2⟩ tf8 (bx_of64 _)) ?_
  refine l_mv rfl rfl rfl (m_slices tf12 tf14 (vs := [(0, Bx ((n >>> UInt64.ofNat (8 * q)).toUInt8))]) (cells := #[Bx ((n >>> UInt64.ofNat (8 * q)).toUInt8)]) rfl rfl rfl rfl) ?_
  rintro _ _ ⟨b2, rfl, rfl⟩
  refine l_mv rfl rfl rfl (m_appendE (enc := fun c : UInt8 => Bx c) 1 bx_cell tf12 tf15 (v := .slice p (ys).length c) (xs := ys) (ys := [((n >>> UInt64.ofNat (8 * q)).toUInt8)]) (ao := some ⟨b2, 0, none⟩) (c := 1) rfl rfl (by first | rfl | simp) rfl (by first | rfl | simp) (k_ptE 0 (xs := [((n >>> UInt64.ofNat (8 * q)).toUInt8)]) rfl) (by first | omega | (simp only [List.length_append, List.length_nil, List.length_cons, be_length] at *; omega)) (by first | omega | (simp only [List.length_append, List.length_nil, List.length_cons, be_length] at *; omega))) ?_
  rintro _ _ ⟨rp3, rc4, rfl, rfl⟩
  refine l_val (v := .slice rp3 (ys ++ [((n >>> UInt64.ofNat (8 * q)).toUInt8)]).length rc4) rfl rfl rfl (e_assign) ?_
  refine l_nil ?_
  refine f_block ?_
  refine f_then ?_
  refine c_region ?_
  refine l_val (v := Nx (q)) rfl rfl rfl (e_move) ?_
  refine l_val (v := Ix (((q : Nat) : Int) - (1 : Int))) rfl rfl rfl (e_sub (a := ((q : Nat) : Int)) (b := (1 : Int)) rfl rfl (i64w (by omega))) ?_
  refine l_val (v := Ix (((q : Nat) : Int) - (1 : Int))) rfl rfl rfl (e_assign) ?_
  refine l_nil ?_
  refine f_mask (L' := [row (.slice rp3 (ys ++ [((n >>> UInt64.ofNat (8 * q)).toUInt8)]).length rc4) 5 1 ((ys ++ [((n >>> UInt64.ofNat (8 * q)).toUInt8)]).length) (BX (ys ++ [((n >>> UInt64.ofNat (8 * q)).toUInt8)]))]) [false, true] rfl ?_
  exact f_cut ⟨(q, (ys ++ [(n >>> UInt64.ofNat (8 * q)).toUInt8]), rp3, rc4), ⟨⟨rfl, rfl, (congrArg (Value.int .i64) (by omega))⟩, rfl, ⟨by omega, by rw [← he]; simp [be]⟩⟩, (show q < q + 1 from Nat.lt_succ_self q)⟩
 ·
  refine c_exit ?_
  refine f_then_exit ?_
  refine f_then_exit ?_
  refine f_exit ?_
  refine f_then ?_
  refine c_seq ?_
  refine c_region ?_
  refine l_val (v := .slice p (ys).length c) rfl rfl rfl (e_move) ?_
  refine l_val (v := .slice p (ys).length c) rfl rfl rfl (e_assign) ?_
  refine l_nil ?_
  refine f_then ?_
  refine c_ret ?_
  refine ret1 Tryz.results92 (v := .slice p (ys).length c) rfl ?_
  intro w hw
  have hz : r = 0 := by omega
  subst hz
  have he : ys = bs ++ be sz n := by simpa [be] using he
  subst he
  exact ⟨_, _, rfl, st_mask [true] rfl hw⟩
theorem appended0_ok (β : Base) (w : World) (hw : St β [] w) (n : UInt64) (sz : Nat) (hsz : sz ≤ 8) : Calls Tryz.prog 92 #[.slice none 0 0, Ux n, Nx sz] w fun r w' => ∃ p c, r = .returned (.slice p (be sz n).length c) ∧ St β [row (.slice p (be sz n).length c) 5 1 (be sz n).length (BX (be sz n))] w' := by
 exact appended_ok β w none 0 [] n sz hsz (by simp) (hw.emp (row_nil _ _ _))
theorem check_ok (β : Base) (w : World) (hw : St β [] w) (e n : Int) (xs : Bs) (v : Value) (hs : Sl U8R β.heap v xs) : Calls Tryz.prog 104 #[Ix e, Ix n, v] w fun r w' => r = .returned (Ux (chkU e n xs)) ∧ St β [] w' := by
 obtain ⟨va, vc, rfl, vl, vm, ve⟩ := hs.get
 refine enter (n := 16) Tryz.func104 rfl Tryz.ntmps104 rfl ?_ hw
 refine c_seq ?_
 refine c_region ?_
 refine l_val (v := .int .u64 (0)) rfl rfl rfl (e_assign) ?_
 refine l_nil ?_
 refine f_then ?_
 refine c_seq ?_
 refine c_region ?_
 refine l_val (v := .slice va (xs.length) (vc)) rfl rfl rfl (e_move) ?_
 refine l_val (v := .string (str xs)) rfl rfl rfl (e_bytesStr (a := va) (bs := xs) (m := xs.length) (c := vc) rfl (by first | rfl | simp) tf11 tf8 tf7 (Knows.of_base (Elems.mono _ _ _) ve)) ?_
 refine l_call rfl rfl rfl (cl_value (fst := []) (cap := []) (vs := [.string (str xs)]) (all := [.string (str xs)]) tf16 rfl rfl rfl) ?_
 intro w hw
 obtain ⟨β1, sb, kn, hw1, back⟩ := St.frame_all hw
 refine (name_ok β1 w hw1 (str xs) (show (xs.length : Nat) ≤ _ by omega)).mono ?_
 rintro e w' ⟨rfl, hw'⟩
 refine ⟨_, rfl, _, back _ _ hw', ?_⟩
 clear hw hw1 hw' back kn sb
 refine l_val (v := Ix (n)) rfl rfl rfl (e_move) ?_
 refine l_val (v := Ux (U (n))) rfl rfl rfl (e_conv (a := (n)) rfl ⟨_, tf1⟩ tf2 (ux_of _)) ?_
 refine l_call rfl rfl rfl (cl_value (fst := []) (cap := []) (vs := [Ux (nameU xs), Ux (U (n))]) (all := [Ux (nameU xs), Ux (U (n))]) tf3 rfl rfl rfl) ?_
 intro w hw
 obtain ⟨β1, sb, kn, hw1, back⟩ := St.frame_all hw
 refine (chain_ok β1 w hw1 (nameU xs) (U (n))).mono ?_
 rintro e w' ⟨rfl, hw'⟩
 refine ⟨_, rfl, _, back _ _ hw', ?_⟩
 clear hw hw1 hw' back kn sb
 refine l_val (v := Ix (e)) rfl rfl rfl (e_move) ?_
 refine l_val (v := Ux (U (e))) rfl rfl rfl (e_conv (a := (e)) rfl ⟨_, tf1⟩ tf2 (ux_of _)) ?_
 refine l_call rfl rfl rfl (cl_value (fst := []) (cap := []) (vs := [Ux (chainU (nameU xs) (U (n))), Ux (U (e))]) (all := [Ux (chainU (nameU xs) (U (n))), Ux (U (e))]) tf3 rfl rfl rfl) ?_
 intro w hw
 obtain ⟨β1, sb, kn, hw1, back⟩ := St.frame_all hw
 refine (chain_ok β1 w hw1 (chainU (nameU xs) (U (n))) (U (e))).mono ?_
 rintro e w' ⟨rfl, hw'⟩
 refine ⟨_, rfl, _, back _ _ hw', ?_⟩
 clear hw hw1 hw' back kn sb
 refine l_val (v := Ux (chainU (chainU (nameU xs) (U (n))) (U (e)))) rfl rfl rfl (e_assign) ?_
 refine l_nil ?_
 refine f_then ?_
 refine c_ret ?_
 refine ret1 Tryz.results104 (v := Ux (chainU (chainU (nameU xs) (U (n))) (U (e)))) rfl ?_
 intro w hw
 exact ⟨rfl, st_mask [] rfl hw⟩
set_option maxHeartbeats 4000000 in
theorem form_ok (β : Base) (w : World) (hw : St β [] w) (e n : Int) (xs : Bs) (v : Value) (hx : xs.length ≤ 1048576) (hs : Sl U8R β.heap v xs) : Calls Tryz.prog 61 #[Ix e, Ix n, v] w fun r w' => ∃ p c, r = .returned (.slice p (formB e n xs).length c) ∧ St β [row (.slice p (formB e n xs).length c) 5 1 (formB e n xs).length (BX (formB e n xs))] w' := by
 obtain ⟨va, vc, rfl, vl, vm, ve⟩ := hs.get
 refine enter (n := 29) Tryz.func61 rfl Tryz.ntmps61 rfl ?_ hw
 refine c_seq ?_
 refine c_region ?_
 refine l_val (v := .slice none 0 0) rfl rfl rfl (e_assign) ?_
 refine l_nil ?_
 refine f_then ?_
 refine c_seq ?_
 refine c_region ?_
 refine l_val (v := .slice va (xs.length) (vc)) rfl rfl rfl (e_move) ?_
 refine l_val (v := Nx (xs.length)) rfl rfl rfl (e_len (a := va) (n := xs.length) (c := vc) rfl tf11) ?_
 refine l_val (v := Ux (U ((xs.length : Nat) : Int))) rfl rfl rfl (e_conv (a := ((xs.length : Nat) : Int)) rfl ⟨_, tf1⟩ tf2 (ux_of _)) ?_
 refine l_val (v := Ux (U ((xs.length : Nat) : Int))) rfl rfl rfl (e_assign) ?_
 refine l_nil ?_
 refine f_then ?_
 refine c_seq ?_
 refine c_region ?_
 refine l_val (v := Ux (U ((xs.length : Nat) : Int))) rfl rfl rfl (e_move) ?_
 refine l_call rfl rfl rfl (cl_value (fst := []) (cap := []) (vs := [.slice none 0 0, Ux (U ((xs.length : Nat) : Int)), .int .i64 (4)]) (all := [.slice none 0 0, Ux (U ((xs.length : Nat) : Int)), .int .i64 (4)]) tf17 rfl rfl rfl) ?_
 intro w hw
 obtain ⟨β1, sb, kn, hw1, back⟩ := St.frame_all hw
 refine (appended0_ok β1 w hw1 (U ((xs.length : Nat) : Int)) 4 (by decide)).mono ?_
 rintro e w' ⟨p1, c2, rfl, hw'⟩
 refine ⟨_, rfl, _, back _ _ hw', ?_⟩
 clear hw hw1 hw' back kn sb
 refine l_val (v := Ux (U ((xs.length : Nat) : Int))) rfl rfl rfl (e_move) ?_
 refine l_val (v := Ux (~~~(U ((xs.length : Nat) : Int)))) rfl rfl rfl (e_not64 (a := U ((xs.length : Nat) : Int)) rfl) ?_
 refine l_call rfl rfl rfl (cl_value (fst := []) (cap := []) (vs := [.slice p1 (be 4 (U ((xs.length : Nat) : Int))).length c2, Ux (~~~(U ((xs.length : Nat) : Int))), .int .i64 (4)]) (all := [.slice p1 (be 4 (U ((xs.length : Nat) : Int))).length c2, Ux (~~~(U ((xs.length : Nat) : Int))), .int .i64 (4)]) tf17 rfl rfl rfl) ?_
 intro w hw
 replace hw := hw.perm (L' := _ :: []) (by exact (perm_front 0 rfl))
 obtain ⟨β1, sb, kn, hw1, back⟩ := St.frame (L := [_]) (M := []) hw
 refine (appended_ok β1 w _ _ (be 4 (U ((xs.length : Nat) : Int))) (~~~(U ((xs.length : Nat) : Int))) 4 (by decide) (by simp only [List.length_append, be_length]; omega) hw1).mono ?_
 rintro e w' ⟨p3, c4, rfl, hw'⟩
 refine ⟨_, rfl, _, back _ _ hw', ?_⟩
 clear hw hw1 hw' back kn sb
 refine l_val (v := .slice p3 ((be 4 (U ((xs.length : Nat) : Int))) ++ be 4 (~~~(U ((xs.length : Nat) : Int)))).length c4) rfl rfl rfl (e_assign) ?_
 refine l_nil ?_
 refine f_then ?_
 refine c_seq ?_
 refine c_region ?_
 refine l_val (v := .slice p3 ((be 4 (U ((xs.length : Nat) : Int))) ++ be 4 (~~~(U ((xs.length : Nat) : Int)))).length c4) rfl rfl rfl (e_move) ?_
 refine l_val (v := Ix (n)) rfl rfl rfl (e_move) ?_
 refine l_val (v := Ux (U (n))) rfl rfl rfl (e_conv (a := (n)) rfl ⟨_, tf1⟩ tf2 (ux_of _)) ?_
 refine l_call rfl rfl rfl (cl_value (fst := []) (cap := []) (vs := [.slice p3 ((be 4 (U ((xs.length : Nat) : Int))) ++ be 4 (~~~(U ((xs.length : Nat) : Int)))).length c4, Ux (U (n)), .int .i64 (8)]) (all := [.slice p3 ((be 4 (U ((xs.length : Nat) : Int))) ++ be 4 (~~~(U ((xs.length : Nat) : Int)))).length c4, Ux (U (n)), .int .i64 (8)]) tf17 rfl rfl rfl) ?_
 intro w hw
 replace hw := hw.perm (L' := _ :: []) (by exact (perm_front 0 rfl))
 obtain ⟨β1, sb, kn, hw1, back⟩ := St.frame (L := [_]) (M := []) hw
 refine (appended_ok β1 w _ _ ((be 4 (U ((xs.length : Nat) : Int))) ++ be 4 (~~~(U ((xs.length : Nat) : Int)))) (U (n)) 8 (by decide) (by simp only [List.length_append, be_length]; omega) hw1).mono ?_
 rintro e w' ⟨p5, c6, rfl, hw'⟩
 refine ⟨_, rfl, _, back _ _ hw', ?_⟩
 clear hw hw1 hw' back kn sb
 refine l_val (v := .slice va (xs.length) (vc)) rfl rfl rfl (e_move) ?_
 refine l_mv rfl rfl rfl (m_appendE (enc := fun c : UInt8 => Bx c) 0 bx_cell tf12 tf15 (v := .slice p5 (((be 4 (U ((xs.length : Nat) : Int))) ++ be 4 (~~~(U ((xs.length : Nat) : Int)))) ++ be 8 (U (n))).length c6) (xs := ((be 4 (U ((xs.length : Nat) : Int))) ++ be 4 (~~~(U ((xs.length : Nat) : Int)))) ++ be 8 (U (n))) (ys := xs) (ao := va) (c := vc) rfl rfl (by first | rfl | simp) rfl (by first | rfl | simp) (Knows.of_base (Elems.mono _ _ _) ve) (by first | omega | (simp only [List.length_append, List.length_nil, List.length_cons, be_length] at *; omega)) (by first | omega | (simp only [List.length_append, List.length_nil, List.length_cons, be_length] at *; omega))) ?_
 rintro _ _ ⟨rp7, rc8, rfl, rfl⟩
 refine l_val (v := .slice rp7 ((((be 4 (U ((xs.length : Nat) : Int))) ++ be 4 (~~~(U ((xs.length : Nat) : Int)))) ++ be 8 (U (n))) ++ xs).length rc8) rfl rfl rfl (e_assign) ?_
 refine l_nil ?_
 refine f_then ?_
 refine c_seq ?_
 refine c_region ?_
 refine l_val (v := .slice rp7 ((((be 4 (U ((xs.length : Nat) : Int))) ++ be 4 (~~~(U ((xs.length : Nat) : Int)))) ++ be 8 (U (n))) ++ xs).length rc8) rfl rfl rfl (e_move) ?_
 refine l_val (v := Ix (e)) rfl rfl rfl (e_move) ?_
 refine l_val (v := Ix (n)) rfl rfl rfl (e_move) ?_
 refine l_val (v := .slice va (xs.length) (vc)) rfl rfl rfl (e_move) ?_
 refine l_call rfl rfl rfl (cl_value (fst := []) (cap := []) (vs := [Ix (e), Ix (n), .slice va (xs.length) (vc)]) (all := [Ix (e), Ix (n), .slice va (xs.length) (vc)]) tf18 rfl rfl rfl) ?_
 intro w hw
 obtain ⟨β1, sb, kn, hw1, back⟩ := St.frame_all hw
 refine (check_ok β1 w hw1 (e) (n) xs _ (Sl.mono _ _ _ _ _ sb (⟨⟨_, _, rfl, vl, vm, ve⟩⟩ : Sl U8R _ _ xs))).mono ?_
 rintro e w' ⟨rfl, hw'⟩
 refine ⟨_, rfl, _, back _ _ hw', ?_⟩
 clear hw hw1 hw' back kn sb
 refine l_call rfl rfl rfl (cl_value (fst := []) (cap := []) (vs := [.slice rp7 ((((be 4 (U ((xs.length : Nat) : Int))) ++ be 4 (~~~(U ((xs.length : Nat) : Int)))) ++ be 8 (U (n))) ++ xs).length rc8, Ux (chkU (e) (n) xs), .int .i64 (8)]) (all := [.slice rp7 ((((be 4 (U ((xs.length : Nat) : Int))) ++ be 4 (~~~(U ((xs.length : Nat) : Int)))) ++ be 8 (U (n))) ++ xs).length rc8, Ux (chkU (e) (n) xs), .int .i64 (8)]) tf17 rfl rfl rfl) ?_
 intro w hw
 replace hw := hw.perm (L' := _ :: []) (by exact (perm_front 0 rfl))
 obtain ⟨β1, sb, kn, hw1, back⟩ := St.frame (L := [_]) (M := []) hw
 refine (appended_ok β1 w _ _ ((((be 4 (U ((xs.length : Nat) : Int))) ++ be 4 (~~~(U ((xs.length : Nat) : Int)))) ++ be 8 (U (n))) ++ xs) (chkU (e) (n) xs) 8 (by decide) (by simp only [List.length_append, be_length]; omega) hw1).mono ?_
 rintro e w' ⟨p9, c10, rfl, hw'⟩
 refine ⟨_, rfl, _, back _ _ hw', ?_⟩
 clear hw hw1 hw' back kn sb
 refine l_val (v := .slice p9 (((((be 4 (U ((xs.length : Nat) : Int))) ++ be 4 (~~~(U ((xs.length : Nat) : Int)))) ++ be 8 (U (n))) ++ xs) ++ be 8 (chkU (e) (n) xs)).length c10) rfl rfl rfl (e_assign) ?_
 refine l_nil ?_
 refine f_then ?_
 refine c_ret ?_
 refine ret1 Tryz.results61 (v := .slice p9 (((((be 4 (U ((xs.length : Nat) : Int))) ++ be 4 (~~~(U ((xs.length : Nat) : Int)))) ++ be 8 (U (n))) ++ xs) ++ be 8 (chkU (e) (n) xs)).length c10) rfl ?_
 intro w hw
 exact ⟨_, _, rfl, st_mask [true] rfl hw⟩
theorem clone_ok (β : Base) (w : World) (hw : St β [] w) (xs : Bs) (v : Value) (hx : xs.length ≤ 1048576) (hs : Sl U8R β.heap v xs) : Calls Tryz.prog 66 #[v] w fun r w' => ∃ p c, r = .returned (.slice p xs.length c) ∧ St β [row (.slice p xs.length c) 5 1 xs.length (BX xs)] w' := by
 obtain ⟨va, vc, rfl, vl, vm, ve⟩ := hs.get
 refine enter (n := 8) Tryz.func66 rfl Tryz.ntmps66 rfl ?_ hw
 refine c_seq ?_
 refine c_region ?_
 refine l_val (v := .slice none 0 0) rfl rfl rfl (e_assign) ?_
 refine l_nil ?_
 refine f_then ?_
 refine c_seq ?_
 refine c_seq ?_
 cases va with
 | none =>
  have hxs : xs = [] := by cases xs with | nil => rfl | cons a l => exact absurd (elems_some ve (by simp)) (by simp)
  subst hxs
  refine c_region ?_
  refine l_val (v := .slice none ([].length) (vc)) rfl rfl rfl (e_move) ?_
  refine l_val (v := .bool true) rfl rfl rfl (e_eql_snil (a := none) rfl rfl tf11) ?_
  refine l_nil ?_
  refine f_then ?_
  refine c_yes rfl ?_
  refine c_seq ?_
  refine c_region ?_
  refine l_val (v := .slice none 0 0) rfl rfl rfl (e_assign) ?_
  refine l_nil ?_
  refine f_then ?_
  refine c_ret ?_
  refine f_then_ret ?_
  refine ret1 Tryz.results66 (v := .slice none 0 0) rfl ?_
  intro w hw
  exact ⟨none, 0, rfl, hw.emp (row_nil _ _ _)⟩
 | some ad =>
  refine c_region ?_
  refine l_val (v := .slice (some ad) (xs.length) (vc)) rfl rfl rfl (e_move) ?_
  refine l_val (v := .bool false) rfl rfl rfl (e_eql_snil (a := (some ad)) rfl rfl tf11) ?_
  refine l_nil ?_
  refine f_then ?_
  refine c_no rfl ?_
  refine c_skip ?_
  refine f_then ?_
  refine c_seq ?_
  refine c_region ?_
  refine l_mv rfl rfl rfl (m_slice0 tf12) ?_
  rintro _ _ ⟨b1, rfl, rfl⟩
  refine l_val (v := .slice (some ad) (xs.length) (vc)) rfl rfl rfl (e_move) ?_
  refine l_conseq 0 (r' := row (.slice (some ⟨b1, 0, none⟩) 0 0) 5 1 0 (BX [])) rfl (fun a h => pt_row (m := 0) (by decide) rfl a h) ?_
  refine l_mv rfl rfl rfl (m_appendE (enc := fun c : UInt8 => Bx c) 0 bx_cell tf12 tf15 (v := .slice (some ⟨b1, 0, none⟩) 0 0) (xs := []) (ys := xs) (ao := (some ad)) (c := vc) rfl rfl (by first | rfl | simp) rfl (by first | rfl | simp) (Knows.of_base (Elems.mono _ _ _) ve) (by first | omega | (simp only [List.length_append, List.length_nil, List.length_cons, be_length] at *; omega)) (by first | omega | (simp only [List.length_append, List.length_nil, List.length_cons, be_length] at *; omega))) ?_
  rintro _ _ ⟨rp2, rc3, rfl, rfl⟩
  refine l_val (v := .slice rp2 ([] ++ xs).length rc3) rfl rfl rfl (e_assign) ?_
  refine l_nil ?_
  refine f_then ?_
  refine c_ret ?_
  refine ret1 Tryz.results66 (v := .slice rp2 ([] ++ xs).length rc3) rfl ?_
  intro w hw
  exact ⟨_, _, rfl, st_mask [true] rfl hw⟩
set_option maxHeartbeats 4000000 in
theorem record_ok (β : Base) (w : World) (hw : St β [] w) (e : Int) (xs : Bs) (a : Option Addr) (c : Nat) (hl : xs.length ≤ c) (hm : c ≤ 9223372036854775807) (he : Elems U8R β.heap a xs) : Calls Tryz.prog 83 #[Ix e, .slice a xs.length c] w fun r w' => r = .returned (.tuple #[Nx (recN xs), .slice (recA a c xs) (recP xs).length (recC c xs), .bool (recB e xs)]) ∧ St β [] w' := by
 refine enter (n := 68) Tryz.func83 rfl Tryz.ntmps83 rfl ?_ hw
 refine c_seq ?_
 refine c_region ?_
 refine l_val (v := .int .i64 (0)) rfl rfl rfl (e_assign) ?_
 refine l_val (v := .slice none 0 0) rfl rfl rfl (e_assign) ?_
 refine l_val (v := .bool false) rfl rfl rfl (e_assign) ?_
 refine l_nil ?_
 refine f_then ?_
 refine c_seq ?_
 refine c_seq ?_
 refine c_region ?_
 refine l_val (v := .slice a (xs.length) (c)) rfl rfl rfl (e_move) ?_
 refine l_val (v := Nx (xs.length)) rfl rfl rfl (e_len (a := a) (n := xs.length) (c := c) rfl tf11) ?_
 refine l_val (v := .bool (decide (((xs.length : Nat) : Int) < (24 : Int)))) rfl rfl rfl (e_lss (a := ((xs.length : Nat) : Int)) (b := (24 : Int)) rfl rfl) ?_
 refine l_nil ?_
 refine f_then ?_
 refine c_if (((xs.length : Nat) : Int) < (24 : Int)) rfl (fun hc1 => ?_) (fun hc1 => ?_)
 ·
  refine c_seq ?_
  refine c_region ?_
  refine l_val (v := .int .i64 (0)) rfl rfl rfl (e_assign) ?_
  refine l_val (v := .slice none 0 0) rfl rfl rfl (e_assign) ?_
  refine l_val (v := .bool false) rfl rfl rfl (e_assign) ?_
  refine l_nil ?_
  refine f_then ?_
  refine c_ret ?_
  refine f_then_ret ?_
  refine ret3 (v := .int .i64 (0)) (v' := .slice none 0 0) (v'' := .bool false) Tryz.results83 rfl rfl rfl ?_
  intro w hw
  exact ⟨rec_bad (.inl hc1), st_mask [] rfl hw⟩
 ·
  refine c_skip ?_
  refine f_then ?_
  refine c_seq ?_
  refine c_quiet (by kernel_rfl) (by kernel_rfl) ?_
  refine q_val (v := .slice a (xs.length) (c)) rfl rfl rfl (e_move) ?_
  obtain ⟨zs2, hz3⟩ : ∃ zs, zs = (xs.take 4) := ⟨_, rfl⟩
  have zl4 : zs2.length = min 4 (xs).length - 0 := by rw [hz3]; simp; try omega
  have ze5 := (Elems.take 4 he)
  rw [← hz3] at ze5
  refine q_val (v := .slice a (zs2.length) (c)) rfl rfl rfl (ev_eq (by rw [show zs2.length = 4 by omega]) (e_slice_hi (a := a) (len := xs.length) (cap := c) (h := 4) tf12 rfl rfl (by omega))) ?_
  refine q_call (v := Ux (wordU zs2)) rfl rfl rfl (cl_value (fst := []) (cap := []) (vs := [.slice a (zs2.length) (c)]) (all := [.slice a (zs2.length) (c)]) tf19 rfl rfl rfl) (fun w hw => ?_) ?_
  ·obtain ⟨β1, sb, kn, hw1, back⟩ := St.frame_all hw
   exact (word_ok β1 w hw1 zs2 _ (Sl.mono _ _ _ _ _ sb (⟨⟨_, _, rfl, by omega, by omega, ze5⟩⟩ : Sl U8R _ _ zs2))).mono (fun e w' ⟨he, hw'⟩ => ⟨he, st_mask [] rfl (back _ _ hw')⟩)
  refine q_val (v := .slice a (xs.length) (c)) rfl rfl rfl (e_move) ?_
  obtain ⟨zs6, hz7⟩ : ∃ zs, zs = ((xs.take 8).drop 4) := ⟨_, rfl⟩
  have zl8 : zs6.length = min 8 (xs).length - 4 := by rw [hz7]; simp; try omega
  have ze9 := (Elems.drop (cap := c) 4 (by first | omega | (simp; omega)) (Elems.take 8 he))
  rw [← hz7] at ze9
  refine q_val (v := .slice (adv a c 4 1) (zs6.length) ((c - 4))) rfl rfl rfl (ev_eq (by rw [show zs6.length = 8 - 4 by omega]) (e_slice_lh (a := a) (len := xs.length) (cap := c) (l := 4) (h := 8) tf12 rfl rfl rfl (by omega) (by omega))) ?_
  refine q_call (v := Ux (wordU zs6)) rfl rfl rfl (cl_value (fst := []) (cap := []) (vs := [.slice (adv a c 4 1) (zs6.length) ((c - 4))]) (all := [.slice (adv a c 4 1) (zs6.length) ((c - 4))]) tf19 rfl rfl rfl) (fun w hw => ?_) ?_
  ·obtain ⟨β1, sb, kn, hw1, back⟩ := St.frame_all hw
   exact (word_ok β1 w hw1 zs6 _ (Sl.mono _ _ _ _ _ sb (⟨⟨_, _, rfl, by omega, by omega, ze9⟩⟩ : Sl U8R _ _ zs6))).mono (fun e w' ⟨he, hw'⟩ => ⟨he, st_mask [] rfl (back _ _ hw')⟩)
  refine q_val (v := .slice a (xs.length) (c)) rfl rfl rfl (e_move) ?_
  obtain ⟨zs10, hz11⟩ : ∃ zs, zs = ((xs.take 16).drop 8) := ⟨_, rfl⟩
  have zl12 : zs10.length = min 16 (xs).length - 8 := by rw [hz11]; simp; try omega
  have ze13 := (Elems.drop (cap := c) 8 (by first | omega | (simp; omega)) (Elems.take 16 he))
  rw [← hz11] at ze13
  refine q_val (v := .slice (adv a c 8 1) (zs10.length) ((c - 8))) rfl rfl rfl (ev_eq (by rw [show zs10.length = 16 - 8 by omega]) (e_slice_lh (a := a) (len := xs.length) (cap := c) (l := 8) (h := 16) tf12 rfl rfl rfl (by omega) (by omega))) ?_
  refine q_call (v := Ux (wordU zs10)) rfl rfl rfl (cl_value (fst := []) (cap := []) (vs := [.slice (adv a c 8 1) (zs10.length) ((c - 8))]) (all := [.slice (adv a c 8 1) (zs10.length) ((c - 8))]) tf19 rfl rfl rfl) (fun w hw => ?_) ?_
  ·obtain ⟨β1, sb, kn, hw1, back⟩ := St.frame_all hw
   exact (word_ok β1 w hw1 zs10 _ (Sl.mono _ _ _ _ _ sb (⟨⟨_, _, rfl, by omega, by omega, ze13⟩⟩ : Sl U8R _ _ zs10))).mono (fun e w' ⟨he, hw'⟩ => ⟨he, st_mask [] rfl (back _ _ hw')⟩)
  refine q_val (v := Ux (wordU zs2)) rfl rfl rfl (e_assign) ?_
  refine q_val (v := Ux (wordU zs6)) rfl rfl rfl (e_assign) ?_
  refine q_val (v := Ux (wordU zs10)) rfl rfl rfl (e_assign) ?_
  refine q_nil ?_
  refine f_then ?_
  refine c_seq ?_
  refine c_seq ?_
  refine c_region ?_
  refine l_val (v := Ux (wordU zs2)) rfl rfl rfl (e_move) ?_
  refine l_val (v := Ux (wordU zs6)) rfl rfl rfl (e_move) ?_
  refine l_val (v := Ux ((wordU zs2) ^^^ (wordU zs6))) rfl rfl rfl (e_xor (a := ((wordU zs2).toNat : Int)) (b := ((wordU zs6).toNat : Int)) rfl rfl (ux_xor _ _)) ?_
  refine l_val (v := .bool (decide ((((wordU zs2) ^^^ (wordU zs6)).toNat : Int) ≠ (4294967295 : Int)))) rfl rfl rfl (e_neq (a := (((wordU zs2) ^^^ (wordU zs6)).toNat : Int)) (b := (4294967295 : Int)) rfl rfl) ?_
  refine l_val (v := .bool (decide ((((wordU zs2) ^^^ (wordU zs6)).toNat : Int) ≠ (4294967295 : Int)))) rfl rfl rfl (e_move) ?_
  refine l_split (s := 28) (p := (((wordU zs2) ^^^ (wordU zs6)).toNat : Int) ≠ (4294967295 : Int)) rfl (fun hg14 => ?_) (fun hg14 => ?_)
  ·
   refine l_skip rfl rfl rfl rfl rfl rfl ?_
   refine l_skip rfl rfl rfl rfl rfl rfl ?_
   refine l_val (v := .bool true) rfl rfl rfl (e_pick_t rfl) ?_
   refine l_val (v := .bool true) rfl rfl rfl (e_move) ?_
   refine l_skip rfl rfl rfl rfl rfl rfl ?_
   refine l_skip rfl rfl rfl rfl rfl rfl ?_
   refine l_skip rfl rfl rfl rfl rfl rfl ?_
   refine l_skip rfl rfl rfl rfl rfl rfl ?_
   refine l_skip rfl rfl rfl rfl rfl rfl ?_
   refine l_skip rfl rfl rfl rfl rfl rfl ?_
   refine l_val (v := .bool true) rfl rfl rfl (e_pick_t rfl) ?_
   refine l_val (v := .bool true) rfl rfl rfl (e_move) ?_
   refine l_skip rfl rfl rfl rfl rfl rfl ?_
   refine l_skip rfl rfl rfl rfl rfl rfl ?_
   refine l_val (v := .bool true) rfl rfl rfl (e_pick_t rfl) ?_
   refine l_nil ?_
   refine f_then ?_
   refine c_yes rfl ?_
   refine c_seq ?_
   refine c_region ?_
   refine l_val (v := .int .i64 (0)) rfl rfl rfl (e_assign) ?_
   refine l_val (v := .slice none 0 0) rfl rfl rfl (e_assign) ?_
   refine l_val (v := .bool false) rfl rfl rfl (e_assign) ?_
   refine l_nil ?_
   refine f_then ?_
   refine c_ret ?_
   refine f_then_ret ?_
   refine ret3 (v := .int .i64 (0)) (v' := .slice none 0 0) (v'' := .bool false) Tryz.results83 rfl rfl rfl ?_
   intro w hw
   subst hz3
   subst hz7
   subst hz11
   exact ⟨rec_bad (.inr (.inl hg14)), st_mask [] rfl hw⟩
  ·
   refine g_val (v := Ux (wordU zs2)) rfl rfl rfl rfl rfl (e_move) ?_
   refine g_val (v := .bool (decide ((65536 : Int) < ((wordU zs2).toNat : Int)))) rfl rfl rfl rfl rfl (e_gtr (a := ((wordU zs2).toNat : Int)) (b := (65536 : Int)) rfl rfl) ?_
   refine l_val (v := .bool (decide ((65536 : Int) < ((wordU zs2).toNat : Int)))) rfl rfl rfl (e_pick_f rfl) ?_
   refine l_val (v := .bool (decide ((65536 : Int) < ((wordU zs2).toNat : Int)))) rfl rfl rfl (e_move) ?_
   refine l_split (s := 32) (p := (65536 : Int) < ((wordU zs2).toNat : Int)) rfl (fun hg15 => ?_) (fun hg15 => ?_)
   ·
    refine l_skip rfl rfl rfl rfl rfl rfl ?_
    refine l_skip rfl rfl rfl rfl rfl rfl ?_
    refine l_skip rfl rfl rfl rfl rfl rfl ?_
    refine l_skip rfl rfl rfl rfl rfl rfl ?_
    refine l_skip rfl rfl rfl rfl rfl rfl ?_
    refine l_skip rfl rfl rfl rfl rfl rfl ?_
    refine l_val (v := .bool true) rfl rfl rfl (e_pick_t rfl) ?_
    refine l_val (v := .bool true) rfl rfl rfl (e_move) ?_
    refine l_skip rfl rfl rfl rfl rfl rfl ?_
    refine l_skip rfl rfl rfl rfl rfl rfl ?_
    refine l_val (v := .bool true) rfl rfl rfl (e_pick_t rfl) ?_
    refine l_nil ?_
    refine f_then ?_
    refine c_yes rfl ?_
    refine c_seq ?_
    refine c_region ?_
    refine l_val (v := .int .i64 (0)) rfl rfl rfl (e_assign) ?_
    refine l_val (v := .slice none 0 0) rfl rfl rfl (e_assign) ?_
    refine l_val (v := .bool false) rfl rfl rfl (e_assign) ?_
    refine l_nil ?_
    refine f_then ?_
    refine c_ret ?_
    refine f_then_ret ?_
    refine ret3 (v := .int .i64 (0)) (v' := .slice none 0 0) (v'' := .bool false) Tryz.results83 rfl rfl rfl ?_
    intro w hw
    subst hz3
    subst hz7
    subst hz11
    exact ⟨rec_bad (.inr (.inr (.inl hg15))), st_mask [] rfl hw⟩
   ·
    refine g_val (v := Ux (wordU zs2)) rfl rfl rfl rfl rfl (e_move) ?_
    refine g_val (v := Nx ((wordU zs2).toNat)) rfl rfl rfl rfl rfl (e_conv (a := ((wordU zs2).toNat : Int)) rfl ⟨_, tf2⟩ tf1 (i64n rfl (by omega))) ?_
    refine g_val (v := .slice a (xs.length) (c)) rfl rfl rfl rfl rfl (e_move) ?_
    refine g_val (v := Nx (xs.length)) rfl rfl rfl rfl rfl (e_len (a := a) (n := xs.length) (c := c) rfl tf11) ?_
    refine g_val (v := Ix (((xs.length : Nat) : Int) - (24 : Int))) rfl rfl rfl rfl rfl (e_sub (a := ((xs.length : Nat) : Int)) (b := (24 : Int)) rfl rfl (i64w (by omega))) ?_
    refine g_val (v := .bool (decide ((((xs.length : Nat) : Int) - (24 : Int)) < (((wordU zs2).toNat : Nat) : Int)))) rfl rfl rfl rfl rfl (e_gtr (a := (((wordU zs2).toNat : Nat) : Int)) (b := (((xs.length : Nat) : Int) - (24 : Int))) rfl rfl) ?_
    refine l_val (v := .bool (decide ((((xs.length : Nat) : Int) - (24 : Int)) < (((wordU zs2).toNat : Nat) : Int)))) rfl rfl rfl (e_pick_f rfl) ?_
    refine l_val (v := .bool (decide ((((xs.length : Nat) : Int) - (24 : Int)) < (((wordU zs2).toNat : Nat) : Int)))) rfl rfl rfl (e_move) ?_
    refine l_split (s := 40) (p := (((xs.length : Nat) : Int) - (24 : Int)) < (((wordU zs2).toNat : Nat) : Int)) rfl (fun hg16 => ?_) (fun hg16 => ?_)
    ·
     refine l_skip rfl rfl rfl rfl rfl rfl ?_
     refine l_skip rfl rfl rfl rfl rfl rfl ?_
     refine l_val (v := .bool true) rfl rfl rfl (e_pick_t rfl) ?_
     refine l_nil ?_
     refine f_then ?_
     refine c_yes rfl ?_
     refine c_seq ?_
     refine c_region ?_
     refine l_val (v := .int .i64 (0)) rfl rfl rfl (e_assign) ?_
     refine l_val (v := .slice none 0 0) rfl rfl rfl (e_assign) ?_
     refine l_val (v := .bool false) rfl rfl rfl (e_assign) ?_
     refine l_nil ?_
     refine f_then ?_
     refine c_ret ?_
     refine f_then_ret ?_
     refine ret3 (v := .int .i64 (0)) (v' := .slice none 0 0) (v'' := .bool false) Tryz.results83 rfl rfl rfl ?_
     intro w hw
     subst hz3
     subst hz7
     subst hz11
     exact ⟨rec_bad (.inr (.inr (.inr (.inl hg16)))), st_mask [] rfl hw⟩
    ·
     refine g_val (v := Ux (wordU zs10)) rfl rfl rfl rfl rfl (e_move) ?_
     refine g_val (v := .bool (decide ((4611686018427387904 : Int) < ((wordU zs10).toNat : Int)))) rfl rfl rfl rfl rfl (e_gtr (a := ((wordU zs10).toNat : Int)) (b := (4611686018427387904 : Int)) rfl rfl) ?_
     refine l_val (v := .bool (decide ((4611686018427387904 : Int) < ((wordU zs10).toNat : Int)))) rfl rfl rfl (e_pick_f rfl) ?_
     refine l_nil ?_
     refine f_then ?_
     refine c_if ((4611686018427387904 : Int) < ((wordU zs10).toNat : Int)) rfl (fun hc17 => ?_) (fun hc17 => ?_)
     ·
      refine c_seq ?_
      refine c_region ?_
      refine l_val (v := .int .i64 (0)) rfl rfl rfl (e_assign) ?_
      refine l_val (v := .slice none 0 0) rfl rfl rfl (e_assign) ?_
      refine l_val (v := .bool false) rfl rfl rfl (e_assign) ?_
      refine l_nil ?_
      refine f_then ?_
      refine c_ret ?_
      refine f_then_ret ?_
      refine ret3 (v := .int .i64 (0)) (v' := .slice none 0 0) (v'' := .bool false) Tryz.results83 rfl rfl rfl ?_
      intro w hw
      subst hz3
      subst hz7
      subst hz11
      exact ⟨rec_bad (.inr (.inr (.inr (.inr hc17)))), st_mask [] rfl hw⟩
     ·
      refine c_skip ?_
      refine f_then ?_
      refine c_seq ?_
      refine c_region ?_
      refine l_val (v := .slice a (xs.length) (c)) rfl rfl rfl (e_move) ?_
      refine l_val (v := Ux (wordU zs2)) rfl rfl rfl (e_move) ?_
      refine l_val (v := Nx ((wordU zs2).toNat)) rfl rfl rfl (e_conv (a := ((wordU zs2).toNat : Int)) rfl ⟨_, tf2⟩ tf1 (i64n rfl (by omega))) ?_
      refine l_val (v := Nx (16 + ((wordU zs2).toNat))) rfl rfl rfl (e_add (a := (16 : Int)) (b := (((wordU zs2).toNat : Nat) : Int)) rfl rfl (i64n (by omega) (by omega))) ?_
      obtain ⟨zs18, hz19⟩ : ∃ zs, zs = ((xs.take (16 + ((wordU zs2).toNat))).drop 16) := ⟨_, rfl⟩
      have zl20 : zs18.length = min (16 + ((wordU zs2).toNat)) (xs).length - 16 := by rw [hz19]; simp; try omega
      have ze21 := (Elems.drop (cap := c) 16 (by first | omega | (simp; omega)) (Elems.take (16 + ((wordU zs2).toNat)) he))
      rw [← hz19] at ze21
      refine l_val (v := .slice (adv a c 16 1) (zs18.length) ((c - 16))) rfl rfl rfl (ev_eq (by rw [show zs18.length = (16 + ((wordU zs2).toNat)) - 16 by omega]) (e_slice_lh (a := a) (len := xs.length) (cap := c) (l := 16) (h := 16 + ((wordU zs2).toNat)) tf12 rfl rfl rfl (by omega) (by omega))) ?_
      refine l_val (v := .slice (adv a c 16 1) (zs18.length) ((c - 16))) rfl rfl rfl (e_assign) ?_
      refine l_nil ?_
      refine f_then ?_
      refine c_seq ?_
      refine c_region ?_
      refine l_val (v := .slice a (xs.length) (c)) rfl rfl rfl (e_move) ?_
      refine l_val (v := Ux (wordU zs2)) rfl rfl rfl (e_move) ?_
      refine l_val (v := Nx ((wordU zs2).toNat)) rfl rfl rfl (e_conv (a := ((wordU zs2).toNat : Int)) rfl ⟨_, tf2⟩ tf1 (i64n rfl (by omega))) ?_
      refine l_val (v := Nx (16 + ((wordU zs2).toNat))) rfl rfl rfl (e_add (a := (16 : Int)) (b := (((wordU zs2).toNat : Nat) : Int)) rfl rfl (i64n (by omega) (by omega))) ?_
      refine l_val (v := Ux (wordU zs2)) rfl rfl rfl (e_move) ?_
      refine l_val (v := Nx ((wordU zs2).toNat)) rfl rfl rfl (e_conv (a := ((wordU zs2).toNat : Int)) rfl ⟨_, tf2⟩ tf1 (i64n rfl (by omega))) ?_
      refine l_val (v := Nx (24 + ((wordU zs2).toNat))) rfl rfl rfl (e_add (a := (24 : Int)) (b := (((wordU zs2).toNat : Nat) : Int)) rfl rfl (i64n (by omega) (by omega))) ?_
      obtain ⟨zs22, hz23⟩ : ∃ zs, zs = ((xs.take (24 + ((wordU zs2).toNat))).drop (16 + ((wordU zs2).toNat))) := ⟨_, rfl⟩
      have zl24 : zs22.length = min (24 + ((wordU zs2).toNat)) (xs).length - (16 + ((wordU zs2).toNat)) := by rw [hz23]; simp; try omega
      have ze25 := (Elems.drop (cap := c) (16 + ((wordU zs2).toNat)) (by first | omega | (simp; omega)) (Elems.take (24 + ((wordU zs2).toNat)) he))
      rw [← hz23] at ze25
      refine l_val (v := .slice (adv a c (16 + ((wordU zs2).toNat)) 1) (zs22.length) ((c - (16 + ((wordU zs2).toNat))))) rfl rfl rfl (ev_eq (by rw [show zs22.length = (24 + ((wordU zs2).toNat)) - (16 + ((wordU zs2).toNat)) by omega]) (e_slice_lh (a := a) (len := xs.length) (cap := c) (l := 16 + ((wordU zs2).toNat)) (h := 24 + ((wordU zs2).toNat)) tf12 rfl rfl rfl (by omega) (by omega))) ?_
      refine l_call rfl rfl rfl (cl_value (fst := []) (cap := []) (vs := [.slice (adv a c (16 + ((wordU zs2).toNat)) 1) (zs22.length) ((c - (16 + ((wordU zs2).toNat))))]) (all := [.slice (adv a c (16 + ((wordU zs2).toNat)) 1) (zs22.length) ((c - (16 + ((wordU zs2).toNat))))]) tf19 rfl rfl rfl) ?_
      intro w hw
      obtain ⟨β1, sb, kn, hw1, back⟩ := St.frame_all hw
      refine (word_ok β1 w hw1 zs22 _ (Sl.mono _ _ _ _ _ sb (⟨⟨_, _, rfl, by omega, by omega, ze25⟩⟩ : Sl U8R _ _ zs22))).mono ?_
      rintro e w' ⟨rfl, hw'⟩
      refine ⟨_, rfl, _, back _ _ hw', ?_⟩
      clear hw hw1 hw' back kn sb
      refine l_val (v := Ux (wordU zs22)) rfl rfl rfl (e_assign) ?_
      refine l_nil ?_
      refine f_then ?_
      refine c_seq ?_
      refine c_region ?_
      refine l_val (v := Ux (wordU zs10)) rfl rfl rfl (e_move) ?_
      refine l_val (v := Nx ((wordU zs10).toNat)) rfl rfl rfl (e_conv (a := ((wordU zs10).toNat : Int)) rfl ⟨_, tf2⟩ tf1 (i64n rfl (by omega))) ?_
      refine l_val (v := .slice (adv a c 16 1) (zs18.length) ((c - 16))) rfl rfl rfl (e_move) ?_
      refine l_val (v := Ux (wordU zs22)) rfl rfl rfl (e_move) ?_
      refine l_val (v := Ix (e)) rfl rfl rfl (e_move) ?_
      refine l_val (v := Ux (wordU zs10)) rfl rfl rfl (e_move) ?_
      refine l_val (v := Nx ((wordU zs10).toNat)) rfl rfl rfl (e_conv (a := ((wordU zs10).toNat : Int)) rfl ⟨_, tf2⟩ tf1 (i64n rfl (by omega))) ?_
      refine l_val (v := .slice (adv a c 16 1) (zs18.length) ((c - 16))) rfl rfl rfl (e_move) ?_
      refine l_call rfl rfl rfl (cl_value (fst := []) (cap := []) (vs := [Ix (e), Nx ((wordU zs10).toNat), .slice (adv a c 16 1) (zs18.length) ((c - 16))]) (all := [Ix (e), Nx ((wordU zs10).toNat), .slice (adv a c 16 1) (zs18.length) ((c - 16))]) tf18 rfl rfl rfl) ?_
      intro w hw
      obtain ⟨β1, sb, kn, hw1, back⟩ := St.frame_all hw
      refine (check_ok β1 w hw1 (e) (((wordU zs10).toNat : Nat) : Int) zs18 _ (Sl.mono _ _ _ _ _ sb (⟨⟨_, _, rfl, by omega, by omega, ze21⟩⟩ : Sl U8R _ _ zs18))).mono ?_
      rintro e w' ⟨rfl, hw'⟩
      refine ⟨_, rfl, _, back _ _ hw', ?_⟩
      clear hw hw1 hw' back kn sb
      refine l_val (v := .bool (decide (((wordU zs22).toNat : Int) = ((chkU (e) (((wordU zs10).toNat : Nat) : Int) zs18).toNat : Int)))) rfl rfl rfl (e_eql (a := ((wordU zs22).toNat : Int)) (b := ((chkU (e) (((wordU zs10).toNat : Nat) : Int) zs18).toNat : Int)) rfl rfl) ?_
      refine l_val (v := Nx ((wordU zs10).toNat)) rfl rfl rfl (e_assign) ?_
      refine l_val (v := .slice (adv a c 16 1) (zs18.length) ((c - 16))) rfl rfl rfl (e_assign) ?_
      refine l_val (v := .bool (decide (((wordU zs22).toNat : Int) = ((chkU (e) (((wordU zs10).toNat : Nat) : Int) zs18).toNat : Int)))) rfl rfl rfl (e_assign) ?_
      refine l_nil ?_
      refine f_then ?_
      refine c_ret ?_
      refine ret3 (v := Nx ((wordU zs10).toNat)) (v' := .slice (adv a c 16 1) (zs18.length) ((c - 16))) (v'' := .bool (decide (((wordU zs22).toNat : Int) = ((chkU (e) (((wordU zs10).toNat : Nat) : Int) zs18).toNat : Int)))) Tryz.results83 rfl rfl rfl ?_
      intro w hw
      subst hz3
      subst hz7
      subst hz11
      subst hz19
      subst hz23
      have hok : ¬ rbad xs := by
       rintro (q | q | q | q | q)
       ·exact hc1 q
       ·exact hg14 q
       ·exact hg15 q
       ·exact hg16 q
       ·exact hc17 q
      exact ⟨rec_good hok, st_mask [] rfl hw⟩
set_option maxHeartbeats 4000000 in
theorem valid_ok (β : Base) (w : World) (hw : St β [] w) (k : KS) (vh va vb : Value) (hH : Sl U8R β.heap vh k.head) (hA : Sl U8R β.heap va k.a) (hB : Sl U8R β.heap vb k.b) : Calls Tryz.prog 81 #[.agg #[vh, va, vb, Ix k.power]] w fun r w' => r = .returned (.bool (decide k.okP)) ∧ St β [] w' := by
 obtain ⟨vha, vhc, rfl, vhl, vhm, vhe⟩ := hH.get
 obtain ⟨vaa, vac, rfl, val, vam, vae⟩ := hA.get
 obtain ⟨vba, vbc, rfl, vbl, vbm, vbe⟩ := hB.get
 refine enter (n := 30) Tryz.func81 rfl Tryz.ntmps81 rfl ?_ hw
 refine c_seq ?_
 refine c_region ?_
 refine l_mv rfl rfl rfl (m_box (v := .agg #[.slice vha (k.head.length) (vhc), .slice vaa (k.a.length) (vac), .slice vba (k.b.length) (vbc), Ix (k.power)]) rfl) ?_
 rintro _ _ ⟨b1, rfl, rfl⟩
 refine l_val (v := .bool false) rfl rfl rfl (e_assign) ?_
 refine l_nil ?_
 refine f_then ?_
 refine c_seq ?_
 refine c_region ?_
 refine l_val (v := .pointer (some ⟨b1, 0, none⟩)) rfl rfl rfl (e_fieldPt (b := b1) (o := 0) rfl tf20) ?_
 refine l_val (v := .slice vha (k.head.length) (vhc)) rfl rfl rfl (e_load1 tf21 (v := .slice vha (k.head.length) (vhc)) rfl (k_pt 0 (cs := #[.slice vha (k.head.length) (vhc), .slice vaa (k.a.length) (vac), .slice vba (k.b.length) (vbc), Ix (k.power)]) (vs := [.slice vha (k.head.length) (vhc)]) rfl rfl)) ?_
 refine l_val (v := Nx (k.head.length)) rfl rfl rfl (e_len (a := vha) (n := k.head.length) (c := vhc) rfl tf11) ?_
 refine l_val (v := .bool (decide (((k.head.length : Nat) : Int) = (0 : Int)))) rfl rfl rfl (e_eql (a := ((k.head.length : Nat) : Int)) (b := (0 : Int)) rfl rfl) ?_
 refine l_val (v := .bool (decide (((k.head.length : Nat) : Int) = (0 : Int)))) rfl rfl rfl (e_move) ?_
 refine l_split (s := 7) (p := ((k.head.length : Nat) : Int) = (0 : Int)) rfl (fun hg2 => ?_) (fun hg2 => ?_)
 ·
  refine l_skip rfl rfl rfl rfl rfl rfl ?_
  refine l_skip rfl rfl rfl rfl rfl rfl ?_
  refine l_skip rfl rfl rfl rfl rfl rfl ?_
  refine l_skip rfl rfl rfl rfl rfl rfl ?_
  refine l_val (v := .bool true) rfl rfl rfl (e_pick_t rfl) ?_
  refine l_val (v := .bool true) rfl rfl rfl (e_move) ?_
  refine g_val (v := .pointer (some ⟨b1, 1, none⟩)) rfl rfl rfl rfl rfl (e_fieldPt (b := b1) (o := 0) rfl tf22) ?_
  refine g_val (v := .slice vaa (k.a.length) (vac)) rfl rfl rfl rfl rfl (e_load1 tf21 (v := .slice vaa (k.a.length) (vac)) rfl (k_pt 0 (cs := #[.slice vha (k.head.length) (vhc), .slice vaa (k.a.length) (vac), .slice vba (k.b.length) (vbc), Ix (k.power)]) (vs := [.slice vaa (k.a.length) (vac)]) rfl rfl)) ?_
  refine g_val (v := Nx (k.a.length)) rfl rfl rfl rfl rfl (e_len (a := vaa) (n := k.a.length) (c := vac) rfl tf11) ?_
  refine g_val (v := .bool (decide (((k.a.length : Nat) : Int) ≤ (262144 : Int)))) rfl rfl rfl rfl rfl (e_leq (a := ((k.a.length : Nat) : Int)) (b := (262144 : Int)) rfl rfl) ?_
  refine l_val (v := .bool (decide (((k.a.length : Nat) : Int) ≤ (262144 : Int)))) rfl rfl rfl (e_pick_t rfl) ?_
  refine l_val (v := .bool (decide (((k.a.length : Nat) : Int) ≤ (262144 : Int)))) rfl rfl rfl (e_move) ?_
  refine l_split (s := 19) (p := ((k.a.length : Nat) : Int) ≤ (262144 : Int)) rfl (fun hg3 => ?_) (fun hg3 => ?_)
  ·
   refine g_val (v := .pointer (some ⟨b1, 2, none⟩)) rfl rfl rfl rfl rfl (e_fieldPt (b := b1) (o := 0) rfl tf23) ?_
   refine g_val (v := .slice vba (k.b.length) (vbc)) rfl rfl rfl rfl rfl (e_load1 tf21 (v := .slice vba (k.b.length) (vbc)) rfl (k_pt 0 (cs := #[.slice vha (k.head.length) (vhc), .slice vaa (k.a.length) (vac), .slice vba (k.b.length) (vbc), Ix (k.power)]) (vs := [.slice vba (k.b.length) (vbc)]) rfl rfl)) ?_
   refine g_val (v := Nx (k.b.length)) rfl rfl rfl rfl rfl (e_len (a := vba) (n := k.b.length) (c := vbc) rfl tf11) ?_
   refine g_val (v := .bool (decide (((k.b.length : Nat) : Int) ≤ (262144 : Int)))) rfl rfl rfl rfl rfl (e_leq (a := ((k.b.length : Nat) : Int)) (b := (262144 : Int)) rfl rfl) ?_
   refine l_val (v := .bool (decide (((k.b.length : Nat) : Int) ≤ (262144 : Int)))) rfl rfl rfl (e_pick_t rfl) ?_
   refine l_val (v := .bool (decide (((k.b.length : Nat) : Int) ≤ (262144 : Int)))) rfl rfl rfl (e_move) ?_
   refine l_split (s := 25) (p := ((k.b.length : Nat) : Int) ≤ (262144 : Int)) rfl (fun hg4 => ?_) (fun hg4 => ?_)
   ·
    refine g_val (v := .pointer (some ⟨b1, 3, none⟩)) rfl rfl rfl rfl rfl (e_fieldPt (b := b1) (o := 0) rfl tf24) ?_
    refine g_val (v := Ix (k.power)) rfl rfl rfl rfl rfl (e_load1 tf25 (v := Ix (k.power)) rfl (k_pt 0 (cs := #[.slice vha (k.head.length) (vhc), .slice vaa (k.a.length) (vac), .slice vba (k.b.length) (vbc), Ix (k.power)]) (vs := [Ix (k.power)]) rfl rfl)) ?_
    refine g_val (v := .bool (decide ((-1 : Int) ≤ (k.power)))) rfl rfl rfl rfl rfl (e_geq (a := (k.power)) (b := (-1 : Int)) rfl rfl) ?_
    refine l_val (v := .bool (decide ((-1 : Int) ≤ (k.power)))) rfl rfl rfl (e_pick_t rfl) ?_
    refine l_val (v := .bool (decide ((-1 : Int) ≤ (k.power)))) rfl rfl rfl (e_assign) ?_
    refine l_nil ?_
    refine f_then ?_
    refine c_ret ?_
    refine ret1 Tryz.results81 (v := .bool (decide ((-1 : Int) ≤ (k.power)))) rfl ?_
    intro w hw
    exact ⟨bool_d (by unfold KS.okP; omega), st_mask [false] rfl hw⟩
   ·
    refine l_skip rfl rfl rfl rfl rfl rfl ?_
    refine l_skip rfl rfl rfl rfl rfl rfl ?_
    refine l_skip rfl rfl rfl rfl rfl rfl ?_
    refine l_val (v := .bool false) rfl rfl rfl (e_pick_f rfl) ?_
    refine l_val (v := .bool false) rfl rfl rfl (e_assign) ?_
    refine l_nil ?_
    refine f_then ?_
    refine c_ret ?_
    refine ret1 Tryz.results81 (v := .bool false) rfl ?_
    intro w hw
    exact ⟨bool_f (by unfold KS.okP; omega), st_mask [false] rfl hw⟩
  ·
   refine l_skip rfl rfl rfl rfl rfl rfl ?_
   refine l_skip rfl rfl rfl rfl rfl rfl ?_
   refine l_skip rfl rfl rfl rfl rfl rfl ?_
   refine l_skip rfl rfl rfl rfl rfl rfl ?_
   refine l_val (v := .bool false) rfl rfl rfl (e_pick_f rfl) ?_
   refine l_val (v := .bool false) rfl rfl rfl (e_move) ?_
   refine l_skip rfl rfl rfl rfl rfl rfl ?_
   refine l_skip rfl rfl rfl rfl rfl rfl ?_
   refine l_skip rfl rfl rfl rfl rfl rfl ?_
   refine l_val (v := .bool false) rfl rfl rfl (e_pick_f rfl) ?_
   refine l_val (v := .bool false) rfl rfl rfl (e_assign) ?_
   refine l_nil ?_
   refine f_then ?_
   refine c_ret ?_
   refine ret1 Tryz.results81 (v := .bool false) rfl ?_
   intro w hw
   exact ⟨bool_f (by unfold KS.okP; omega), st_mask [false] rfl hw⟩
 ·
  refine g_val (v := .pointer (some ⟨b1, 0, none⟩)) rfl rfl rfl rfl rfl (e_fieldPt (b := b1) (o := 0) rfl tf20) ?_
  refine g_val (v := .slice vha (k.head.length) (vhc)) rfl rfl rfl rfl rfl (e_load1 tf21 (v := .slice vha (k.head.length) (vhc)) rfl (k_pt 0 (cs := #[.slice vha (k.head.length) (vhc), .slice vaa (k.a.length) (vac), .slice vba (k.b.length) (vbc), Ix (k.power)]) (vs := [.slice vha (k.head.length) (vhc)]) rfl rfl)) ?_
  refine g_val (v := Nx (k.head.length)) rfl rfl rfl rfl rfl (e_len (a := vha) (n := k.head.length) (c := vhc) rfl tf11) ?_
  refine g_val (v := .bool (decide (((k.head.length : Nat) : Int) = (32 : Int)))) rfl rfl rfl rfl rfl (e_eql (a := ((k.head.length : Nat) : Int)) (b := (32 : Int)) rfl rfl) ?_
  refine l_val (v := .bool (decide (((k.head.length : Nat) : Int) = (32 : Int)))) rfl rfl rfl (e_pick_f rfl) ?_
  refine l_val (v := .bool (decide (((k.head.length : Nat) : Int) = (32 : Int)))) rfl rfl rfl (e_move) ?_
  refine l_split (s := 13) (p := ((k.head.length : Nat) : Int) = (32 : Int)) rfl (fun hg5 => ?_) (fun hg5 => ?_)
  ·
   refine g_val (v := .pointer (some ⟨b1, 1, none⟩)) rfl rfl rfl rfl rfl (e_fieldPt (b := b1) (o := 0) rfl tf22) ?_
   refine g_val (v := .slice vaa (k.a.length) (vac)) rfl rfl rfl rfl rfl (e_load1 tf21 (v := .slice vaa (k.a.length) (vac)) rfl (k_pt 0 (cs := #[.slice vha (k.head.length) (vhc), .slice vaa (k.a.length) (vac), .slice vba (k.b.length) (vbc), Ix (k.power)]) (vs := [.slice vaa (k.a.length) (vac)]) rfl rfl)) ?_
   refine g_val (v := Nx (k.a.length)) rfl rfl rfl rfl rfl (e_len (a := vaa) (n := k.a.length) (c := vac) rfl tf11) ?_
   refine g_val (v := .bool (decide (((k.a.length : Nat) : Int) ≤ (262144 : Int)))) rfl rfl rfl rfl rfl (e_leq (a := ((k.a.length : Nat) : Int)) (b := (262144 : Int)) rfl rfl) ?_
   refine l_val (v := .bool (decide (((k.a.length : Nat) : Int) ≤ (262144 : Int)))) rfl rfl rfl (e_pick_t rfl) ?_
   refine l_val (v := .bool (decide (((k.a.length : Nat) : Int) ≤ (262144 : Int)))) rfl rfl rfl (e_move) ?_
   refine l_split (s := 19) (p := ((k.a.length : Nat) : Int) ≤ (262144 : Int)) rfl (fun hg6 => ?_) (fun hg6 => ?_)
   ·
    refine g_val (v := .pointer (some ⟨b1, 2, none⟩)) rfl rfl rfl rfl rfl (e_fieldPt (b := b1) (o := 0) rfl tf23) ?_
    refine g_val (v := .slice vba (k.b.length) (vbc)) rfl rfl rfl rfl rfl (e_load1 tf21 (v := .slice vba (k.b.length) (vbc)) rfl (k_pt 0 (cs := #[.slice vha (k.head.length) (vhc), .slice vaa (k.a.length) (vac), .slice vba (k.b.length) (vbc), Ix (k.power)]) (vs := [.slice vba (k.b.length) (vbc)]) rfl rfl)) ?_
    refine g_val (v := Nx (k.b.length)) rfl rfl rfl rfl rfl (e_len (a := vba) (n := k.b.length) (c := vbc) rfl tf11) ?_
    refine g_val (v := .bool (decide (((k.b.length : Nat) : Int) ≤ (262144 : Int)))) rfl rfl rfl rfl rfl (e_leq (a := ((k.b.length : Nat) : Int)) (b := (262144 : Int)) rfl rfl) ?_
    refine l_val (v := .bool (decide (((k.b.length : Nat) : Int) ≤ (262144 : Int)))) rfl rfl rfl (e_pick_t rfl) ?_
    refine l_val (v := .bool (decide (((k.b.length : Nat) : Int) ≤ (262144 : Int)))) rfl rfl rfl (e_move) ?_
    refine l_split (s := 25) (p := ((k.b.length : Nat) : Int) ≤ (262144 : Int)) rfl (fun hg7 => ?_) (fun hg7 => ?_)
    ·
     refine g_val (v := .pointer (some ⟨b1, 3, none⟩)) rfl rfl rfl rfl rfl (e_fieldPt (b := b1) (o := 0) rfl tf24) ?_
     refine g_val (v := Ix (k.power)) rfl rfl rfl rfl rfl (e_load1 tf25 (v := Ix (k.power)) rfl (k_pt 0 (cs := #[.slice vha (k.head.length) (vhc), .slice vaa (k.a.length) (vac), .slice vba (k.b.length) (vbc), Ix (k.power)]) (vs := [Ix (k.power)]) rfl rfl)) ?_
     refine g_val (v := .bool (decide ((-1 : Int) ≤ (k.power)))) rfl rfl rfl rfl rfl (e_geq (a := (k.power)) (b := (-1 : Int)) rfl rfl) ?_
     refine l_val (v := .bool (decide ((-1 : Int) ≤ (k.power)))) rfl rfl rfl (e_pick_t rfl) ?_
     refine l_val (v := .bool (decide ((-1 : Int) ≤ (k.power)))) rfl rfl rfl (e_assign) ?_
     refine l_nil ?_
     refine f_then ?_
     refine c_ret ?_
     refine ret1 Tryz.results81 (v := .bool (decide ((-1 : Int) ≤ (k.power)))) rfl ?_
     intro w hw
     exact ⟨bool_d (by unfold KS.okP; omega), st_mask [false] rfl hw⟩
    ·
     refine l_skip rfl rfl rfl rfl rfl rfl ?_
     refine l_skip rfl rfl rfl rfl rfl rfl ?_
     refine l_skip rfl rfl rfl rfl rfl rfl ?_
     refine l_val (v := .bool false) rfl rfl rfl (e_pick_f rfl) ?_
     refine l_val (v := .bool false) rfl rfl rfl (e_assign) ?_
     refine l_nil ?_
     refine f_then ?_
     refine c_ret ?_
     refine ret1 Tryz.results81 (v := .bool false) rfl ?_
     intro w hw
     exact ⟨bool_f (by unfold KS.okP; omega), st_mask [false] rfl hw⟩
   ·
    refine l_skip rfl rfl rfl rfl rfl rfl ?_
    refine l_skip rfl rfl rfl rfl rfl rfl ?_
    refine l_skip rfl rfl rfl rfl rfl rfl ?_
    refine l_skip rfl rfl rfl rfl rfl rfl ?_
    refine l_val (v := .bool false) rfl rfl rfl (e_pick_f rfl) ?_
    refine l_val (v := .bool false) rfl rfl rfl (e_move) ?_
    refine l_skip rfl rfl rfl rfl rfl rfl ?_
    refine l_skip rfl rfl rfl rfl rfl rfl ?_
    refine l_skip rfl rfl rfl rfl rfl rfl ?_
    refine l_val (v := .bool false) rfl rfl rfl (e_pick_f rfl) ?_
    refine l_val (v := .bool false) rfl rfl rfl (e_assign) ?_
    refine l_nil ?_
    refine f_then ?_
    refine c_ret ?_
    refine ret1 Tryz.results81 (v := .bool false) rfl ?_
    intro w hw
    exact ⟨bool_f (by unfold KS.okP; omega), st_mask [false] rfl hw⟩
  ·
   refine l_skip rfl rfl rfl rfl rfl rfl ?_
   refine l_skip rfl rfl rfl rfl rfl rfl ?_
   refine l_skip rfl rfl rfl rfl rfl rfl ?_
   refine l_skip rfl rfl rfl rfl rfl rfl ?_
   refine l_val (v := .bool false) rfl rfl rfl (e_pick_f rfl) ?_
   refine l_val (v := .bool false) rfl rfl rfl (e_move) ?_
   refine l_skip rfl rfl rfl rfl rfl rfl ?_
   refine l_skip rfl rfl rfl rfl rfl rfl ?_
   refine l_skip rfl rfl rfl rfl rfl rfl ?_
   refine l_skip rfl rfl rfl rfl rfl rfl ?_
   refine l_val (v := .bool false) rfl rfl rfl (e_pick_f rfl) ?_
   refine l_val (v := .bool false) rfl rfl rfl (e_move) ?_
   refine l_skip rfl rfl rfl rfl rfl rfl ?_
   refine l_skip rfl rfl rfl rfl rfl rfl ?_
   refine l_skip rfl rfl rfl rfl rfl rfl ?_
   refine l_val (v := .bool false) rfl rfl rfl (e_pick_f rfl) ?_
   refine l_val (v := .bool false) rfl rfl rfl (e_assign) ?_
   refine l_nil ?_
   refine f_then ?_
   refine c_ret ?_
   refine ret1 Tryz.results81 (v := .bool false) rfl ?_
   intro w hw
   exact ⟨bool_f (by unfold KS.okP; omega), st_mask [false] rfl hw⟩
set_option maxHeartbeats 4000000 in
theorem epoch_ok (β : Base) (w : World) (hw : St β [] w) (xs : Bs) (v : Value) (hx : xs.length ≤ 4294967296) (hs : Sl U8R β.heap v xs) : Calls Tryz.prog 82 #[v] w fun r w' => r = .returned (Nx (epochF xs)) ∧ St β [] w' := by
 obtain ⟨va, vc, rfl, vl, vm, ve⟩ := hs.get
 refine enter (n := 52) Tryz.func82 rfl Tryz.ntmps82 rfl ?_ hw
 refine c_seq ?_
 refine c_region ?_
 refine l_val (v := .int .i64 (0)) rfl rfl rfl (e_assign) ?_
 refine l_nil ?_
 refine f_then ?_
 refine c_seq ?_
 refine c_region ?_
 refine l_val (v := .int .u64 (0)) rfl rfl rfl (e_assign) ?_
 refine l_nil ?_
 refine f_then ?_
 refine c_seq ?_
 refine c_seq ?_
 refine c_region ?_
 refine l_val (v := .int .i64 (0)) rfl rfl rfl (e_assign) ?_
 refine l_nil ?_
 refine f_then ?_
 refine c_block ?_
 refine c_loop (fun (j : Nat) (f : Fm) (L : List Res) => (f 0 = .slice va (xs.length) (vc) ∧ f 3 = Ux (epLoop xs j) ∧ f 4 = Nx (j * 16)) ∧ L = [] ∧ (j * 16 ≤ xs.length)) (fun (j : Nat) => xs.length - j * 16) 0 ?_ ?_
 ·exact ⟨⟨rfl, rfl, rfl⟩, rfl, (by omega)⟩
 rintro j f0 L0 ⟨⟨hs0, hs3, hs4⟩, hL, hj⟩
 subst L0
 refine rebase (d := 0) hs0 ?_
 refine rebase (d := 3) hs3 ?_
 refine rebase (d := 4) hs4 ?_
 clear hs0 hs3 hs4
 have hlt := epLoop_lt xs j
 refine c_seq ?_
 refine c_seq ?_
 refine c_region ?_
 refine l_val (v := Nx (j * 16)) rfl rfl rfl (e_move) ?_
 refine l_val (v := Nx ((j * 16) + 16)) rfl rfl rfl (e_add (a := ((j * 16 : Nat) : Int)) (b := (16 : Int)) rfl rfl (i64n (by omega) (by omega))) ?_
 refine l_val (v := .slice va (xs.length) (vc)) rfl rfl rfl (e_move) ?_
 refine l_val (v := Nx (xs.length)) rfl rfl rfl (e_len (a := va) (n := xs.length) (c := vc) rfl tf11) ?_
 refine l_val (v := .bool (decide ((((j * 16) + 16 : Nat) : Int) ≤ ((xs.length : Nat) : Int)))) rfl rfl rfl (e_leq (a := (((j * 16) + 16 : Nat) : Int)) (b := ((xs.length : Nat) : Int)) rfl rfl) ?_
 refine l_nil ?_
 refine f_then ?_
 refine c_if ((((j * 16) + 16 : Nat) : Int) ≤ ((xs.length : Nat) : Int)) rfl (fun hc1 => ?_) (fun hc1 => ?_)
 ·
  refine c_skip ?_
  refine f_then ?_
  refine c_seq ?_
  refine c_block ?_
  refine c_seq ?_
  refine c_quiet (by kernel_rfl) (by kernel_rfl) ?_
  refine q_val (v := .slice va (xs.length) (vc)) rfl rfl rfl (e_move) ?_
  refine q_val (v := Nx (j * 16)) rfl rfl rfl (e_move) ?_
  refine q_val (v := Nx (j * 16)) rfl rfl rfl (e_move) ?_
  refine q_val (v := Nx ((j * 16) + 8)) rfl rfl rfl (e_add (a := ((j * 16 : Nat) : Int)) (b := (8 : Int)) rfl rfl (i64n (by omega) (by omega))) ?_
  obtain ⟨zs2, hz3⟩ : ∃ zs, zs = ((xs.take ((j * 16) + 8)).drop (j * 16)) := ⟨_, rfl⟩
  have zl4 : zs2.length = min ((j * 16) + 8) (xs).length - (j * 16) := by rw [hz3]; simp; try omega
  have ze5 := (Elems.drop (cap := vc) (j * 16) (by first | omega | (simp; omega)) (Elems.take ((j * 16) + 8) ve))
  rw [← hz3] at ze5
  refine q_val (v := .slice (adv va vc (j * 16) 1) (zs2.length) ((vc - (j * 16)))) rfl rfl rfl (ev_eq (by rw [show zs2.length = ((j * 16) + 8) - (j * 16) by omega]) (e_slice_lh (a := va) (len := xs.length) (cap := vc) (l := j * 16) (h := (j * 16) + 8) tf12 rfl rfl rfl (by omega) (by omega))) ?_
  refine q_call (v := Ux (wordU zs2)) rfl rfl rfl (cl_value (fst := []) (cap := []) (vs := [.slice (adv va vc (j * 16) 1) (zs2.length) ((vc - (j * 16)))]) (all := [.slice (adv va vc (j * 16) 1) (zs2.length) ((vc - (j * 16)))]) tf19 rfl rfl rfl) (fun w hw => ?_) ?_
  ·obtain ⟨β1, sb, kn, hw1, back⟩ := St.frame_all hw
   exact (word_ok β1 w hw1 zs2 _ (Sl.mono _ _ _ _ _ sb (⟨⟨_, _, rfl, by omega, by omega, ze5⟩⟩ : Sl U8R _ _ zs2))).mono (fun e w' ⟨he, hw'⟩ => ⟨he, st_mask [] rfl (back _ _ hw')⟩)
  refine q_val (v := .slice va (xs.length) (vc)) rfl rfl rfl (e_move) ?_
  refine q_val (v := Nx (j * 16)) rfl rfl rfl (e_move) ?_
  refine q_val (v := Nx ((j * 16) + 8)) rfl rfl rfl (e_add (a := ((j * 16 : Nat) : Int)) (b := (8 : Int)) rfl rfl (i64n (by omega) (by omega))) ?_
  refine q_val (v := Nx (j * 16)) rfl rfl rfl (e_move) ?_
  refine q_val (v := Nx ((j * 16) + 16)) rfl rfl rfl (e_add (a := ((j * 16 : Nat) : Int)) (b := (16 : Int)) rfl rfl (i64n (by omega) (by omega))) ?_
  obtain ⟨zs6, hz7⟩ : ∃ zs, zs = ((xs.take ((j * 16) + 16)).drop ((j * 16) + 8)) := ⟨_, rfl⟩
  have zl8 : zs6.length = min ((j * 16) + 16) (xs).length - ((j * 16) + 8) := by rw [hz7]; simp; try omega
  have ze9 := (Elems.drop (cap := vc) ((j * 16) + 8) (by first | omega | (simp; omega)) (Elems.take ((j * 16) + 16) ve))
  rw [← hz7] at ze9
  refine q_val (v := .slice (adv va vc ((j * 16) + 8) 1) (zs6.length) ((vc - ((j * 16) + 8)))) rfl rfl rfl (ev_eq (by rw [show zs6.length = ((j * 16) + 16) - ((j * 16) + 8) by omega]) (e_slice_lh (a := va) (len := xs.length) (cap := vc) (l := (j * 16) + 8) (h := (j * 16) + 16) tf12 rfl rfl rfl (by omega) (by omega))) ?_
  refine q_call (v := Ux (wordU zs6)) rfl rfl rfl (cl_value (fst := []) (cap := []) (vs := [.slice (adv va vc ((j * 16) + 8) 1) (zs6.length) ((vc - ((j * 16) + 8)))]) (all := [.slice (adv va vc ((j * 16) + 8) 1) (zs6.length) ((vc - ((j * 16) + 8)))]) tf19 rfl rfl rfl) (fun w hw => ?_) ?_
  ·obtain ⟨β1, sb, kn, hw1, back⟩ := St.frame_all hw
   exact (word_ok β1 w hw1 zs6 _ (Sl.mono _ _ _ _ _ sb (⟨⟨_, _, rfl, by omega, by omega, ze9⟩⟩ : Sl U8R _ _ zs6))).mono (fun e w' ⟨he, hw'⟩ => ⟨he, st_mask [] rfl (back _ _ hw')⟩)
  refine q_val (v := Ux (wordU zs2)) rfl rfl rfl (e_assign) ?_
  refine q_val (v := Ux (wordU zs6)) rfl rfl rfl (e_assign) ?_
  refine q_nil ?_
  refine f_then ?_
  refine c_seq ?_
  refine c_region ?_
  refine l_val (v := Ux (wordU zs2)) rfl rfl rfl (e_move) ?_
  refine l_val (v := Ux (epLoop xs j)) rfl rfl rfl (e_move) ?_
  refine l_val (v := .bool (decide (((epLoop xs j).toNat : Int) < ((wordU zs2).toNat : Int)))) rfl rfl rfl (e_gtr (a := ((wordU zs2).toNat : Int)) (b := ((epLoop xs j).toNat : Int)) rfl rfl) ?_
  refine l_val (v := .bool (decide (((epLoop xs j).toNat : Int) < ((wordU zs2).toNat : Int)))) rfl rfl rfl (e_move) ?_
  refine l_split (s := 30) (p := ((epLoop xs j).toNat : Int) < ((wordU zs2).toNat : Int)) rfl (fun hg10 => ?_) (fun hg10 => ?_)
  ·
   refine g_val (v := Ux (wordU zs2)) rfl rfl rfl rfl rfl (e_move) ?_
   refine g_val (v := .bool (decide (((wordU zs2).toNat : Int) < (4611686018427387904 : Int)))) rfl rfl rfl rfl rfl (e_lss (a := ((wordU zs2).toNat : Int)) (b := (4611686018427387904 : Int)) rfl rfl) ?_
   refine l_val (v := .bool (decide (((wordU zs2).toNat : Int) < (4611686018427387904 : Int)))) rfl rfl rfl (e_pick_t rfl) ?_
   refine l_val (v := .bool (decide (((wordU zs2).toNat : Int) < (4611686018427387904 : Int)))) rfl rfl rfl (e_move) ?_
   refine l_split (s := 34) (p := ((wordU zs2).toNat : Int) < (4611686018427387904 : Int)) rfl (fun hg11 => ?_) (fun hg11 => ?_)
   ·
    refine g_val (v := Ux (wordU zs2)) rfl rfl rfl rfl rfl (e_move) ?_
    refine g_val (v := Ux ((wordU zs2) % (2 : UInt64))) rfl rfl rfl rfl rfl (e_rem (a := ((wordU zs2).toNat : Int)) (b := ((2 : UInt64).toNat : Int)) rfl rfl (by decide) (ux_rem _ _)) ?_
    refine g_val (v := Nx (j * 16)) rfl rfl rfl rfl rfl (e_move) ?_
    refine g_val (v := Nx ((j * 16) / 16)) rfl rfl rfl rfl rfl (e_quo (a := ((j * 16 : Nat) : Int)) (b := (16 : Int)) rfl rfl (by decide) (i64n (nat_tdiv _ 16) (by omega))) ?_
    refine g_val (v := Ux (U (((j * 16) / 16 : Nat) : Int))) rfl rfl rfl rfl rfl (e_conv (a := (((j * 16) / 16 : Nat) : Int)) rfl ⟨_, tf1⟩ tf2 (ux_of _)) ?_
    refine g_val (v := .bool (decide ((((wordU zs2) % (2 : UInt64)).toNat : Int) = ((U (((j * 16) / 16 : Nat) : Int)).toNat : Int)))) rfl rfl rfl rfl rfl (e_eql (a := (((wordU zs2) % (2 : UInt64)).toNat : Int)) (b := ((U (((j * 16) / 16 : Nat) : Int)).toNat : Int)) rfl rfl) ?_
    refine l_val (v := .bool (decide ((((wordU zs2) % (2 : UInt64)).toNat : Int) = ((U (((j * 16) / 16 : Nat) : Int)).toNat : Int)))) rfl rfl rfl (e_pick_t rfl) ?_
    refine l_val (v := .bool (decide ((((wordU zs2) % (2 : UInt64)).toNat : Int) = ((U (((j * 16) / 16 : Nat) : Int)).toNat : Int)))) rfl rfl rfl (e_move) ?_
    refine l_split (s := 42) (p := (((wordU zs2) % (2 : UInt64)).toNat : Int) = ((U (((j * 16) / 16 : Nat) : Int)).toNat : Int)) rfl (fun hg12 => ?_) (fun hg12 => ?_)
    ·
     refine g_val (v := Ux (wordU zs6)) rfl rfl rfl rfl rfl (e_move) ?_
     refine g_val (v := Ux (wordU zs2)) rfl rfl rfl rfl rfl (e_move) ?_
     refine g_val (v := Nx ((wordU zs2).toNat)) rfl rfl rfl rfl rfl (e_conv (a := ((wordU zs2).toNat : Int)) rfl ⟨_, tf2⟩ tf1 (i64n rfl (by omega))) ?_
     refine g_call rfl rfl rfl rfl rfl (cl_value (fst := []) (cap := []) (vs := [Nx ((wordU zs2).toNat)]) (all := [Nx ((wordU zs2).toNat)]) tf26 rfl rfl rfl) ?_
     intro w hw
     obtain ⟨β1, sb, kn, hw1, back⟩ := St.frame_all hw
     refine (tick_ok β1 w hw1 (((wordU zs2).toNat : Nat) : Int)).mono ?_
     rintro e w' ⟨rfl, hw'⟩
     refine ⟨_, rfl, _, back _ _ hw', ?_⟩
     clear hw hw1 hw' back kn sb
     refine g_val (v := .bool (decide (((wordU zs6).toNat : Int) = ((tickU (((wordU zs2).toNat : Nat) : Int)).toNat : Int)))) rfl rfl rfl rfl rfl (e_eql (a := ((wordU zs6).toNat : Int)) (b := ((tickU (((wordU zs2).toNat : Nat) : Int)).toNat : Int)) rfl rfl) ?_
     refine l_val (v := .bool (decide (((wordU zs6).toNat : Int) = ((tickU (((wordU zs2).toNat : Nat) : Int)).toNat : Int)))) rfl rfl rfl (e_pick_t rfl) ?_
     refine l_nil ?_
     refine f_then ?_
     refine c_if (((wordU zs6).toNat : Int) = ((tickU (((wordU zs2).toNat : Nat) : Int)).toNat : Int)) rfl (fun hc13 => ?_) (fun hc13 => ?_)
     ·
      refine c_region ?_
      refine l_val (v := Ux (wordU zs2)) rfl rfl rfl (e_move) ?_
      refine l_val (v := Ux (wordU zs2)) rfl rfl rfl (e_assign) ?_
      refine l_nil ?_
      refine f_block ?_
      refine f_then ?_
      refine c_region ?_
      refine l_val (v := Nx (j * 16)) rfl rfl rfl (e_move) ?_
      refine l_val (v := Nx ((j * 16) + 16)) rfl rfl rfl (e_add (a := ((j * 16 : Nat) : Int)) (b := (16 : Int)) rfl rfl (i64n (by omega) (by omega))) ?_
      refine l_val (v := Nx ((j * 16) + 16)) rfl rfl rfl (e_assign) ?_
      refine l_nil ?_
      exact f_cut ⟨j + 1, ⟨⟨rfl, (show Ux (wordU zs2) = Ux (epLoop xs (j + 1)) by subst hz3; subst hz7; exact congrArg (fun x : UInt64 => Ux x) (ep_yes (by omega) (by omega) hg12 hc13).symm), (congrArg (fun z : Nat => Nx z) (by omega))⟩, rfl, (by omega)⟩, (show xs.length - (j + 1) * 16 < xs.length - j * 16 from by omega)⟩
     ·
      refine c_skip ?_
      refine f_block ?_
      refine f_then ?_
      refine c_region ?_
      refine l_val (v := Nx (j * 16)) rfl rfl rfl (e_move) ?_
      refine l_val (v := Nx ((j * 16) + 16)) rfl rfl rfl (e_add (a := ((j * 16 : Nat) : Int)) (b := (16 : Int)) rfl rfl (i64n (by omega) (by omega))) ?_
      refine l_val (v := Nx ((j * 16) + 16)) rfl rfl rfl (e_assign) ?_
      refine l_nil ?_
      exact f_cut ⟨j + 1, ⟨⟨rfl, (show Ux (epLoop xs j) = Ux (epLoop xs (j + 1)) by subst hz3; subst hz7; exact congrArg (fun x : UInt64 => Ux x) (ep_no3 hc13).symm), (congrArg (fun z : Nat => Nx z) (by omega))⟩, rfl, (by omega)⟩, (show xs.length - (j + 1) * 16 < xs.length - j * 16 from by omega)⟩
    ·
     refine l_skip rfl rfl rfl rfl rfl rfl ?_
     refine l_skip rfl rfl rfl rfl rfl rfl ?_
     refine l_skip rfl rfl rfl rfl rfl rfl ?_
     refine l_skip rfl rfl rfl rfl rfl rfl ?_
     refine l_skip rfl rfl rfl rfl rfl rfl ?_
     refine l_val (v := .bool false) rfl rfl rfl (e_pick_f rfl) ?_
     refine l_nil ?_
     refine f_then ?_
     refine c_no rfl ?_
     refine c_skip ?_
     refine f_block ?_
     refine f_then ?_
     refine c_region ?_
     refine l_val (v := Nx (j * 16)) rfl rfl rfl (e_move) ?_
     refine l_val (v := Nx ((j * 16) + 16)) rfl rfl rfl (e_add (a := ((j * 16 : Nat) : Int)) (b := (16 : Int)) rfl rfl (i64n (by omega) (by omega))) ?_
     refine l_val (v := Nx ((j * 16) + 16)) rfl rfl rfl (e_assign) ?_
     refine l_nil ?_
     exact f_cut ⟨j + 1, ⟨⟨rfl, (show Ux (epLoop xs j) = Ux (epLoop xs (j + 1)) by subst hz3; subst hz7; exact congrArg (fun x : UInt64 => Ux x) (ep_no2 hg12).symm), (congrArg (fun z : Nat => Nx z) (by omega))⟩, rfl, (by omega)⟩, (show xs.length - (j + 1) * 16 < xs.length - j * 16 from by omega)⟩
   ·
    refine l_skip rfl rfl rfl rfl rfl rfl ?_
    refine l_skip rfl rfl rfl rfl rfl rfl ?_
    refine l_skip rfl rfl rfl rfl rfl rfl ?_
    refine l_skip rfl rfl rfl rfl rfl rfl ?_
    refine l_skip rfl rfl rfl rfl rfl rfl ?_
    refine l_skip rfl rfl rfl rfl rfl rfl ?_
    refine l_val (v := .bool false) rfl rfl rfl (e_pick_f rfl) ?_
    refine l_val (v := .bool false) rfl rfl rfl (e_move) ?_
    refine l_skip rfl rfl rfl rfl rfl rfl ?_
    refine l_skip rfl rfl rfl rfl rfl rfl ?_
    refine l_skip rfl rfl rfl rfl rfl rfl ?_
    refine l_skip rfl rfl rfl rfl rfl rfl ?_
    refine l_skip rfl rfl rfl rfl rfl rfl ?_
    refine l_val (v := .bool false) rfl rfl rfl (e_pick_f rfl) ?_
    refine l_nil ?_
    refine f_then ?_
    refine c_no rfl ?_
    refine c_skip ?_
    refine f_block ?_
    refine f_then ?_
    refine c_region ?_
    refine l_val (v := Nx (j * 16)) rfl rfl rfl (e_move) ?_
    refine l_val (v := Nx ((j * 16) + 16)) rfl rfl rfl (e_add (a := ((j * 16 : Nat) : Int)) (b := (16 : Int)) rfl rfl (i64n (by omega) (by omega))) ?_
    refine l_val (v := Nx ((j * 16) + 16)) rfl rfl rfl (e_assign) ?_
    refine l_nil ?_
    exact f_cut ⟨j + 1, ⟨⟨rfl, (show Ux (epLoop xs j) = Ux (epLoop xs (j + 1)) by subst hz3; subst hz7; exact congrArg (fun x : UInt64 => Ux x) (ep_no1 hg11).symm), (congrArg (fun z : Nat => Nx z) (by omega))⟩, rfl, (by omega)⟩, (show xs.length - (j + 1) * 16 < xs.length - j * 16 from by omega)⟩
  ·
   refine l_skip rfl rfl rfl rfl rfl rfl ?_
   refine l_skip rfl rfl rfl rfl rfl rfl ?_
   refine l_val (v := .bool false) rfl rfl rfl (e_pick_f rfl) ?_
   refine l_val (v := .bool false) rfl rfl rfl (e_move) ?_
   refine l_skip rfl rfl rfl rfl rfl rfl ?_
   refine l_skip rfl rfl rfl rfl rfl rfl ?_
   refine l_skip rfl rfl rfl rfl rfl rfl ?_
   refine l_skip rfl rfl rfl rfl rfl rfl ?_
   refine l_skip rfl rfl rfl rfl rfl rfl ?_
   refine l_skip rfl rfl rfl rfl rfl rfl ?_
   refine l_val (v := .bool false) rfl rfl rfl (e_pick_f rfl) ?_
   refine l_val (v := .bool false) rfl rfl rfl (e_move) ?_
   refine l_skip rfl rfl rfl rfl rfl rfl ?_
   refine l_skip rfl rfl rfl rfl rfl rfl ?_
   refine l_skip rfl rfl rfl rfl rfl rfl ?_
   refine l_skip rfl rfl rfl rfl rfl rfl ?_
   refine l_skip rfl rfl rfl rfl rfl rfl ?_
   refine l_val (v := .bool false) rfl rfl rfl (e_pick_f rfl) ?_
   refine l_nil ?_
   refine f_then ?_
   refine c_no rfl ?_
   refine c_skip ?_
   refine f_block ?_
   refine f_then ?_
   refine c_region ?_
   refine l_val (v := Nx (j * 16)) rfl rfl rfl (e_move) ?_
   refine l_val (v := Nx ((j * 16) + 16)) rfl rfl rfl (e_add (a := ((j * 16 : Nat) : Int)) (b := (16 : Int)) rfl rfl (i64n (by omega) (by omega))) ?_
   refine l_val (v := Nx ((j * 16) + 16)) rfl rfl rfl (e_assign) ?_
   refine l_nil ?_
   exact f_cut ⟨j + 1, ⟨⟨rfl, (show Ux (epLoop xs j) = Ux (epLoop xs (j + 1)) by subst hz3; subst hz7; exact congrArg (fun x : UInt64 => Ux x) (ep_no0 hg10).symm), (congrArg (fun z : Nat => Nx z) (by omega))⟩, rfl, (by omega)⟩, (show xs.length - (j + 1) * 16 < xs.length - j * 16 from by omega)⟩
 ·
  refine c_exit ?_
  refine f_then_exit ?_
  refine f_then_exit ?_
  refine f_exit ?_
  refine f_then ?_
  refine c_seq ?_
  have hlt := epLoop_lt xs j
  refine c_region ?_
  refine l_val (v := Ux (epLoop xs j)) rfl rfl rfl (e_move) ?_
  refine l_val (v := Nx ((epLoop xs j).toNat)) rfl rfl rfl (e_conv (a := ((epLoop xs j).toNat : Int)) rfl ⟨_, tf2⟩ tf1 (i64n rfl (by omega))) ?_
  refine l_val (v := Nx ((epLoop xs j).toNat)) rfl rfl rfl (e_assign) ?_
  refine l_nil ?_
  refine f_then ?_
  refine c_ret ?_
  refine ret1 Tryz.results82 (v := Nx ((epLoop xs j).toNat)) rfl ?_
  intro w hw
  rw [show j = xs.length / 16 by omega]
  exact ⟨rfl, st_mask [] rfl hw⟩
theorem areas_ok (β : Base) (w : World) (hw : St β [] w) (S : Nat) : Calls Tryz.prog 65 #[.pointer (some ⟨S, 0, none⟩)] w fun r w' => r = .returned (.agg #[.pointer (some ⟨S, 1, none⟩), .pointer (some ⟨S, 2, none⟩)]) ∧ St β [] w' := by
 refine enter (n := 10) Tryz.func65 rfl Tryz.ntmps65 rfl ?_ hw
 refine c_seq ?_
 refine c_region ?_
 refine l_mv rfl rfl rfl (m_alloc tf27) ?_
 rintro _ _ ⟨b1, rfl, rfl⟩
 refine l_nil ?_
 refine f_then ?_
 refine c_seq ?_
 refine c_any [⟨[], [], [0], [3], fun f => f 3 = .pointer (some ⟨S, 0, none⟩)⟩, ⟨[0], [0], [], [4], fun f => f 4 = .pointer (some ⟨S, 0, none⟩)⟩, ⟨[0, 1], [1], [], [5], fun f => f 5 = .pointer (some ⟨S, 1, none⟩)⟩, ⟨[], [], [0], [6], fun f => f 6 = .pointer (some ⟨S, 0, none⟩)⟩, ⟨[3], [3], [], [7], fun f => f 7 = .pointer (some ⟨S, 0, none⟩)⟩, ⟨[3, 4], [4], [], [8], fun f => f 8 = .pointer (some ⟨S, 2, none⟩)⟩, ⟨[0, 1, 2, 3, 4, 5], [2, 5], [], [9], fun f => f 9 = .agg #[.pointer (some ⟨S, 1, none⟩), .pointer (some ⟨S, 2, none⟩)]⟩, ⟨[0, 1, 2, 3, 4, 5, 6], [6], [1], [], fun _ => True⟩] [⟨none, (some 7), [7], [], fun _ => pt b1 (.cells #[.pointer none, .pointer none] 148)⟩, ⟨(some 7), none, [], [], fun _ => pt b1 (.cells #[.pointer (some ⟨S, 1, none⟩), .pointer (some ⟨S, 2, none⟩)] 148)⟩] [(0, .pointer (some ⟨S, 0, none⟩)), (2, .pointer (some ⟨b1, 0, none⟩))] [1] [] (by kernel_rfl) (by kernel_rfl) (by kernel_rfl) (by kernel_rfl) rfl ⟨rfl, rfl, trivial⟩ ⟨?_, ?_, ?_, ?_, ?_, ?_, ?_, ?_, trivial⟩ ?_
 ·rintro f M - ⟨i0, -⟩
  have hs0 : f 0 = .pointer (some ⟨S, 0, none⟩) := i0
  refine ob_start (L' := M) (by rfl) (up_cons rfl hs0) ?_
  refine l_val (v := .pointer (some ⟨S, 0, none⟩)) rfl rfl rfl (e_move) ?_
  refine l_nil ?_
  exact f_owes_d (up_cons rfl hs0) rfl (List.Perm.refl _)
 ·rintro f M ⟨k0, -⟩ -
  have hs3 : f 3 = .pointer (some ⟨S, 0, none⟩) := k0
  refine ob_start (L' := M) (by rfl) (up_cons rfl hs3) ?_
  refine l_val (v := .pointer (some ⟨S, 0, none⟩)) rfl rfl rfl (e_nil (a := ⟨S, 0, none⟩) rfl) ?_
  refine l_nil ?_
  exact f_owes_d (up_cons rfl hs3) rfl (List.Perm.refl _)
 ·rintro f M ⟨k0, -⟩ -
  have hs4 : f 4 = .pointer (some ⟨S, 0, none⟩) := k0
  refine ob_start (L' := M) (by rfl) (up_cons rfl hs4) ?_
  refine l_val (v := .pointer (some ⟨S, 1, none⟩)) rfl rfl rfl (e_fieldPt (b := S) (o := 0) rfl tf22) ?_
  refine l_nil ?_
  exact f_owes_d (up_cons rfl hs4) rfl (List.Perm.refl _)
 ·rintro f M - ⟨i0, -⟩
  have hs0 : f 0 = .pointer (some ⟨S, 0, none⟩) := i0
  refine ob_start (L' := M) (by rfl) (up_cons rfl hs0) ?_
  refine l_val (v := .pointer (some ⟨S, 0, none⟩)) rfl rfl rfl (e_move) ?_
  refine l_nil ?_
  exact f_owes_d (up_cons rfl hs0) rfl (List.Perm.refl _)
 ·rintro f M ⟨k0, -⟩ -
  have hs6 : f 6 = .pointer (some ⟨S, 0, none⟩) := k0
  refine ob_start (L' := M) (by rfl) (up_cons rfl hs6) ?_
  refine l_val (v := .pointer (some ⟨S, 0, none⟩)) rfl rfl rfl (e_nil (a := ⟨S, 0, none⟩) rfl) ?_
  refine l_nil ?_
  exact f_owes_d (up_cons rfl hs6) rfl (List.Perm.refl _)
 ·rintro f M ⟨k0, -⟩ -
  have hs7 : f 7 = .pointer (some ⟨S, 0, none⟩) := k0
  refine ob_start (L' := M) (by rfl) (up_cons rfl hs7) ?_
  refine l_val (v := .pointer (some ⟨S, 2, none⟩)) rfl rfl rfl (e_fieldPt (b := S) (o := 0) rfl tf23) ?_
  refine l_nil ?_
  exact f_owes_d (up_cons rfl hs7) rfl (List.Perm.refl _)
 ·rintro f M ⟨k0, k1, -⟩ -
  have hs5 : f 5 = .pointer (some ⟨S, 1, none⟩) := k0
  have hs8 : f 8 = .pointer (some ⟨S, 2, none⟩) := k1
  refine ob_start (L' := M) (by rfl) (up_cons (up_cons rfl hs5) hs8) ?_
  refine l_val (v := .agg #[.pointer (some ⟨S, 1, none⟩), .pointer (some ⟨S, 2, none⟩)]) rfl rfl rfl (e_build_a tf27 tf28 (vs := [(0, .pointer (some ⟨S, 1, none⟩)), (1, .pointer (some ⟨S, 2, none⟩))]) (cells := #[.pointer (some ⟨S, 1, none⟩), .pointer (some ⟨S, 2, none⟩)]) rfl rfl) ?_
  refine l_nil ?_
  exact f_owes_d (up_cons (up_cons rfl hs5) hs8) rfl (List.Perm.refl _)
 ·rintro f M ⟨k0, -⟩ ⟨i0, -⟩
  have hs2 : f 2 = .pointer (some ⟨b1, 0, none⟩) := i0
  have hs9 : f 9 = .agg #[.pointer (some ⟨S, 1, none⟩), .pointer (some ⟨S, 2, none⟩)] := k0
  refine ob_start (L' := pt b1 (.cells #[.pointer none, .pointer none] 148) :: M) (by rfl) (up_cons (up_cons rfl hs2) hs9) ?_
  refine l_mu rfl rfl (m_store 0 tf29 (b := b1) (o := 0) (T := 148) (cs := #[.pointer none, .pointer none]) (cs' := #[.pointer (some ⟨S, 1, none⟩), .pointer (some ⟨S, 2, none⟩)]) (v := .agg #[.pointer (some ⟨S, 1, none⟩), .pointer (some ⟨S, 2, none⟩)]) rfl rfl rfl rfl rfl rfl rfl) ?_
  refine l_nil ?_
  exact f_owes_n (up_cons (up_cons rfl hs2) hs9) trivial (perm_front 0 rfl)
 rintro fa2 ⟨-, -, -, -, -, -, -, -, -⟩ ⟨j0, -⟩
 refine f_re (L' := [pt b1 (.cells #[.pointer (some ⟨S, 1, none⟩), .pointer (some ⟨S, 2, none⟩)] 148)]) (by rfl) ?_
 refine f_rebase (d := 2) (v := .pointer (some ⟨b1, 0, none⟩)) j0 ?_
 refine f_then ?_
 refine c_ret ?_
 refine retG (l := [.cell 2 148]) (m := [.agg #[.pointer (some ⟨S, 1, none⟩), .pointer (some ⟨S, 2, none⟩)]]) (v := .agg #[.pointer (some ⟨S, 1, none⟩), .pointer (some ⟨S, 2, none⟩)]) Tryz.results65 ⟨rd_cell tf29 (cs := [.pointer (some ⟨S, 1, none⟩), .pointer (some ⟨S, 2, none⟩)]) rfl (k_pt 0 (cs := #[.pointer (some ⟨S, 1, none⟩), .pointer (some ⟨S, 2, none⟩)]) (vs := [.pointer (some ⟨S, 1, none⟩), .pointer (some ⟨S, 2, none⟩)]) rfl rfl) rfl, trivial⟩ rfl ?_
 intro w hw
 exact ⟨rfl, st_mask [false] rfl hw⟩
end Go.Proofs
