/-
  Own work; plain Lean (Dg1, Dg2, Dg3, Dg4).
-/
import Derived.Test.YtbfidhbcojbklaaGreatDgBase
import Derived.Test.YtbfidhbcojbklaaGreatSlRange
import Derived.Test.YtbfidhbcojbklaaGreatSlEq
import Derived.Test.YtbfidhbcojbklaaGreatProg
import Derived.Test.YtbfidhbcojbklaaGreatSlBuild
namespace Go.Proofs
open Go Go.Sl
def mixU (z : UInt64) : UInt64 :=
  let z := (z ^^^ z >>> 30) * 0xbf58476d1ce4e5b9
  let z := (z ^^^ z >>> 27) * 0x94d049bb133111eb
  z ^^^ z >>> 31
def chainU (d w : UInt64) : UInt64 := mixU (d * 0x9e3779b97f4a7c15 + w + 1)
def tickU (t : Int) : UInt64 := chainU 0 (U t)
def seqF (h : UInt64) (xs : List UInt64) : UInt64 := xs.foldl (fun h w => h * 0x9e3779b97f4a7c15 + w + 1) h
def seqU (xs : List UInt64) : UInt64 := mixU (seqF 0 xs)
theorem seqF_snoc (h : UInt64) (xs : List UInt64) (x : UInt64) : seqF h (xs ++ [x]) = seqF h xs * 0x9e3779b97f4a7c15 + x + 1 := by simp [seqF]
def wordsB (s : ByteArray) : List UInt64 := s.data.toList.map UInt8.toUInt64
theorem tf0 : cfB Tryz.prog 69 = true := by kernel_rfl
theorem tf1 : Tryz.prog.underlying 3 = some (.int .i64) := by kernel_rfl
theorem tf2 : Tryz.prog.underlying 41 = some (.int .u64) := by kernel_rfl
theorem tf3 : cfB Tryz.prog 28 = true := by kernel_rfl
theorem tf4 : (Tryz.prog.info? 41).bind (·.zero) = some (.int .u64 (0)) := by kernel_rfl
theorem tf5 : tyB Tryz.prog 41 false 1 = true := by kernel_rfl
theorem tf6 : tyB Tryz.prog 9 false 1 = true := by kernel_rfl
theorem tf7 : Tryz.prog.underlying 9 = some .string := by kernel_rfl
theorem tf8 : Tryz.prog.underlying 5 = some (.int .u8) := by kernel_rfl
theorem mix_ok (β : Base) (w : World) (hw : St β [] w) (x : UInt64) : Calls Tryz.prog 69 #[Ux x] w fun e w' => e = .returned (Ux (mixU x)) ∧ St β [] w' := by
  refine enter (n := 17) Tryz.func69 rfl Tryz.ntmps69 rfl ?_ hw
  refine c_seq ?_
  refine c_region ?_
  refine l_val (v := .int .u64 (0)) rfl rfl rfl (e_assign) ?_
  refine l_nil ?_
  refine f_then ?_
  refine c_seq ?_
  refine c_region ?_
  refine l_val (v := Ux (x)) rfl rfl rfl (e_move) ?_
  refine l_val (v := Ux (x)) rfl rfl rfl (e_move) ?_
  refine l_val (v := Ux (x >>> (30 : UInt64))) rfl rfl rfl (e_shr (a := ((x).toNat : Int)) (b := ((30 : Nat) : Int)) rfl rfl (by decide) (ux_shr _ 30 (by decide))) ?_
  refine l_val (v := Ux (x ^^^ (x >>> (30 : UInt64)))) rfl rfl rfl (e_xor (a := ((x).toNat : Int)) (b := ((x >>> (30 : UInt64)).toNat : Int)) rfl rfl (ux_xor _ _)) ?_
  refine l_val (v := Ux ((x ^^^ (x >>> (30 : UInt64))) * (13787848793156543929 : UInt64))) rfl rfl rfl (e_mul (a := ((x ^^^ (x >>> (30 : UInt64))).toNat : Int)) (b := ((13787848793156543929 : UInt64).toNat : Int)) rfl rfl (ux_mul _ _)) ?_
  refine l_val (v := Ux ((x ^^^ (x >>> (30 : UInt64))) * (13787848793156543929 : UInt64))) rfl rfl rfl (e_assign) ?_
  refine l_nil ?_
  refine f_then ?_
  refine c_seq ?_
  refine c_region ?_
  refine l_val (v := Ux ((x ^^^ (x >>> (30 : UInt64))) * (13787848793156543929 : UInt64))) rfl rfl rfl (e_move) ?_
  refine l_val (v := Ux ((x ^^^ (x >>> (30 : UInt64))) * (13787848793156543929 : UInt64))) rfl rfl rfl (e_move) ?_
  refine l_val (v := Ux (((x ^^^ (x >>> (30 : UInt64))) * (13787848793156543929 : UInt64)) >>> (27 : UInt64))) rfl rfl rfl (e_shr (a := (((x ^^^ (x >>> (30 : UInt64))) * (13787848793156543929 : UInt64)).toNat : Int)) (b := ((27 : Nat) : Int)) rfl rfl (by decide) (ux_shr _ 27 (by decide))) ?_
  refine l_val (v := Ux (((x ^^^ (x >>> (30 : UInt64))) * (13787848793156543929 : UInt64)) ^^^ (((x ^^^ (x >>> (30 : UInt64))) * (13787848793156543929 : UInt64)) >>> (27 : UInt64)))) rfl rfl rfl (e_xor (a := (((x ^^^ (x >>> (30 : UInt64))) * (13787848793156543929 : UInt64)).toNat : Int)) (b := ((((x ^^^ (x >>> (30 : UInt64))) * (13787848793156543929 : UInt64)) >>> (27 : UInt64)).toNat : Int)) rfl rfl (ux_xor _ _)) ?_
  refine l_val (v := Ux ((((x ^^^ (x >>> (30 : UInt64))) * (13787848793156543929 : UInt64)) ^^^ (((x ^^^ (x >>> (30 : UInt64))) * (13787848793156543929 : UInt64)) >>> (27 : UInt64))) * (10723151780598845931 : UInt64))) rfl rfl rfl (e_mul (a := ((((x ^^^ (x >>> (30 : UInt64))) * (13787848793156543929 : UInt64)) ^^^ (((x ^^^ (x >>> (30 : UInt64))) * (13787848793156543929 : UInt64)) >>> (27 : UInt64))).toNat : Int)) (b := ((10723151780598845931 : UInt64).toNat : Int)) rfl rfl (ux_mul _ _)) ?_
  refine l_val (v := Ux ((((x ^^^ (x >>> (30 : UInt64))) * (13787848793156543929 : UInt64)) ^^^ (((x ^^^ (x >>> (30 : UInt64))) * (13787848793156543929 : UInt64)) >>> (27 : UInt64))) * (10723151780598845931 : UInt64))) rfl rfl rfl (e_assign) ?_
  refine l_nil ?_
  refine f_then ?_
  refine c_seq ?_
  refine c_region ?_
  refine l_val (v := Ux ((((x ^^^ (x >>> (30 : UInt64))) * (13787848793156543929 : UInt64)) ^^^ (((x ^^^ (x >>> (30 : UInt64))) * (13787848793156543929 : UInt64)) >>> (27 : UInt64))) * (10723151780598845931 : UInt64))) rfl rfl rfl (e_move) ?_
  refine l_val (v := Ux ((((x ^^^ (x >>> (30 : UInt64))) * (13787848793156543929 : UInt64)) ^^^ (((x ^^^ (x >>> (30 : UInt64))) * (13787848793156543929 : UInt64)) >>> (27 : UInt64))) * (10723151780598845931 : UInt64))) rfl rfl rfl (e_move) ?_
  refine l_val (v := Ux (((((x ^^^ (x >>> (30 : UInt64))) * (13787848793156543929 : UInt64)) ^^^ (((x ^^^ (x >>> (30 : UInt64))) * (13787848793156543929 : UInt64)) >>> (27 : UInt64))) * (10723151780598845931 : UInt64)) >>> (31 : UInt64))) rfl rfl rfl (e_shr (a := (((((x ^^^ (x >>> (30 : UInt64))) * (13787848793156543929 : UInt64)) ^^^ (((x ^^^ (x >>> (30 : UInt64))) * (13787848793156543929 : UInt64)) >>> (27 : UInt64))) * (10723151780598845931 : UInt64)).toNat : Int)) (b := ((31 : Nat) : Int)) rfl rfl (by decide) (ux_shr _ 31 (by decide))) ?_
  refine l_val (v := Ux (((((x ^^^ (x >>> (30 : UInt64))) * (13787848793156543929 : UInt64)) ^^^ (((x ^^^ (x >>> (30 : UInt64))) * (13787848793156543929 : UInt64)) >>> (27 : UInt64))) * (10723151780598845931 : UInt64)) ^^^ (((((x ^^^ (x >>> (30 : UInt64))) * (13787848793156543929 : UInt64)) ^^^ (((x ^^^ (x >>> (30 : UInt64))) * (13787848793156543929 : UInt64)) >>> (27 : UInt64))) * (10723151780598845931 : UInt64)) >>> (31 : UInt64)))) rfl rfl rfl (e_xor (a := (((((x ^^^ (x >>> (30 : UInt64))) * (13787848793156543929 : UInt64)) ^^^ (((x ^^^ (x >>> (30 : UInt64))) * (13787848793156543929 : UInt64)) >>> (27 : UInt64))) * (10723151780598845931 : UInt64)).toNat : Int)) (b := ((((((x ^^^ (x >>> (30 : UInt64))) * (13787848793156543929 : UInt64)) ^^^ (((x ^^^ (x >>> (30 : UInt64))) * (13787848793156543929 : UInt64)) >>> (27 : UInt64))) * (10723151780598845931 : UInt64)) >>> (31 : UInt64)).toNat : Int)) rfl rfl (ux_xor _ _)) ?_
  refine l_val (v := Ux (((((x ^^^ (x >>> (30 : UInt64))) * (13787848793156543929 : UInt64)) ^^^ (((x ^^^ (x >>> (30 : UInt64))) * (13787848793156543929 : UInt64)) >>> (27 : UInt64))) * (10723151780598845931 : UInt64)) ^^^ (((((x ^^^ (x >>> (30 : UInt64))) * (13787848793156543929 : UInt64)) ^^^ (((x ^^^ (x >>> (30 : UInt64))) * (13787848793156543929 : UInt64)) >>> (27 : UInt64))) * (10723151780598845931 : UInt64)) >>> (31 : UInt64)))) rfl rfl rfl (e_assign) ?_
  refine l_nil ?_
  refine f_then ?_
  refine c_ret ?_
  refine ret1 Tryz.results69 (v := Ux (((((x ^^^ (x >>> (30 : UInt64))) * (13787848793156543929 : UInt64)) ^^^ (((x ^^^ (x >>> (30 : UInt64))) * (13787848793156543929 : UInt64)) >>> (27 : UInt64))) * (10723151780598845931 : UInt64)) ^^^ (((((x ^^^ (x >>> (30 : UInt64))) * (13787848793156543929 : UInt64)) ^^^ (((x ^^^ (x >>> (30 : UInt64))) * (13787848793156543929 : UInt64)) >>> (27 : UInt64))) * (10723151780598845931 : UInt64)) >>> (31 : UInt64)))) rfl ?_
  intro w hw
  exact ⟨rfl, st_mask [] rfl hw⟩
theorem chain_ok (β : Base) (w : World) (hw : St β [] w) (x y : UInt64) : Calls Tryz.prog 28 #[Ux x, Ux y] w fun e w' => e = .returned (Ux (chainU x y)) ∧ St β [] w' := by
  refine enter (n := 11) Tryz.func28 rfl Tryz.ntmps28 rfl ?_ hw
  refine c_seq ?_
  refine c_region ?_
  refine l_val (v := .int .u64 (0)) rfl rfl rfl (e_assign) ?_
  refine l_nil ?_
  refine f_then ?_
  refine c_seq ?_
  refine c_region ?_
  refine l_val (v := Ux (x)) rfl rfl rfl (e_move) ?_
  refine l_val (v := Ux (x * (11400714819323198485 : UInt64))) rfl rfl rfl (e_mul (a := ((x).toNat : Int)) (b := ((11400714819323198485 : UInt64).toNat : Int)) rfl rfl (ux_mul _ _)) ?_
  refine l_val (v := Ux (y)) rfl rfl rfl (e_move) ?_
  refine l_val (v := Ux ((x * (11400714819323198485 : UInt64)) + y)) rfl rfl rfl (e_add (a := ((x * (11400714819323198485 : UInt64)).toNat : Int)) (b := ((y).toNat : Int)) rfl rfl (ux_add _ _)) ?_
  refine l_val (v := Ux (((x * (11400714819323198485 : UInt64)) + y) + (1 : UInt64))) rfl rfl rfl (e_add (a := (((x * (11400714819323198485 : UInt64)) + y).toNat : Int)) (b := ((1 : UInt64).toNat : Int)) rfl rfl (ux_add _ _)) ?_
  refine l_call rfl rfl rfl (cl_value (fst := []) (cap := []) (vs := [Ux (((x * (11400714819323198485 : UInt64)) + y) + (1 : UInt64))]) (all := [Ux (((x * (11400714819323198485 : UInt64)) + y) + (1 : UInt64))]) tf0 rfl rfl rfl) ?_
  intro w hw
  obtain ⟨β1, sb, kn, hw1, back⟩ := St.frame_all hw
  refine (mix_ok β1 w hw1 (((x * (11400714819323198485 : UInt64)) + y) + (1 : UInt64))).mono ?_
  rintro e w' ⟨rfl, hw'⟩
  refine ⟨_, rfl, _, back _ _ hw', ?_⟩
  clear hw hw1 hw' back kn sb
  refine l_val (v := Ux (mixU (((x * (11400714819323198485 : UInt64)) + y) + (1 : UInt64)))) rfl rfl rfl (e_assign) ?_
  refine l_nil ?_
  refine f_then ?_
  refine c_ret ?_
  refine ret1 Tryz.results28 (v := Ux (mixU (((x * (11400714819323198485 : UInt64)) + y) + (1 : UInt64)))) rfl ?_
  intro w hw
  exact ⟨rfl, st_mask [] rfl hw⟩
theorem tick_ok (β : Base) (w : World) (hw : St β [] w) (t : Int) : Calls Tryz.prog 26 #[Ix t] w fun e w' => e = .returned (Ux (tickU t)) ∧ St β [] w' := by
  refine enter (n := 6) Tryz.func26 rfl Tryz.ntmps26 rfl ?_ hw
  refine c_seq ?_
  refine c_region ?_
  refine l_val (v := .int .u64 (0)) rfl rfl rfl (e_assign) ?_
  refine l_nil ?_
  refine f_then ?_
  refine c_seq ?_
  refine c_region ?_
  refine l_val (v := Ix (t)) rfl rfl rfl (e_move) ?_
  refine l_val (v := Ux (U (t))) rfl rfl rfl (e_conv (a := (t)) rfl ⟨_, tf1⟩ tf2 (ux_of _)) ?_
  refine l_call rfl rfl rfl (cl_value (fst := []) (cap := []) (vs := [.int .u64 (0), Ux (U (t))]) (all := [.int .u64 (0), Ux (U (t))]) tf3 rfl rfl rfl) ?_
  intro w hw
  obtain ⟨β1, sb, kn, hw1, back⟩ := St.frame_all hw
  refine (chain_ok β1 w hw1 (0 : UInt64) (U (t))).mono ?_
  rintro e w' ⟨rfl, hw'⟩
  refine ⟨_, rfl, _, back _ _ hw', ?_⟩
  clear hw hw1 hw' back kn sb
  refine l_val (v := Ux (chainU (0 : UInt64) (U (t)))) rfl rfl rfl (e_assign) ?_
  refine l_nil ?_
  refine f_then ?_
  refine c_ret ?_
  refine ret1 Tryz.results26 (v := Ux (chainU (0 : UInt64) (U (t)))) rfl ?_
  intro w hw
  exact ⟨rfl, st_mask [] rfl hw⟩
theorem sequence_ok (β : Base) (w : World) (hw : St β [] w) (v : Value) (xs : List UInt64) (hs : SeqOf Tryz.prog β v (fun x => [Ux x]) (· = xs)) : Calls Tryz.prog 67 #[v] w fun e w' => e = .returned (Ux (seqU xs)) ∧ St β [] w' := by
  refine enterM (n := 14) Tryz.func67 rfl Tryz.ntmps67 rfl ?_ hw
  refine c_seq ?_
  refine c_region ?_
  refine l_val (v := .int .u64 (0)) rfl rfl rfl (e_assign) ?_
  refine l_nil ?_
  refine f_then ?_
  refine c_seq ?_
  refine c_region ?_
  refine l_mv rfl rfl rfl (m_alloc tf4) ?_
  rintro _ _ ⟨b1, rfl, rfl⟩
  refine l_mu rfl rfl (m_store 0 tf5 (b := b1) (o := 0) (T := 41) (cs := #[.int .u64 (0)]) (cs' := #[.int .u64 (0)]) (v := .int .u64 (0)) rfl rfl rfl rfl rfl rfl rfl) ?_
  refine l_nil ?_
  refine f_then ?_
  refine c_seq ?_
  refine c_seq ?_
  refine c_region ?_
  refine l_val (v := v) rfl rfl rfl (e_move) ?_
  refine l_nil ?_
  refine f_then ?_
  refine c_block ?_
  refine c_range (α := UInt64) (enc := fun x => [Ux x]) (S := (· = xs)) (ps := [6]) (I := fun (pre : List (UInt64)) (L : List Res) => L = [pt b1 (.cells #[Ux (seqF 0 pre)] 41)] ∧ (True)) (X := fun _ _ _ => False) rfl (hs) (fun _ => rfl) rfl ⟨rfl, trivial⟩ ?_ ?_ ?_
  · rintro l β1 pre x M ext hpre ⟨rfl, -⟩
    refine c_region ?_
    refine l_val (v := Ux (x)) rfl rfl rfl (e_assign) ?_
    refine l_nil ?_
    refine f_cut (fun β2 ext2 => ?_)
    refine c_block ?_
    refine c_region ?_
    refine l_val (v := Ux (seqF 0 pre)) rfl rfl rfl (e_load1 tf5 (v := Ux (seqF 0 pre)) rfl (k_pt 0 (cs := #[Ux (seqF 0 pre)]) (vs := [Ux (seqF 0 pre)]) rfl rfl)) ?_
    refine l_val (v := Ux ((seqF 0 pre) * (11400714819323198485 : UInt64))) rfl rfl rfl (e_mul (a := ((seqF 0 pre).toNat : Int)) (b := ((11400714819323198485 : UInt64).toNat : Int)) rfl rfl (ux_mul _ _)) ?_
    refine l_val (v := Ux (x)) rfl rfl rfl (e_move) ?_
    refine l_val (v := Ux (((seqF 0 pre) * (11400714819323198485 : UInt64)) + x)) rfl rfl rfl (e_add (a := (((seqF 0 pre) * (11400714819323198485 : UInt64)).toNat : Int)) (b := ((x).toNat : Int)) rfl rfl (ux_add _ _)) ?_
    refine l_val (v := Ux ((((seqF 0 pre) * (11400714819323198485 : UInt64)) + x) + (1 : UInt64))) rfl rfl rfl (e_add (a := ((((seqF 0 pre) * (11400714819323198485 : UInt64)) + x).toNat : Int)) (b := ((1 : UInt64).toNat : Int)) rfl rfl (ux_add _ _)) ?_
    refine l_mu rfl rfl (m_store 0 tf5 (b := b1) (o := 0) (T := 41) (cs := #[Ux (seqF 0 pre)]) (cs' := #[Ux ((((seqF 0 pre) * (11400714819323198485 : UInt64)) + x) + (1 : UInt64))]) (v := Ux ((((seqF 0 pre) * (11400714819323198485 : UInt64)) + x) + (1 : UInt64))) rfl rfl rfl rfl rfl rfl rfl) ?_
    refine l_nil ?_
    refine f_block ?_
    exact fun a w ha hw => ⟨_, ⟨(by rw [seqF_snoc]; rfl), trivial⟩, hw⟩
  · rintro D ys M hS ⟨rfl, -⟩
    subst hS
    refine f_block ?_
    refine f_then ?_
    refine c_seq ?_
    refine c_region ?_
    refine l_val (v := Ux (seqF 0 ys)) rfl rfl rfl (e_load1 tf5 (v := Ux (seqF 0 ys)) rfl (k_pt 0 (cs := #[Ux (seqF 0 ys)]) (vs := [Ux (seqF 0 ys)]) rfl rfl)) ?_
    refine l_call rfl rfl rfl (cl_value (fst := []) (cap := []) (vs := [Ux (seqF 0 ys)]) (all := [Ux (seqF 0 ys)]) tf0 rfl rfl rfl) ?_
    intro w hw
    obtain ⟨β1, sb, kn, hw1, back⟩ := St.frame_all hw
    refine (mix_ok β1 w hw1 (seqF 0 ys)).mono ?_
    rintro e w' ⟨rfl, hw'⟩
    refine ⟨_, rfl, _, back _ _ hw', ?_⟩
    clear hw hw1 hw' back kn sb
    refine l_val (v := Ux (mixU (seqF 0 ys))) rfl rfl rfl (e_assign) ?_
    refine l_nil ?_
    refine f_then ?_
    refine c_ret ?_
    refine retM 1 rfl Tryz.results67 (v := Ux (mixU (seqF 0 ys))) rfl ?_
    intro w hw
    exact ⟨rfl, st_mask [false, false] rfl hw⟩
  · intro D c pre M h; exact h.elim
theorem bytes_ok (β : Base) (w : World) (hw : St β [] w) (s : ByteArray) : Calls Tryz.prog 68 #[.string s] w fun e w' => ∃ b, e = .returned (.func (.func 110) #[] #[.pointer (some ⟨b, 0, none⟩)]) ∧ St β [pt b (.cells #[.string s] 9)] w' := by
  refine enter (n := 4) Tryz.func68 rfl Tryz.ntmps68 rfl ?_ hw
  refine c_seq ?_
  refine c_region ?_
  refine l_mv rfl rfl rfl (m_box (v := .string (s)) rfl) ?_
  rintro _ _ ⟨b1, rfl, rfl⟩
  refine l_val (v := .nilFunc) rfl rfl rfl (e_assign) ?_
  refine l_nil ?_
  refine f_then ?_
  refine c_seq ?_
  refine c_region ?_
  refine l_val (v := .func (.func 110) #[] #[.pointer (some ⟨b1, 0, none⟩)]) rfl rfl rfl (e_func (u := []) (v := [.pointer (some ⟨b1, 0, none⟩)]) rfl rfl) ?_
  refine l_val (v := .func (.func 110) #[] #[.pointer (some ⟨b1, 0, none⟩)]) rfl rfl rfl (e_assign) ?_
  refine l_nil ?_
  refine f_then ?_
  refine c_ret ?_
  refine ret1 Tryz.results68 (v := .func (.func 110) #[] #[.pointer (some ⟨b1, 0, none⟩)]) rfl ?_
  intro w hw
  exact ⟨_, rfl, hw⟩
theorem bytes_seq (β : Base) (b : Nat) (s : ByteArray) (hb : Cs β.heap ⟨b, 0, none⟩ [.string s]) (hs : s.size ≤ 9223372036854775807) : SeqOf Tryz.prog β (.func (.func 110) #[] #[.pointer (some ⟨b, 0, none⟩)]) (fun x : UInt64 => [Ux x]) (· = wordsB s) := by
  refine ⟨110, [], [.pointer (some ⟨b, 0, none⟩)], rfl, by kernel_rfl, fun β₁ ext l J X hY M w hJ hw => ?_⟩
  have hb1 := Cs.mono _ _ _ _ ext.sub hb
  refine enter (n := 17) Tryz.func110 rfl Tryz.ntmps110 rfl ?_ hw
  refine c_seq ?_
  refine c_region ?_
  refine l_val (v := .string (s)) rfl rfl rfl (e_load1 tf6 (v := .string (s)) rfl (Knows.of_base (Cs.mono _ _) hb1)) ?_
  refine l_val (v := Nx ((s).size)) rfl rfl rfl (e_len_s (s := s) rfl tf7) ?_
  refine l_val (v := .int .i64 (0)) rfl rfl rfl (e_move) ?_
  refine l_nil ?_
  refine f_then ?_
  refine c_block ?_
  refine c_loop (fun (x_ : Nat × List Res) (f : Fm) (L : List Res) => match x_ with | (k, M) => (f 0 = yfn l ∧ f 1 = .pointer (some (⟨b, 0, none⟩)) ∧ f 5 = Nx ((s).size) ∧ f 6 = Nx (k)) ∧ L = (M) ∧ (k ≤ s.size ∧ J ((wordsB s).take (k)) M)) (fun (x_ : Nat × List Res) => match x_ with | (k, M) => s.size - k) (0, M) ?_ ?_
  · exact ⟨⟨rfl, rfl, rfl, rfl⟩, rfl, ⟨by omega, by simpa using hJ⟩⟩
  rintro ⟨k, M⟩ f0 L0 ⟨⟨hs0, hs1, hs5, hs6⟩, hL, ⟨hk, hJ⟩⟩
  subst L0
  refine rebase (d := 0) hs0 ?_
  refine rebase (d := 1) hs1 ?_
  refine rebase (d := 5) hs5 ?_
  refine rebase (d := 6) hs6 ?_
  clear hs0 hs1 hs5 hs6
  refine c_seq ?_
  refine c_region ?_
  refine l_val (v := .bool (decide (((k : Nat) : Int) < (((s).size : Nat) : Int)))) rfl rfl rfl (e_lss (a := ((k : Nat) : Int)) (b := (((s).size : Nat) : Int)) rfl rfl) ?_
  refine l_nil ?_
  refine f_then ?_
  refine c_seq ?_
  refine c_if (((k : Nat) : Int) < (((s).size : Nat) : Int)) rfl (fun hc1 => ?_) (fun hc1 => ?_)
  ·
    refine c_skip ?_
    refine f_then ?_
    refine c_seq ?_
    refine c_block ?_
    refine c_seq ?_
    refine c_region ?_
    refine l_val (v := Nx (k)) rfl rfl rfl (e_move) ?_
    refine l_val (v := Nx (k)) rfl rfl rfl (e_assign) ?_
    refine l_nil ?_
    refine f_then ?_
    refine c_seq ?_
    refine c_region ?_
    refine l_val (v := yfn l) rfl rfl rfl (e_move) ?_
    refine l_val (v := .string (s)) rfl rfl rfl (e_load1 tf6 (v := .string (s)) rfl (Knows.of_base (Cs.mono _ _) hb1)) ?_
    refine l_val (v := Nx (k)) rfl rfl rfl (e_move) ?_
    obtain ⟨c2, hc3⟩ : ∃ c, (s).data.toList[k]? = some c := ⟨_, List.getElem?_eq_getElem (by simp; omega)⟩
    refine l_val (v := Bx (c2)) rfl rfl rfl (e_index_s (s := s) (k := k) (c := c2) rfl rfl tf7 hc3) ?_
    refine l_val (v := Ux (c2.toUInt64)) rfl rfl rfl (e_conv (a := ((c2).toNat : Int)) rfl ⟨_, tf8⟩ tf2 (ux_of8 _)) ?_
    refine l_yield (own := []) (M := M) (d := 14) (enc := fun x => [Ux x]) (pre := (wordsB s).take k) (x := c2.toUInt64) rfl rfl rfl rfl hY (⟨_, rfl, take_prefix (by simp [wordsB, hc3])⟩) hJ (fun M1 hJ1 => ?_) (fun M1 hX1 => ?_)
    ·
      refine l_val (v := .bool false) rfl rfl rfl (e_not (a := true) rfl) ?_
      refine l_nil ?_
      refine f_then ?_
      refine c_no rfl ?_
      refine c_skip ?_
      refine f_block ?_
      refine f_then ?_
      refine c_region ?_
      refine l_val (v := Nx (k + 1)) rfl rfl rfl (e_add (a := ((k : Nat) : Int)) (b := (1 : Int)) rfl rfl (i64n (by omega) (by omega))) ?_
      refine l_val (v := Nx (k + 1)) rfl rfl rfl (e_move) ?_
      refine l_nil ?_
      exact f_cut ⟨(k + 1, M1), ⟨⟨rfl, rfl, rfl, rfl⟩, rfl, ⟨by omega, by rw [take_succ (a := c2.toUInt64) (by simp [wordsB, hc3])]; exact hJ1⟩⟩, (show s.size - (k + 1) < s.size - k from by omega)⟩
    ·
      refine l_val (v := .bool true) rfl rfl rfl (e_not (a := false) rfl) ?_
      refine l_nil ?_
      refine f_then ?_
      refine c_yes rfl ?_
      refine c_ret ?_
      refine f_block_ret ?_
      refine f_then_ret ?_
      refine f_then_ret ?_
      refine f_block_ret ?_
      refine ret0 Tryz.results110 ?_
      intro w hw
      exact ⟨⟨_, rfl⟩, .inr ⟨_, M1, hX1, st_mask [] rfl hw⟩⟩
  ·
    refine c_exit ?_
    refine f_then_exit ?_
    refine f_then_exit ?_
    refine f_exit ?_
    refine end0 Tryz.results110 ?_
    intro w hw
    exact ⟨⟨_, rfl⟩, .inl ⟨_, M, rfl, (by rw [List.take_of_length_le (by simp [wordsB]; omega)] at hJ; exact hJ), st_mask [] rfl hw⟩⟩
end Go.Proofs

namespace Go.Proofs
open Go Go.Sl
def wordsC (c : KComp) : List UInt64 := [c.kind.toUInt64, U c.v0, U c.v1, U c.v2, U c.v3]
def wordsE (e : KEnt) : List UInt64 := U e.id :: U ((e.comps.length : Nat) : Int) :: e.comps.flatMap wordsC
theorem pre_id (e : KEnt) : [] ++ [U e.id] <+: wordsE e := ⟨_, rfl⟩
theorem pre_len (e : KEnt) : [U e.id] ++ [U ((e.comps.length : Nat) : Int)] <+: wordsE e := ⟨_, rfl⟩
theorem take_flat {cs : List KComp} {k : Nat} {c : KComp} (h : cs[k]? = some c) : (cs.take (k + 1)).flatMap wordsC = (cs.take k).flatMap wordsC ++ wordsC c := by
  rw [take_succ h]; simp
theorem pre_comp (e : KEnt) {k : Nat} {c : KComp} (h : e.comps[k]? = some c) (j : Nat) {x : UInt64} (hx : (wordsC c)[j]? = some x) : [U e.id, U ((e.comps.length : Nat) : Int)] ++ (e.comps.take k).flatMap wordsC ++ (wordsC c).take j ++ [x] <+: wordsE e := by
  have h1 : (wordsC c).take j ++ [x] <+: wordsC c := take_prefix hx
  obtain ⟨t, ht⟩ := h1
  refine ⟨t ++ (e.comps.drop (k + 1)).flatMap wordsC, ?_⟩
  have h2 : e.comps = e.comps.take k ++ c :: e.comps.drop (k + 1) := by
    have h3 := List.take_append_drop (k + 1) e.comps
    rw [take_succ h] at h3
    simpa using h3.symm
  have h4 : e.comps.flatMap wordsC = (e.comps.take k).flatMap wordsC ++ (wordsC c ++ (e.comps.drop (k + 1)).flatMap wordsC) := by
    conv => lhs; rw [h2]
    simp
  have h5 : wordsC c ++ (e.comps.drop (k + 1)).flatMap wordsC = (wordsC c).take j ++ [x] ++ t ++ (e.comps.drop (k + 1)).flatMap wordsC := by rw [ht]
  rw [wordsE, h4, h5]; simp
theorem tf9 : fldB Tryz.prog 35 0 0 1 false = true := by kernel_rfl
theorem tf10 : tyB Tryz.prog 3 false 1 = true := by kernel_rfl
theorem tf11 : fldB Tryz.prog 35 1 1 1 false = true := by kernel_rfl
theorem tf12 : tyB Tryz.prog 33 false 1 = true := by kernel_rfl
theorem tf13 : Tryz.prog.underlying 33 = some (.slice 38) := by kernel_rfl
theorem tf14 : slB Tryz.prog 33 38 5 = true := by kernel_rfl
theorem tf15 : tyB Tryz.prog 38 true 5 = true := by kernel_rfl
theorem tf16 : (Tryz.prog.info? 38).bind (·.zero) = some (.agg #[.int .u8 (0), .int .i64 (0), .int .i64 (0), .int .i64 (0), .int .i64 (0)]) := by kernel_rfl
theorem tf17 : fldB Tryz.prog 38 0 0 1 false = true := by kernel_rfl
theorem tf18 : tyB Tryz.prog 5 false 1 = true := by kernel_rfl
theorem tf19 : fldB Tryz.prog 38 1 1 4 true = true := by kernel_rfl
theorem tf20 : tyB Tryz.prog 36 true 4 = true := by kernel_rfl
theorem tf21 : arB Tryz.prog 36 4 3 1 = true := by kernel_rfl
theorem numbers_ok (β : Base) (w : World) (hw : St β [] w) (e : KEnt) (v : Value) : Calls Tryz.prog 70 #[.agg #[Ix e.id, v]] w fun r w' => ∃ b, r = .returned (.func (.func 111) #[] #[.pointer (some ⟨b, 0, none⟩)]) ∧ St β [pt b (.cells #[Ix e.id, v] 35)] w' := by
  refine enter (n := 4) Tryz.func70 rfl Tryz.ntmps70 rfl ?_ hw
  refine c_seq ?_
  refine c_region ?_
  refine l_mv rfl rfl rfl (m_box (v := .agg #[Ix (e.id), v]) rfl) ?_
  rintro _ _ ⟨b1, rfl, rfl⟩
  refine l_val (v := .nilFunc) rfl rfl rfl (e_assign) ?_
  refine l_nil ?_
  refine f_then ?_
  refine c_seq ?_
  refine c_region ?_
  refine l_val (v := .func (.func 111) #[] #[.pointer (some ⟨b1, 0, none⟩)]) rfl rfl rfl (e_func (u := []) (v := [.pointer (some ⟨b1, 0, none⟩)]) rfl rfl) ?_
  refine l_val (v := .func (.func 111) #[] #[.pointer (some ⟨b1, 0, none⟩)]) rfl rfl rfl (e_assign) ?_
  refine l_nil ?_
  refine f_then ?_
  refine c_ret ?_
  refine ret1 Tryz.results70 (v := .func (.func 111) #[] #[.pointer (some ⟨b1, 0, none⟩)]) rfl ?_
  intro w hw
  exact ⟨_, rfl, hw⟩
theorem numbers_seq (β : Base) (b : Nat) (e : KEnt) (v : Value) (hb : Cs β.heap ⟨b, 0, none⟩ [Ix e.id, v]) (hs : Sl CompR β.heap v e.comps) : SeqOf Tryz.prog β (.func (.func 111) #[] #[.pointer (some ⟨b, 0, none⟩)]) (fun x : UInt64 => [Ux x]) (· = wordsE e) := by
  refine ⟨111, [], [.pointer (some ⟨b, 0, none⟩)], rfl, by kernel_rfl, fun β₁ ext l J X hY M w hJ hw => ?_⟩
  have hb1 := Cs.mono _ _ _ _ ext.sub hb
  obtain ⟨sa, sc, rfl, hl, hm, he⟩ := (Sl.mono CompR v _ _ _ ext.sub hs).get
  refine enter (n := 47) Tryz.func111 rfl Tryz.ntmps111 rfl ?_ hw
  refine c_seq ?_
  refine c_seq ?_
  refine c_region ?_
  refine l_val (v := yfn l) rfl rfl rfl (e_move) ?_
  refine l_val (v := .pointer (some ((⟨b, 0, none⟩ : Addr).add 0))) rfl rfl rfl (e_fieldAddr (a := ⟨b, 0, none⟩) rfl tf9) ?_
  refine l_val (v := Ix (e.id)) rfl rfl rfl (e_load1 tf10 (v := Ix (e.id)) rfl (Knows.imp (Knows.of_base (Cs.mono _ _) hb1) (fun _ h => Cs.sub (vs := [Ix (e.id)]) 0 h rfl))) ?_
  refine l_val (v := Ux (U (e.id))) rfl rfl rfl (e_conv (a := (e.id)) rfl ⟨_, tf1⟩ tf2 (ux_of _)) ?_
  refine l_yield (own := []) (M := M) (d := 11) (enc := fun x => [Ux x]) (pre := []) (x := U (e.id)) rfl rfl rfl rfl hY (⟨_, rfl, pre_id e⟩) (by simpa using hJ) (fun M1 hJ1 => ?_) (fun M1 hX1 => ?_)
  ·
    refine l_val (v := .bool false) rfl rfl rfl (e_not (a := true) rfl) ?_
    refine l_val (v := .bool false) rfl rfl rfl (e_move) ?_
    refine g_val (v := yfn l) rfl rfl rfl rfl rfl (e_move) ?_
    refine g_val (v := .pointer (some ((⟨b, 0, none⟩ : Addr).add 1))) rfl rfl rfl rfl rfl (e_fieldAddr (a := ⟨b, 0, none⟩) rfl tf11) ?_
    refine g_val (v := .slice sa (e.comps.length) (sc)) rfl rfl rfl rfl rfl (e_load1 tf12 (v := .slice sa (e.comps.length) (sc)) rfl (Knows.imp (Knows.of_base (Cs.mono _ _) hb1) (fun _ h => Cs.sub (vs := [.slice sa (e.comps.length) (sc)]) 1 h rfl))) ?_
    refine g_val (v := Nx (e.comps.length)) rfl rfl rfl rfl rfl (e_len (a := sa) (n := e.comps.length) (c := sc) rfl tf13) ?_
    refine g_val (v := Ux (U ((e.comps.length : Nat) : Int))) rfl rfl rfl rfl rfl (e_conv (a := ((e.comps.length : Nat) : Int)) rfl ⟨_, tf1⟩ tf2 (ux_of _)) ?_
    refine g_yield rfl rfl (own := []) (M := M1) (d := 19) (enc := fun x => [Ux x]) (pre := [U e.id]) (x := U ((e.comps.length : Nat) : Int)) rfl rfl rfl rfl hY (⟨_, rfl, pre_len e⟩) (by simpa using hJ1) (fun M1 hJ1 => ?_) (fun M1 hX1 => ?_)
    ·
      refine g_val (v := .bool false) rfl rfl rfl rfl rfl (e_not (a := true) rfl) ?_
      refine l_val (v := .bool false) rfl rfl rfl (e_pick_f rfl) ?_
      refine l_nil ?_
      refine f_then ?_
      refine c_no rfl ?_
      refine c_skip ?_
      refine f_then ?_
      refine c_seq ?_
      refine c_region ?_
      refine l_val (v := .pointer (some ((⟨b, 0, none⟩ : Addr).add 1))) rfl rfl rfl (e_fieldAddr (a := ⟨b, 0, none⟩) rfl tf11) ?_
      refine l_val (v := .slice sa (e.comps.length) (sc)) rfl rfl rfl (e_load1 tf12 (v := .slice sa (e.comps.length) (sc)) rfl (Knows.imp (Knows.of_base (Cs.mono _ _) hb1) (fun _ h => Cs.sub (vs := [.slice sa (e.comps.length) (sc)]) 1 h rfl))) ?_
      refine l_val (v := Nx (e.comps.length)) rfl rfl rfl (e_len (a := sa) (n := e.comps.length) (c := sc) rfl tf13) ?_
      refine l_val (v := .int .i64 (0)) rfl rfl rfl (e_move) ?_
      refine l_nil ?_
      refine f_then ?_
      refine c_block ?_
      refine c_loop (fun (x_ : Nat × List Res) (f : Fm) (L : List Res) => match x_ with | (k, M) => (f 0 = yfn l ∧ f 23 = .slice sa (e.comps.length) (sc) ∧ f 24 = Nx (e.comps.length) ∧ f 25 = Nx (k)) ∧ L = (M) ∧ (k ≤ e.comps.length ∧ J ([U e.id, U ((e.comps.length : Nat) : Int)] ++ (e.comps.take (k)).flatMap wordsC) M)) (fun (x_ : Nat × List Res) => match x_ with | (k, M) => e.comps.length - k) (0, M1) ?_ ?_
      · exact ⟨⟨rfl, rfl, rfl, rfl⟩, rfl, ⟨by omega, by simpa using hJ1⟩⟩
      rintro ⟨k, M⟩ f0 L0 ⟨⟨hs0, hs23, hs24, hs25⟩, hL, ⟨hk, hJ⟩⟩
      subst L0
      refine rebase (d := 0) hs0 ?_
      refine rebase (d := 23) hs23 ?_
      refine rebase (d := 24) hs24 ?_
      refine rebase (d := 25) hs25 ?_
      clear hs0 hs23 hs24 hs25
      refine c_seq ?_
      refine c_region ?_
      refine l_val (v := .bool (decide (((k : Nat) : Int) < ((e.comps.length : Nat) : Int)))) rfl rfl rfl (e_lss (a := ((k : Nat) : Int)) (b := ((e.comps.length : Nat) : Int)) rfl rfl) ?_
      refine l_nil ?_
      refine f_then ?_
      refine c_seq ?_
      refine c_if (((k : Nat) : Int) < ((e.comps.length : Nat) : Int)) rfl (fun hc1 => ?_) (fun hc1 => ?_)
      ·
        refine c_skip ?_
        refine f_then ?_
        refine c_seq ?_
        refine c_block ?_
        refine c_seq ?_
        refine c_region ?_
        obtain ⟨x2, hx3⟩ : ∃ x_, (e.comps)[k]? = some x_ := ⟨_, List.getElem?_eq_getElem (by omega)⟩
        obtain ⟨ha4, cs5, hc6, rfl⟩ := he _ _ hx3
        refine l_val (v := .pointer (some ((ba sa).add (k * 5)))) rfl rfl rfl (e_indexAddr (k := k) (len := e.comps.length) (cap := sc) (a := sa) rfl rfl tf14 (by omega) ha4) ?_
        refine l_val (v := .agg #[Bx (x2.kind), Ix (x2.v0), Ix (x2.v1), Ix (x2.v2), Ix (x2.v3)]) rfl rfl rfl (e_load tf15 (cs := [Bx (x2.kind), Ix (x2.v0), Ix (x2.v1), Ix (x2.v2), Ix (x2.v3)]) rfl (Knows.of_base (Cs.mono _ _) hc6) rfl) ?_
        refine l_mv rfl rfl rfl (m_alloc tf16) ?_
        rintro _ _ ⟨b8, rfl, rfl⟩
        refine l_mu rfl rfl (m_store 0 tf15 (b := b8) (o := 0) (T := 38) (cs := #[.int .u8 (0), .int .i64 (0), .int .i64 (0), .int .i64 (0), .int .i64 (0)]) (cs' := #[Bx (x2.kind), Ix (x2.v0), Ix (x2.v1), Ix (x2.v2), Ix (x2.v3)]) (v := .agg #[Bx (x2.kind), Ix (x2.v0), Ix (x2.v1), Ix (x2.v2), Ix (x2.v3)]) rfl rfl rfl rfl rfl rfl rfl) ?_
        refine l_nil ?_
        refine f_then ?_
        refine c_seq ?_
        refine c_seq ?_
        refine c_region ?_
        refine l_val (v := yfn l) rfl rfl rfl (e_move) ?_
        refine l_val (v := .pointer (some ⟨b8, 0, none⟩)) rfl rfl rfl (e_fieldPt (b := b8) (o := 0) rfl tf17) ?_
        refine l_val (v := Bx (x2.kind)) rfl rfl rfl (e_load1 tf18 (v := Bx (x2.kind)) rfl (k_pt 0 (cs := #[Bx (x2.kind), Ix (x2.v0), Ix (x2.v1), Ix (x2.v2), Ix (x2.v3)]) (vs := [Bx (x2.kind)]) rfl rfl)) ?_
        refine l_val (v := Ux (x2.kind.toUInt64)) rfl rfl rfl (e_conv (a := ((x2.kind).toNat : Int)) rfl ⟨_, tf8⟩ tf2 (ux_of8 _)) ?_
        refine l_yield (own := [pt b8 (.cells #[Bx (x2.kind), Ix (x2.v0), Ix (x2.v1), Ix (x2.v2), Ix (x2.v3)] 38)]) (M := M) (d := 33) (enc := fun x => [Ux x]) (pre := (([U e.id, U ((e.comps.length : Nat) : Int)] ++ (e.comps.take (k)).flatMap wordsC) ++ (wordsC x2).take 0)) (x := x2.kind.toUInt64) rfl rfl rfl rfl hY (⟨_, rfl, pre_comp e hx3 0 rfl⟩) (by simpa using hJ) (fun M1 hJ1 => ?_) (fun M1 hX1 => ?_)
        ·
          refine l_val (v := .bool false) rfl rfl rfl (e_not (a := true) rfl) ?_
          refine l_nil ?_
          refine f_then ?_
          refine c_no rfl ?_
          refine c_skip ?_
          refine f_then ?_
          refine c_seq ?_
          refine c_region ?_
          refine l_val (v := .pointer (some ⟨b8, 1, none⟩)) rfl rfl rfl (e_fieldPt (b := b8) (o := 0) rfl tf19) ?_
          refine l_val (v := .agg #[Ix (x2.v0), Ix (x2.v1), Ix (x2.v2), Ix (x2.v3)]) rfl rfl rfl (e_load tf20 (cs := [Ix (x2.v0), Ix (x2.v1), Ix (x2.v2), Ix (x2.v3)]) rfl (k_pt 0 (cs := #[Bx (x2.kind), Ix (x2.v0), Ix (x2.v1), Ix (x2.v2), Ix (x2.v3)]) (vs := [Ix (x2.v0), Ix (x2.v1), Ix (x2.v2), Ix (x2.v3)]) rfl rfl) rfl) ?_
          refine l_val (v := .int .i64 (0)) rfl rfl rfl (e_move) ?_
          refine l_nil ?_
          refine f_then ?_
          refine c_block ?_
          refine c_loop (fun (x_ : Nat × List Res) (f : Fm) (L : List Res) => match x_ with | (j, N) => (f 0 = yfn l ∧ f 23 = .slice sa (e.comps.length) (sc) ∧ f 24 = Nx (e.comps.length) ∧ f 25 = Nx (k) ∧ f 36 = .agg #[Ix (x2.v0), Ix (x2.v1), Ix (x2.v2), Ix (x2.v3)] ∧ f 37 = Nx (j)) ∧ L = (pt b8 (.cells #[Bx (x2.kind), Ix (x2.v0), Ix (x2.v1), Ix (x2.v2), Ix (x2.v3)] 38) :: N) ∧ (j ≤ 4 ∧ J ([U e.id, U ((e.comps.length : Nat) : Int)] ++ (e.comps.take (k)).flatMap wordsC ++ (wordsC x2).take (j + 1)) N)) (fun (x_ : Nat × List Res) => match x_ with | (j, N) => 4 - j) (0, M1) ?_ ?_
          · exact ⟨⟨rfl, rfl, rfl, rfl, rfl, rfl⟩, rfl, ⟨by omega, by simpa [wordsC] using hJ1⟩⟩
          rintro ⟨j, N⟩ f0 L0 ⟨⟨hs0, hs23, hs24, hs25, hs36, hs37⟩, hL, ⟨hj1, hj2⟩⟩
          subst L0
          rcases (show j = 0 ∨ j = 1 ∨ j = 2 ∨ j = 3 ∨ j = 4 from by omega) with rfl | rfl | rfl | rfl | rfl
          ·
            refine rebase (d := 0) hs0 ?_
            refine rebase (d := 23) hs23 ?_
            refine rebase (d := 24) hs24 ?_
            refine rebase (d := 25) hs25 ?_
            refine rebase (d := 36) hs36 ?_
            refine rebase (d := 37) hs37 ?_
            clear hs0 hs23 hs24 hs25 hs36 hs37
            refine c_seq ?_
            refine c_region ?_
            refine l_val (v := .bool true) rfl rfl rfl (e_lss (a := (0 : Int)) (b := (4 : Int)) rfl rfl) ?_
            refine l_nil ?_
            refine f_then ?_
            refine c_seq ?_
            refine c_yes rfl ?_
            refine c_skip ?_
            refine f_then ?_
            refine c_seq ?_
            refine c_block ?_
            refine c_seq ?_
            refine c_region ?_
            refine l_val (v := Ix (x2.v0)) rfl rfl rfl (e_index_a (cs := #[Ix (x2.v0), Ix (x2.v1), Ix (x2.v2), Ix (x2.v3)]) (k := 0) rfl rfl tf21 rfl (by decide) tf10) ?_
            refine l_val (v := Ix (x2.v0)) rfl rfl rfl (e_assign) ?_
            refine l_nil ?_
            refine f_then ?_
            refine c_seq ?_
            refine c_region ?_
            refine l_val (v := yfn l) rfl rfl rfl (e_move) ?_
            refine l_val (v := Ix (x2.v0)) rfl rfl rfl (e_move) ?_
            refine l_val (v := Ux (U (x2.v0))) rfl rfl rfl (e_conv (a := (x2.v0)) rfl ⟨_, tf1⟩ tf2 (ux_of _)) ?_
            refine l_yield (own := [pt b8 (.cells #[Bx (x2.kind), Ix (x2.v0), Ix (x2.v1), Ix (x2.v2), Ix (x2.v3)] 38)]) (M := N) (d := 43) (enc := fun x => [Ux x]) (pre := (([U e.id, U ((e.comps.length : Nat) : Int)] ++ (e.comps.take (k)).flatMap wordsC) ++ (wordsC x2).take 1)) (x := U (x2.v0)) rfl rfl rfl rfl hY (⟨_, rfl, pre_comp e hx3 1 rfl⟩) (by simpa using hj2) (fun M1 hJ1 => ?_) (fun M1 hX1 => ?_)
            ·
              refine l_val (v := .bool false) rfl rfl rfl (e_not (a := true) rfl) ?_
              refine l_nil ?_
              refine f_then ?_
              refine c_no rfl ?_
              refine c_skip ?_
              refine f_block ?_
              refine f_then ?_
              refine c_region ?_
              refine l_val (v := .int .i64 (1)) rfl rfl rfl (e_add (a := (0 : Int)) (b := (1 : Int)) rfl rfl (by decide)) ?_
              refine l_val (v := .int .i64 (1)) rfl rfl rfl (e_move) ?_
              refine l_nil ?_
              exact f_cut ⟨(1, M1), ⟨⟨rfl, rfl, rfl, rfl, rfl, rfl⟩, rfl, ⟨by omega, by simpa [wordsC] using hJ1⟩⟩, (show 4 - 1 < 4 - 0 from by omega)⟩
            ·
              refine l_val (v := .bool true) rfl rfl rfl (e_not (a := false) rfl) ?_
              refine l_nil ?_
              refine f_then ?_
              refine c_yes rfl ?_
              refine c_ret ?_
              refine f_block_ret ?_
              refine f_then_ret ?_
              refine f_then_ret ?_
              refine f_block_ret ?_
              refine f_block_ret ?_
              refine f_then_ret ?_
              refine f_then_ret ?_
              refine f_block_ret ?_
              refine ret0 Tryz.results111 ?_
              intro w hw
              exact ⟨⟨_, rfl⟩, .inr ⟨_, M1, hX1, st_mask [false] rfl hw⟩⟩
          ·
            refine rebase (d := 0) hs0 ?_
            refine rebase (d := 23) hs23 ?_
            refine rebase (d := 24) hs24 ?_
            refine rebase (d := 25) hs25 ?_
            refine rebase (d := 36) hs36 ?_
            refine rebase (d := 37) hs37 ?_
            clear hs0 hs23 hs24 hs25 hs36 hs37
            refine c_seq ?_
            refine c_region ?_
            refine l_val (v := .bool true) rfl rfl rfl (e_lss (a := (1 : Int)) (b := (4 : Int)) rfl rfl) ?_
            refine l_nil ?_
            refine f_then ?_
            refine c_seq ?_
            refine c_yes rfl ?_
            refine c_skip ?_
            refine f_then ?_
            refine c_seq ?_
            refine c_block ?_
            refine c_seq ?_
            refine c_region ?_
            refine l_val (v := Ix (x2.v1)) rfl rfl rfl (e_index_a (cs := #[Ix (x2.v0), Ix (x2.v1), Ix (x2.v2), Ix (x2.v3)]) (k := 1) rfl rfl tf21 rfl (by decide) tf10) ?_
            refine l_val (v := Ix (x2.v1)) rfl rfl rfl (e_assign) ?_
            refine l_nil ?_
            refine f_then ?_
            refine c_seq ?_
            refine c_region ?_
            refine l_val (v := yfn l) rfl rfl rfl (e_move) ?_
            refine l_val (v := Ix (x2.v1)) rfl rfl rfl (e_move) ?_
            refine l_val (v := Ux (U (x2.v1))) rfl rfl rfl (e_conv (a := (x2.v1)) rfl ⟨_, tf1⟩ tf2 (ux_of _)) ?_
            refine l_yield (own := [pt b8 (.cells #[Bx (x2.kind), Ix (x2.v0), Ix (x2.v1), Ix (x2.v2), Ix (x2.v3)] 38)]) (M := N) (d := 43) (enc := fun x => [Ux x]) (pre := (([U e.id, U ((e.comps.length : Nat) : Int)] ++ (e.comps.take (k)).flatMap wordsC) ++ (wordsC x2).take 2)) (x := U (x2.v1)) rfl rfl rfl rfl hY (⟨_, rfl, pre_comp e hx3 2 rfl⟩) (by simpa using hj2) (fun M1 hJ1 => ?_) (fun M1 hX1 => ?_)
            ·
              refine l_val (v := .bool false) rfl rfl rfl (e_not (a := true) rfl) ?_
              refine l_nil ?_
              refine f_then ?_
              refine c_no rfl ?_
              refine c_skip ?_
              refine f_block ?_
              refine f_then ?_
              refine c_region ?_
              refine l_val (v := .int .i64 (2)) rfl rfl rfl (e_add (a := (1 : Int)) (b := (1 : Int)) rfl rfl (by decide)) ?_
              refine l_val (v := .int .i64 (2)) rfl rfl rfl (e_move) ?_
              refine l_nil ?_
              exact f_cut ⟨(2, M1), ⟨⟨rfl, rfl, rfl, rfl, rfl, rfl⟩, rfl, ⟨by omega, by simpa [wordsC] using hJ1⟩⟩, (show 4 - 2 < 4 - 1 from by omega)⟩
            ·
              refine l_val (v := .bool true) rfl rfl rfl (e_not (a := false) rfl) ?_
              refine l_nil ?_
              refine f_then ?_
              refine c_yes rfl ?_
              refine c_ret ?_
              refine f_block_ret ?_
              refine f_then_ret ?_
              refine f_then_ret ?_
              refine f_block_ret ?_
              refine f_block_ret ?_
              refine f_then_ret ?_
              refine f_then_ret ?_
              refine f_block_ret ?_
              refine ret0 Tryz.results111 ?_
              intro w hw
              exact ⟨⟨_, rfl⟩, .inr ⟨_, M1, hX1, st_mask [false] rfl hw⟩⟩
          ·
            refine rebase (d := 0) hs0 ?_
            refine rebase (d := 23) hs23 ?_
            refine rebase (d := 24) hs24 ?_
            refine rebase (d := 25) hs25 ?_
            refine rebase (d := 36) hs36 ?_
            refine rebase (d := 37) hs37 ?_
            clear hs0 hs23 hs24 hs25 hs36 hs37
            refine c_seq ?_
            refine c_region ?_
            refine l_val (v := .bool true) rfl rfl rfl (e_lss (a := (2 : Int)) (b := (4 : Int)) rfl rfl) ?_
            refine l_nil ?_
            refine f_then ?_
            refine c_seq ?_
            refine c_yes rfl ?_
            refine c_skip ?_
            refine f_then ?_
            refine c_seq ?_
            refine c_block ?_
            refine c_seq ?_
            refine c_region ?_
            refine l_val (v := Ix (x2.v2)) rfl rfl rfl (e_index_a (cs := #[Ix (x2.v0), Ix (x2.v1), Ix (x2.v2), Ix (x2.v3)]) (k := 2) rfl rfl tf21 rfl (by decide) tf10) ?_
            refine l_val (v := Ix (x2.v2)) rfl rfl rfl (e_assign) ?_
            refine l_nil ?_
            refine f_then ?_
            refine c_seq ?_
            refine c_region ?_
            refine l_val (v := yfn l) rfl rfl rfl (e_move) ?_
            refine l_val (v := Ix (x2.v2)) rfl rfl rfl (e_move) ?_
            refine l_val (v := Ux (U (x2.v2))) rfl rfl rfl (e_conv (a := (x2.v2)) rfl ⟨_, tf1⟩ tf2 (ux_of _)) ?_
            refine l_yield (own := [pt b8 (.cells #[Bx (x2.kind), Ix (x2.v0), Ix (x2.v1), Ix (x2.v2), Ix (x2.v3)] 38)]) (M := N) (d := 43) (enc := fun x => [Ux x]) (pre := (([U e.id, U ((e.comps.length : Nat) : Int)] ++ (e.comps.take (k)).flatMap wordsC) ++ (wordsC x2).take 3)) (x := U (x2.v2)) rfl rfl rfl rfl hY (⟨_, rfl, pre_comp e hx3 3 rfl⟩) (by simpa using hj2) (fun M1 hJ1 => ?_) (fun M1 hX1 => ?_)
            ·
              refine l_val (v := .bool false) rfl rfl rfl (e_not (a := true) rfl) ?_
              refine l_nil ?_
              refine f_then ?_
              refine c_no rfl ?_
              refine c_skip ?_
              refine f_block ?_
              refine f_then ?_
              refine c_region ?_
              refine l_val (v := .int .i64 (3)) rfl rfl rfl (e_add (a := (2 : Int)) (b := (1 : Int)) rfl rfl (by decide)) ?_
              refine l_val (v := .int .i64 (3)) rfl rfl rfl (e_move) ?_
              refine l_nil ?_
              exact f_cut ⟨(3, M1), ⟨⟨rfl, rfl, rfl, rfl, rfl, rfl⟩, rfl, ⟨by omega, by simpa [wordsC] using hJ1⟩⟩, (show 4 - 3 < 4 - 2 from by omega)⟩
            ·
              refine l_val (v := .bool true) rfl rfl rfl (e_not (a := false) rfl) ?_
              refine l_nil ?_
              refine f_then ?_
              refine c_yes rfl ?_
              refine c_ret ?_
              refine f_block_ret ?_
              refine f_then_ret ?_
              refine f_then_ret ?_
              refine f_block_ret ?_
              refine f_block_ret ?_
              refine f_then_ret ?_
              refine f_then_ret ?_
              refine f_block_ret ?_
              refine ret0 Tryz.results111 ?_
              intro w hw
              exact ⟨⟨_, rfl⟩, .inr ⟨_, M1, hX1, st_mask [false] rfl hw⟩⟩
          ·
            refine rebase (d := 0) hs0 ?_
            refine rebase (d := 23) hs23 ?_
            refine rebase (d := 24) hs24 ?_
            refine rebase (d := 25) hs25 ?_
            refine rebase (d := 36) hs36 ?_
            refine rebase (d := 37) hs37 ?_
            clear hs0 hs23 hs24 hs25 hs36 hs37
            refine c_seq ?_
            refine c_region ?_
            refine l_val (v := .bool true) rfl rfl rfl (e_lss (a := (3 : Int)) (b := (4 : Int)) rfl rfl) ?_
            refine l_nil ?_
            refine f_then ?_
            refine c_seq ?_
            refine c_yes rfl ?_
            refine c_skip ?_
            refine f_then ?_
            refine c_seq ?_
            refine c_block ?_
            refine c_seq ?_
            refine c_region ?_
            refine l_val (v := Ix (x2.v3)) rfl rfl rfl (e_index_a (cs := #[Ix (x2.v0), Ix (x2.v1), Ix (x2.v2), Ix (x2.v3)]) (k := 3) rfl rfl tf21 rfl (by decide) tf10) ?_
            refine l_val (v := Ix (x2.v3)) rfl rfl rfl (e_assign) ?_
            refine l_nil ?_
            refine f_then ?_
            refine c_seq ?_
            refine c_region ?_
            refine l_val (v := yfn l) rfl rfl rfl (e_move) ?_
            refine l_val (v := Ix (x2.v3)) rfl rfl rfl (e_move) ?_
            refine l_val (v := Ux (U (x2.v3))) rfl rfl rfl (e_conv (a := (x2.v3)) rfl ⟨_, tf1⟩ tf2 (ux_of _)) ?_
            refine l_yield (own := [pt b8 (.cells #[Bx (x2.kind), Ix (x2.v0), Ix (x2.v1), Ix (x2.v2), Ix (x2.v3)] 38)]) (M := N) (d := 43) (enc := fun x => [Ux x]) (pre := (([U e.id, U ((e.comps.length : Nat) : Int)] ++ (e.comps.take (k)).flatMap wordsC) ++ (wordsC x2).take 4)) (x := U (x2.v3)) rfl rfl rfl rfl hY (⟨_, rfl, pre_comp e hx3 4 rfl⟩) (by simpa using hj2) (fun M1 hJ1 => ?_) (fun M1 hX1 => ?_)
            ·
              refine l_val (v := .bool false) rfl rfl rfl (e_not (a := true) rfl) ?_
              refine l_nil ?_
              refine f_then ?_
              refine c_no rfl ?_
              refine c_skip ?_
              refine f_block ?_
              refine f_then ?_
              refine c_region ?_
              refine l_val (v := .int .i64 (4)) rfl rfl rfl (e_add (a := (3 : Int)) (b := (1 : Int)) rfl rfl (by decide)) ?_
              refine l_val (v := .int .i64 (4)) rfl rfl rfl (e_move) ?_
              refine l_nil ?_
              exact f_cut ⟨(4, M1), ⟨⟨rfl, rfl, rfl, rfl, rfl, rfl⟩, rfl, ⟨by omega, by simpa [wordsC] using hJ1⟩⟩, (show 4 - 4 < 4 - 3 from by omega)⟩
            ·
              refine l_val (v := .bool true) rfl rfl rfl (e_not (a := false) rfl) ?_
              refine l_nil ?_
              refine f_then ?_
              refine c_yes rfl ?_
              refine c_ret ?_
              refine f_block_ret ?_
              refine f_then_ret ?_
              refine f_then_ret ?_
              refine f_block_ret ?_
              refine f_block_ret ?_
              refine f_then_ret ?_
              refine f_then_ret ?_
              refine f_block_ret ?_
              refine ret0 Tryz.results111 ?_
              intro w hw
              exact ⟨⟨_, rfl⟩, .inr ⟨_, M1, hX1, st_mask [false] rfl hw⟩⟩
          ·
            refine rebase (d := 0) hs0 ?_
            refine rebase (d := 23) hs23 ?_
            refine rebase (d := 24) hs24 ?_
            refine rebase (d := 25) hs25 ?_
            refine rebase (d := 36) hs36 ?_
            refine rebase (d := 37) hs37 ?_
            clear hs0 hs23 hs24 hs25 hs36 hs37
            refine c_seq ?_
            refine c_region ?_
            refine l_val (v := .bool false) rfl rfl rfl (e_lss (a := (4 : Int)) (b := (4 : Int)) rfl rfl) ?_
            refine l_nil ?_
            refine f_then ?_
            refine c_seq ?_
            refine c_no rfl ?_
            refine c_exit ?_
            refine f_then_exit ?_
            refine f_then_exit ?_
            refine f_exit ?_
            refine f_block ?_
            refine f_then ?_
            refine c_region ?_
            refine l_val (v := Nx (k + 1)) rfl rfl rfl (e_add (a := ((k : Nat) : Int)) (b := (1 : Int)) rfl rfl (i64n (by omega) (by omega))) ?_
            refine l_val (v := Nx (k + 1)) rfl rfl rfl (e_move) ?_
            refine l_nil ?_
            refine f_mask (L' := (N)) [false] rfl ?_
            exact f_cut ⟨(k + 1, N), ⟨⟨rfl, rfl, rfl, rfl⟩, rfl, ⟨by omega, by simpa [wordsC, take_flat hx3] using hj2⟩⟩, (show e.comps.length - (k + 1) < e.comps.length - k from by omega)⟩
        ·
          refine l_val (v := .bool true) rfl rfl rfl (e_not (a := false) rfl) ?_
          refine l_nil ?_
          refine f_then ?_
          refine c_yes rfl ?_
          refine c_ret ?_
          refine f_then_ret ?_
          refine f_block_ret ?_
          refine f_then_ret ?_
          refine f_then_ret ?_
          refine f_block_ret ?_
          refine ret0 Tryz.results111 ?_
          intro w hw
          exact ⟨⟨_, rfl⟩, .inr ⟨_, M1, hX1, st_mask [false] rfl hw⟩⟩
      ·
        refine c_exit ?_
        refine f_then_exit ?_
        refine f_then_exit ?_
        refine f_exit ?_
        refine end0 Tryz.results111 ?_
        intro w hw
        exact ⟨⟨_, rfl⟩, .inl ⟨_, M, rfl, (by simpa [wordsE, List.take_of_length_le (show e.comps.length ≤ k by omega)] using hJ), st_mask [] rfl hw⟩⟩
    ·
      refine g_val (v := .bool true) rfl rfl rfl rfl rfl (e_not (a := false) rfl) ?_
      refine l_val (v := .bool true) rfl rfl rfl (e_pick_f rfl) ?_
      refine l_nil ?_
      refine f_then ?_
      refine c_yes rfl ?_
      refine c_ret ?_
      refine f_then_ret ?_
      refine ret0 Tryz.results111 ?_
      intro w hw
      exact ⟨⟨_, rfl⟩, .inr ⟨_, M1, hX1, st_mask [] rfl hw⟩⟩
  ·
    refine l_val (v := .bool true) rfl rfl rfl (e_not (a := false) rfl) ?_
    refine l_val (v := .bool true) rfl rfl rfl (e_move) ?_
    refine l_skip rfl rfl rfl rfl rfl rfl ?_
    refine l_skip rfl rfl rfl rfl rfl rfl ?_
    refine l_skip rfl rfl rfl rfl rfl rfl ?_
    refine l_skip rfl rfl rfl rfl rfl rfl ?_
    refine l_skip rfl rfl rfl rfl rfl rfl ?_
    refine l_skip rfl rfl rfl rfl rfl rfl ?_
    refine l_skip rfl rfl rfl rfl rfl rfl ?_
    refine l_val (v := .bool true) rfl rfl rfl (e_pick_t rfl) ?_
    refine l_nil ?_
    refine f_then ?_
    refine c_yes rfl ?_
    refine c_ret ?_
    refine f_then_ret ?_
    refine ret0 Tryz.results111 ?_
    intro w hw
    exact ⟨⟨_, rfl⟩, .inr ⟨_, M1, hX1, st_mask [] rfl hw⟩⟩
end Go.Proofs

namespace Go.Proofs
open Go Go.Sl
def entU (e : KEnt) : UInt64 := seqU (wordsE e)
theorem tf22 : cfB Tryz.prog 68 = true := by kernel_rfl
theorem tf23 : cfB Tryz.prog 67 = true := by kernel_rfl
theorem tf24 : tyB Tryz.prog 35 true 2 = true := by kernel_rfl
theorem tf25 : cfB Tryz.prog 70 = true := by kernel_rfl
theorem name_ok (β : Base) (w : World) (hw : St β [] w) (s : ByteArray) (hs : s.size ≤ 9223372036854775807) : Calls Tryz.prog 27 #[.string s] w fun e w' => e = .returned (Ux (seqU (wordsB s))) ∧ St β [] w' := by
  refine enter (n := 6) Tryz.func27 rfl Tryz.ntmps27 rfl ?_ hw
  refine c_seq ?_
  refine c_region ?_
  refine l_val (v := .int .u64 (0)) rfl rfl rfl (e_assign) ?_
  refine l_nil ?_
  refine f_then ?_
  refine c_seq ?_
  refine c_region ?_
  refine l_val (v := .string (s)) rfl rfl rfl (e_move) ?_
  refine l_call rfl rfl rfl (cl_value (fst := []) (cap := []) (vs := [.string (s)]) (all := [.string (s)]) tf22 rfl rfl rfl) ?_
  intro w hw
  obtain ⟨β1, sb, kn, hw1, back⟩ := St.frame_all hw
  refine (bytes_ok β1 w hw1 s).mono ?_
  rintro e w' ⟨b1, rfl, hw'⟩
  refine ⟨_, rfl, _, back _ _ hw', ?_⟩
  clear hw hw1 hw' back kn sb
  refine l_call rfl rfl rfl (cl_value (fst := []) (cap := []) (vs := [.func (.func 110) #[] #[.pointer (some ⟨b1, 0, none⟩)]]) (all := [.func (.func 110) #[] #[.pointer (some ⟨b1, 0, none⟩)]]) tf23 rfl rfl rfl) ?_
  intro w hw
  obtain ⟨β1, sb, kn, hw1, back⟩ := St.frame_all hw
  have hsq := bytes_seq β1 b1 s (kn _ (k_pt 0 (cs := #[.string (s)]) (vs := [.string (s)]) rfl rfl)) (by omega)
  refine (sequence_ok β1 w hw1 _ (wordsB s) hsq).mono ?_
  rintro e w' ⟨rfl, hw'⟩
  refine ⟨_, rfl, _, back _ _ hw', ?_⟩
  clear hw hw1 hw' back kn sb
  refine l_val (v := Ux (seqU (wordsB s))) rfl rfl rfl (e_assign) ?_
  refine l_nil ?_
  refine f_then ?_
  refine c_ret ?_
  refine ret1 Tryz.results27 (v := Ux (seqU (wordsB s))) rfl ?_
  intro w hw
  exact ⟨rfl, st_mask [false] rfl hw⟩
theorem entity_ok (β : Base) (w : World) (hw : St β [] w) (e : KEnt) (v : Value) (hs : Sl CompR β.heap v e.comps) : Calls Tryz.prog 32 #[.agg #[Ix e.id, v]] w fun r w' => r = .returned (Ux (entU e)) ∧ St β [] w' := by
  obtain ⟨va, vc, rfl, vl, vm, ve⟩ := hs.get
  refine enter (n := 6) Tryz.func32 rfl Tryz.ntmps32 rfl ?_ hw
  refine c_seq ?_
  refine c_region ?_
  refine l_mv rfl rfl rfl (m_box (v := .agg #[Ix (e.id), .slice va (e.comps.length) (vc)]) rfl) ?_
  rintro _ _ ⟨b1, rfl, rfl⟩
  refine l_val (v := .int .u64 (0)) rfl rfl rfl (e_assign) ?_
  refine l_nil ?_
  refine f_then ?_
  refine c_seq ?_
  refine c_region ?_
  refine l_val (v := .agg #[Ix (e.id), .slice va (e.comps.length) (vc)]) rfl rfl rfl (e_load tf24 (cs := [Ix (e.id), .slice va (e.comps.length) (vc)]) rfl (k_pt 0 (cs := #[Ix (e.id), .slice va (e.comps.length) (vc)]) (vs := [Ix (e.id), .slice va (e.comps.length) (vc)]) rfl rfl) rfl) ?_
  refine l_call rfl rfl rfl (cl_value (fst := []) (cap := []) (vs := [.agg #[Ix (e.id), .slice va (e.comps.length) (vc)]]) (all := [.agg #[Ix (e.id), .slice va (e.comps.length) (vc)]]) tf25 rfl rfl rfl) ?_
  intro w hw
  obtain ⟨β1, sb, kn, hw1, back⟩ := St.frame_all hw
  refine (numbers_ok β1 w hw1 e (.slice va (e.comps.length) (vc))).mono ?_
  rintro e w' ⟨b2, rfl, hw'⟩
  refine ⟨_, rfl, _, back _ _ hw', ?_⟩
  clear hw hw1 hw' back kn sb
  refine l_call rfl rfl rfl (cl_value (fst := []) (cap := []) (vs := [.func (.func 111) #[] #[.pointer (some ⟨b2, 0, none⟩)]]) (all := [.func (.func 111) #[] #[.pointer (some ⟨b2, 0, none⟩)]]) tf23 rfl rfl rfl) ?_
  intro w hw
  obtain ⟨β1, sb, kn, hw1, back⟩ := St.frame_all hw
  have hsq := numbers_seq β1 b2 e _ (kn _ (k_pt 0 (cs := #[Ix (e.id), .slice va (e.comps.length) (vc)]) (vs := [Ix (e.id), .slice va (e.comps.length) (vc)]) rfl rfl)) ((Sl.mono _ _ _ _ _ sb (⟨⟨_, _, rfl, vl, vm, ve⟩⟩ : Sl CompR _ _ e.comps)))
  refine (sequence_ok β1 w hw1 _ (wordsE e) hsq).mono ?_
  rintro e w' ⟨rfl, hw'⟩
  refine ⟨_, rfl, _, back _ _ hw', ?_⟩
  clear hw hw1 hw' back kn sb
  refine l_val (v := Ux (seqU (wordsE e))) rfl rfl rfl (e_assign) ?_
  refine l_nil ?_
  refine f_then ?_
  refine c_ret ?_
  refine ret1 Tryz.results32 (v := Ux (seqU (wordsE e))) rfl ?_
  intro w hw
  exact ⟨rfl, st_mask [false, false] rfl hw⟩
end Go.Proofs

namespace Go.Proofs
open Go Go.Sl
def entsU (d : UInt64) (es : List KEnt) : UInt64 := es.foldl (fun d e => d + entU e) d
def worldU (x : KWorld) : UInt64 := entsU (tickU x.tick) x.ents
theorem entsU_snoc {d : UInt64} {es : List KEnt} {k : Nat} {e : KEnt} (h : es[k]? = some e) : entsU d (es.take (k + 1)) = entsU d (es.take k) + entU e := by
  rw [take_succ h]; simp [entsU]
theorem tf26 : cfB Tryz.prog 32 = true := by kernel_rfl
theorem tf27 : fldB Tryz.prog 24 0 0 1 false = true := by kernel_rfl
theorem tf28 : cfB Tryz.prog 26 = true := by kernel_rfl
theorem tf29 : fldB Tryz.prog 24 1 1 1 false = true := by kernel_rfl
theorem tf30 : tyB Tryz.prog 22 false 1 = true := by kernel_rfl
theorem tf31 : Tryz.prog.underlying 22 = some (.slice 35) := by kernel_rfl
theorem tf32 : slB Tryz.prog 22 35 2 = true := by kernel_rfl
theorem tf33 : (Tryz.prog.info? 35).bind (·.zero) = some (.agg #[.int .i64 (0), .slice none 0 0]) := by kernel_rfl
theorem tf34 : cfB Tryz.prog 31 = true := by kernel_rfl
theorem with_ok (β : Base) (w : World) (hw : St β [] w) (d : UInt64) (e : KEnt) (v : Value) (hs : Sl CompR β.heap v e.comps) : Calls Tryz.prog 31 #[Ux d, .agg #[Ix e.id, v]] w fun r w' => r = .returned (Ux (d + entU e)) ∧ St β [] w' := by
  obtain ⟨va, vc, rfl, vl, vm, ve⟩ := hs.get
  refine enter (n := 9) Tryz.func31 rfl Tryz.ntmps31 rfl ?_ hw
  refine c_seq ?_
  refine c_region ?_
  refine l_mv rfl rfl rfl (m_box (v := .agg #[Ix (e.id), .slice va (e.comps.length) (vc)]) rfl) ?_
  rintro _ _ ⟨b1, rfl, rfl⟩
  refine l_val (v := .int .u64 (0)) rfl rfl rfl (e_assign) ?_
  refine l_nil ?_
  refine f_then ?_
  refine c_seq ?_
  refine c_region ?_
  refine l_val (v := Ux (d)) rfl rfl rfl (e_move) ?_
  refine l_val (v := .agg #[Ix (e.id), .slice va (e.comps.length) (vc)]) rfl rfl rfl (e_load tf24 (cs := [Ix (e.id), .slice va (e.comps.length) (vc)]) rfl (k_pt 0 (cs := #[Ix (e.id), .slice va (e.comps.length) (vc)]) (vs := [Ix (e.id), .slice va (e.comps.length) (vc)]) rfl rfl) rfl) ?_
  refine l_call rfl rfl rfl (cl_value (fst := []) (cap := []) (vs := [.agg #[Ix (e.id), .slice va (e.comps.length) (vc)]]) (all := [.agg #[Ix (e.id), .slice va (e.comps.length) (vc)]]) tf26 rfl rfl rfl) ?_
  intro w hw
  obtain ⟨β1, sb, kn, hw1, back⟩ := St.frame_all hw
  refine (entity_ok β1 w hw1 e _ (Sl.mono _ _ _ _ _ sb (⟨⟨_, _, rfl, vl, vm, ve⟩⟩ : Sl CompR _ _ e.comps))).mono ?_
  rintro e w' ⟨rfl, hw'⟩
  refine ⟨_, rfl, _, back _ _ hw', ?_⟩
  clear hw hw1 hw' back kn sb
  refine l_val (v := Ux (d + (entU e))) rfl rfl rfl (e_add (a := ((d).toNat : Int)) (b := ((entU e).toNat : Int)) rfl rfl (ux_add _ _)) ?_
  refine l_val (v := Ux (d + (entU e))) rfl rfl rfl (e_assign) ?_
  refine l_nil ?_
  refine f_then ?_
  refine c_ret ?_
  refine ret1 Tryz.results31 (v := Ux (d + (entU e))) rfl ?_
  intro w hw
  exact ⟨rfl, st_mask [false] rfl hw⟩
theorem without_ok (β : Base) (w : World) (hw : St β [] w) (d : UInt64) (e : KEnt) (v : Value) (hs : Sl CompR β.heap v e.comps) : Calls Tryz.prog 33 #[Ux d, .agg #[Ix e.id, v]] w fun r w' => r = .returned (Ux (d - entU e)) ∧ St β [] w' := by
  obtain ⟨va, vc, rfl, vl, vm, ve⟩ := hs.get
  refine enter (n := 9) Tryz.func33 rfl Tryz.ntmps33 rfl ?_ hw
  refine c_seq ?_
  refine c_region ?_
  refine l_mv rfl rfl rfl (m_box (v := .agg #[Ix (e.id), .slice va (e.comps.length) (vc)]) rfl) ?_
  rintro _ _ ⟨b1, rfl, rfl⟩
  refine l_val (v := .int .u64 (0)) rfl rfl rfl (e_assign) ?_
  refine l_nil ?_
  refine f_then ?_
  refine c_seq ?_
  refine c_region ?_
  refine l_val (v := Ux (d)) rfl rfl rfl (e_move) ?_
  refine l_val (v := .agg #[Ix (e.id), .slice va (e.comps.length) (vc)]) rfl rfl rfl (e_load tf24 (cs := [Ix (e.id), .slice va (e.comps.length) (vc)]) rfl (k_pt 0 (cs := #[Ix (e.id), .slice va (e.comps.length) (vc)]) (vs := [Ix (e.id), .slice va (e.comps.length) (vc)]) rfl rfl) rfl) ?_
  refine l_call rfl rfl rfl (cl_value (fst := []) (cap := []) (vs := [.agg #[Ix (e.id), .slice va (e.comps.length) (vc)]]) (all := [.agg #[Ix (e.id), .slice va (e.comps.length) (vc)]]) tf26 rfl rfl rfl) ?_
  intro w hw
  obtain ⟨β1, sb, kn, hw1, back⟩ := St.frame_all hw
  refine (entity_ok β1 w hw1 e _ (Sl.mono _ _ _ _ _ sb (⟨⟨_, _, rfl, vl, vm, ve⟩⟩ : Sl CompR _ _ e.comps))).mono ?_
  rintro e w' ⟨rfl, hw'⟩
  refine ⟨_, rfl, _, back _ _ hw', ?_⟩
  clear hw hw1 hw' back kn sb
  refine l_val (v := Ux (d - (entU e))) rfl rfl rfl (e_sub (a := ((d).toNat : Int)) (b := ((entU e).toNat : Int)) rfl rfl (ux_sub _ _)) ?_
  refine l_val (v := Ux (d - (entU e))) rfl rfl rfl (e_assign) ?_
  refine l_nil ?_
  refine f_then ?_
  refine c_ret ?_
  refine ret1 Tryz.results33 (v := Ux (d - (entU e))) rfl ?_
  intro w hw
  exact ⟨rfl, st_mask [false] rfl hw⟩
theorem world_ok (β : Base) (w : World) (hw : St β [] w) (x : KWorld) (v : Value) (hs : Sl EntR β.heap v x.ents) : Calls Tryz.prog 30 #[.agg #[Ix x.tick, v]] w fun r w' => r = .returned (Ux (worldU x)) ∧ St β [] w' := by
  obtain ⟨va, vc, rfl, vl, vm, ve⟩ := hs.get
  refine enter (n := 21) Tryz.func30 rfl Tryz.ntmps30 rfl ?_ hw
  refine c_seq ?_
  refine c_region ?_
  refine l_mv rfl rfl rfl (m_box (v := .agg #[Ix (x.tick), .slice va (x.ents.length) (vc)]) rfl) ?_
  rintro _ _ ⟨b1, rfl, rfl⟩
  refine l_val (v := .int .u64 (0)) rfl rfl rfl (e_assign) ?_
  refine l_nil ?_
  refine f_then ?_
  refine c_seq ?_
  refine c_region ?_
  refine l_val (v := .pointer (some ⟨b1, 0, none⟩)) rfl rfl rfl (e_fieldPt (b := b1) (o := 0) rfl tf27) ?_
  refine l_val (v := Ix (x.tick)) rfl rfl rfl (e_load1 tf10 (v := Ix (x.tick)) rfl (k_pt 0 (cs := #[Ix (x.tick), .slice va (x.ents.length) (vc)]) (vs := [Ix (x.tick)]) rfl rfl)) ?_
  refine l_call rfl rfl rfl (cl_value (fst := []) (cap := []) (vs := [Ix (x.tick)]) (all := [Ix (x.tick)]) tf28 rfl rfl rfl) ?_
  intro w hw
  obtain ⟨β1, sb, kn, hw1, back⟩ := St.frame_all hw
  refine (tick_ok β1 w hw1 (x.tick)).mono ?_
  rintro e w' ⟨rfl, hw'⟩
  refine ⟨_, rfl, _, back _ _ hw', ?_⟩
  clear hw hw1 hw' back kn sb
  refine l_val (v := Ux (tickU (x.tick))) rfl rfl rfl (e_assign) ?_
  refine l_nil ?_
  refine f_then ?_
  refine c_seq ?_
  refine c_seq ?_
  refine c_region ?_
  refine l_val (v := .pointer (some ⟨b1, 1, none⟩)) rfl rfl rfl (e_fieldPt (b := b1) (o := 0) rfl tf29) ?_
  refine l_val (v := .slice va (x.ents.length) (vc)) rfl rfl rfl (e_load1 tf30 (v := .slice va (x.ents.length) (vc)) rfl (k_pt 0 (cs := #[Ix (x.tick), .slice va (x.ents.length) (vc)]) (vs := [.slice va (x.ents.length) (vc)]) rfl rfl)) ?_
  refine l_val (v := Nx (x.ents.length)) rfl rfl rfl (e_len (a := va) (n := x.ents.length) (c := vc) rfl tf31) ?_
  refine l_val (v := .int .i64 (0)) rfl rfl rfl (e_move) ?_
  refine l_nil ?_
  refine f_then ?_
  refine c_block ?_
  refine c_mask [true] rfl ?_
  refine c_loop (fun (k : Nat) (f : Fm) (L : List Res) => (f 3 = Ux (entsU (tickU x.tick) (x.ents.take k)) ∧ f 10 = .slice va (x.ents.length) (vc) ∧ f 11 = Nx (x.ents.length) ∧ f 12 = Nx (k)) ∧ L = [pt b1 (.cells #[Ix (x.tick), .slice va (x.ents.length) (vc)] 24)] ∧ (k ≤ x.ents.length)) (fun (k : Nat) => x.ents.length - k) 0 ?_ ?_
  · exact ⟨⟨rfl, rfl, rfl, rfl⟩, rfl, (by omega)⟩
  rintro k f0 L0 ⟨⟨hs3, hs10, hs11, hs12⟩, hL, hk⟩
  subst L0
  refine rebase (d := 3) hs3 ?_
  refine rebase (d := 10) hs10 ?_
  refine rebase (d := 11) hs11 ?_
  refine rebase (d := 12) hs12 ?_
  clear hs3 hs10 hs11 hs12
  refine c_seq ?_
  refine c_region ?_
  refine l_val (v := .bool (decide (((k : Nat) : Int) < ((x.ents.length : Nat) : Int)))) rfl rfl rfl (e_lss (a := ((k : Nat) : Int)) (b := ((x.ents.length : Nat) : Int)) rfl rfl) ?_
  refine l_nil ?_
  refine f_then ?_
  refine c_seq ?_
  refine c_if (((k : Nat) : Int) < ((x.ents.length : Nat) : Int)) rfl (fun hc2 => ?_) (fun hc2 => ?_)
  ·
    refine c_skip ?_
    refine f_then ?_
    refine c_seq ?_
    refine c_block ?_
    refine c_seq ?_
    refine c_region ?_
    obtain ⟨x3, hx4⟩ : ∃ x_, (x.ents)[k]? = some x_ := ⟨_, List.getElem?_eq_getElem (by omega)⟩
    obtain ⟨ha5, cs6, hc7, hr8⟩ := ve _ _ hx4
    obtain ⟨v9, rfl, hv10⟩ := hr8
    obtain ⟨v9a, v9c, rfl, v9l, v9m, v9e⟩ := hv10.get
    refine l_val (v := .pointer (some ((ba va).add (k * 2)))) rfl rfl rfl (e_indexAddr (k := k) (len := x.ents.length) (cap := vc) (a := va) rfl rfl tf32 (by omega) ha5) ?_
    refine l_val (v := .agg #[Ix (x3.id), .slice v9a (x3.comps.length) (v9c)]) rfl rfl rfl (e_load tf24 (cs := [Ix (x3.id), .slice v9a (x3.comps.length) (v9c)]) rfl (Knows.of_base (Cs.mono _ _) hc7) rfl) ?_
    refine l_mv rfl rfl rfl (m_alloc tf33) ?_
    rintro _ _ ⟨b11, rfl, rfl⟩
    refine l_mu rfl rfl (m_store 0 tf24 (b := b11) (o := 0) (T := 35) (cs := #[.int .i64 (0), .slice none 0 0]) (cs' := #[Ix (x3.id), .slice v9a (x3.comps.length) (v9c)]) (v := .agg #[Ix (x3.id), .slice v9a (x3.comps.length) (v9c)]) rfl rfl rfl rfl rfl rfl rfl) ?_
    refine l_nil ?_
    refine f_then ?_
    refine c_region ?_
    refine l_val (v := Ux (entsU (tickU x.tick) (x.ents.take k))) rfl rfl rfl (e_move) ?_
    refine l_val (v := .agg #[Ix (x3.id), .slice v9a (x3.comps.length) (v9c)]) rfl rfl rfl (e_load tf24 (cs := [Ix (x3.id), .slice v9a (x3.comps.length) (v9c)]) rfl (k_pt 0 (cs := #[Ix (x3.id), .slice v9a (x3.comps.length) (v9c)]) (vs := [Ix (x3.id), .slice v9a (x3.comps.length) (v9c)]) rfl rfl) rfl) ?_
    refine l_call rfl rfl rfl (cl_value (fst := []) (cap := []) (vs := [Ux (entsU (tickU x.tick) (x.ents.take k)), .agg #[Ix (x3.id), .slice v9a (x3.comps.length) (v9c)]]) (all := [Ux (entsU (tickU x.tick) (x.ents.take k)), .agg #[Ix (x3.id), .slice v9a (x3.comps.length) (v9c)]]) tf34 rfl rfl rfl) ?_
    intro w hw
    obtain ⟨β1, sb, kn, hw1, back⟩ := St.frame_all hw
    refine (with_ok β1 w hw1 (entsU (tickU x.tick) (x.ents.take k)) x3 _ (Sl.mono _ _ _ _ _ sb (⟨⟨_, _, rfl, v9l, v9m, v9e⟩⟩ : Sl CompR _ _ x3.comps))).mono ?_
    rintro e w' ⟨rfl, hw'⟩
    refine ⟨_, rfl, _, back _ _ hw', ?_⟩
    clear hw hw1 hw' back kn sb
    refine l_val (v := Ux ((entsU (tickU x.tick) (x.ents.take k)) + entU x3)) rfl rfl rfl (e_assign) ?_
    refine l_nil ?_
    refine f_block ?_
    refine f_then ?_
    refine c_region ?_
    refine l_val (v := Nx (k + 1)) rfl rfl rfl (e_add (a := ((k : Nat) : Int)) (b := (1 : Int)) rfl rfl (i64n (by omega) (by omega))) ?_
    refine l_val (v := Nx (k + 1)) rfl rfl rfl (e_move) ?_
    refine l_nil ?_
    refine f_mask (L' := [pt b1 (.cells #[Ix (x.tick), .slice va (x.ents.length) (vc)] 24)]) [false, true] rfl ?_
    exact f_cut ⟨k + 1, ⟨⟨congrArg (fun z => Ux z) (entsU_snoc hx4).symm, rfl, rfl, rfl⟩, rfl, (by omega)⟩, (show x.ents.length - (k + 1) < x.ents.length - k from by omega)⟩
  ·
    refine c_exit ?_
    refine f_then_exit ?_
    refine f_then_exit ?_
    refine f_exit ?_
    refine f_then ?_
    refine c_seq ?_
    refine c_region ?_
    refine l_val (v := Ux (entsU (tickU x.tick) (x.ents.take k))) rfl rfl rfl (e_move) ?_
    refine l_val (v := Ux (entsU (tickU x.tick) (x.ents.take k))) rfl rfl rfl (e_assign) ?_
    refine l_nil ?_
    refine f_then ?_
    refine c_ret ?_
    refine ret1 Tryz.results30 (v := Ux (entsU (tickU x.tick) (x.ents.take k))) rfl ?_
    intro w hw
    exact ⟨by rw [worldU, List.take_of_length_le (show x.ents.length ≤ k by omega)], st_mask [false] rfl hw⟩
end Go.Proofs
