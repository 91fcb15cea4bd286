import Derived.Test.YtbfidhbcojbklaaDgBase
import Derived.Test.YtbfidhbcojbklaaSlRange
import Derived.Test.YtbfidhbcojbklaaSlEq
import Derived.Test.YtbfidhbcojbklaaProg
namespace Go.Proofs
open Go Go.Sl
def mixU (z : UInt64) : UInt64 :=
  let z := (z ^^^ z >>> 30) * 0xbf58476d1ce4e5b9
  let z := (z ^^^ z >>> 27) * 0x94d049bb133111eb
  z ^^^ z >>> 31
def chainU (d w : UInt64) : UInt64 := mixU (d * 0x9e3779b97f4a7c15 + w + 1)
def tickU (t : Int) : UInt64 := chainU 0 (U t)
def seqF (h : UInt64) (xs : List UInt64) : UInt64 := xs.foldl (fun h w => h * 0x9e3779b97f4a7c15 + w + 1) h
def seqU (xs : List UInt64) : UInt64 := mixU (seqF 0 xs)
theorem seqF_snoc (h : UInt64) (xs : List UInt64) (x : UInt64) : seqF h (xs ++ [x]) = seqF h xs * 0x9e3779b97f4a7c15 + x + 1 := by simp [seqF]
def wordsB (s : ByteArray) : List UInt64 := s.data.toList.map UInt8.toUInt64
theorem tf0 : cfB Try.prog 35 = true := by kernel_rfl
theorem tf1 : Try.prog.underlying 3 = some (.int .i64) := by kernel_rfl
theorem tf2 : Try.prog.underlying 25 = some (.int .u64) := by kernel_rfl
theorem tf3 : cfB Try.prog 17 = true := by kernel_rfl
theorem tf4 : (Try.prog.info? 25).bind (·.zero) = some (.int .u64 (0)) := by kernel_rfl
theorem tf5 : tyB Try.prog 25 false 1 = true := by kernel_rfl
theorem tf6 : tyB Try.prog 9 false 1 = true := by kernel_rfl
theorem tf7 : Try.prog.underlying 9 = some .string := by kernel_rfl
theorem tf8 : Try.prog.underlying 5 = some (.int .u8) := by kernel_rfl
theorem mix_ok (β : Base) (w : World) (hw : St β [] w) (x : UInt64) : Calls Try.prog 35 #[Ux x] w fun e w' => e = .returned (Ux (mixU x)) ∧ St β [] w' := by
  refine enter (n := 17) Try.func35 rfl Try.ntmps35 rfl ?_ hw
  refine c_seq ?_
  refine c_region ?_
  refine l_val (v := .int .u64 (0)) rfl rfl rfl (e_assign) ?_
  refine l_nil ?_
  refine f_then ?_
  refine c_seq ?_
  refine c_region ?_
  refine l_val (v := Ux (x)) rfl rfl rfl (e_move) ?_
  refine l_val (v := Ux (x)) rfl rfl rfl (e_move) ?_
  refine l_val (v := Ux (x >>> (30 : UInt64))) rfl rfl rfl (e_shr (a := ((x).toNat : Int)) (b := ((30 : Nat) : Int)) rfl rfl (by decide) (ux_shr _ 30 (by decide))) ?_
  refine l_val (v := Ux (x ^^^ (x >>> (30 : UInt64)))) rfl rfl rfl (e_xor (a := ((x).toNat : Int)) (b := ((x >>> (30 : UInt64)).toNat : Int)) rfl rfl (ux_xor _ _)) ?_
  refine l_val (v := Ux ((x ^^^ (x >>> (30 : UInt64))) * (13787848793156543929 : UInt64))) rfl rfl rfl (e_mul (a := ((x ^^^ (x >>> (30 : UInt64))).toNat : Int)) (b := ((13787848793156543929 : UInt64).toNat : Int)) rfl rfl (ux_mul _ _)) ?_
  refine l_val (v := Ux ((x ^^^ (x >>> (30 : UInt64))) * (13787848793156543929 : UInt64))) rfl rfl rfl (e_assign) ?_
  refine l_nil ?_
  refine f_then ?_
  refine c_seq ?_
  refine c_region ?_
  refine l_val (v := Ux ((x ^^^ (x >>> (30 : UInt64))) * (13787848793156543929 : UInt64))) rfl rfl rfl (e_move) ?_
  refine l_val (v := Ux ((x ^^^ (x >>> (30 : UInt64))) * (13787848793156543929 : UInt64))) rfl rfl rfl (e_move) ?_
  refine l_val (v := Ux (((x ^^^ (x >>> (30 : UInt64))) * (13787848793156543929 : UInt64)) >>> (27 : UInt64))) rfl rfl rfl (e_shr (a := (((x ^^^ (x >>> (30 : UInt64))) * (13787848793156543929 : UInt64)).toNat : Int)) (b := ((27 : Nat) : Int)) rfl rfl (by decide) (ux_shr _ 27 (by decide))) ?_
  refine l_val (v := Ux (((x ^^^ (x >>> (30 : UInt64))) * (13787848793156543929 : UInt64)) ^^^ (((x ^^^ (x >>> (30 : UInt64))) * (13787848793156543929 : UInt64)) >>> (27 : UInt64)))) rfl rfl rfl (e_xor (a := (((x ^^^ (x >>> (30 : UInt64))) * (13787848793156543929 : UInt64)).toNat : Int)) (b := ((((x ^^^ (x >>> (30 : UInt64))) * (13787848793156543929 : UInt64)) >>> (27 : UInt64)).toNat : Int)) rfl rfl (ux_xor _ _)) ?_
  refine l_val (v := Ux ((((x ^^^ (x >>> (30 : UInt64))) * (13787848793156543929 : UInt64)) ^^^ (((x ^^^ (x >>> (30 : UInt64))) * (13787848793156543929 : UInt64)) >>> (27 : UInt64))) * (10723151780598845931 : UInt64))) rfl rfl rfl (e_mul (a := ((((x ^^^ (x >>> (30 : UInt64))) * (13787848793156543929 : UInt64)) ^^^ (((x ^^^ (x >>> (30 : UInt64))) * (13787848793156543929 : UInt64)) >>> (27 : UInt64))).toNat : Int)) (b := ((10723151780598845931 : UInt64).toNat : Int)) rfl rfl (ux_mul _ _)) ?_
  refine l_val (v := Ux ((((x ^^^ (x >>> (30 : UInt64))) * (13787848793156543929 : UInt64)) ^^^ (((x ^^^ (x >>> (30 : UInt64))) * (13787848793156543929 : UInt64)) >>> (27 : UInt64))) * (10723151780598845931 : UInt64))) rfl rfl rfl (e_assign) ?_
  refine l_nil ?_
  refine f_then ?_
  refine c_seq ?_
  refine c_region ?_
  refine l_val (v := Ux ((((x ^^^ (x >>> (30 : UInt64))) * (13787848793156543929 : UInt64)) ^^^ (((x ^^^ (x >>> (30 : UInt64))) * (13787848793156543929 : UInt64)) >>> (27 : UInt64))) * (10723151780598845931 : UInt64))) rfl rfl rfl (e_move) ?_
  refine l_val (v := Ux ((((x ^^^ (x >>> (30 : UInt64))) * (13787848793156543929 : UInt64)) ^^^ (((x ^^^ (x >>> (30 : UInt64))) * (13787848793156543929 : UInt64)) >>> (27 : UInt64))) * (10723151780598845931 : UInt64))) rfl rfl rfl (e_move) ?_
  refine l_val (v := Ux (((((x ^^^ (x >>> (30 : UInt64))) * (13787848793156543929 : UInt64)) ^^^ (((x ^^^ (x >>> (30 : UInt64))) * (13787848793156543929 : UInt64)) >>> (27 : UInt64))) * (10723151780598845931 : UInt64)) >>> (31 : UInt64))) rfl rfl rfl (e_shr (a := (((((x ^^^ (x >>> (30 : UInt64))) * (13787848793156543929 : UInt64)) ^^^ (((x ^^^ (x >>> (30 : UInt64))) * (13787848793156543929 : UInt64)) >>> (27 : UInt64))) * (10723151780598845931 : UInt64)).toNat : Int)) (b := ((31 : Nat) : Int)) rfl rfl (by decide) (ux_shr _ 31 (by decide))) ?_
  refine l_val (v := Ux (((((x ^^^ (x >>> (30 : UInt64))) * (13787848793156543929 : UInt64)) ^^^ (((x ^^^ (x >>> (30 : UInt64))) * (13787848793156543929 : UInt64)) >>> (27 : UInt64))) * (10723151780598845931 : UInt64)) ^^^ (((((x ^^^ (x >>> (30 : UInt64))) * (13787848793156543929 : UInt64)) ^^^ (((x ^^^ (x >>> (30 : UInt64))) * (13787848793156543929 : UInt64)) >>> (27 : UInt64))) * (10723151780598845931 : UInt64)) >>> (31 : UInt64)))) rfl rfl rfl (e_xor (a := (((((x ^^^ (x >>> (30 : UInt64))) * (13787848793156543929 : UInt64)) ^^^ (((x ^^^ (x >>> (30 : UInt64))) * (13787848793156543929 : UInt64)) >>> (27 : UInt64))) * (10723151780598845931 : UInt64)).toNat : Int)) (b := ((((((x ^^^ (x >>> (30 : UInt64))) * (13787848793156543929 : UInt64)) ^^^ (((x ^^^ (x >>> (30 : UInt64))) * (13787848793156543929 : UInt64)) >>> (27 : UInt64))) * (10723151780598845931 : UInt64)) >>> (31 : UInt64)).toNat : Int)) rfl rfl (ux_xor _ _)) ?_
  refine l_val (v := Ux (((((x ^^^ (x >>> (30 : UInt64))) * (13787848793156543929 : UInt64)) ^^^ (((x ^^^ (x >>> (30 : UInt64))) * (13787848793156543929 : UInt64)) >>> (27 : UInt64))) * (10723151780598845931 : UInt64)) ^^^ (((((x ^^^ (x >>> (30 : UInt64))) * (13787848793156543929 : UInt64)) ^^^ (((x ^^^ (x >>> (30 : UInt64))) * (13787848793156543929 : UInt64)) >>> (27 : UInt64))) * (10723151780598845931 : UInt64)) >>> (31 : UInt64)))) rfl rfl rfl (e_assign) ?_
  refine l_nil ?_
  refine f_then ?_
  refine c_ret ?_
  refine ret1 Try.results35 (v := Ux (((((x ^^^ (x >>> (30 : UInt64))) * (13787848793156543929 : UInt64)) ^^^ (((x ^^^ (x >>> (30 : UInt64))) * (13787848793156543929 : UInt64)) >>> (27 : UInt64))) * (10723151780598845931 : UInt64)) ^^^ (((((x ^^^ (x >>> (30 : UInt64))) * (13787848793156543929 : UInt64)) ^^^ (((x ^^^ (x >>> (30 : UInt64))) * (13787848793156543929 : UInt64)) >>> (27 : UInt64))) * (10723151780598845931 : UInt64)) >>> (31 : UInt64)))) rfl ?_
  intro w hw
  exact ⟨rfl, st_mask [] rfl hw⟩
theorem chain_ok (β : Base) (w : World) (hw : St β [] w) (x y : UInt64) : Calls Try.prog 17 #[Ux x, Ux y] w fun e w' => e = .returned (Ux (chainU x y)) ∧ St β [] w' := by
  refine enter (n := 11) Try.func17 rfl Try.ntmps17 rfl ?_ hw
  refine c_seq ?_
  refine c_region ?_
  refine l_val (v := .int .u64 (0)) rfl rfl rfl (e_assign) ?_
  refine l_nil ?_
  refine f_then ?_
  refine c_seq ?_
  refine c_region ?_
  refine l_val (v := Ux (x)) rfl rfl rfl (e_move) ?_
  refine l_val (v := Ux (x * (11400714819323198485 : UInt64))) rfl rfl rfl (e_mul (a := ((x).toNat : Int)) (b := ((11400714819323198485 : UInt64).toNat : Int)) rfl rfl (ux_mul _ _)) ?_
  refine l_val (v := Ux (y)) rfl rfl rfl (e_move) ?_
  refine l_val (v := Ux ((x * (11400714819323198485 : UInt64)) + y)) rfl rfl rfl (e_add (a := ((x * (11400714819323198485 : UInt64)).toNat : Int)) (b := ((y).toNat : Int)) rfl rfl (ux_add _ _)) ?_
  refine l_val (v := Ux (((x * (11400714819323198485 : UInt64)) + y) + (1 : UInt64))) rfl rfl rfl (e_add (a := (((x * (11400714819323198485 : UInt64)) + y).toNat : Int)) (b := ((1 : UInt64).toNat : Int)) rfl rfl (ux_add _ _)) ?_
  refine l_call rfl rfl rfl (cl_value (fst := []) (cap := []) (vs := [Ux (((x * (11400714819323198485 : UInt64)) + y) + (1 : UInt64))]) (all := [Ux (((x * (11400714819323198485 : UInt64)) + y) + (1 : UInt64))]) tf0 rfl rfl rfl) ?_
  intro w hw
  obtain ⟨β1, sb, kn, hw1, back⟩ := St.frame_all hw
  refine (mix_ok β1 w hw1 (((x * (11400714819323198485 : UInt64)) + y) + (1 : UInt64))).mono ?_
  rintro e w' ⟨rfl, hw'⟩
  refine ⟨_, rfl, _, back _ _ hw', ?_⟩
  clear hw hw1 hw' back kn sb
  refine l_val (v := Ux (mixU (((x * (11400714819323198485 : UInt64)) + y) + (1 : UInt64)))) rfl rfl rfl (e_assign) ?_
  refine l_nil ?_
  refine f_then ?_
  refine c_ret ?_
  refine ret1 Try.results17 (v := Ux (mixU (((x * (11400714819323198485 : UInt64)) + y) + (1 : UInt64)))) rfl ?_
  intro w hw
  exact ⟨rfl, st_mask [] rfl hw⟩
theorem tick_ok (β : Base) (w : World) (hw : St β [] w) (t : Int) : Calls Try.prog 15 #[Ix t] w fun e w' => e = .returned (Ux (tickU t)) ∧ St β [] w' := by
  refine enter (n := 6) Try.func15 rfl Try.ntmps15 rfl ?_ hw
  refine c_seq ?_
  refine c_region ?_
  refine l_val (v := .int .u64 (0)) rfl rfl rfl (e_assign) ?_
  refine l_nil ?_
  refine f_then ?_
  refine c_seq ?_
  refine c_region ?_
  refine l_val (v := Ix (t)) rfl rfl rfl (e_move) ?_
  refine l_val (v := Ux (U (t))) rfl rfl rfl (e_conv (a := (t)) rfl ⟨_, tf1⟩ tf2 (ux_of _)) ?_
  refine l_call rfl rfl rfl (cl_value (fst := []) (cap := []) (vs := [.int .u64 (0), Ux (U (t))]) (all := [.int .u64 (0), Ux (U (t))]) tf3 rfl rfl rfl) ?_
  intro w hw
  obtain ⟨β1, sb, kn, hw1, back⟩ := St.frame_all hw
  refine (chain_ok β1 w hw1 (0 : UInt64) (U (t))).mono ?_
  rintro e w' ⟨rfl, hw'⟩
  refine ⟨_, rfl, _, back _ _ hw', ?_⟩
  clear hw hw1 hw' back kn sb
  refine l_val (v := Ux (chainU (0 : UInt64) (U (t)))) rfl rfl rfl (e_assign) ?_
  refine l_nil ?_
  refine f_then ?_
  refine c_ret ?_
  refine ret1 Try.results15 (v := Ux (chainU (0 : UInt64) (U (t)))) rfl ?_
  intro w hw
  exact ⟨rfl, st_mask [] rfl hw⟩
theorem sequence_ok (β : Base) (w : World) (hw : St β [] w) (v : Value) (xs : List UInt64) (hs : SeqOf Try.prog β v (fun x => [Ux x]) (· = xs)) : Calls Try.prog 32 #[v] w fun e w' => e = .returned (Ux (seqU xs)) ∧ St β [] w' := by
  refine enterM (n := 14) Try.func32 rfl Try.ntmps32 rfl ?_ hw
  refine c_seq ?_
  refine c_region ?_
  refine l_val (v := .int .u64 (0)) rfl rfl rfl (e_assign) ?_
  refine l_nil ?_
  refine f_then ?_
  refine c_seq ?_
  refine c_region ?_
  refine l_mv rfl rfl rfl (m_alloc tf4) ?_
  rintro _ _ ⟨b1, rfl, rfl⟩
  refine l_mu rfl rfl (m_store 0 tf5 (b := b1) (o := 0) (T := 25) (cs := #[.int .u64 (0)]) (cs' := #[.int .u64 (0)]) (v := .int .u64 (0)) rfl rfl rfl rfl rfl rfl rfl) ?_
  refine l_nil ?_
  refine f_then ?_
  refine c_seq ?_
  refine c_seq ?_
  refine c_region ?_
  refine l_val (v := v) rfl rfl rfl (e_move) ?_
  refine l_nil ?_
  refine f_then ?_
  refine c_block ?_
  refine c_range (α := UInt64) (enc := fun x => [Ux x]) (S := (· = xs)) (ps := [6]) (I := fun (pre : List (UInt64)) (L : List Res) => L = [pt b1 (.cells #[Ux (seqF 0 pre)] 25)] ∧ (True)) (X := fun _ _ _ => False) rfl (hs) (fun _ => rfl) rfl ⟨rfl, trivial⟩ ?_ ?_ ?_
  · rintro l β1 pre x M ext hpre ⟨rfl, -⟩
    refine c_region ?_
    refine l_val (v := Ux (x)) rfl rfl rfl (e_assign) ?_
    refine l_nil ?_
    refine f_cut (fun β2 ext2 => ?_)
    refine c_block ?_
    refine c_region ?_
    refine l_val (v := Ux (seqF 0 pre)) rfl rfl rfl (e_load1 tf5 (v := Ux (seqF 0 pre)) rfl (k_pt 0 (cs := #[Ux (seqF 0 pre)]) (vs := [Ux (seqF 0 pre)]) rfl rfl)) ?_
    refine l_val (v := Ux ((seqF 0 pre) * (11400714819323198485 : UInt64))) rfl rfl rfl (e_mul (a := ((seqF 0 pre).toNat : Int)) (b := ((11400714819323198485 : UInt64).toNat : Int)) rfl rfl (ux_mul _ _)) ?_
    refine l_val (v := Ux (x)) rfl rfl rfl (e_move) ?_
    refine l_val (v := Ux (((seqF 0 pre) * (11400714819323198485 : UInt64)) + x)) rfl rfl rfl (e_add (a := (((seqF 0 pre) * (11400714819323198485 : UInt64)).toNat : Int)) (b := ((x).toNat : Int)) rfl rfl (ux_add _ _)) ?_
    refine l_val (v := Ux ((((seqF 0 pre) * (11400714819323198485 : UInt64)) + x) + (1 : UInt64))) rfl rfl rfl (e_add (a := ((((seqF 0 pre) * (11400714819323198485 : UInt64)) + x).toNat : Int)) (b := ((1 : UInt64).toNat : Int)) rfl rfl (ux_add _ _)) ?_
    refine l_mu rfl rfl (m_store 0 tf5 (b := b1) (o := 0) (T := 25) (cs := #[Ux (seqF 0 pre)]) (cs' := #[Ux ((((seqF 0 pre) * (11400714819323198485 : UInt64)) + x) + (1 : UInt64))]) (v := Ux ((((seqF 0 pre) * (11400714819323198485 : UInt64)) + x) + (1 : UInt64))) rfl rfl rfl rfl rfl rfl rfl) ?_
    refine l_nil ?_
    refine f_block ?_
    exact fun a w ha hw => ⟨_, ⟨(by rw [seqF_snoc]; rfl), trivial⟩, hw⟩
  · rintro D ys M hS ⟨rfl, -⟩
    subst hS
    refine f_block ?_
    refine f_then ?_
    refine c_seq ?_
    refine c_region ?_
    refine l_val (v := Ux (seqF 0 ys)) rfl rfl rfl (e_load1 tf5 (v := Ux (seqF 0 ys)) rfl (k_pt 0 (cs := #[Ux (seqF 0 ys)]) (vs := [Ux (seqF 0 ys)]) rfl rfl)) ?_
    refine l_call rfl rfl rfl (cl_value (fst := []) (cap := []) (vs := [Ux (seqF 0 ys)]) (all := [Ux (seqF 0 ys)]) tf0 rfl rfl rfl) ?_
    intro w hw
    obtain ⟨β1, sb, kn, hw1, back⟩ := St.frame_all hw
    refine (mix_ok β1 w hw1 (seqF 0 ys)).mono ?_
    rintro e w' ⟨rfl, hw'⟩
    refine ⟨_, rfl, _, back _ _ hw', ?_⟩
    clear hw hw1 hw' back kn sb
    refine l_val (v := Ux (mixU (seqF 0 ys))) rfl rfl rfl (e_assign) ?_
    refine l_nil ?_
    refine f_then ?_
    refine c_ret ?_
    refine retM 1 rfl Try.results32 (v := Ux (mixU (seqF 0 ys))) rfl ?_
    intro w hw
    exact ⟨rfl, st_mask [false, false] rfl hw⟩
  · intro D c pre M h; exact h.elim
theorem bytes_ok (β : Base) (w : World) (hw : St β [] w) (s : ByteArray) : Calls Try.prog 33 #[.string s] w fun e w' => ∃ b, e = .returned (.func (.func 49) #[] #[.pointer (some ⟨b, 0, none⟩)]) ∧ St β [pt b (.cells #[.string s] 9)] w' := by
  refine enter (n := 4) Try.func33 rfl Try.ntmps33 rfl ?_ hw
  refine c_seq ?_
  refine c_region ?_
  refine l_mv rfl rfl rfl (m_box (v := .string (s)) rfl) ?_
  rintro _ _ ⟨b1, rfl, rfl⟩
  refine l_val (v := .nilFunc) rfl rfl rfl (e_assign) ?_
  refine l_nil ?_
  refine f_then ?_
  refine c_seq ?_
  refine c_region ?_
  refine l_val (v := .func (.func 49) #[] #[.pointer (some ⟨b1, 0, none⟩)]) rfl rfl rfl (e_func (u := []) (v := [.pointer (some ⟨b1, 0, none⟩)]) rfl rfl) ?_
  refine l_val (v := .func (.func 49) #[] #[.pointer (some ⟨b1, 0, none⟩)]) rfl rfl rfl (e_assign) ?_
  refine l_nil ?_
  refine f_then ?_
  refine c_ret ?_
  refine ret1 Try.results33 (v := .func (.func 49) #[] #[.pointer (some ⟨b1, 0, none⟩)]) rfl ?_
  intro w hw
  exact ⟨_, rfl, hw⟩
theorem bytes_seq (β : Base) (b : Nat) (s : ByteArray) (hb : Cs β.heap ⟨b, 0, none⟩ [.string s]) (hs : s.size ≤ 9223372036854775807) : SeqOf Try.prog β (.func (.func 49) #[] #[.pointer (some ⟨b, 0, none⟩)]) (fun x : UInt64 => [Ux x]) (· = wordsB s) := by
  refine ⟨49, [], [.pointer (some ⟨b, 0, none⟩)], rfl, by kernel_rfl, fun β₁ ext l J X hY M w hJ hw => ?_⟩
  have hb1 := Cs.mono _ _ _ _ ext.sub hb
  refine enter (n := 17) Try.func49 rfl Try.ntmps49 rfl ?_ hw
  refine c_seq ?_
  refine c_region ?_
  refine l_val (v := .string (s)) rfl rfl rfl (e_load1 tf6 (v := .string (s)) rfl (Knows.of_base (Cs.mono _ _) hb1)) ?_
  refine l_val (v := Nx ((s).size)) rfl rfl rfl (e_len_s (s := s) rfl tf7) ?_
  refine l_val (v := .int .i64 (0)) rfl rfl rfl (e_move) ?_
  refine l_nil ?_
  refine f_then ?_
  refine c_block ?_
  refine c_loop (fun (x_ : Nat × List Res) (f : Fm) (L : List Res) => match x_ with | (k, M) => (f 0 = yfn l ∧ f 1 = .pointer (some (⟨b, 0, none⟩)) ∧ f 5 = Nx ((s).size) ∧ f 6 = Nx (k)) ∧ L = (M) ∧ (k ≤ s.size ∧ J ((wordsB s).take (k)) M)) (fun (x_ : Nat × List Res) => match x_ with | (k, M) => s.size - k) (0, M) ?_ ?_
  · exact ⟨⟨rfl, rfl, rfl, rfl⟩, rfl, ⟨by omega, by simpa using hJ⟩⟩
  rintro ⟨k, M⟩ f0 L0 ⟨⟨hs0, hs1, hs5, hs6⟩, hL, ⟨hk, hJ⟩⟩
  subst L0
  refine rebase (d := 0) hs0 ?_
  refine rebase (d := 1) hs1 ?_
  refine rebase (d := 5) hs5 ?_
  refine rebase (d := 6) hs6 ?_
  clear hs0 hs1 hs5 hs6
  refine c_seq ?_
  refine c_region ?_
  refine l_val (v := .bool (decide (((k : Nat) : Int) < (((s).size : Nat) : Int)))) rfl rfl rfl (e_lss (a := ((k : Nat) : Int)) (b := (((s).size : Nat) : Int)) rfl rfl) ?_
  refine l_nil ?_
  refine f_then ?_
  refine c_seq ?_
  refine c_if (((k : Nat) : Int) < (((s).size : Nat) : Int)) rfl (fun hc1 => ?_) (fun hc1 => ?_)
  ·
    refine c_skip ?_
    refine f_then ?_
    refine c_seq ?_
    refine c_block ?_
    refine c_seq ?_
    refine c_region ?_
    refine l_val (v := Nx (k)) rfl rfl rfl (e_move) ?_
    refine l_val (v := Nx (k)) rfl rfl rfl (e_assign) ?_
    refine l_nil ?_
    refine f_then ?_
    refine c_seq ?_
    refine c_region ?_
    refine l_val (v := yfn l) rfl rfl rfl (e_move) ?_
    refine l_val (v := .string (s)) rfl rfl rfl (e_load1 tf6 (v := .string (s)) rfl (Knows.of_base (Cs.mono _ _) hb1)) ?_
    refine l_val (v := Nx (k)) rfl rfl rfl (e_move) ?_
    obtain ⟨c2, hc3⟩ : ∃ c, (s).data.toList[k]? = some c := ⟨_, List.getElem?_eq_getElem (by simp; omega)⟩
    refine l_val (v := Bx (c2)) rfl rfl rfl (e_index_s (s := s) (k := k) (c := c2) rfl rfl tf7 hc3) ?_
    refine l_val (v := Ux (c2.toUInt64)) rfl rfl rfl (e_conv (a := ((c2).toNat : Int)) rfl ⟨_, tf8⟩ tf2 (ux_of8 _)) ?_
    refine l_yield (own := []) (M := M) (d := 14) (enc := fun x => [Ux x]) (pre := (wordsB s).take k) (x := c2.toUInt64) rfl rfl rfl rfl hY (⟨_, rfl, take_prefix (by simp [wordsB, hc3])⟩) hJ (fun M1 hJ1 => ?_) (fun M1 hX1 => ?_)
    ·
      refine l_val (v := .bool false) rfl rfl rfl (e_not (a := true) rfl) ?_
      refine l_nil ?_
      refine f_then ?_
      refine c_no rfl ?_
      refine c_skip ?_
      refine f_block ?_
      refine f_then ?_
      refine c_region ?_
      refine l_val (v := Nx (k + 1)) rfl rfl rfl (e_add (a := ((k : Nat) : Int)) (b := (1 : Int)) rfl rfl (i64n (by omega) (by omega))) ?_
      refine l_val (v := Nx (k + 1)) rfl rfl rfl (e_move) ?_
      refine l_nil ?_
      exact f_cut ⟨(k + 1, M1), ⟨⟨rfl, rfl, rfl, rfl⟩, rfl, ⟨by omega, by rw [take_succ (a := c2.toUInt64) (by simp [wordsB, hc3])]; exact hJ1⟩⟩, (show s.size - (k + 1) < s.size - k from by omega)⟩
    ·
      refine l_val (v := .bool true) rfl rfl rfl (e_not (a := false) rfl) ?_
      refine l_nil ?_
      refine f_then ?_
      refine c_yes rfl ?_
      refine c_ret ?_
      refine f_block_ret ?_
      refine f_then_ret ?_
      refine f_then_ret ?_
      refine f_block_ret ?_
      refine ret0 Try.results49 ?_
      intro w hw
      exact ⟨⟨_, rfl⟩, .inr ⟨_, M1, hX1, st_mask [] rfl hw⟩⟩
  ·
    refine c_exit ?_
    refine f_then_exit ?_
    refine f_then_exit ?_
    refine f_exit ?_
    refine end0 Try.results49 ?_
    intro w hw
    exact ⟨⟨_, rfl⟩, .inl ⟨_, M, rfl, (by rw [List.take_of_length_le (by simp [wordsB]; omega)] at hJ; exact hJ), st_mask [] rfl hw⟩⟩
end Go.Proofs
