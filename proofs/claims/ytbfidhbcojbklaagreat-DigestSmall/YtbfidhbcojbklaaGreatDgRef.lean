/-
  Own work; plain Lean (DgRef).
-/
import Derived.Test.YtbfidhbcojbklaaGreatDgApartL
import Derived.Test.YtbfidhbcojbklaaGreatSlBytes
namespace Go.Proofs
open Go Go.Sl
theorem seqF_take {xs : List UInt64} {k : Nat} {a : UInt64} (h : xs[k]? = some a) : seqF 0 (xs.take (k + 1)) = seqF 0 (xs.take k) * 0x9e3779b97f4a7c15 + a + 1 := by
  rw [take_succ h, seqF_snoc]
theorem pt_sl64 {b n T : Nat} {xs : List UInt64} {cs : Array Value} {a : PHeap} (h : pt b (.cells cs T) a) (hx : cs.toList = xs.map fun z => Ux z) (hn : (Nat.beq xs.length n && Nat.ble n 9223372036854775807) = true) : Sl U64R a (.slice (some ⟨b, 0, none⟩) n n) xs := by
  simp only [Bool.and_eq_true, Nat.ble_eq] at hn
  have h1 := Nat.eq_of_beq_eq_true hn.1
  subst h1
  refine ⟨some ⟨b, 0, none⟩, xs.length, rfl, Nat.le_refl _, hn.2, fun j x hj => ⟨rfl, [Ux x], ?_, rfl⟩⟩
  have hlt := (List.getElem?_eq_some_iff.1 hj).1
  have hc : Cs a ⟨b, 0, none⟩ (xs.map fun z => Ux z) := Cs.of_pt (o := 0) h (by rw [hx]; simp [List.take_of_length_le])
  have := Cs.sub (vs := [Ux x]) j hc (by
    have hx := (List.getElem?_eq_some_iff.1 hj).2
    rw [List.drop_eq_getElem_cons (by simpa using hlt)]
    simp [hx])
  show Cs a ((⟨b, 0, none⟩ : Addr).add (j * 1)) [Ux x]
  rw [Nat.mul_one]; exact this
def wordsT (e : KEnt) (k : Nat) : List UInt64 := U e.id :: U ((e.comps.length : Nat) : Int) :: (e.comps.take k).flatMap wordsC
theorem wordsT_len (e : KEnt) {k : Nat} (hk : k ≤ e.comps.length) : (wordsT e k).length = 2 + k * 5 := by
  have hl : ∀ cs : List KComp, (cs.flatMap wordsC).length = cs.length * 5 := by
    intro cs
    induction cs with
    | nil => rfl
    | cons x cs ih => rw [List.flatMap_cons, List.length_append, ih, List.length_cons]; simp [wordsC]; omega
  simp only [wordsT, List.length_cons, hl, List.length_take]; omega
theorem wordsT_succ {e : KEnt} {k : Nat} {c : KComp} (h : e.comps[k]? = some c) : wordsT e (k + 1) = wordsT e k ++ wordsC c := by
  unfold wordsT
  rw [take_flat h]; simp
theorem wordsT_all (e : KEnt) : wordsT e e.comps.length = wordsE e := by
  unfold wordsT wordsE
  rw [List.take_of_length_le (Nat.le_refl _)]
theorem tf75 : cfB Tryz.prog 5 = true := by kernel_rfl
theorem tf76 : Tryz.prog.underlying 84 = some (.int .u64) := by kernel_rfl
theorem tf79 : cfB Tryz.prog 72 = true := by kernel_rfl
theorem tf80 : cfB Tryz.prog 71 = true := by kernel_rfl
theorem tf81 : cfB Tryz.prog 36 = true := by kernel_rfl
theorem tf82 : cfB Tryz.prog 38 = true := by kernel_rfl
theorem rmix_ok (β : Base) (w : World) (hw : St β [] w) (x : UInt64) : Calls Tryz.prog 72 #[Ux x] w fun e w' => e = .returned (Ux (mixU x)) ∧ St β [] w' := by
  refine enter (n := 17) Tryz.func72 rfl Tryz.ntmps72 rfl ?_ hw
  refine c_seq ?_
  refine c_region ?_
  refine l_val (v := .int .u64 (0)) rfl rfl rfl (e_assign) ?_
  refine l_nil ?_
  refine f_then ?_
  refine c_seq ?_
  refine c_region ?_
  refine l_val (v := Ux (x)) rfl rfl rfl (e_move) ?_
  refine l_val (v := Ux (x)) rfl rfl rfl (e_move) ?_
  refine l_val (v := Ux (x >>> (30 : UInt64))) rfl rfl rfl (e_shr (a := ((x).toNat : Int)) (b := ((30 : Nat) : Int)) rfl rfl (by decide) (ux_shr _ 30 (by decide))) ?_
  refine l_val (v := Ux (x ^^^ (x >>> (30 : UInt64)))) rfl rfl rfl (e_xor (a := ((x).toNat : Int)) (b := ((x >>> (30 : UInt64)).toNat : Int)) rfl rfl (ux_xor _ _)) ?_
  refine l_val (v := Ux ((x ^^^ (x >>> (30 : UInt64))) * (13787848793156543929 : UInt64))) rfl rfl rfl (e_mul (a := ((x ^^^ (x >>> (30 : UInt64))).toNat : Int)) (b := ((13787848793156543929 : UInt64).toNat : Int)) rfl rfl (ux_mul _ _)) ?_
  refine l_val (v := Ux ((x ^^^ (x >>> (30 : UInt64))) * (13787848793156543929 : UInt64))) rfl rfl rfl (e_assign) ?_
  refine l_nil ?_
  refine f_then ?_
  refine c_seq ?_
  refine c_region ?_
  refine l_val (v := Ux ((x ^^^ (x >>> (30 : UInt64))) * (13787848793156543929 : UInt64))) rfl rfl rfl (e_move) ?_
  refine l_val (v := Ux ((x ^^^ (x >>> (30 : UInt64))) * (13787848793156543929 : UInt64))) rfl rfl rfl (e_move) ?_
  refine l_val (v := Ux (((x ^^^ (x >>> (30 : UInt64))) * (13787848793156543929 : UInt64)) >>> (27 : UInt64))) rfl rfl rfl (e_shr (a := (((x ^^^ (x >>> (30 : UInt64))) * (13787848793156543929 : UInt64)).toNat : Int)) (b := ((27 : Nat) : Int)) rfl rfl (by decide) (ux_shr _ 27 (by decide))) ?_
  refine l_val (v := Ux (((x ^^^ (x >>> (30 : UInt64))) * (13787848793156543929 : UInt64)) ^^^ (((x ^^^ (x >>> (30 : UInt64))) * (13787848793156543929 : UInt64)) >>> (27 : UInt64)))) rfl rfl rfl (e_xor (a := (((x ^^^ (x >>> (30 : UInt64))) * (13787848793156543929 : UInt64)).toNat : Int)) (b := ((((x ^^^ (x >>> (30 : UInt64))) * (13787848793156543929 : UInt64)) >>> (27 : UInt64)).toNat : Int)) rfl rfl (ux_xor _ _)) ?_
  refine l_val (v := Ux ((((x ^^^ (x >>> (30 : UInt64))) * (13787848793156543929 : UInt64)) ^^^ (((x ^^^ (x >>> (30 : UInt64))) * (13787848793156543929 : UInt64)) >>> (27 : UInt64))) * (10723151780598845931 : UInt64))) rfl rfl rfl (e_mul (a := ((((x ^^^ (x >>> (30 : UInt64))) * (13787848793156543929 : UInt64)) ^^^ (((x ^^^ (x >>> (30 : UInt64))) * (13787848793156543929 : UInt64)) >>> (27 : UInt64))).toNat : Int)) (b := ((10723151780598845931 : UInt64).toNat : Int)) rfl rfl (ux_mul _ _)) ?_
  refine l_val (v := Ux ((((x ^^^ (x >>> (30 : UInt64))) * (13787848793156543929 : UInt64)) ^^^ (((x ^^^ (x >>> (30 : UInt64))) * (13787848793156543929 : UInt64)) >>> (27 : UInt64))) * (10723151780598845931 : UInt64))) rfl rfl rfl (e_assign) ?_
  refine l_nil ?_
  refine f_then ?_
  refine c_seq ?_
  refine c_region ?_
  refine l_val (v := Ux ((((x ^^^ (x >>> (30 : UInt64))) * (13787848793156543929 : UInt64)) ^^^ (((x ^^^ (x >>> (30 : UInt64))) * (13787848793156543929 : UInt64)) >>> (27 : UInt64))) * (10723151780598845931 : UInt64))) rfl rfl rfl (e_move) ?_
  refine l_val (v := Ux ((((x ^^^ (x >>> (30 : UInt64))) * (13787848793156543929 : UInt64)) ^^^ (((x ^^^ (x >>> (30 : UInt64))) * (13787848793156543929 : UInt64)) >>> (27 : UInt64))) * (10723151780598845931 : UInt64))) rfl rfl rfl (e_move) ?_
  refine l_val (v := Ux (((((x ^^^ (x >>> (30 : UInt64))) * (13787848793156543929 : UInt64)) ^^^ (((x ^^^ (x >>> (30 : UInt64))) * (13787848793156543929 : UInt64)) >>> (27 : UInt64))) * (10723151780598845931 : UInt64)) >>> (31 : UInt64))) rfl rfl rfl (e_shr (a := (((((x ^^^ (x >>> (30 : UInt64))) * (13787848793156543929 : UInt64)) ^^^ (((x ^^^ (x >>> (30 : UInt64))) * (13787848793156543929 : UInt64)) >>> (27 : UInt64))) * (10723151780598845931 : UInt64)).toNat : Int)) (b := ((31 : Nat) : Int)) rfl rfl (by decide) (ux_shr _ 31 (by decide))) ?_
  refine l_val (v := Ux (((((x ^^^ (x >>> (30 : UInt64))) * (13787848793156543929 : UInt64)) ^^^ (((x ^^^ (x >>> (30 : UInt64))) * (13787848793156543929 : UInt64)) >>> (27 : UInt64))) * (10723151780598845931 : UInt64)) ^^^ (((((x ^^^ (x >>> (30 : UInt64))) * (13787848793156543929 : UInt64)) ^^^ (((x ^^^ (x >>> (30 : UInt64))) * (13787848793156543929 : UInt64)) >>> (27 : UInt64))) * (10723151780598845931 : UInt64)) >>> (31 : UInt64)))) rfl rfl rfl (e_xor (a := (((((x ^^^ (x >>> (30 : UInt64))) * (13787848793156543929 : UInt64)) ^^^ (((x ^^^ (x >>> (30 : UInt64))) * (13787848793156543929 : UInt64)) >>> (27 : UInt64))) * (10723151780598845931 : UInt64)).toNat : Int)) (b := ((((((x ^^^ (x >>> (30 : UInt64))) * (13787848793156543929 : UInt64)) ^^^ (((x ^^^ (x >>> (30 : UInt64))) * (13787848793156543929 : UInt64)) >>> (27 : UInt64))) * (10723151780598845931 : UInt64)) >>> (31 : UInt64)).toNat : Int)) rfl rfl (ux_xor _ _)) ?_
  refine l_val (v := Ux (((((x ^^^ (x >>> (30 : UInt64))) * (13787848793156543929 : UInt64)) ^^^ (((x ^^^ (x >>> (30 : UInt64))) * (13787848793156543929 : UInt64)) >>> (27 : UInt64))) * (10723151780598845931 : UInt64)) ^^^ (((((x ^^^ (x >>> (30 : UInt64))) * (13787848793156543929 : UInt64)) ^^^ (((x ^^^ (x >>> (30 : UInt64))) * (13787848793156543929 : UInt64)) >>> (27 : UInt64))) * (10723151780598845931 : UInt64)) >>> (31 : UInt64)))) rfl rfl rfl (e_assign) ?_
  refine l_nil ?_
  refine f_then ?_
  refine c_ret ?_
  refine ret1 Tryz.results72 (v := Ux (((((x ^^^ (x >>> (30 : UInt64))) * (13787848793156543929 : UInt64)) ^^^ (((x ^^^ (x >>> (30 : UInt64))) * (13787848793156543929 : UInt64)) >>> (27 : UInt64))) * (10723151780598845931 : UInt64)) ^^^ (((((x ^^^ (x >>> (30 : UInt64))) * (13787848793156543929 : UInt64)) ^^^ (((x ^^^ (x >>> (30 : UInt64))) * (13787848793156543929 : UInt64)) >>> (27 : UInt64))) * (10723151780598845931 : UInt64)) >>> (31 : UInt64)))) rfl ?_
  intro w hw
  exact ⟨rfl, st_mask [] rfl hw⟩
theorem rchain_ok (β : Base) (w : World) (hw : St β [] w) (x y : UInt64) : Calls Tryz.prog 37 #[Ux x, Ux y] w fun e w' => e = .returned (Ux (chainU x y)) ∧ St β [] w' := by
  refine enter (n := 11) Tryz.func37 rfl Tryz.ntmps37 rfl ?_ hw
  refine c_seq ?_
  refine c_region ?_
  refine l_val (v := .int .u64 (0)) rfl rfl rfl (e_assign) ?_
  refine l_nil ?_
  refine f_then ?_
  refine c_seq ?_
  refine c_region ?_
  refine l_val (v := Ux (x)) rfl rfl rfl (e_move) ?_
  refine l_val (v := Ux (x * (11400714819323198485 : UInt64))) rfl rfl rfl (e_mul (a := ((x).toNat : Int)) (b := ((11400714819323198485 : UInt64).toNat : Int)) rfl rfl (ux_mul _ _)) ?_
  refine l_val (v := Ux (y)) rfl rfl rfl (e_move) ?_
  refine l_val (v := Ux ((x * (11400714819323198485 : UInt64)) + y)) rfl rfl rfl (e_add (a := ((x * (11400714819323198485 : UInt64)).toNat : Int)) (b := ((y).toNat : Int)) rfl rfl (ux_add _ _)) ?_
  refine l_val (v := Ux (((x * (11400714819323198485 : UInt64)) + y) + (1 : UInt64))) rfl rfl rfl (e_add (a := (((x * (11400714819323198485 : UInt64)) + y).toNat : Int)) (b := ((1 : UInt64).toNat : Int)) rfl rfl (ux_add _ _)) ?_
  refine l_call rfl rfl rfl (cl_value (fst := []) (cap := []) (vs := [Ux (((x * (11400714819323198485 : UInt64)) + y) + (1 : UInt64))]) (all := [Ux (((x * (11400714819323198485 : UInt64)) + y) + (1 : UInt64))]) tf79 rfl rfl rfl) ?_
  intro w hw
  obtain ⟨β1, sb, kn, hw1, back⟩ := St.frame_all hw
  refine (rmix_ok β1 w hw1 (((x * (11400714819323198485 : UInt64)) + y) + (1 : UInt64))).mono ?_
  rintro e w' ⟨rfl, hw'⟩
  refine ⟨_, rfl, _, back _ _ hw', ?_⟩
  clear hw hw1 hw' back kn sb
  refine l_val (v := Ux (mixU (((x * (11400714819323198485 : UInt64)) + y) + (1 : UInt64)))) rfl rfl rfl (e_assign) ?_
  refine l_nil ?_
  refine f_then ?_
  refine c_ret ?_
  refine ret1 Tryz.results37 (v := Ux (mixU (((x * (11400714819323198485 : UInt64)) + y) + (1 : UInt64)))) rfl ?_
  intro w hw
  exact ⟨rfl, st_mask [] rfl hw⟩
theorem rseq_ok (β : Base) (w : World) (hw : St β [] w) (v : Value) (xs : List UInt64) (hs : Sl U64R β.heap v xs) : Calls Tryz.prog 71 #[v] w fun r w' => r = .returned (Ux (seqU xs)) ∧ St β [] w' := by
  obtain ⟨va, vc, rfl, vl, vm, ve⟩ := hs.get
  refine enter (n := 21) Tryz.func71 rfl Tryz.ntmps71 rfl ?_ hw
  refine c_seq ?_
  refine c_region ?_
  refine l_val (v := .int .u64 (0)) rfl rfl rfl (e_assign) ?_
  refine l_nil ?_
  refine f_then ?_
  refine c_seq ?_
  refine c_region ?_
  refine l_val (v := .int .u64 (0)) rfl rfl rfl (e_assign) ?_
  refine l_nil ?_
  refine f_then ?_
  refine c_seq ?_
  refine c_seq ?_
  refine c_region ?_
  refine l_val (v := .int .i64 (0)) rfl rfl rfl (e_assign) ?_
  refine l_nil ?_
  refine f_then ?_
  refine c_block ?_
  refine c_loop (fun (k : Nat) (f : Fm) (L : List Res) => (f 0 = .slice va (xs.length) (vc) ∧ f 3 = Ux (seqF 0 (xs.take k)) ∧ f 4 = Nx (k)) ∧ L = [] ∧ (k ≤ xs.length)) (fun (k : Nat) => xs.length - k) 0 ?_ ?_
  · exact ⟨⟨rfl, rfl, rfl⟩, rfl, (by omega)⟩
  rintro k f0 L0 ⟨⟨hs0, hs3, hs4⟩, hL, hk⟩
  subst L0
  refine rebase (d := 0) hs0 ?_
  refine rebase (d := 3) hs3 ?_
  refine rebase (d := 4) hs4 ?_
  clear hs0 hs3 hs4
  refine c_seq ?_
  refine c_seq ?_
  refine c_region ?_
  refine l_val (v := Nx (k)) rfl rfl rfl (e_move) ?_
  refine l_val (v := .slice va (xs.length) (vc)) rfl rfl rfl (e_move) ?_
  refine l_val (v := Nx (xs.length)) rfl rfl rfl (e_len (a := va) (n := xs.length) (c := vc) rfl tf40) ?_
  refine l_val (v := .bool (decide (((k : Nat) : Int) < ((xs.length : Nat) : Int)))) rfl rfl rfl (e_lss (a := ((k : Nat) : Int)) (b := ((xs.length : Nat) : Int)) rfl rfl) ?_
  refine l_nil ?_
  refine f_then ?_
  refine c_if (((k : Nat) : Int) < ((xs.length : Nat) : Int)) rfl (fun hc1 => ?_) (fun hc1 => ?_)
  ·
    refine c_skip ?_
    refine f_then ?_
    refine c_seq ?_
    refine c_block ?_
    refine c_region ?_
    refine l_val (v := Ux (seqF 0 (xs.take k))) rfl rfl rfl (e_move) ?_
    refine l_val (v := Ux ((seqF 0 (xs.take k)) * (11400714819323198485 : UInt64))) rfl rfl rfl (e_mul (a := ((seqF 0 (xs.take k)).toNat : Int)) (b := ((11400714819323198485 : UInt64).toNat : Int)) rfl rfl (ux_mul _ _)) ?_
    refine l_val (v := .slice va (xs.length) (vc)) rfl rfl rfl (e_move) ?_
    refine l_val (v := Nx (k)) rfl rfl rfl (e_move) ?_
    obtain ⟨x2, hx3⟩ : ∃ x_, (xs)[k]? = some x_ := ⟨_, List.getElem?_eq_getElem (by omega)⟩
    obtain ⟨ha4, cs5, hc6, rfl⟩ := ve _ _ hx3
    refine l_val (v := .pointer (some ((ba va).add (k * 1)))) rfl rfl rfl (e_indexAddr (k := k) (len := xs.length) (cap := vc) (a := va) rfl rfl tf41 (by omega) ha4) ?_
    refine l_val (v := Ux (x2)) rfl rfl rfl (e_load1 tf5 (v := Ux (x2)) rfl (Knows.of_base (Cs.mono _ _) hc6)) ?_
    refine l_val (v := Ux (((seqF 0 (xs.take k)) * (11400714819323198485 : UInt64)) + x2)) rfl rfl rfl (e_add (a := (((seqF 0 (xs.take k)) * (11400714819323198485 : UInt64)).toNat : Int)) (b := ((x2).toNat : Int)) rfl rfl (ux_add _ _)) ?_
    refine l_val (v := Ux ((((seqF 0 (xs.take k)) * (11400714819323198485 : UInt64)) + x2) + (1 : UInt64))) rfl rfl rfl (e_add (a := ((((seqF 0 (xs.take k)) * (11400714819323198485 : UInt64)) + x2).toNat : Int)) (b := ((1 : UInt64).toNat : Int)) rfl rfl (ux_add _ _)) ?_
    refine l_val (v := Ux ((((seqF 0 (xs.take k)) * (11400714819323198485 : UInt64)) + x2) + (1 : UInt64))) rfl rfl rfl (e_assign) ?_
    refine l_nil ?_
    refine f_block ?_
    refine f_then ?_
    refine c_region ?_
    refine l_val (v := Nx (k)) rfl rfl rfl (e_move) ?_
    refine l_val (v := Nx (k + 1)) rfl rfl rfl (e_add (a := ((k : Nat) : Int)) (b := (1 : Int)) rfl rfl (i64n (by omega) (by omega))) ?_
    refine l_val (v := Nx (k + 1)) rfl rfl rfl (e_assign) ?_
    refine l_nil ?_
    exact f_cut ⟨k + 1, ⟨⟨rfl, congrArg (fun z => Ux z) (seqF_take hx3).symm, rfl⟩, rfl, (by omega)⟩, (show xs.length - (k + 1) < xs.length - k from by omega)⟩
  ·
    refine c_exit ?_
    refine f_then_exit ?_
    refine f_then_exit ?_
    refine f_exit ?_
    refine f_then ?_
    refine c_seq ?_
    refine c_region ?_
    refine l_val (v := Ux (seqF 0 (xs.take k))) rfl rfl rfl (e_move) ?_
    refine l_call rfl rfl rfl (cl_value (fst := []) (cap := []) (vs := [Ux (seqF 0 (xs.take k))]) (all := [Ux (seqF 0 (xs.take k))]) tf79 rfl rfl rfl) ?_
    intro w hw
    obtain ⟨β1, sb, kn, hw1, back⟩ := St.frame_all hw
    refine (rmix_ok β1 w hw1 (seqF 0 (xs.take k))).mono ?_
    rintro e w' ⟨rfl, hw'⟩
    refine ⟨_, rfl, _, back _ _ hw', ?_⟩
    clear hw hw1 hw' back kn sb
    refine l_val (v := Ux (mixU (seqF 0 (xs.take k)))) rfl rfl rfl (e_assign) ?_
    refine l_nil ?_
    refine f_then ?_
    refine c_ret ?_
    refine ret1 Tryz.results71 (v := Ux (mixU (seqF 0 (xs.take k)))) rfl ?_
    intro w hw
    exact ⟨by rw [seqU, List.take_of_length_le (show xs.length ≤ k by omega)], st_mask [] rfl hw⟩
theorem rtick_ok (β : Base) (w : World) (hw : St β [] w) (t : Int) : Calls Tryz.prog 36 #[Ix t] w fun r w' => r = .returned (Ux (tickU t)) ∧ St β [] w' := by
  refine enter (n := 7) Tryz.func36 rfl Tryz.ntmps36 rfl ?_ hw
  refine c_seq ?_
  refine c_region ?_
  refine l_val (v := .int .u64 (0)) rfl rfl rfl (e_assign) ?_
  refine l_nil ?_
  refine f_then ?_
  refine c_seq ?_
  refine c_region ?_
  refine l_val (v := Ix (t)) rfl rfl rfl (e_move) ?_
  refine l_val (v := Ux (U (t))) rfl rfl rfl (e_conv (a := (t)) rfl ⟨_, tf1⟩ tf2 (ux_of _)) ?_
  refine l_mv rfl rfl rfl (m_slices tf41 tf4 (vs := [(0, Ux (U (t)))]) (cells := #[Ux (U (t))]) rfl rfl rfl rfl) ?_
  rintro _ _ ⟨b1, rfl, rfl⟩
  refine l_call rfl rfl rfl (cl_value (fst := []) (cap := []) (vs := [.slice (some ⟨b1, 0, none⟩) 1 1]) (all := [.slice (some ⟨b1, 0, none⟩) 1 1]) tf80 rfl rfl rfl) ?_
  intro w hw
  obtain ⟨β1, sb, kn, hw1, back⟩ := St.frame_all hw
  refine (rseq_ok β1 w hw1 _ [(U (t))] (kn (fun h => Sl U64R h _ [(U (t))]) (Knows.of_res 0 rfl (fun _ _ hs h => Sl.mono U64R _ _ _ _ hs h) fun _ h => pt_sl64 (xs := [(U (t))]) h rfl rfl))).mono ?_
  rintro e w' ⟨rfl, hw'⟩
  refine ⟨_, rfl, _, back _ _ hw', ?_⟩
  clear hw hw1 hw' back kn sb
  refine l_val (v := Ux (seqU [(U (t))])) rfl rfl rfl (e_assign) ?_
  refine l_nil ?_
  refine f_then ?_
  refine c_ret ?_
  refine ret1 Tryz.results36 (v := Ux (seqU [(U (t))])) rfl ?_
  intro w hw
  exact ⟨rfl, st_mask [false] rfl hw⟩
theorem rentity_ok (β : Base) (w : World) (hw : St β [] w) (e : KEnt) (v : Value) (hs : Sl CompR β.heap v e.comps) (hn : e.comps.length ≤ 1000) : Calls Tryz.prog 38 #[.agg #[Ix e.id, v]] w fun r w' => r = .returned (Ux (entU e)) ∧ St β [] w' := by
  obtain ⟨va, vc, rfl, vl, vm, ve⟩ := hs.get
  refine enter (n := 50) Tryz.func38 rfl Tryz.ntmps38 rfl ?_ hw
  refine c_seq ?_
  refine c_region ?_
  refine l_mv rfl rfl rfl (m_box (v := .agg #[Ix (e.id), .slice va (e.comps.length) (vc)]) rfl) ?_
  rintro _ _ ⟨b1, rfl, rfl⟩
  refine l_val (v := .int .u64 (0)) rfl rfl rfl (e_assign) ?_
  refine l_nil ?_
  refine f_then ?_
  refine c_seq ?_
  refine c_region ?_
  refine l_val (v := .pointer (some ⟨b1, 0, none⟩)) rfl rfl rfl (e_fieldPt (b := b1) (o := 0) rfl tf9) ?_
  refine l_val (v := Ix (e.id)) rfl rfl rfl (e_load1 tf10 (v := Ix (e.id)) rfl (k_pt 0 (cs := #[Ix (e.id), .slice va (e.comps.length) (vc)]) (vs := [Ix (e.id)]) rfl rfl)) ?_
  refine l_val (v := Ux (U (e.id))) rfl rfl rfl (e_conv (a := (e.id)) rfl ⟨_, tf1⟩ tf2 (ux_of _)) ?_
  refine l_val (v := .pointer (some ⟨b1, 1, none⟩)) rfl rfl rfl (e_fieldPt (b := b1) (o := 0) rfl tf11) ?_
  refine l_val (v := .slice va (e.comps.length) (vc)) rfl rfl rfl (e_load1 tf12 (v := .slice va (e.comps.length) (vc)) rfl (k_pt 0 (cs := #[Ix (e.id), .slice va (e.comps.length) (vc)]) (vs := [.slice va (e.comps.length) (vc)]) rfl rfl)) ?_
  refine l_val (v := Nx (e.comps.length)) rfl rfl rfl (e_len (a := va) (n := e.comps.length) (c := vc) rfl tf13) ?_
  refine l_val (v := Ux (U ((e.comps.length : Nat) : Int))) rfl rfl rfl (e_conv (a := ((e.comps.length : Nat) : Int)) rfl ⟨_, tf1⟩ tf2 (ux_of _)) ?_
  refine l_mv rfl rfl rfl (m_slices tf41 tf4 (vs := [(0, Ux (U (e.id))), (1, Ux (U ((e.comps.length : Nat) : Int)))]) (cells := #[Ux (U (e.id)), Ux (U ((e.comps.length : Nat) : Int))]) rfl rfl rfl rfl) ?_
  rintro _ _ ⟨b2, rfl, rfl⟩
  refine l_val (v := .slice (some ⟨b2, 0, none⟩) 2 2) rfl rfl rfl (e_assign) ?_
  refine l_nil ?_
  refine f_then ?_
  refine c_seq ?_
  refine c_seq ?_
  refine c_turn (fun w h => h.conseq_at 0 rfl (r' := row (.slice (some ⟨b2, 0, none⟩) 2 2) 41 1 ((wordsT e 0).length) ((wordsT e 0).map fun z => Ux z)) (fun a h => pt_row (m := 2) (by decide) rfl a h)) ?_
  refine c_region ?_
  refine l_val (v := .int .i64 (0)) rfl rfl rfl (e_assign) ?_
  refine l_nil ?_
  refine f_then ?_
  refine c_block ?_
  refine c_loop (fun (x_ : Nat × Value) (f : Fm) (L : List Res) => match x_ with | (k, z) => (f 1 = .pointer (some ⟨b1, 0, none⟩) ∧ f 3 = z ∧ f 4 = Nx (k)) ∧ L = [row z 41 1 ((wordsT e k).length) (((wordsT e k).map fun z => Ux z)), pt b1 (.cells #[Ix (e.id), .slice va (e.comps.length) (vc)] 35)] ∧ (k ≤ e.comps.length)) (fun (x_ : Nat × Value) => match x_ with | (k, z) => e.comps.length - k) (0, (.slice (some ⟨b2, 0, none⟩) 2 2)) ?_ ?_
  · exact ⟨⟨rfl, rfl, rfl⟩, rfl, (by omega)⟩
  rintro ⟨k, z⟩ f0 L0 ⟨⟨hs1, hs3, hs4⟩, hL, hk⟩
  subst L0
  refine rebase (d := 1) hs1 ?_
  refine rebase (d := 3) hs3 ?_
  refine rebase (d := 4) hs4 ?_
  clear hs1 hs3 hs4
  have hwl := wordsT_len e hk
  refine c_seq ?_
  refine c_seq ?_
  refine c_region ?_
  refine l_val (v := Nx (k)) rfl rfl rfl (e_move) ?_
  refine l_val (v := .pointer (some ⟨b1, 1, none⟩)) rfl rfl rfl (e_fieldPt (b := b1) (o := 0) rfl tf11) ?_
  refine l_val (v := .slice va (e.comps.length) (vc)) rfl rfl rfl (e_load1 tf12 (v := .slice va (e.comps.length) (vc)) rfl (k_pt 1 (cs := #[Ix (e.id), .slice va (e.comps.length) (vc)]) (vs := [.slice va (e.comps.length) (vc)]) rfl rfl)) ?_
  refine l_val (v := Nx (e.comps.length)) rfl rfl rfl (e_len (a := va) (n := e.comps.length) (c := vc) rfl tf13) ?_
  refine l_val (v := .bool (decide (((k : Nat) : Int) < ((e.comps.length : Nat) : Int)))) rfl rfl rfl (e_lss (a := ((k : Nat) : Int)) (b := ((e.comps.length : Nat) : Int)) rfl rfl) ?_
  refine l_nil ?_
  refine f_then ?_
  refine c_if (((k : Nat) : Int) < ((e.comps.length : Nat) : Int)) rfl (fun hc3 => ?_) (fun hc3 => ?_)
  ·
    refine c_skip ?_
    refine f_then ?_
    refine c_seq ?_
    refine c_block ?_
    refine c_seq ?_
    refine c_region ?_
    refine l_val (v := .pointer (some ⟨b1, 1, none⟩)) rfl rfl rfl (e_fieldPt (b := b1) (o := 0) rfl tf11) ?_
    refine l_val (v := .slice va (e.comps.length) (vc)) rfl rfl rfl (e_load1 tf12 (v := .slice va (e.comps.length) (vc)) rfl (k_pt 1 (cs := #[Ix (e.id), .slice va (e.comps.length) (vc)]) (vs := [.slice va (e.comps.length) (vc)]) rfl rfl)) ?_
    refine l_val (v := Nx (k)) rfl rfl rfl (e_move) ?_
    obtain ⟨x4, hx5⟩ : ∃ x_, (e.comps)[k]? = some x_ := ⟨_, List.getElem?_eq_getElem (by omega)⟩
    obtain ⟨ha6, cs7, hc8, rfl⟩ := ve _ _ hx5
    refine l_val (v := .pointer (some ((ba va).add (k * 5)))) rfl rfl rfl (e_indexAddr (k := k) (len := e.comps.length) (cap := vc) (a := va) rfl rfl tf14 (by omega) ha6) ?_
    refine l_val (v := .agg #[Bx (x4.kind), Ix (x4.v0), Ix (x4.v1), Ix (x4.v2), Ix (x4.v3)]) rfl rfl rfl (e_load tf15 (cs := [Bx (x4.kind), Ix (x4.v0), Ix (x4.v1), Ix (x4.v2), Ix (x4.v3)]) rfl (Knows.of_base (Cs.mono _ _) hc8) rfl) ?_
    refine l_mv rfl rfl rfl (m_alloc tf16) ?_
    rintro _ _ ⟨b10, rfl, rfl⟩
    refine l_mu rfl rfl (m_store 0 tf15 (b := b10) (o := 0) (T := 38) (cs := #[.int .u8 (0), .int .i64 (0), .int .i64 (0), .int .i64 (0), .int .i64 (0)]) (cs' := #[Bx (x4.kind), Ix (x4.v0), Ix (x4.v1), Ix (x4.v2), Ix (x4.v3)]) (v := .agg #[Bx (x4.kind), Ix (x4.v0), Ix (x4.v1), Ix (x4.v2), Ix (x4.v3)]) rfl rfl rfl rfl rfl rfl rfl) ?_
    refine l_nil ?_
    refine f_then ?_
    refine c_region ?_
    refine l_val (v := z) rfl rfl rfl (e_move) ?_
    refine l_val (v := .pointer (some ⟨b10, 0, none⟩)) rfl rfl rfl (e_fieldPt (b := b10) (o := 0) rfl tf17) ?_
    refine l_val (v := Bx (x4.kind)) rfl rfl rfl (e_load1 tf18 (v := Bx (x4.kind)) rfl (k_pt 0 (cs := #[Bx (x4.kind), Ix (x4.v0), Ix (x4.v1), Ix (x4.v2), Ix (x4.v3)]) (vs := [Bx (x4.kind)]) rfl rfl)) ?_
    refine l_val (v := Ux (x4.kind.toUInt64)) rfl rfl rfl (e_conv (a := ((x4.kind).toNat : Int)) rfl ⟨_, tf8⟩ tf2 (ux_of8 _)) ?_
    refine l_val (v := .pointer (some ⟨b10, 1, none⟩)) rfl rfl rfl (e_fieldPt (b := b10) (o := 0) rfl tf19) ?_
    refine l_val (v := .pointer (some ⟨b10, 1, none⟩)) rfl rfl rfl (e_indexArrPt (b := b10) (o := 1) (k := 0) rfl rfl tf21 (by decide)) ?_
    refine l_val (v := Ix (x4.v0)) rfl rfl rfl (e_load1 tf10 (v := Ix (x4.v0)) rfl (k_pt 0 (cs := #[Bx (x4.kind), Ix (x4.v0), Ix (x4.v1), Ix (x4.v2), Ix (x4.v3)]) (vs := [Ix (x4.v0)]) rfl rfl)) ?_
    refine l_val (v := Ux (U (x4.v0))) rfl rfl rfl (e_conv (a := (x4.v0)) rfl ⟨_, tf1⟩ tf2 (ux_of _)) ?_
    refine l_val (v := .pointer (some ⟨b10, 1, none⟩)) rfl rfl rfl (e_fieldPt (b := b10) (o := 0) rfl tf19) ?_
    refine l_val (v := .pointer (some ⟨b10, 2, none⟩)) rfl rfl rfl (e_indexArrPt (b := b10) (o := 1) (k := 1) rfl rfl tf21 (by decide)) ?_
    refine l_val (v := Ix (x4.v1)) rfl rfl rfl (e_load1 tf10 (v := Ix (x4.v1)) rfl (k_pt 0 (cs := #[Bx (x4.kind), Ix (x4.v0), Ix (x4.v1), Ix (x4.v2), Ix (x4.v3)]) (vs := [Ix (x4.v1)]) rfl rfl)) ?_
    refine l_val (v := Ux (U (x4.v1))) rfl rfl rfl (e_conv (a := (x4.v1)) rfl ⟨_, tf1⟩ tf2 (ux_of _)) ?_
    refine l_val (v := .pointer (some ⟨b10, 1, none⟩)) rfl rfl rfl (e_fieldPt (b := b10) (o := 0) rfl tf19) ?_
    refine l_val (v := .pointer (some ⟨b10, 3, none⟩)) rfl rfl rfl (e_indexArrPt (b := b10) (o := 1) (k := 2) rfl rfl tf21 (by decide)) ?_
    refine l_val (v := Ix (x4.v2)) rfl rfl rfl (e_load1 tf10 (v := Ix (x4.v2)) rfl (k_pt 0 (cs := #[Bx (x4.kind), Ix (x4.v0), Ix (x4.v1), Ix (x4.v2), Ix (x4.v3)]) (vs := [Ix (x4.v2)]) rfl rfl)) ?_
    refine l_val (v := Ux (U (x4.v2))) rfl rfl rfl (e_conv (a := (x4.v2)) rfl ⟨_, tf1⟩ tf2 (ux_of _)) ?_
    refine l_val (v := .pointer (some ⟨b10, 1, none⟩)) rfl rfl rfl (e_fieldPt (b := b10) (o := 0) rfl tf19) ?_
    refine l_val (v := .pointer (some ⟨b10, 4, none⟩)) rfl rfl rfl (e_indexArrPt (b := b10) (o := 1) (k := 3) rfl rfl tf21 (by decide)) ?_
    refine l_val (v := Ix (x4.v3)) rfl rfl rfl (e_load1 tf10 (v := Ix (x4.v3)) rfl (k_pt 0 (cs := #[Bx (x4.kind), Ix (x4.v0), Ix (x4.v1), Ix (x4.v2), Ix (x4.v3)]) (vs := [Ix (x4.v3)]) rfl rfl)) ?_
    refine l_val (v := Ux (U (x4.v3))) rfl rfl rfl (e_conv (a := (x4.v3)) rfl ⟨_, tf1⟩ tf2 (ux_of _)) ?_
    refine l_mv rfl rfl rfl (m_slices tf41 tf4 (vs := [(0, Ux (x4.kind.toUInt64)), (1, Ux (U (x4.v0))), (2, Ux (U (x4.v1))), (3, Ux (U (x4.v2))), (4, Ux (U (x4.v3)))]) (cells := #[Ux (x4.kind.toUInt64), Ux (U (x4.v0)), Ux (U (x4.v1)), Ux (U (x4.v2)), Ux (U (x4.v3))]) rfl rfl rfl rfl) ?_
    rintro _ _ ⟨b11, rfl, rfl⟩
    refine l_mv rfl rfl rfl (m_append 2 tf41 tf45 (v := z) (m := (wordsT e k).length) (vs := ((wordsT e k).map fun z => Ux z)) (ad := ⟨b11, 0, none⟩) (k := 5) (c := 5) (news := [Ux (x4.kind.toUInt64), Ux (U (x4.v0)), Ux (U (x4.v1)), Ux (U (x4.v2)), Ux (U (x4.v3))]) rfl rfl rfl rfl (k_pt 0 (cs := #[Ux (x4.kind.toUInt64), Ux (U (x4.v0)), Ux (U (x4.v1)), Ux (U (x4.v2)), Ux (U (x4.v3))]) (vs := [Ux (x4.kind.toUInt64), Ux (U (x4.v0)), Ux (U (x4.v1)), Ux (U (x4.v2)), Ux (U (x4.v3))]) rfl rfl) rfl (by unfold maxLen; omega) (by omega)) ?_
    rintro v12 _ ⟨hnv12, rfl⟩
    refine l_val (v := v12) rfl rfl rfl (e_assign) ?_
    refine l_nil ?_
    refine f_block ?_
    refine f_then ?_
    refine c_region ?_
    refine l_val (v := Nx (k)) rfl rfl rfl (e_move) ?_
    refine l_val (v := Nx (k + 1)) rfl rfl rfl (e_add (a := ((k : Nat) : Int)) (b := (1 : Int)) rfl rfl (i64n (by omega) (by omega))) ?_
    refine l_val (v := Nx (k + 1)) rfl rfl rfl (e_assign) ?_
    refine l_nil ?_
    refine f_mask (L' := [row v12 41 1 (((wordsT e k).length) + 5) (((wordsT e k).map fun z => Ux z) ++ [Ux (x4.kind.toUInt64), Ux (U (x4.v0)), Ux (U (x4.v1)), Ux (U (x4.v2)), Ux (U (x4.v3))]), pt b1 (.cells #[Ix (e.id), .slice va (e.comps.length) (vc)] 35)]) [false, false, true, true] rfl ?_
    exact f_cut ⟨(k + 1, v12), ⟨⟨rfl, rfl, rfl⟩, (by rw [wordsT_succ hx5]; simp [wordsC]), (by omega)⟩, (show e.comps.length - (k + 1) < e.comps.length - k from by omega)⟩
  ·
    refine c_exit ?_
    refine f_then_exit ?_
    refine f_then_exit ?_
    refine f_exit ?_
    refine f_then ?_
    refine c_seq ?_
    have hke : k = e.comps.length := by omega
    subst hke
    rw [wordsT_all]
    refine c_region ?_
    refine l_val (v := z) rfl rfl rfl (e_move) ?_
    refine l_call rfl rfl rfl (cl_value (fst := []) (cap := []) (vs := [z]) (all := [z]) tf80 rfl rfl rfl) ?_
    intro w hw
    obtain ⟨β1, sb, kn, hw1, back⟩ := St.frame_all hw
    refine (rseq_ok β1 w hw1 _ (wordsE e) (kn (fun h => Sl U64R h _ (wordsE e)) (Knows.of_res 0 rfl (fun _ _ hs h => Sl.mono U64R _ _ _ _ hs h) fun _ h => row_sl64 h))).mono ?_
    rintro e w' ⟨rfl, hw'⟩
    refine ⟨_, rfl, _, back _ _ hw', ?_⟩
    clear hw hw1 hw' back kn sb
    refine l_val (v := Ux (seqU (wordsE e))) rfl rfl rfl (e_assign) ?_
    refine l_nil ?_
    refine f_then ?_
    refine c_ret ?_
    refine ret1 Tryz.results38 (v := Ux (seqU (wordsE e))) rfl ?_
    intro w hw
    exact ⟨rfl, st_mask [false, false] rfl hw⟩
theorem rworld_ok (β : Base) (w : World) (hw : St β [] w) (x : KWorld) (v : Value) (hs : Sl EntR β.heap v x.ents) (hbig : ∀ (i : Nat) e, x.ents[i]? = some e → e.comps.length ≤ 20) : Calls Tryz.prog 34 #[.agg #[Ix x.tick, v]] w fun r w' => r = .returned (Ux (worldU x)) ∧ St β [] w' := by
  obtain ⟨va, vc, rfl, vl, vm, ve⟩ := hs.get
  refine enter (n := 24) Tryz.func34 rfl Tryz.ntmps34 rfl ?_ hw
  refine c_seq ?_
  refine c_region ?_
  refine l_mv rfl rfl rfl (m_box (v := .agg #[Ix (x.tick), .slice va (x.ents.length) (vc)]) rfl) ?_
  rintro _ _ ⟨b1, rfl, rfl⟩
  refine l_val (v := .int .u64 (0)) rfl rfl rfl (e_assign) ?_
  refine l_nil ?_
  refine f_then ?_
  refine c_seq ?_
  refine c_region ?_
  refine l_val (v := .pointer (some ⟨b1, 0, none⟩)) rfl rfl rfl (e_fieldPt (b := b1) (o := 0) rfl tf27) ?_
  refine l_val (v := Ix (x.tick)) rfl rfl rfl (e_load1 tf10 (v := Ix (x.tick)) rfl (k_pt 0 (cs := #[Ix (x.tick), .slice va (x.ents.length) (vc)]) (vs := [Ix (x.tick)]) rfl rfl)) ?_
  refine l_call rfl rfl rfl (cl_value (fst := []) (cap := []) (vs := [Ix (x.tick)]) (all := [Ix (x.tick)]) tf81 rfl rfl rfl) ?_
  intro w hw
  obtain ⟨β1, sb, kn, hw1, back⟩ := St.frame_all hw
  refine (rtick_ok β1 w hw1 (x.tick)).mono ?_
  rintro e w' ⟨rfl, hw'⟩
  refine ⟨_, rfl, _, back _ _ hw', ?_⟩
  clear hw hw1 hw' back kn sb
  refine l_val (v := Ux (tickU (x.tick))) rfl rfl rfl (e_assign) ?_
  refine l_nil ?_
  refine f_then ?_
  refine c_seq ?_
  refine c_seq ?_
  refine c_region ?_
  refine l_val (v := .int .i64 (0)) rfl rfl rfl (e_assign) ?_
  refine l_nil ?_
  refine f_then ?_
  refine c_block ?_
  refine c_loop (fun (k : Nat) (f : Fm) (L : List Res) => (f 1 = .pointer (some ⟨b1, 0, none⟩) ∧ f 3 = Ux (entsU (tickU x.tick) (x.ents.take k)) ∧ f 4 = Nx (k)) ∧ L = [pt b1 (.cells #[Ix (x.tick), .slice va (x.ents.length) (vc)] 24)] ∧ (k ≤ x.ents.length)) (fun (k : Nat) => x.ents.length - k) 0 ?_ ?_
  · exact ⟨⟨rfl, rfl, rfl⟩, rfl, (by omega)⟩
  rintro k f0 L0 ⟨⟨hs1, hs3, hs4⟩, hL, hk⟩
  subst L0
  refine rebase (d := 1) hs1 ?_
  refine rebase (d := 3) hs3 ?_
  refine rebase (d := 4) hs4 ?_
  clear hs1 hs3 hs4
  refine c_seq ?_
  refine c_seq ?_
  refine c_region ?_
  refine l_val (v := Nx (k)) rfl rfl rfl (e_move) ?_
  refine l_val (v := .pointer (some ⟨b1, 1, none⟩)) rfl rfl rfl (e_fieldPt (b := b1) (o := 0) rfl tf29) ?_
  refine l_val (v := .slice va (x.ents.length) (vc)) rfl rfl rfl (e_load1 tf30 (v := .slice va (x.ents.length) (vc)) rfl (k_pt 0 (cs := #[Ix (x.tick), .slice va (x.ents.length) (vc)]) (vs := [.slice va (x.ents.length) (vc)]) rfl rfl)) ?_
  refine l_val (v := Nx (x.ents.length)) rfl rfl rfl (e_len (a := va) (n := x.ents.length) (c := vc) rfl tf31) ?_
  refine l_val (v := .bool (decide (((k : Nat) : Int) < ((x.ents.length : Nat) : Int)))) rfl rfl rfl (e_lss (a := ((k : Nat) : Int)) (b := ((x.ents.length : Nat) : Int)) rfl rfl) ?_
  refine l_nil ?_
  refine f_then ?_
  refine c_if (((k : Nat) : Int) < ((x.ents.length : Nat) : Int)) rfl (fun hc2 => ?_) (fun hc2 => ?_)
  ·
    refine c_skip ?_
    refine f_then ?_
    refine c_seq ?_
    refine c_block ?_
    refine c_region ?_
    refine l_val (v := Ux (entsU (tickU x.tick) (x.ents.take k))) rfl rfl rfl (e_move) ?_
    refine l_val (v := .pointer (some ⟨b1, 1, none⟩)) rfl rfl rfl (e_fieldPt (b := b1) (o := 0) rfl tf29) ?_
    refine l_val (v := .slice va (x.ents.length) (vc)) rfl rfl rfl (e_load1 tf30 (v := .slice va (x.ents.length) (vc)) rfl (k_pt 0 (cs := #[Ix (x.tick), .slice va (x.ents.length) (vc)]) (vs := [.slice va (x.ents.length) (vc)]) rfl rfl)) ?_
    refine l_val (v := Nx (k)) rfl rfl rfl (e_move) ?_
    obtain ⟨x3, hx4⟩ : ∃ x_, (x.ents)[k]? = some x_ := ⟨_, List.getElem?_eq_getElem (by omega)⟩
    obtain ⟨ha5, cs6, hc7, hr8⟩ := ve _ _ hx4
    obtain ⟨v9, rfl, hv10⟩ := hr8
    obtain ⟨v9a, v9c, rfl, v9l, v9m, v9e⟩ := hv10.get
    refine l_val (v := .pointer (some ((ba va).add (k * 2)))) rfl rfl rfl (e_indexAddr (k := k) (len := x.ents.length) (cap := vc) (a := va) rfl rfl tf32 (by omega) ha5) ?_
    refine l_val (v := .agg #[Ix (x3.id), .slice v9a (x3.comps.length) (v9c)]) rfl rfl rfl (e_load tf24 (cs := [Ix (x3.id), .slice v9a (x3.comps.length) (v9c)]) rfl (Knows.of_base (Cs.mono _ _) hc7) rfl) ?_
    refine l_call rfl rfl rfl (cl_value (fst := []) (cap := []) (vs := [.agg #[Ix (x3.id), .slice v9a (x3.comps.length) (v9c)]]) (all := [.agg #[Ix (x3.id), .slice v9a (x3.comps.length) (v9c)]]) tf82 rfl rfl rfl) ?_
    intro w hw
    obtain ⟨β1, sb, kn, hw1, back⟩ := St.frame_all hw
    refine (rentity_ok β1 w hw1 x3 _ (Sl.mono _ _ _ _ _ sb (⟨⟨_, _, rfl, v9l, v9m, v9e⟩⟩ : Sl CompR _ _ x3.comps)) (by have := hbig _ _ hx4; omega)).mono ?_
    rintro e w' ⟨rfl, hw'⟩
    refine ⟨_, rfl, _, back _ _ hw', ?_⟩
    clear hw hw1 hw' back kn sb
    refine l_val (v := Ux ((entsU (tickU x.tick) (x.ents.take k)) + (entU x3))) rfl rfl rfl (e_add (a := ((entsU (tickU x.tick) (x.ents.take k)).toNat : Int)) (b := ((entU x3).toNat : Int)) rfl rfl (ux_add _ _)) ?_
    refine l_val (v := Ux ((entsU (tickU x.tick) (x.ents.take k)) + (entU x3))) rfl rfl rfl (e_assign) ?_
    refine l_nil ?_
    refine f_block ?_
    refine f_then ?_
    refine c_region ?_
    refine l_val (v := Nx (k)) rfl rfl rfl (e_move) ?_
    refine l_val (v := Nx (k + 1)) rfl rfl rfl (e_add (a := ((k : Nat) : Int)) (b := (1 : Int)) rfl rfl (i64n (by omega) (by omega))) ?_
    refine l_val (v := Nx (k + 1)) rfl rfl rfl (e_assign) ?_
    refine l_nil ?_
    exact f_cut ⟨k + 1, ⟨⟨rfl, congrArg (fun z => Ux z) (entsU_snoc hx4).symm, rfl⟩, rfl, (by omega)⟩, (show x.ents.length - (k + 1) < x.ents.length - k from by omega)⟩
  ·
    refine c_exit ?_
    refine f_then_exit ?_
    refine f_then_exit ?_
    refine f_exit ?_
    refine f_then ?_
    refine c_seq ?_
    refine c_region ?_
    refine l_val (v := Ux (entsU (tickU x.tick) (x.ents.take k))) rfl rfl rfl (e_move) ?_
    refine l_val (v := Ux (entsU (tickU x.tick) (x.ents.take k))) rfl rfl rfl (e_assign) ?_
    refine l_nil ?_
    refine f_then ?_
    refine c_ret ?_
    refine ret1 Tryz.results34 (v := Ux (entsU (tickU x.tick) (x.ents.take k))) rfl ?_
    intro w hw
    exact ⟨by rw [worldU, List.take_of_length_le (show x.ents.length ≤ k by omega)], st_mask [false] rfl hw⟩
theorem rname_ok (β : Base) (w : World) (hw : St β [] w) (s : ByteArray) (hs : s.size ≤ 1000) : Calls Tryz.prog 35 #[.string s] w fun r w' => r = .returned (Ux (seqU (wordsB s))) ∧ St β [] w' := by
  refine enter (n := 20) Tryz.func35 rfl Tryz.ntmps35 rfl ?_ hw
  refine c_seq ?_
  refine c_region ?_
  refine l_val (v := .int .u64 (0)) rfl rfl rfl (e_assign) ?_
  refine l_nil ?_
  refine f_then ?_
  refine c_seq ?_
  refine c_region ?_
  refine l_val (v := .slice none 0 0) rfl rfl rfl (e_assign) ?_
  refine l_nil ?_
  refine f_then ?_
  refine c_seq ?_
  refine c_seq ?_
  refine c_emp (r := row (.slice none 0 0) 41 1 0 []) (row_nil _ _ _) ?_
  refine c_region ?_
  refine l_val (v := .int .i64 (0)) rfl rfl rfl (e_assign) ?_
  refine l_nil ?_
  refine f_then ?_
  refine c_block ?_
  refine c_mask [true] rfl ?_
  refine c_loop (fun (x_ : Nat × Value) (f : Fm) (L : List Res) => match x_ with | (k, z) => (f 0 = .string (s) ∧ f 3 = z ∧ f 4 = Nx (k)) ∧ L = [row z 41 1 (k) ((((wordsB s).take k).map fun z => Ux z))] ∧ (k ≤ s.size)) (fun (x_ : Nat × Value) => match x_ with | (k, z) => s.size - k) (0, (.slice none 0 0)) ?_ ?_
  · exact ⟨⟨rfl, rfl, rfl⟩, rfl, (by omega)⟩
  rintro ⟨k, z⟩ f0 L0 ⟨⟨hs0, hs3, hs4⟩, hL, hk⟩
  subst L0
  refine rebase (d := 0) hs0 ?_
  refine rebase (d := 3) hs3 ?_
  refine rebase (d := 4) hs4 ?_
  clear hs0 hs3 hs4
  refine c_seq ?_
  refine c_seq ?_
  refine c_region ?_
  refine l_val (v := Nx (k)) rfl rfl rfl (e_move) ?_
  refine l_val (v := .string (s)) rfl rfl rfl (e_move) ?_
  refine l_val (v := Nx ((s).size)) rfl rfl rfl (e_len_s (s := s) rfl tf7) ?_
  refine l_val (v := .bool (decide (((k : Nat) : Int) < (((s).size : Nat) : Int)))) rfl rfl rfl (e_lss (a := ((k : Nat) : Int)) (b := (((s).size : Nat) : Int)) rfl rfl) ?_
  refine l_nil ?_
  refine f_then ?_
  refine c_if (((k : Nat) : Int) < (((s).size : Nat) : Int)) rfl (fun hc1 => ?_) (fun hc1 => ?_)
  ·
    refine c_skip ?_
    refine f_then ?_
    refine c_seq ?_
    refine c_block ?_
    refine c_region ?_
    refine l_val (v := z) rfl rfl rfl (e_move) ?_
    refine l_val (v := .string (s)) rfl rfl rfl (e_move) ?_
    refine l_val (v := Nx (k)) rfl rfl rfl (e_move) ?_
    obtain ⟨c2, hc3⟩ : ∃ c, (s).data.toList[k]? = some c := ⟨_, List.getElem?_eq_getElem (by simp; omega)⟩
    refine l_val (v := Bx (c2)) rfl rfl rfl (e_index_s (s := s) (k := k) (c := c2) rfl rfl tf7 hc3) ?_
    refine l_val (v := Ux (c2.toUInt64)) rfl rfl rfl (e_conv (a := ((c2).toNat : Int)) rfl ⟨_, tf8⟩ tf2 (ux_of8 _)) ?_
    refine l_mv rfl rfl rfl (m_slices tf41 tf4 (vs := [(0, Ux (c2.toUInt64))]) (cells := #[Ux (c2.toUInt64)]) rfl rfl rfl rfl) ?_
    rintro _ _ ⟨b4, rfl, rfl⟩
    refine l_mv rfl rfl rfl (m_append 1 tf41 tf45 (v := z) (m := k) (vs := (((wordsB s).take k).map fun z => Ux z)) (ad := ⟨b4, 0, none⟩) (k := 1) (c := 1) (news := [Ux (c2.toUInt64)]) rfl rfl rfl rfl (k_pt 0 (cs := #[Ux (c2.toUInt64)]) (vs := [Ux (c2.toUInt64)]) rfl rfl) rfl (by unfold maxLen; omega) (by omega)) ?_
    rintro v5 _ ⟨hnv5, rfl⟩
    refine l_val (v := v5) rfl rfl rfl (e_assign) ?_
    refine l_nil ?_
    refine f_block ?_
    refine f_then ?_
    refine c_region ?_
    refine l_val (v := Nx (k)) rfl rfl rfl (e_move) ?_
    refine l_val (v := Nx (k + 1)) rfl rfl rfl (e_add (a := ((k : Nat) : Int)) (b := (1 : Int)) rfl rfl (i64n (by omega) (by omega))) ?_
    refine l_val (v := Nx (k + 1)) rfl rfl rfl (e_assign) ?_
    refine l_nil ?_
    refine f_mask (L' := [row v5 41 1 (k + 1) ((((wordsB s).take k).map fun z => Ux z) ++ [Ux (c2.toUInt64)])]) [false, true] rfl ?_
    exact f_cut ⟨(k + 1, v5), ⟨⟨rfl, rfl, rfl⟩, (by rw [take_succ (xs := wordsB s) (a := c2.toUInt64) (by simp [wordsB, hc3])]; simp), (by omega)⟩, (show s.size - (k + 1) < s.size - k from by omega)⟩
  ·
    refine c_exit ?_
    refine f_then_exit ?_
    refine f_then_exit ?_
    refine f_exit ?_
    refine f_then ?_
    refine c_seq ?_
    have hke : k = s.size := by omega
    subst hke
    have hwb : (wordsB s).length = s.size := by simp [wordsB]
    rw [List.take_of_length_le (show (wordsB s).length ≤ s.size by omega)]
    refine c_turn (L' := [row z 41 1 (wordsB s).length ((wordsB s).map fun z => Ux z)]) (fun w h => by rw [hwb]; exact h) ?_
    refine c_region ?_
    refine l_val (v := z) rfl rfl rfl (e_move) ?_
    refine l_call rfl rfl rfl (cl_value (fst := []) (cap := []) (vs := [z]) (all := [z]) tf80 rfl rfl rfl) ?_
    intro w hw
    obtain ⟨β1, sb, kn, hw1, back⟩ := St.frame_all hw
    refine (rseq_ok β1 w hw1 _ (wordsB s) (kn (fun h => Sl U64R h _ (wordsB s)) (Knows.of_res 0 rfl (fun _ _ hs h => Sl.mono U64R _ _ _ _ hs h) fun _ h => row_sl64 h))).mono ?_
    rintro e w' ⟨rfl, hw'⟩
    refine ⟨_, rfl, _, back _ _ hw', ?_⟩
    clear hw hw1 hw' back kn sb
    refine l_val (v := Ux (seqU (wordsB s))) rfl rfl rfl (e_assign) ?_
    refine l_nil ?_
    refine f_then ?_
    refine c_ret ?_
    refine ret1 Tryz.results35 (v := Ux (seqU (wordsB s))) rfl ?_
    intro w hw
    exact ⟨rfl, st_mask [false] rfl hw⟩
end Go.Proofs
