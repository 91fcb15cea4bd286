import Derived.Test.YtbfidhbcojbklaaDg8
import Derived.Test.YtbfidhbcojbklaaSlSlice
namespace Go.Proofs
open Go Go.Sl
theorem max_ne (b : UInt64) : max b 1 ≠ 0 := by
  intro h
  have h1 : (max b 1).toNat = 0 := by rw [h]; rfl
  have h2 := ux_max b 1
  rw [h1] at h2
  have h3 : ((1 : UInt64).toNat : Int) = 1 := rfl
  omega
theorem shr_zero {d : UInt64} {k : UInt64} (hk : 1 ≤ (k % 64).toNat) (h : d = d >>> k) : d = 0 := by
  have h1 : d.toNat = d.toNat >>> (k.toNat % 64) := by
    conv => lhs; rw [h]
    simp
  rw [Nat.shiftRight_eq_div_pow] at h1
  have hk' : 1 ≤ k.toNat % 64 := by simpa using hk
  have h2 : 2 ≤ 2 ^ (k.toNat % 64) := by
    calc 2 = 2 ^ 1 := rfl
      _ ≤ _ := Nat.pow_le_pow_right (by omega) hk'
  have h3 : d.toNat = 0 := by
    rcases Nat.eq_zero_or_pos d.toNat with h0 | h0
    · exact h0
    · have := Nat.div_lt_self h0 h2
      omega
  exact UInt64.toNat_inj.1 (by simpa using h3)
theorem xs_inj {x y k : UInt64} (hk : 1 ≤ (k % 64).toNat) (h : x ^^^ x >>> k = y ^^^ y >>> k) : x = y := by
  have h1 : x ^^^ y = (x ^^^ y) >>> k := by
    have e : (x ^^^ y) >>> k = x >>> k ^^^ y >>> k := by
      apply UInt64.toBitVec_inj.1
      simp [BitVec.ushiftRight_xor_distrib]
    rw [e]
    have h2 : x ^^^ (x ^^^ x >>> k) ^^^ y = x ^^^ (y ^^^ y >>> k) ^^^ y := by rw [h]
    have h3 : x ^^^ (x ^^^ x >>> k) ^^^ y = x >>> k ^^^ y := by rw [← UInt64.xor_assoc, UInt64.xor_self, UInt64.zero_xor]
    have h4 : x ^^^ (y ^^^ y >>> k) ^^^ y = x ^^^ y >>> k := by
      rw [UInt64.xor_comm y (y >>> k), ← UInt64.xor_assoc, UInt64.xor_assoc, UInt64.xor_self, UInt64.xor_zero]
    rw [h3, h4] at h2
    have h5 : x ^^^ (x >>> k ^^^ y) ^^^ y >>> k = x ^^^ (x ^^^ y >>> k) ^^^ y >>> k := by rw [h2]
    have h6 : x ^^^ (x ^^^ y >>> k) ^^^ y >>> k = 0 := by rw [← UInt64.xor_assoc, UInt64.xor_self, UInt64.zero_xor, UInt64.xor_self]
    rw [h6] at h5
    have h7 : x ^^^ (x >>> k ^^^ y) ^^^ y >>> k = (x ^^^ y) ^^^ (x >>> k ^^^ y >>> k) := by
      rw [UInt64.xor_comm (x >>> k) y, ← UInt64.xor_assoc, UInt64.xor_assoc]
    rw [h7] at h5
    have h8 := congrArg (fun z => z ^^^ (x >>> k ^^^ y >>> k)) h5
    simpa [UInt64.xor_assoc, UInt64.xor_self] using h8
  have h2 := shr_zero hk h1
  have h3 := congrArg (fun z => z ^^^ y) h2
  simpa [UInt64.xor_assoc, UInt64.xor_self] using h3
theorem mul_inj {x y c c' : UInt64} (hc : c * c' = 1) (h : x * c = y * c) : x = y := by
  have h2 := congrArg (fun z => z * c') h
  simpa [UInt64.mul_assoc, hc] using h2
theorem mix_inj {x y : UInt64} (h : mixU x = mixU y) : x = y := by
  unfold mixU at h
  simp only at h
  have h1 := xs_inj (by decide) h
  have h2 := mul_inj (c' := 0x319642b2d24d8ec3) (by decide) h1
  have h3 := xs_inj (by decide) h2
  have h4 := mul_inj (c' := 0x96de1b173f119089) (by decide) h3
  exact xs_inj (by decide) h4
theorem chain_inj_d {d d' w : UInt64} (h : chainU d w = chainU d' w) : d = d' := by
  have h1 := mix_inj h
  rw [UInt64.add_left_inj, UInt64.add_left_inj] at h1
  exact mul_inj (c' := 0xf1de83e19937733d) (by decide) h1
theorem chain_inj_w {d w w' : UInt64} (h : chainU d w = chainU d w') : w = w' := by
  have h1 := mix_inj h
  rw [UInt64.add_left_inj, UInt64.add_right_inj] at h1
  exact h1
theorem add_ne {w c : UInt64} (hc : c ≠ 0) : w ≠ w + c := fun h => hc (by
  have : w + 0 = w + c := by simpa using h
  rw [UInt64.add_right_inj] at this; exact this.symm)
theorem chn_begin (d c : UInt64) {w : UInt64} (hc : c ≠ 0) : ((chainU d w).toNat : Int) ≠ ((chainU (d + c) w).toNat : Int) := fun e =>
  add_ne hc (chain_inj_d (UInt64.toNat_inj.1 (Int.ofNat_inj.1 e)))
theorem bne_ff {p q : Prop} [Decidable p] [Decidable q] (h : p ↔ q) : (!(decide p == decide q)) = false := by
  have e : decide p = decide q := decide_eq_decide.2 h
  rw [e]; simp
theorem chn_at {a b w c : UInt64} {k kk : Nat} (h : (k : Int) = (kk : Int)) (hab : k ≤ kk → a = b) (hc : c ≠ 0) :
    (!(decide (((chainU a w).toNat : Int) = ((chainU b (w + c)).toNat : Int)) == decide ((k : Int) < (kk : Int)))) = false :=
  bne_ff ⟨fun e => absurd (chain_inj_w (by rw [hab (by omega)] at e; exact UInt64.toNat_inj.1 (Int.ofNat_inj.1 e))) (add_ne hc), fun q => by omega⟩
theorem chn_off {a b w : UInt64} {k kk : Nat} (h : ¬ (k : Int) = (kk : Int)) (h1 : k ≤ kk → a = b) (h2 : kk < k → a ≠ b) :
    (!(decide (((chainU a w).toNat : Int) = ((chainU b w).toNat : Int)) == decide ((k : Int) < (kk : Int)))) = false := by
  refine bne_ff ⟨fun e => ?_, fun q => by rw [h1 (by omega)]⟩
  have e1 := chain_inj_d (UInt64.toNat_inj.1 (Int.ofNat_inj.1 e))
  have : ¬ kk < k := fun q => h2 q e1
  omega
theorem chn_next_at {a b w c : UInt64} {k kk : Nat} (h : (k : Int) = (kk : Int)) (h1 : k ≤ kk → a = b) (_ : kk < k → a ≠ b) (hc : c ≠ 0) :
    (k + 1 ≤ kk → chainU a w = chainU b (w + c)) ∧ (kk < k + 1 → chainU a w ≠ chainU b (w + c)) :=
  ⟨fun q => by omega, fun _ e => absurd (chain_inj_w (by rw [h1 (by omega)] at e; exact e)) (add_ne hc)⟩
theorem chn_next_off {a b w c : UInt64} {k kk : Nat} (h : ¬ (k : Int) = (kk : Int)) (h1 : k ≤ kk → a = b) (h2 : kk < k → a ≠ b) (_ : c ≠ 0) :
    (k + 1 ≤ kk → chainU a w = chainU b w) ∧ (kk < k + 1 → chainU a w ≠ chainU b w) :=
  ⟨fun q => by rw [h1 (by omega)], fun q e => h2 (by omega) (chain_inj_d e)⟩
theorem tf63 : cfB Try.prog 24 = true := by kernel_rfl
theorem tf64 : Try.prog.underlying 39 = some (.int .u16) := by kernel_rfl
theorem tf65 : Try.prog.underlying 4 = some .bool := by kernel_rfl
theorem chains_ok (β : Base) (w : World) (hw : St β [] w) (begin_ : UInt64) (xs : List UInt64) (v : Value) (hs : Sl U64R β.heap v xs) (at_ : Nat) (hat : at_ < 65536) (by_ : UInt64) : Calls Try.prog 6 #[Ux begin_, v, .int .u16 ((at_ : Nat) : Int), Ux by_] w fun r w' => r = .returned (.bool true) ∧ St β [] w' := by
  obtain ⟨va, vc, rfl, vl, vm, ve⟩ := hs.get
  refine enter (n := 75) Try.func6 rfl Try.ntmps6 rfl ?_ hw
  refine c_seq ?_
  refine c_region ?_
  refine l_val (v := .bool false) rfl rfl rfl (e_assign) ?_
  refine l_nil ?_
  refine f_then ?_
  refine c_seq ?_
  refine c_region ?_
  refine l_val (v := .slice va (xs.length) (vc)) rfl rfl rfl (e_move) ?_
  refine l_val (v := .slice va (xs.length) (vc)) rfl rfl rfl (e_move) ?_
  refine l_val (v := Nx (xs.length)) rfl rfl rfl (e_len (a := va) (n := xs.length) (c := vc) rfl tf40) ?_
  refine l_val (v := Nx (min xs.length 300)) rfl rfl rfl (ev_eq (congrArg (Value.int .i64) (by omega)) (e_min (a := ((xs.length : Nat) : Int)) (b := (300 : Int)) rfl rfl)) ?_
  obtain ⟨zs1, hz2⟩ : ∃ zs, zs = (xs.take (min xs.length 300)) := ⟨_, rfl⟩
  have zl3 : zs1.length = min (min xs.length 300) (xs).length - 0 := by rw [hz2]; simp; try omega
  have ze4 := (Elems.take (min xs.length 300) ve)
  rw [← hz2] at ze4
  refine l_val (v := .slice va (zs1.length) (vc)) rfl rfl rfl (ev_eq (by rw [show zs1.length = min xs.length 300 by omega]) (e_slice_hi (a := va) (len := xs.length) (cap := vc) (h := min xs.length 300) tf41 rfl rfl (by omega))) ?_
  refine l_val (v := .slice va (zs1.length) (vc)) rfl rfl rfl (e_assign) ?_
  refine l_nil ?_
  refine f_then ?_
  refine c_seq ?_
  refine c_seq ?_
  refine c_region ?_
  refine l_val (v := .slice va (zs1.length) (vc)) rfl rfl rfl (e_move) ?_
  refine l_val (v := Nx (zs1.length)) rfl rfl rfl (e_len (a := va) (n := zs1.length) (c := vc) rfl tf40) ?_
  refine l_val (v := .bool (decide (((zs1.length : Nat) : Int) = (0 : Int)))) rfl rfl rfl (e_eql (a := ((zs1.length : Nat) : Int)) (b := (0 : Int)) rfl rfl) ?_
  refine l_nil ?_
  refine f_then ?_
  refine c_if (((zs1.length : Nat) : Int) = (0 : Int)) rfl (fun hc5 => ?_) (fun hc5 => ?_)
  ·
    refine c_seq ?_
    refine c_region ?_
    refine l_call rfl rfl rfl (cl_value (fst := []) (cap := []) (vs := []) (all := []) tf63 rfl rfl rfl) ?_
    intro w hw
    obtain ⟨β1, sb, kn, hw1, back⟩ := St.frame_all hw
    refine (awake_ok β1 w hw1).mono ?_
    rintro e w' ⟨rfl, hw'⟩
    refine ⟨_, rfl, _, back _ _ hw', ?_⟩
    clear hw hw1 hw' back kn sb
    refine l_val (v := .bool true) rfl rfl rfl (e_assign) ?_
    refine l_nil ?_
    refine f_then ?_
    refine c_ret ?_
    refine f_then_ret ?_
    refine ret1 Try.results6 (v := .bool true) rfl ?_
    intro w hw
    exact ⟨rfl, st_mask [] rfl hw⟩
  ·
    refine c_skip ?_
    refine f_then ?_
    refine c_seq ?_
    refine c_region ?_
    refine l_val (v := .int .u16 (((at_ : Nat)) : Int)) rfl rfl rfl (e_move) ?_
    refine l_val (v := Nx (at_)) rfl rfl rfl (e_conv (a := ((at_ : Nat) : Int)) rfl ⟨_, tf64⟩ tf1 (i64n rfl (by omega))) ?_
    refine l_val (v := .slice va (zs1.length) (vc)) rfl rfl rfl (e_move) ?_
    refine l_val (v := Nx (zs1.length)) rfl rfl rfl (e_len (a := va) (n := zs1.length) (c := vc) rfl tf40) ?_
    refine l_val (v := Nx (at_ % zs1.length)) rfl rfl rfl (e_rem (a := ((at_ : Nat) : Int)) (b := ((zs1.length : Nat) : Int)) rfl rfl (by omega) (nat_tmod _ _)) ?_
    refine l_val (v := Nx (at_ % zs1.length)) rfl rfl rfl (e_assign) ?_
    refine l_nil ?_
    refine f_then ?_
    refine c_seq ?_
    refine c_region ?_
    refine l_val (v := Ux (begin_)) rfl rfl rfl (e_move) ?_
    refine l_val (v := Ux (begin_)) rfl rfl rfl (e_move) ?_
    refine l_val (v := Ux (begin_)) rfl rfl rfl (e_assign) ?_
    refine l_val (v := Ux (begin_)) rfl rfl rfl (e_assign) ?_
    refine l_nil ?_
    refine f_then ?_
    refine c_seq ?_
    refine c_seq ?_
    refine c_region ?_
    refine l_val (v := .slice va (zs1.length) (vc)) rfl rfl rfl (e_move) ?_
    refine l_val (v := Nx (zs1.length)) rfl rfl rfl (e_len (a := va) (n := zs1.length) (c := vc) rfl tf40) ?_
    refine l_val (v := .int .i64 (0)) rfl rfl rfl (e_move) ?_
    refine l_nil ?_
    refine f_then ?_
    refine c_block ?_
    refine c_loop (fun (x_ : Nat × UInt64 × UInt64) (f : Fm) (L : List Res) => match x_ with | (k, a, b) => (f 0 = Ux (begin_) ∧ f 1 = .slice va (zs1.length) (vc) ∧ f 3 = Ux (by_) ∧ f 9 = Nx (at_ % zs1.length) ∧ f 10 = Ux (a) ∧ f 11 = Ux (b) ∧ f 30 = .slice va (zs1.length) (vc) ∧ f 31 = Nx (zs1.length) ∧ f 32 = Nx (k)) ∧ L = [] ∧ (k ≤ zs1.length ∧ (k ≤ at_ % zs1.length → a = b) ∧ (at_ % zs1.length < k → a ≠ b))) (fun (x_ : Nat × UInt64 × UInt64) => match x_ with | (k, a, b) => zs1.length - k) (0, begin_, begin_) ?_ ?_
    · exact ⟨⟨rfl, rfl, rfl, rfl, rfl, rfl, rfl, rfl, rfl⟩, rfl, ⟨by omega, fun _ => rfl, fun h => by omega⟩⟩
    rintro ⟨k, a, b⟩ f0 L0 ⟨⟨hs0, hs1, hs3, hs9, hs10, hs11, hs30, hs31, hs32⟩, hL, ⟨hp1, hp2, hp3⟩⟩
    subst L0
    refine rebase (d := 0) hs0 ?_
    refine rebase (d := 1) hs1 ?_
    refine rebase (d := 3) hs3 ?_
    refine rebase (d := 9) hs9 ?_
    refine rebase (d := 10) hs10 ?_
    refine rebase (d := 11) hs11 ?_
    refine rebase (d := 30) hs30 ?_
    refine rebase (d := 31) hs31 ?_
    refine rebase (d := 32) hs32 ?_
    clear hs0 hs1 hs3 hs9 hs10 hs11 hs30 hs31 hs32
    refine c_seq ?_
    refine c_region ?_
    refine l_val (v := .bool (decide (((k : Nat) : Int) < ((zs1.length : Nat) : Int)))) rfl rfl rfl (e_lss (a := ((k : Nat) : Int)) (b := ((zs1.length : Nat) : Int)) rfl rfl) ?_
    refine l_nil ?_
    refine f_then ?_
    refine c_seq ?_
    refine c_if (((k : Nat) : Int) < ((zs1.length : Nat) : Int)) rfl (fun hc6 => ?_) (fun hc6 => ?_)
    ·
      refine c_skip ?_
      refine f_then ?_
      refine c_seq ?_
      refine c_block ?_
      refine c_seq ?_
      refine c_region ?_
      refine l_val (v := Nx (k)) rfl rfl rfl (e_move) ?_
      obtain ⟨x7, hx8⟩ : ∃ x_, (zs1)[k]? = some x_ := ⟨_, List.getElem?_eq_getElem (by omega)⟩
      obtain ⟨ha9, cs10, hc11, rfl⟩ := ze4 _ _ hx8
      refine l_val (v := .pointer (some ((ba va).add (k * 1)))) rfl rfl rfl (e_indexAddr (k := k) (len := zs1.length) (cap := vc) (a := va) rfl rfl tf41 (by omega) ha9) ?_
      refine l_val (v := Ux (x7)) rfl rfl rfl (e_load1 tf5 (v := Ux (x7)) rfl (Knows.of_base (Cs.mono _ _) hc11)) ?_
      refine l_val (v := Nx (k)) rfl rfl rfl (e_assign) ?_
      refine l_val (v := Ux (x7)) rfl rfl rfl (e_assign) ?_
      refine l_nil ?_
      refine f_then ?_
      refine c_seq ?_
      refine c_region ?_
      refine l_val (v := Ux (a)) rfl rfl rfl (e_move) ?_
      refine l_val (v := Ux (x7)) rfl rfl rfl (e_move) ?_
      refine l_call rfl rfl rfl (cl_value (fst := []) (cap := []) (vs := [Ux (a), Ux (x7)]) (all := [Ux (a), Ux (x7)]) tf3 rfl rfl rfl) ?_
      intro w hw
      obtain ⟨β1, sb, kn, hw1, back⟩ := St.frame_all hw
      refine (chain_ok β1 w hw1 a x7).mono ?_
      rintro e w' ⟨rfl, hw'⟩
      refine ⟨_, rfl, _, back _ _ hw', ?_⟩
      clear hw hw1 hw' back kn sb
      refine l_val (v := Ux (chainU a x7)) rfl rfl rfl (e_assign) ?_
      refine l_nil ?_
      refine f_then ?_
      refine c_seq ?_
      refine c_seq ?_
      refine c_region ?_
      refine l_val (v := Nx (k)) rfl rfl rfl (e_move) ?_
      refine l_val (v := Nx (at_ % zs1.length)) rfl rfl rfl (e_move) ?_
      refine l_val (v := .bool (decide (((k : Nat) : Int) = ((at_ % zs1.length : Nat) : Int)))) rfl rfl rfl (e_eql (a := ((k : Nat) : Int)) (b := ((at_ % zs1.length : Nat) : Int)) rfl rfl) ?_
      refine l_nil ?_
      refine f_then ?_
      refine c_if (((k : Nat) : Int) = ((at_ % zs1.length : Nat) : Int)) rfl (fun hc13 => ?_) (fun hc13 => ?_)
      ·
        refine c_region ?_
        refine l_val (v := Ux (x7)) rfl rfl rfl (e_move) ?_
        refine l_val (v := Ux (by_)) rfl rfl rfl (e_move) ?_
        refine l_val (v := Ux (max by_ (1 : UInt64))) rfl rfl rfl (ev_eq (congrArg (Value.int .u64) (ux_max _ _)) (e_max (a := ((by_).toNat : Int)) (b := ((1 : UInt64).toNat : Int)) rfl rfl)) ?_
        refine l_val (v := Ux (x7 + (max by_ (1 : UInt64)))) rfl rfl rfl (e_add (a := ((x7).toNat : Int)) (b := ((max by_ (1 : UInt64)).toNat : Int)) rfl rfl (ux_add _ _)) ?_
        refine l_val (v := Ux (x7 + (max by_ (1 : UInt64)))) rfl rfl rfl (e_assign) ?_
        refine l_nil ?_
        refine f_then ?_
        refine c_seq ?_
        refine c_region ?_
        refine l_val (v := Ux (b)) rfl rfl rfl (e_move) ?_
        refine l_val (v := Ux (x7 + (max by_ (1 : UInt64)))) rfl rfl rfl (e_move) ?_
        refine l_call rfl rfl rfl (cl_value (fst := []) (cap := []) (vs := [Ux (b), Ux (x7 + (max by_ (1 : UInt64)))]) (all := [Ux (b), Ux (x7 + (max by_ (1 : UInt64)))]) tf3 rfl rfl rfl) ?_
        intro w hw
        obtain ⟨β1, sb, kn, hw1, back⟩ := St.frame_all hw
        refine (chain_ok β1 w hw1 b (x7 + (max by_ (1 : UInt64)))).mono ?_
        rintro e w' ⟨rfl, hw'⟩
        refine ⟨_, rfl, _, back _ _ hw', ?_⟩
        clear hw hw1 hw' back kn sb
        refine l_val (v := Ux (chainU b (x7 + (max by_ (1 : UInt64))))) rfl rfl rfl (e_assign) ?_
        refine l_nil ?_
        refine f_then ?_
        refine c_seq ?_
        refine c_region ?_
        refine l_val (v := Ux (chainU a x7)) rfl rfl rfl (e_move) ?_
        refine l_val (v := Ux (chainU b (x7 + (max by_ (1 : UInt64))))) rfl rfl rfl (e_move) ?_
        refine l_val (v := .bool (decide (((chainU a x7).toNat : Int) = ((chainU b (x7 + (max by_ (1 : UInt64)))).toNat : Int)))) rfl rfl rfl (e_eql (a := ((chainU a x7).toNat : Int)) (b := ((chainU b (x7 + (max by_ (1 : UInt64)))).toNat : Int)) rfl rfl) ?_
        refine l_val (v := Nx (k)) rfl rfl rfl (e_move) ?_
        refine l_val (v := Nx (at_ % zs1.length)) rfl rfl rfl (e_move) ?_
        refine l_val (v := .bool (decide (((k : Nat) : Int) < ((at_ % zs1.length : Nat) : Int)))) rfl rfl rfl (e_lss (a := ((k : Nat) : Int)) (b := ((at_ % zs1.length : Nat) : Int)) rfl rfl) ?_
        refine l_val (v := .bool (!((decide (((chainU a x7).toNat : Int) = ((chainU b (x7 + (max by_ (1 : UInt64)))).toNat : Int))) == (decide (((k : Nat) : Int) < ((at_ % zs1.length : Nat) : Int)))))) rfl rfl rfl (e_neq_b (a := decide (((chainU a x7).toNat : Int) = ((chainU b (x7 + (max by_ (1 : UInt64)))).toNat : Int))) (b := decide (((k : Nat) : Int) < ((at_ % zs1.length : Nat) : Int))) rfl rfl tf65) ?_
        refine l_nil ?_
        refine f_then ?_
        refine c_ifb (!((decide (((chainU a x7).toNat : Int) = ((chainU b (x7 + (max by_ (1 : UInt64)))).toNat : Int))) == (decide (((k : Nat) : Int) < ((at_ % zs1.length : Nat) : Int))))) rfl (fun hc14 => ?_) (fun hc14 => ?_)
        ·
          rw [(chn_at hc13 hp2 (max_ne _))] at hc14; cases hc14
        ·
          refine c_skip ?_
          refine f_block ?_
          refine f_then ?_
          refine c_region ?_
          refine l_val (v := Nx (k + 1)) rfl rfl rfl (e_add (a := ((k : Nat) : Int)) (b := (1 : Int)) rfl rfl (i64n (by omega) (by omega))) ?_
          refine l_val (v := Nx (k + 1)) rfl rfl rfl (e_move) ?_
          refine l_nil ?_
          exact f_cut ⟨(k + 1, (chainU a x7), (chainU b (x7 + (max by_ (1 : UInt64))))), ⟨⟨rfl, rfl, rfl, rfl, rfl, rfl, rfl, rfl, rfl⟩, rfl, ⟨by omega, chn_next_at hc13 hp2 hp3 (max_ne by_)⟩⟩, (show zs1.length - (k + 1) < zs1.length - k from by omega)⟩
      ·
        refine c_skip ?_
        refine f_then ?_
        refine c_seq ?_
        refine c_region ?_
        refine l_val (v := Ux (b)) rfl rfl rfl (e_move) ?_
        refine l_val (v := Ux (x7)) rfl rfl rfl (e_move) ?_
        refine l_call rfl rfl rfl (cl_value (fst := []) (cap := []) (vs := [Ux (b), Ux (x7)]) (all := [Ux (b), Ux (x7)]) tf3 rfl rfl rfl) ?_
        intro w hw
        obtain ⟨β1, sb, kn, hw1, back⟩ := St.frame_all hw
        refine (chain_ok β1 w hw1 b x7).mono ?_
        rintro e w' ⟨rfl, hw'⟩
        refine ⟨_, rfl, _, back _ _ hw', ?_⟩
        clear hw hw1 hw' back kn sb
        refine l_val (v := Ux (chainU b x7)) rfl rfl rfl (e_assign) ?_
        refine l_nil ?_
        refine f_then ?_
        refine c_seq ?_
        refine c_region ?_
        refine l_val (v := Ux (chainU a x7)) rfl rfl rfl (e_move) ?_
        refine l_val (v := Ux (chainU b x7)) rfl rfl rfl (e_move) ?_
        refine l_val (v := .bool (decide (((chainU a x7).toNat : Int) = ((chainU b x7).toNat : Int)))) rfl rfl rfl (e_eql (a := ((chainU a x7).toNat : Int)) (b := ((chainU b x7).toNat : Int)) rfl rfl) ?_
        refine l_val (v := Nx (k)) rfl rfl rfl (e_move) ?_
        refine l_val (v := Nx (at_ % zs1.length)) rfl rfl rfl (e_move) ?_
        refine l_val (v := .bool (decide (((k : Nat) : Int) < ((at_ % zs1.length : Nat) : Int)))) rfl rfl rfl (e_lss (a := ((k : Nat) : Int)) (b := ((at_ % zs1.length : Nat) : Int)) rfl rfl) ?_
        refine l_val (v := .bool (!((decide (((chainU a x7).toNat : Int) = ((chainU b x7).toNat : Int))) == (decide (((k : Nat) : Int) < ((at_ % zs1.length : Nat) : Int)))))) rfl rfl rfl (e_neq_b (a := decide (((chainU a x7).toNat : Int) = ((chainU b x7).toNat : Int))) (b := decide (((k : Nat) : Int) < ((at_ % zs1.length : Nat) : Int))) rfl rfl tf65) ?_
        refine l_nil ?_
        refine f_then ?_
        refine c_ifb (!((decide (((chainU a x7).toNat : Int) = ((chainU b x7).toNat : Int))) == (decide (((k : Nat) : Int) < ((at_ % zs1.length : Nat) : Int))))) rfl (fun hc15 => ?_) (fun hc15 => ?_)
        ·
          rw [(chn_off hc13 hp2 hp3)] at hc15; cases hc15
        ·
          refine c_skip ?_
          refine f_block ?_
          refine f_then ?_
          refine c_region ?_
          refine l_val (v := Nx (k + 1)) rfl rfl rfl (e_add (a := ((k : Nat) : Int)) (b := (1 : Int)) rfl rfl (i64n (by omega) (by omega))) ?_
          refine l_val (v := Nx (k + 1)) rfl rfl rfl (e_move) ?_
          refine l_nil ?_
          exact f_cut ⟨(k + 1, (chainU a x7), (chainU b x7)), ⟨⟨rfl, rfl, rfl, rfl, rfl, rfl, rfl, rfl, rfl⟩, rfl, ⟨by omega, chn_next_off hc13 hp2 hp3 (max_ne by_)⟩⟩, (show zs1.length - (k + 1) < zs1.length - k from by omega)⟩
    ·
      refine c_exit ?_
      refine f_then_exit ?_
      refine f_then_exit ?_
      refine f_exit ?_
      refine f_then ?_
      refine c_seq ?_
      refine c_quiet (by kernel_rfl) (by kernel_rfl) ?_
      refine q_val (v := Ux (begin_)) rfl rfl rfl (e_move) ?_
      refine q_val (v := .slice va (zs1.length) (vc)) rfl rfl rfl (e_move) ?_
      obtain ⟨x16, hx17⟩ : ∃ x_, (zs1)[0]? = some x_ := ⟨_, List.getElem?_eq_getElem (by omega)⟩
      obtain ⟨ha18, cs19, hc20, rfl⟩ := ze4 _ _ hx17
      refine q_val (v := .pointer (some ((ba va).add (0 * 1)))) rfl rfl rfl (e_indexAddr (k := 0) (len := zs1.length) (cap := vc) (a := va) rfl rfl tf41 (by omega) ha18) ?_
      refine q_val (v := Ux (x16)) rfl rfl rfl (e_load1 tf5 (v := Ux (x16)) rfl (Knows.of_base (Cs.mono _ _) hc20)) ?_
      refine q_call (v := Ux (chainU begin_ x16)) rfl rfl rfl (cl_value (fst := []) (cap := []) (vs := [Ux (begin_), Ux (x16)]) (all := [Ux (begin_), Ux (x16)]) tf3 rfl rfl rfl) (fun w hw => ?_) ?_
      · obtain ⟨β1, sb, kn, hw1, back⟩ := St.frame_all hw
        exact (chain_ok β1 w hw1 begin_ x16).mono (fun e w' ⟨he, hw'⟩ => ⟨he, st_mask [] rfl (back _ _ hw')⟩)
      refine q_val (v := Ux (begin_)) rfl rfl rfl (e_move) ?_
      refine q_val (v := Ux (by_)) rfl rfl rfl (e_move) ?_
      refine q_val (v := Ux (max by_ (1 : UInt64))) rfl rfl rfl (ev_eq (congrArg (Value.int .u64) (ux_max _ _)) (e_max (a := ((by_).toNat : Int)) (b := ((1 : UInt64).toNat : Int)) rfl rfl)) ?_
      refine q_val (v := Ux (begin_ + (max by_ (1 : UInt64)))) rfl rfl rfl (e_add (a := ((begin_).toNat : Int)) (b := ((max by_ (1 : UInt64)).toNat : Int)) rfl rfl (ux_add _ _)) ?_
      refine q_val (v := .slice va (zs1.length) (vc)) rfl rfl rfl (e_move) ?_
      refine q_val (v := .pointer (some ((ba va).add (0 * 1)))) rfl rfl rfl (e_indexAddr (k := 0) (len := zs1.length) (cap := vc) (a := va) rfl rfl tf41 (by omega) ha18) ?_
      refine q_val (v := Ux (x16)) rfl rfl rfl (e_load1 tf5 (v := Ux (x16)) rfl (Knows.of_base (Cs.mono _ _) hc20)) ?_
      refine q_call (v := Ux (chainU (begin_ + (max by_ (1 : UInt64))) x16)) rfl rfl rfl (cl_value (fst := []) (cap := []) (vs := [Ux (begin_ + (max by_ (1 : UInt64))), Ux (x16)]) (all := [Ux (begin_ + (max by_ (1 : UInt64))), Ux (x16)]) tf3 rfl rfl rfl) (fun w hw => ?_) ?_
      · obtain ⟨β1, sb, kn, hw1, back⟩ := St.frame_all hw
        exact (chain_ok β1 w hw1 (begin_ + (max by_ (1 : UInt64))) x16).mono (fun e w' ⟨he, hw'⟩ => ⟨he, st_mask [] rfl (back _ _ hw')⟩)
      refine q_val (v := .bool (decide (((chainU begin_ x16).toNat : Int) ≠ ((chainU (begin_ + (max by_ (1 : UInt64))) x16).toNat : Int)))) rfl rfl rfl (e_neq (a := ((chainU begin_ x16).toNat : Int)) (b := ((chainU (begin_ + (max by_ (1 : UInt64))) x16).toNat : Int)) rfl rfl) ?_
      refine q_val (v := .bool (decide (((chainU begin_ x16).toNat : Int) ≠ ((chainU (begin_ + (max by_ (1 : UInt64))) x16).toNat : Int)))) rfl rfl rfl (e_move) ?_
      refine q_split (s := 72) (p := ((chainU begin_ x16).toNat : Int) ≠ ((chainU (begin_ + (max by_ (1 : UInt64))) x16).toNat : Int)) rfl (fun h => ?_) (fun h => ?_)
      rotate_left; exact absurd (chn_begin _ _ (max_ne _)) h
      refine qg_call (v := .bool true) rfl rfl rfl rfl rfl (cl_value (fst := []) (cap := []) (vs := []) (all := []) tf63 rfl rfl rfl) (fun w hw => ?_) ?_
      · obtain ⟨β1, sb, kn, hw1, back⟩ := St.frame_all hw
        exact (awake_ok β1 w hw1).mono (fun e w' ⟨he, hw'⟩ => ⟨he, st_mask [] rfl (back _ _ hw')⟩)
      refine q_val (v := .bool true) rfl rfl rfl (e_pick_t rfl) ?_
      refine q_val (v := .bool true) rfl rfl rfl (e_assign) ?_
      refine q_nil ?_
      refine f_then ?_
      refine c_ret ?_
      refine ret1 Try.results6 (v := .bool true) rfl ?_
      intro w hw
      exact ⟨rfl, st_mask [] rfl hw⟩
end Go.Proofs
