/-
  Own work; plain Lean (DgFlatI).
-/
import Derived.Test.YtbfidhbcojbklaaGreatDgFlatL
namespace Go.Proofs
open Go Go.Sl
theorem tf163 : Tryz.prog.underlying 31 = some (.slice 26) := by kernel_rfl
theorem tf164 : slB Tryz.prog 31 26 1 = true := by kernel_rfl
theorem tf165 : tyB Tryz.prog 26 false 1 = true := by kernel_rfl
theorem tf166 : elB Tryz.prog 26 1 24 = true := by kernel_rfl
theorem tf167 : (Tryz.prog.info? 26).bind (·.zero) = some (.slice none 0 0) := by kernel_rfl
theorem mark2_ok (β : Base) (w : World) (hw : St β [] w) (k i : Nat) (hk : k ≤ 3) (hi : i ≤ 100000000) : Calls Tryz.prog 75 #[Nx k, Nx i] w fun r w' => r = .returned (Nx (mrk k i)) ∧ St β [] w' := by
  refine enter (n := 10) Tryz.func75 rfl Tryz.ntmps75 rfl ?_ hw
  refine c_seq ?_
  refine c_region ?_
  refine l_val (v := .int .i64 (0)) rfl rfl rfl (e_assign) ?_
  refine l_nil ?_
  refine f_then ?_
  refine c_seq ?_
  refine c_region ?_
  refine l_val (v := Nx (k)) rfl rfl rfl (e_move) ?_
  refine l_val (v := Nx (k + 7)) rfl rfl rfl (e_add (a := ((k : Nat) : Int)) (b := (7 : Int)) rfl rfl (i64n (by omega) (by omega))) ?_
  refine l_val (v := Nx (1000003 * (k + 7))) rfl rfl rfl (e_mul (a := (1000003 : Int)) (b := ((k + 7 : Nat) : Int)) rfl rfl (i64n (by omega) (by omega))) ?_
  refine l_val (v := Nx (i)) rfl rfl rfl (e_move) ?_
  refine l_val (v := Nx ((1000003 * (k + 7)) + i)) rfl rfl rfl (e_add (a := ((1000003 * (k + 7) : Nat) : Int)) (b := ((i : Nat) : Int)) rfl rfl (i64n (by omega) (by omega))) ?_
  refine l_val (v := Nx ((1000003 * (k + 7)) + i)) rfl rfl rfl (e_assign) ?_
  refine l_nil ?_
  refine f_then ?_
  refine c_ret ?_
  refine ret1 Tryz.results75 (v := Nx ((1000003 * (k + 7)) + i)) rfl ?_
  intro w hw
  exact ⟨rfl, st_mask [] rfl hw⟩
set_option maxHeartbeats 8000000 in
theorem flatInts_ok (β : Base) (w : World) (p : Option Addr) (lc : Nat) (hp : p = some (ba p)) (p0 p1 : Option Addr) (c0 c1 : Nat) (xs0 xs1 : List Int) (h0 : xs0.length ≤ 1000000) (h1 : xs1.length ≤ 1000000) (hls : Cs β.heap (ba p) [.slice p0 (xs0.length) c0, .slice p1 (xs1.length) c1]) (hw : St β [row (.slice p0 (xs0.length) c0) 3 1 (xs0.length) ((xs0.map fun z => Ix z)), row (.slice p1 (xs1.length) c1) 3 1 (xs1.length) ((xs1.map fun z => Ix z))] w) : Calls Tryz.prog 48 #[.slice p 2 lc] w fun r w' => r = .returned (.bool true) ∧ St β [] w' := by
  refine enter (n := 193) Tryz.func48 rfl Tryz.ntmps48 rfl ?_ hw
  refine c_seq ?_
  refine c_region ?_
  refine l_val (v := .bool false) rfl rfl rfl (e_assign) ?_
  refine l_nil ?_
  refine f_then ?_
  refine c_seq ?_
  refine c_seq ?_
  refine c_region ?_
  refine l_val (v := .int .i64 (0)) rfl rfl rfl (e_assign) ?_
  refine l_nil ?_
  refine f_then ?_
  refine c_block ?_
  refine c_unroll 3 ?_
  refine un_succ 2 ?_
  refine c_seq ?_
  refine c_seq ?_
  refine c_region ?_
  refine l_val (v := .int .i64 (0)) rfl rfl rfl (e_move) ?_
  refine l_val (v := .slice p 2 lc) rfl rfl rfl (e_move) ?_
  refine l_val (v := .int .i64 (2)) rfl rfl rfl (e_len (a := p) (n := 2) (c := lc) rfl tf163) ?_
  refine l_val (v := .bool true) rfl rfl rfl (e_lss (a := (0 : Int)) (b := (2 : Int)) rfl rfl) ?_
  refine l_nil ?_
  refine f_then ?_
  refine c_yes rfl ?_
  refine c_skip ?_
  refine f_then ?_
  refine c_seq ?_
  refine c_block ?_
  refine c_seq ?_
  refine c_region ?_
  refine l_val (v := .int .i64 (0)) rfl rfl rfl (e_assign) ?_
  refine l_nil ?_
  refine f_then ?_
  refine c_block ?_
  refine c_loop (fun (i : Nat) (f : Fm) (L : List Res) => (f 0 = .slice p 2 lc ∧ f 3 = .int .i64 (0) ∧ f 4 = Nx (i)) ∧ L = [row (.slice p0 (xs0.length) c0) 3 1 (xs0.length) ((MK 0 i ++ (xs0.map fun z => Ix z).drop i)), row (.slice p1 (xs1.length) c1) 3 1 (xs1.length) ((xs1.map fun z => Ix z))] ∧ (i ≤ xs0.length)) (fun (i : Nat) => xs0.length - i) 0 ?_ ?_
  · exact ⟨⟨rfl, rfl, rfl⟩, (by simp [MK]), (by omega)⟩
  rintro i f0 L0 ⟨⟨hs0, hs3, hs4⟩, hL, hi⟩
  subst L0
  refine rebase (d := 0) hs0 ?_
  refine rebase (d := 3) hs3 ?_
  refine rebase (d := 4) hs4 ?_
  clear hs0 hs3 hs4
  refine c_seq ?_
  refine c_seq ?_
  refine c_region ?_
  refine l_val (v := Nx (i)) rfl rfl rfl (e_move) ?_
  refine l_val (v := .slice p 2 lc) rfl rfl rfl (e_move) ?_
  refine l_val (v := .int .i64 (0)) rfl rfl rfl (e_move) ?_
  refine l_val (v := .pointer (some ((ba p).add (0 * 1)))) rfl rfl rfl (e_indexAddr (k := 0) (len := 2) (cap := lc) (a := p) rfl rfl tf164 (by decide) hp) ?_
  refine l_val (v := .slice p0 (xs0.length) c0) rfl rfl rfl (e_load1 tf165 (v := .slice p0 (xs0.length) c0) rfl (Knows.of_base (Cs.mono _ _) (Cs.sub (vs := [.slice p0 (xs0.length) c0]) (0 * 1) hls rfl))) ?_
  refine l_val (v := Nx (xs0.length)) rfl rfl rfl (e_len (a := p0) (n := xs0.length) (c := c0) rfl tf38) ?_
  refine l_val (v := .bool (decide (((i : Nat) : Int) < ((xs0.length : Nat) : Int)))) rfl rfl rfl (e_lss (a := ((i : Nat) : Int)) (b := ((xs0.length : Nat) : Int)) rfl rfl) ?_
  refine l_nil ?_
  refine f_then ?_
  refine c_if (((i : Nat) : Int) < ((xs0.length : Nat) : Int)) rfl (fun hc1 => ?_) (fun hc1 => ?_)
  ·
    refine c_skip ?_
    refine f_then ?_
    refine c_seq ?_
    refine c_block ?_
    refine c_any [⟨[], [], [0], [31], fun f => f 31 = .slice p 2 lc⟩, ⟨[], [], [1], [32], fun f => f 32 = .int .i64 (0)⟩, ⟨[0, 1], [0, 1], [], [33], fun f => f 33 = .pointer (some ((ba p).add (0 * 1)))⟩, ⟨[0, 1, 2], [2], [], [34], fun f => f 34 = .slice p0 (xs0.length) c0⟩, ⟨[], [], [2], [35], fun f => f 35 = Nx (i)⟩, ⟨[], [], [1], [36], fun f => f 36 = .int .i64 (0)⟩, ⟨[], [], [2], [37], fun f => f 37 = Nx (i)⟩, ⟨[5, 6], [5, 6], [], [38], fun f => f 38 = Nx (mrk 0 i)⟩, ⟨[0, 1, 2, 3, 4, 5, 6, 7], [3, 4], [], [39], fun f => f 39 = .pointer (some ((ba p0).add (i * 1)))⟩, ⟨[0, 1, 2, 3, 4, 5, 6, 7, 8], [8, 7], [], [], fun _ => True⟩] [⟨none, (some 9), [8, 9], [], fun _ => row (.slice p0 (xs0.length) c0) 3 1 (xs0.length) ((MK 0 i ++ (xs0.map fun z => Ix z).drop i))⟩, ⟨none, none, [], [], fun _ => row (.slice p1 (xs1.length) c1) 3 1 (xs1.length) ((xs1.map fun z => Ix z))⟩, ⟨(some 9), none, [], [], fun _ => row (.slice p0 (xs0.length) c0) 3 1 (xs0.length) ((overL (MK 0 i ++ (xs0.map fun z => Ix z).drop i) (i * 1) [Nx (mrk 0 i)]))⟩] [(0, .slice p 2 lc), (3, .int .i64 (0)), (4, Nx (i))] [0, 1, 2] [] (by kernel_rfl) (by kernel_rfl) (by kernel_rfl) (by kernel_rfl) rfl ⟨rfl, rfl, rfl, trivial⟩ ⟨?_, ?_, ?_, ?_, ?_, ?_, ?_, ?_, ?_, ?_, trivial⟩ ?_
    · rintro f M - ⟨i0, -⟩
      have hs0 : f 0 = .slice p 2 lc := i0
      refine ob_start (L' := M) (by rfl) (up_cons rfl hs0) ?_
      refine l_val (v := .slice p 2 lc) rfl rfl rfl (e_move) ?_
      refine l_nil ?_
      exact f_owes_d (up_cons rfl hs0) rfl (List.Perm.refl _)
    · rintro f M - ⟨i0, -⟩
      have hs3 : f 3 = .int .i64 (0) := i0
      refine ob_start (L' := M) (by rfl) (up_cons rfl hs3) ?_
      refine l_val (v := .int .i64 (0)) rfl rfl rfl (e_move) ?_
      refine l_nil ?_
      exact f_owes_d (up_cons rfl hs3) rfl (List.Perm.refl _)
    · rintro f M ⟨k0, k1, -⟩ -
      have hs31 : f 31 = .slice p 2 lc := k0
      have hs32 : f 32 = .int .i64 (0) := k1
      refine ob_start (L' := M) (by rfl) (up_cons (up_cons rfl hs31) hs32) ?_
      refine l_val (v := .pointer (some ((ba p).add (0 * 1)))) rfl rfl rfl (e_indexAddr (k := 0) (len := 2) (cap := lc) (a := p) rfl rfl tf164 (by decide) hp) ?_
      refine l_nil ?_
      exact f_owes_d (up_cons (up_cons rfl hs31) hs32) rfl (List.Perm.refl _)
    · rintro f M ⟨k0, -⟩ -
      have hs33 : f 33 = .pointer (some ((ba p).add (0 * 1))) := k0
      refine ob_start (L' := M) (by rfl) (up_cons rfl hs33) ?_
      refine l_val (v := .slice p0 (xs0.length) c0) rfl rfl rfl (e_load1 tf165 (v := .slice p0 (xs0.length) c0) rfl (Knows.of_base (Cs.mono _ _) (Cs.sub (vs := [.slice p0 (xs0.length) c0]) (0 * 1) hls rfl))) ?_
      refine l_nil ?_
      exact f_owes_d (up_cons rfl hs33) rfl (List.Perm.refl _)
    · rintro f M - ⟨i0, -⟩
      have hs4 : f 4 = Nx (i) := i0
      refine ob_start (L' := M) (by rfl) (up_cons rfl hs4) ?_
      refine l_val (v := Nx (i)) rfl rfl rfl (e_move) ?_
      refine l_nil ?_
      exact f_owes_d (up_cons rfl hs4) rfl (List.Perm.refl _)
    · rintro f M - ⟨i0, -⟩
      have hs3 : f 3 = .int .i64 (0) := i0
      refine ob_start (L' := M) (by rfl) (up_cons rfl hs3) ?_
      refine l_val (v := .int .i64 (0)) rfl rfl rfl (e_move) ?_
      refine l_nil ?_
      exact f_owes_d (up_cons rfl hs3) rfl (List.Perm.refl _)
    · rintro f M - ⟨i0, -⟩
      have hs4 : f 4 = Nx (i) := i0
      refine ob_start (L' := M) (by rfl) (up_cons rfl hs4) ?_
      refine l_val (v := Nx (i)) rfl rfl rfl (e_move) ?_
      refine l_nil ?_
      exact f_owes_d (up_cons rfl hs4) rfl (List.Perm.refl _)
    · rintro f M ⟨k0, k1, -⟩ -
      have hs36 : f 36 = .int .i64 (0) := k0
      have hs37 : f 37 = Nx (i) := k1
      refine ob_start (L' := M) (by rfl) (up_cons (up_cons rfl hs36) hs37) ?_
      refine l_call rfl rfl rfl (cl_value (fst := []) (cap := []) (vs := [.int .i64 (0), Nx (i)]) (all := [.int .i64 (0), Nx (i)]) tf83 rfl rfl rfl) ?_
      intro w hw
      obtain ⟨β1, sb, kn, hw1, back⟩ := St.frame_all hw
      refine (mark2_ok β1 w hw1 0 i (by omega) (by omega)).mono ?_
      rintro e w' ⟨rfl, hw'⟩
      refine ⟨_, rfl, _, back _ _ hw', ?_⟩
      clear hw hw1 hw' back kn sb
      refine l_nil ?_
      exact f_owes_d (up_cons (up_cons rfl hs36) hs37) rfl (List.Perm.refl _)
    · rintro f M ⟨k0, k1, -⟩ -
      have hs34 : f 34 = .slice p0 (xs0.length) c0 := k0
      have hs35 : f 35 = Nx (i) := k1
      refine ob_start (L' := row (.slice p0 (xs0.length) c0) 3 1 (xs0.length) ((MK 0 i ++ (xs0.map fun z => Ix z).drop i)) :: M) (by rfl) (up_cons (up_cons rfl hs34) hs35) ?_
      refine l_val (v := .pointer (some ((ba p0).add (i * 1)))) rfl rfl rfl (e_indexRow 0 (j := i) (len := xs0.length) (cap := c0) (p := p0) rfl rfl tf39 (by omega) (by omega) rfl) ?_
      refine l_nil ?_
      exact f_owes_d (up_cons (up_cons rfl hs34) hs35) rfl (perm_front 0 rfl)
    · rintro f M ⟨k0, k1, -⟩ -
      have hs39 : f 39 = .pointer (some ((ba p0).add (i * 1))) := k0
      have hs38 : f 38 = Nx (mrk 0 i) := k1
      refine ob_start (L' := row (.slice p0 (xs0.length) c0) 3 1 (xs0.length) ((MK 0 i ++ (xs0.map fun z => Ix z).drop i)) :: M) (by rfl) (up_cons (up_cons rfl hs39) hs38) ?_
      refine l_mu rfl rfl (m_storeRow 0 tf10 (o := i * 1) (v := Nx (mrk 0 i)) rfl rfl rfl rfl rfl (by omega) (by omega)) ?_
      refine l_nil ?_
      exact f_owes_n (up_cons (up_cons rfl hs39) hs38) trivial (perm_front 0 rfl)
    rintro fa2 ⟨-, -, -, -, -, -, -, -, -, -, -⟩ ⟨j0, j1, j2, -⟩
    refine f_re (L' := [row (.slice p1 (xs1.length) c1) 3 1 (xs1.length) ((xs1.map fun z => Ix z)), row (.slice p0 (xs0.length) c0) 3 1 (xs0.length) ((overL (MK 0 i ++ (xs0.map fun z => Ix z).drop i) (i * 1) [Nx (mrk 0 i)]))]) (by rfl) ?_
    refine f_rebase (d := 0) (v := .slice p 2 lc) j0 ?_
    refine f_rebase (d := 3) (v := .int .i64 (0)) j1 ?_
    refine f_rebase (d := 4) (v := Nx (i)) j2 ?_
    refine f_block ?_
    refine f_then ?_
    refine c_region ?_
    refine l_val (v := Nx (i)) rfl rfl rfl (e_move) ?_
    refine l_val (v := Nx (i + 1)) rfl rfl rfl (e_add (a := ((i : Nat) : Int)) (b := (1 : Int)) rfl rfl (i64n (by omega) (by omega))) ?_
    refine l_val (v := Nx (i + 1)) rfl rfl rfl (e_assign) ?_
    refine l_nil ?_
    refine f_perm (L' := [row (.slice p0 (xs0.length) c0) 3 1 (xs0.length) ((overL (MK 0 i ++ (xs0.map fun z => Ix z).drop i) (i * 1) [Nx (mrk 0 i)])), row (.slice p1 (xs1.length) c1) 3 1 (xs1.length) ((xs1.map fun z => Ix z))]) ((perm_front 0 rfl).trans (perm_front 1 rfl)) ?_
    exact f_cut ⟨i + 1, ⟨⟨rfl, rfl, rfl⟩, (by rw [mk_step]), (by omega)⟩, (show xs0.length - (i + 1) < xs0.length - i from by omega)⟩
  ·
    refine c_exit ?_
    refine f_then_exit ?_
    refine f_then_exit ?_
    refine f_exit ?_
    refine f_block ?_
    refine f_then ?_
    have hie : i = xs0.length := by omega
    subst hie
    refine c_perm (L' := [row (.slice p0 (xs0.length) c0) 3 1 (xs0.length) ((MK 0 xs0.length ++ (xs0.map fun z => Ix z).drop xs0.length)), row (.slice p1 (xs1.length) c1) 3 1 (xs1.length) ((xs1.map fun z => Ix z))]) (List.Perm.refl _) ?_
    rw [mk_done (k := 0) (R := (xs0.map fun z => Ix z)) (by simp [repL_length])]
    refine c_region ?_
    refine l_val (v := .int .i64 (0)) rfl rfl rfl (e_move) ?_
    refine l_val (v := .int .i64 (1)) rfl rfl rfl (e_add (a := (0 : Int)) (b := (1 : Int)) rfl rfl (by decide)) ?_
    refine l_val (v := .int .i64 (1)) rfl rfl rfl (e_assign) ?_
    refine l_nil ?_
    refine f_cut ?_
    refine un_succ 1 ?_
    refine c_seq ?_
    refine c_seq ?_
    refine c_region ?_
    refine l_val (v := .int .i64 (1)) rfl rfl rfl (e_move) ?_
    refine l_val (v := .slice p 2 lc) rfl rfl rfl (e_move) ?_
    refine l_val (v := .int .i64 (2)) rfl rfl rfl (e_len (a := p) (n := 2) (c := lc) rfl tf163) ?_
    refine l_val (v := .bool true) rfl rfl rfl (e_lss (a := (1 : Int)) (b := (2 : Int)) rfl rfl) ?_
    refine l_nil ?_
    refine f_then ?_
    refine c_yes rfl ?_
    refine c_skip ?_
    refine f_then ?_
    refine c_seq ?_
    refine c_block ?_
    refine c_seq ?_
    refine c_region ?_
    refine l_val (v := .int .i64 (0)) rfl rfl rfl (e_assign) ?_
    refine l_nil ?_
    refine f_then ?_
    refine c_block ?_
    refine c_loop (fun (i : Nat) (f : Fm) (L : List Res) => (f 0 = .slice p 2 lc ∧ f 3 = .int .i64 (1) ∧ f 4 = Nx (i)) ∧ L = [row (.slice p0 (xs0.length) c0) 3 1 (xs0.length) ((MK 0 xs0.length)), row (.slice p1 (xs1.length) c1) 3 1 (xs1.length) ((MK 1 i ++ (xs1.map fun z => Ix z).drop i))] ∧ (i ≤ xs1.length)) (fun (i : Nat) => xs1.length - i) 0 ?_ ?_
    · exact ⟨⟨rfl, rfl, rfl⟩, (by simp [MK]), (by omega)⟩
    rintro i f0 L0 ⟨⟨hs0, hs3, hs4⟩, hL, hi⟩
    subst L0
    refine rebase (d := 0) hs0 ?_
    refine rebase (d := 3) hs3 ?_
    refine rebase (d := 4) hs4 ?_
    clear hs0 hs3 hs4
    refine c_seq ?_
    refine c_seq ?_
    refine c_region ?_
    refine l_val (v := Nx (i)) rfl rfl rfl (e_move) ?_
    refine l_val (v := .slice p 2 lc) rfl rfl rfl (e_move) ?_
    refine l_val (v := .int .i64 (1)) rfl rfl rfl (e_move) ?_
    refine l_val (v := .pointer (some ((ba p).add (1 * 1)))) rfl rfl rfl (e_indexAddr (k := 1) (len := 2) (cap := lc) (a := p) rfl rfl tf164 (by decide) hp) ?_
    refine l_val (v := .slice p1 (xs1.length) c1) rfl rfl rfl (e_load1 tf165 (v := .slice p1 (xs1.length) c1) rfl (Knows.of_base (Cs.mono _ _) (Cs.sub (vs := [.slice p1 (xs1.length) c1]) (1 * 1) hls rfl))) ?_
    refine l_val (v := Nx (xs1.length)) rfl rfl rfl (e_len (a := p1) (n := xs1.length) (c := c1) rfl tf38) ?_
    refine l_val (v := .bool (decide (((i : Nat) : Int) < ((xs1.length : Nat) : Int)))) rfl rfl rfl (e_lss (a := ((i : Nat) : Int)) (b := ((xs1.length : Nat) : Int)) rfl rfl) ?_
    refine l_nil ?_
    refine f_then ?_
    refine c_if (((i : Nat) : Int) < ((xs1.length : Nat) : Int)) rfl (fun hc3 => ?_) (fun hc3 => ?_)
    ·
      refine c_skip ?_
      refine f_then ?_
      refine c_seq ?_
      refine c_block ?_
      refine c_any [⟨[], [], [0], [31], fun f => f 31 = .slice p 2 lc⟩, ⟨[], [], [1], [32], fun f => f 32 = .int .i64 (1)⟩, ⟨[0, 1], [0, 1], [], [33], fun f => f 33 = .pointer (some ((ba p).add (1 * 1)))⟩, ⟨[0, 1, 2], [2], [], [34], fun f => f 34 = .slice p1 (xs1.length) c1⟩, ⟨[], [], [2], [35], fun f => f 35 = Nx (i)⟩, ⟨[], [], [1], [36], fun f => f 36 = .int .i64 (1)⟩, ⟨[], [], [2], [37], fun f => f 37 = Nx (i)⟩, ⟨[5, 6], [5, 6], [], [38], fun f => f 38 = Nx (mrk 1 i)⟩, ⟨[0, 1, 2, 3, 4, 5, 6, 7], [3, 4], [], [39], fun f => f 39 = .pointer (some ((ba p1).add (i * 1)))⟩, ⟨[0, 1, 2, 3, 4, 5, 6, 7, 8], [8, 7], [], [], fun _ => True⟩] [⟨none, none, [], [], fun _ => row (.slice p0 (xs0.length) c0) 3 1 (xs0.length) ((MK 0 xs0.length))⟩, ⟨none, (some 9), [8, 9], [], fun _ => row (.slice p1 (xs1.length) c1) 3 1 (xs1.length) ((MK 1 i ++ (xs1.map fun z => Ix z).drop i))⟩, ⟨(some 9), none, [], [], fun _ => row (.slice p1 (xs1.length) c1) 3 1 (xs1.length) ((overL (MK 1 i ++ (xs1.map fun z => Ix z).drop i) (i * 1) [Nx (mrk 1 i)]))⟩] [(0, .slice p 2 lc), (3, .int .i64 (1)), (4, Nx (i))] [0, 1, 2] [] (by kernel_rfl) (by kernel_rfl) (by kernel_rfl) (by kernel_rfl) rfl ⟨rfl, rfl, rfl, trivial⟩ ⟨?_, ?_, ?_, ?_, ?_, ?_, ?_, ?_, ?_, ?_, trivial⟩ ?_
      · rintro f M - ⟨i0, -⟩
        have hs0 : f 0 = .slice p 2 lc := i0
        refine ob_start (L' := M) (by rfl) (up_cons rfl hs0) ?_
        refine l_val (v := .slice p 2 lc) rfl rfl rfl (e_move) ?_
        refine l_nil ?_
        exact f_owes_d (up_cons rfl hs0) rfl (List.Perm.refl _)
      · rintro f M - ⟨i0, -⟩
        have hs3 : f 3 = .int .i64 (1) := i0
        refine ob_start (L' := M) (by rfl) (up_cons rfl hs3) ?_
        refine l_val (v := .int .i64 (1)) rfl rfl rfl (e_move) ?_
        refine l_nil ?_
        exact f_owes_d (up_cons rfl hs3) rfl (List.Perm.refl _)
      · rintro f M ⟨k0, k1, -⟩ -
        have hs31 : f 31 = .slice p 2 lc := k0
        have hs32 : f 32 = .int .i64 (1) := k1
        refine ob_start (L' := M) (by rfl) (up_cons (up_cons rfl hs31) hs32) ?_
        refine l_val (v := .pointer (some ((ba p).add (1 * 1)))) rfl rfl rfl (e_indexAddr (k := 1) (len := 2) (cap := lc) (a := p) rfl rfl tf164 (by decide) hp) ?_
        refine l_nil ?_
        exact f_owes_d (up_cons (up_cons rfl hs31) hs32) rfl (List.Perm.refl _)
      · rintro f M ⟨k0, -⟩ -
        have hs33 : f 33 = .pointer (some ((ba p).add (1 * 1))) := k0
        refine ob_start (L' := M) (by rfl) (up_cons rfl hs33) ?_
        refine l_val (v := .slice p1 (xs1.length) c1) rfl rfl rfl (e_load1 tf165 (v := .slice p1 (xs1.length) c1) rfl (Knows.of_base (Cs.mono _ _) (Cs.sub (vs := [.slice p1 (xs1.length) c1]) (1 * 1) hls rfl))) ?_
        refine l_nil ?_
        exact f_owes_d (up_cons rfl hs33) rfl (List.Perm.refl _)
      · rintro f M - ⟨i0, -⟩
        have hs4 : f 4 = Nx (i) := i0
        refine ob_start (L' := M) (by rfl) (up_cons rfl hs4) ?_
        refine l_val (v := Nx (i)) rfl rfl rfl (e_move) ?_
        refine l_nil ?_
        exact f_owes_d (up_cons rfl hs4) rfl (List.Perm.refl _)
      · rintro f M - ⟨i0, -⟩
        have hs3 : f 3 = .int .i64 (1) := i0
        refine ob_start (L' := M) (by rfl) (up_cons rfl hs3) ?_
        refine l_val (v := .int .i64 (1)) rfl rfl rfl (e_move) ?_
        refine l_nil ?_
        exact f_owes_d (up_cons rfl hs3) rfl (List.Perm.refl _)
      · rintro f M - ⟨i0, -⟩
        have hs4 : f 4 = Nx (i) := i0
        refine ob_start (L' := M) (by rfl) (up_cons rfl hs4) ?_
        refine l_val (v := Nx (i)) rfl rfl rfl (e_move) ?_
        refine l_nil ?_
        exact f_owes_d (up_cons rfl hs4) rfl (List.Perm.refl _)
      · rintro f M ⟨k0, k1, -⟩ -
        have hs36 : f 36 = .int .i64 (1) := k0
        have hs37 : f 37 = Nx (i) := k1
        refine ob_start (L' := M) (by rfl) (up_cons (up_cons rfl hs36) hs37) ?_
        refine l_call rfl rfl rfl (cl_value (fst := []) (cap := []) (vs := [.int .i64 (1), Nx (i)]) (all := [.int .i64 (1), Nx (i)]) tf83 rfl rfl rfl) ?_
        intro w hw
        obtain ⟨β1, sb, kn, hw1, back⟩ := St.frame_all hw
        refine (mark2_ok β1 w hw1 1 i (by omega) (by omega)).mono ?_
        rintro e w' ⟨rfl, hw'⟩
        refine ⟨_, rfl, _, back _ _ hw', ?_⟩
        clear hw hw1 hw' back kn sb
        refine l_nil ?_
        exact f_owes_d (up_cons (up_cons rfl hs36) hs37) rfl (List.Perm.refl _)
      · rintro f M ⟨k0, k1, -⟩ -
        have hs34 : f 34 = .slice p1 (xs1.length) c1 := k0
        have hs35 : f 35 = Nx (i) := k1
        refine ob_start (L' := row (.slice p1 (xs1.length) c1) 3 1 (xs1.length) ((MK 1 i ++ (xs1.map fun z => Ix z).drop i)) :: M) (by rfl) (up_cons (up_cons rfl hs34) hs35) ?_
        refine l_val (v := .pointer (some ((ba p1).add (i * 1)))) rfl rfl rfl (e_indexRow 0 (j := i) (len := xs1.length) (cap := c1) (p := p1) rfl rfl tf39 (by omega) (by omega) rfl) ?_
        refine l_nil ?_
        exact f_owes_d (up_cons (up_cons rfl hs34) hs35) rfl (perm_front 0 rfl)
      · rintro f M ⟨k0, k1, -⟩ -
        have hs39 : f 39 = .pointer (some ((ba p1).add (i * 1))) := k0
        have hs38 : f 38 = Nx (mrk 1 i) := k1
        refine ob_start (L' := row (.slice p1 (xs1.length) c1) 3 1 (xs1.length) ((MK 1 i ++ (xs1.map fun z => Ix z).drop i)) :: M) (by rfl) (up_cons (up_cons rfl hs39) hs38) ?_
        refine l_mu rfl rfl (m_storeRow 0 tf10 (o := i * 1) (v := Nx (mrk 1 i)) rfl rfl rfl rfl rfl (by omega) (by omega)) ?_
        refine l_nil ?_
        exact f_owes_n (up_cons (up_cons rfl hs39) hs38) trivial (perm_front 0 rfl)
      rintro fa4 ⟨-, -, -, -, -, -, -, -, -, -, -⟩ ⟨j0, j1, j2, -⟩
      refine f_re (L' := [row (.slice p0 (xs0.length) c0) 3 1 (xs0.length) ((MK 0 xs0.length)), row (.slice p1 (xs1.length) c1) 3 1 (xs1.length) ((overL (MK 1 i ++ (xs1.map fun z => Ix z).drop i) (i * 1) [Nx (mrk 1 i)]))]) (by rfl) ?_
      refine f_rebase (d := 0) (v := .slice p 2 lc) j0 ?_
      refine f_rebase (d := 3) (v := .int .i64 (1)) j1 ?_
      refine f_rebase (d := 4) (v := Nx (i)) j2 ?_
      refine f_block ?_
      refine f_then ?_
      refine c_region ?_
      refine l_val (v := Nx (i)) rfl rfl rfl (e_move) ?_
      refine l_val (v := Nx (i + 1)) rfl rfl rfl (e_add (a := ((i : Nat) : Int)) (b := (1 : Int)) rfl rfl (i64n (by omega) (by omega))) ?_
      refine l_val (v := Nx (i + 1)) rfl rfl rfl (e_assign) ?_
      refine l_nil ?_
      exact f_cut ⟨i + 1, ⟨⟨rfl, rfl, rfl⟩, (by rw [mk_step]), (by omega)⟩, (show xs1.length - (i + 1) < xs1.length - i from by omega)⟩
    ·
      refine c_exit ?_
      refine f_then_exit ?_
      refine f_then_exit ?_
      refine f_exit ?_
      refine f_block ?_
      refine f_then ?_
      have hie : i = xs1.length := by omega
      subst hie
      refine c_perm (L' := [row (.slice p0 (xs0.length) c0) 3 1 (xs0.length) ((MK 0 xs0.length)), row (.slice p1 (xs1.length) c1) 3 1 (xs1.length) ((MK 1 xs1.length ++ (xs1.map fun z => Ix z).drop xs1.length))]) (List.Perm.refl _) ?_
      rw [mk_done (k := 1) (R := (xs1.map fun z => Ix z)) (by simp [repL_length])]
      refine c_region ?_
      refine l_val (v := .int .i64 (1)) rfl rfl rfl (e_move) ?_
      refine l_val (v := .int .i64 (2)) rfl rfl rfl (e_add (a := (1 : Int)) (b := (1 : Int)) rfl rfl (by decide)) ?_
      refine l_val (v := .int .i64 (2)) rfl rfl rfl (e_assign) ?_
      refine l_nil ?_
      refine f_cut ?_
      refine un_succ 0 ?_
      refine c_seq ?_
      refine c_seq ?_
      refine c_region ?_
      refine l_val (v := .int .i64 (2)) rfl rfl rfl (e_move) ?_
      refine l_val (v := .slice p 2 lc) rfl rfl rfl (e_move) ?_
      refine l_val (v := .int .i64 (2)) rfl rfl rfl (e_len (a := p) (n := 2) (c := lc) rfl tf163) ?_
      refine l_val (v := .bool false) rfl rfl rfl (e_lss (a := (2 : Int)) (b := (2 : Int)) rfl rfl) ?_
      refine l_nil ?_
      refine f_then ?_
      refine c_no rfl ?_
      refine c_exit ?_
      refine f_then_exit ?_
      refine f_then_exit ?_
      refine f_exit ?_
      refine f_then ?_
      refine c_seq ?_
      refine c_region ?_
      refine l_val (v := .slice p 2 lc) rfl rfl rfl (e_move) ?_
      refine l_val (v := .int .i64 (2)) rfl rfl rfl (e_len (a := p) (n := 2) (c := lc) rfl tf163) ?_
      refine l_mv rfl rfl rfl (m_makeN (c := 2) tf164 tf166 tf167 rfl rfl rfl (by decide) (by decide) (by decide)) ?_
      rintro _ _ ⟨b5, rfl, rfl⟩
      refine l_val (v := .slice (some ⟨b5, 0, none⟩) (2) 2) rfl rfl rfl (e_assign) ?_
      refine l_nil ?_
      refine f_then ?_
      refine c_seq ?_
      refine c_seq ?_
      refine c_region ?_
      refine l_val (v := .int .i64 (0)) rfl rfl rfl (e_assign) ?_
      refine l_nil ?_
      refine f_then ?_
      refine c_block ?_
      refine c_unroll 3 ?_
      refine un_succ 2 ?_
      refine c_seq ?_
      refine c_seq ?_
      refine c_region ?_
      refine l_val (v := .int .i64 (0)) rfl rfl rfl (e_move) ?_
      refine l_val (v := .slice p 2 lc) rfl rfl rfl (e_move) ?_
      refine l_val (v := .int .i64 (2)) rfl rfl rfl (e_len (a := p) (n := 2) (c := lc) rfl tf163) ?_
      refine l_val (v := .bool true) rfl rfl rfl (e_lss (a := (0 : Int)) (b := (2 : Int)) rfl rfl) ?_
      refine l_nil ?_
      refine f_then ?_
      refine c_yes rfl ?_
      refine c_skip ?_
      refine f_then ?_
      refine c_seq ?_
      refine c_block ?_
      refine c_seq ?_
      refine c_region ?_
      refine l_val (v := .slice p 2 lc) rfl rfl rfl (e_move) ?_
      refine l_val (v := .int .i64 (0)) rfl rfl rfl (e_move) ?_
      refine l_val (v := .pointer (some ((ba p).add (0 * 1)))) rfl rfl rfl (e_indexAddr (k := 0) (len := 2) (cap := lc) (a := p) rfl rfl tf164 (by decide) hp) ?_
      refine l_val (v := .slice p0 (xs0.length) c0) rfl rfl rfl (e_load1 tf165 (v := .slice p0 (xs0.length) c0) rfl (Knows.of_base (Cs.mono _ _) (Cs.sub (vs := [.slice p0 (xs0.length) c0]) (0 * 1) hls rfl))) ?_
      refine l_val (v := .slice p0 (xs0.length) c0) rfl rfl rfl (e_assign) ?_
      refine l_nil ?_
      refine f_then ?_
      refine c_seq ?_
      refine c_seq ?_
      refine c_turn (fun w h => h.conseq_at 1 rfl (r' := fam (.slice p0 (xs0.length) c0) (.slice p0 (xs0.length) c0) 3 (xs0.length) (xs0.length) (MK 0 xs0.length) (MK 0 xs0.length)) (fun a h => fam_start a h)) ?_
      refine c_perm (L' := [row (.slice (some ⟨b5, 0, none⟩) (2) 2) 26 1 (2) ((repL [.slice none 0 0] 2)), fam (.slice p0 (xs0.length) c0) (.slice p0 (xs0.length) c0) 3 (xs0.length) (xs0.length) (MK 0 xs0.length) (MK 0 xs0.length), row (.slice p1 (xs1.length) c1) 3 1 (xs1.length) ((MK 1 xs1.length))]) (List.Perm.refl _) ?_
      refine c_region ?_
      refine l_val (v := .int .i64 (0)) rfl rfl rfl (e_assign) ?_
      refine l_nil ?_
      refine f_then ?_
      refine c_block ?_
      refine c_loop (fun (x_ : Nat × Option Addr × Nat) (f : Fm) (L : List Res) => match x_ with | (i, gp0, gc0) => (f 0 = .slice p 2 lc ∧ f 5 = .slice (some ⟨b5, 0, none⟩) (2) 2 ∧ f 6 = .int .i64 (0) ∧ f 7 = .slice gp0 (xs0.length + i) gc0 ∧ f 8 = Nx (i)) ∧ L = [row (.slice (some ⟨b5, 0, none⟩) (2) 2) 26 1 (2) ((repL [.slice none 0 0] 2)), fam (.slice p0 (xs0.length) c0) (.slice gp0 (xs0.length + i) gc0) 3 (xs0.length) (xs0.length + i) (MK 0 xs0.length) (MK 0 (xs0.length + i)), row (.slice p1 (xs1.length) c1) 3 1 (xs1.length) ((MK 1 xs1.length))] ∧ (i ≤ 64)) (fun (x_ : Nat × Option Addr × Nat) => match x_ with | (i, gp0, gc0) => 64 - i) (0, p0, c0) ?_ ?_
      · exact ⟨⟨rfl, rfl, rfl, rfl, rfl⟩, rfl, (by omega)⟩
      rintro ⟨i, gp0, gc0⟩ f0 L0 ⟨⟨hs0, hs5, hs6, hs7, hs8⟩, hL, hi⟩
      subst L0
      refine rebase (d := 0) hs0 ?_
      refine rebase (d := 5) hs5 ?_
      refine rebase (d := 6) hs6 ?_
      refine rebase (d := 7) hs7 ?_
      refine rebase (d := 8) hs8 ?_
      clear hs0 hs5 hs6 hs7 hs8
      refine c_seq ?_
      refine c_seq ?_
      refine c_region ?_
      refine l_val (v := Nx (i)) rfl rfl rfl (e_move) ?_
      refine l_val (v := .bool (decide (((i : Nat) : Int) < (64 : Int)))) rfl rfl rfl (e_lss (a := ((i : Nat) : Int)) (b := (64 : Int)) rfl rfl) ?_
      refine l_nil ?_
      refine f_then ?_
      refine c_if (((i : Nat) : Int) < (64 : Int)) rfl (fun hc6 => ?_) (fun hc6 => ?_)
      ·
        refine c_skip ?_
        refine f_then ?_
        refine c_seq ?_
        refine c_block ?_
        refine c_region ?_
        refine l_val (v := .slice gp0 (xs0.length + i) gc0) rfl rfl rfl (e_move) ?_
        refine l_val (v := .int .i64 (0)) rfl rfl rfl (e_move) ?_
        refine l_val (v := .slice p 2 lc) rfl rfl rfl (e_move) ?_
        refine l_val (v := .int .i64 (0)) rfl rfl rfl (e_move) ?_
        refine l_val (v := .pointer (some ((ba p).add (0 * 1)))) rfl rfl rfl (e_indexAddr (k := 0) (len := 2) (cap := lc) (a := p) rfl rfl tf164 (by decide) hp) ?_
        refine l_val (v := .slice p0 (xs0.length) c0) rfl rfl rfl (e_load1 tf165 (v := .slice p0 (xs0.length) c0) rfl (Knows.of_base (Cs.mono _ _) (Cs.sub (vs := [.slice p0 (xs0.length) c0]) (0 * 1) hls rfl))) ?_
        refine l_val (v := Nx (xs0.length)) rfl rfl rfl (e_len (a := p0) (n := xs0.length) (c := c0) rfl tf38) ?_
        refine l_val (v := Nx (i)) rfl rfl rfl (e_move) ?_
        refine l_val (v := Nx (xs0.length + i)) rfl rfl rfl (e_add (a := ((xs0.length : Nat) : Int)) (b := ((i : Nat) : Int)) rfl rfl (i64n (by omega) (by omega))) ?_
        refine l_call rfl rfl rfl (cl_value (fst := []) (cap := []) (vs := [.int .i64 (0), Nx (xs0.length + i)]) (all := [.int .i64 (0), Nx (xs0.length + i)]) tf83 rfl rfl rfl) ?_
        intro w hw
        obtain ⟨β1, sb, kn, hw1, back⟩ := St.frame_all hw
        refine (mark2_ok β1 w hw1 0 (xs0.length + i) (by omega) (by omega)).mono ?_
        rintro e w' ⟨rfl, hw'⟩
        refine ⟨_, rfl, _, back _ _ hw', ?_⟩
        clear hw hw1 hw' back kn sb
        refine l_mv rfl rfl rfl (m_slices tf39 tf52 (vs := [(0, Nx (mrk 0 (xs0.length + i)))]) (cells := #[Nx (mrk 0 (xs0.length + i))]) rfl rfl rfl rfl) ?_
        rintro _ _ ⟨b7, rfl, rfl⟩
        refine l_mv rfl rfl rfl (m_append_fam 2 tf39 tf53 (u := .slice gp0 (xs0.length + i) gc0) (m := xs0.length + i) (us := MK 0 (xs0.length + i)) (ad := ⟨b7, 0, none⟩) (k := 1) (c := 1) (news := [Nx (mrk 0 (xs0.length + i))]) rfl rfl rfl rfl (k_pt 0 (cs := #[Nx (mrk 0 (xs0.length + i))]) (vs := [Nx (mrk 0 (xs0.length + i))]) rfl rfl) rfl (by omega) (by unfold maxLen; omega) (by omega)) ?_
        rintro _ _ ⟨rp8, rc9, rfl, rfl⟩
        refine l_val (v := .slice rp8 ((xs0.length + i) + 1) rc9) rfl rfl rfl (e_assign) ?_
        refine l_nil ?_
        refine f_block ?_
        refine f_then ?_
        refine c_region ?_
        refine l_val (v := Nx (i)) rfl rfl rfl (e_move) ?_
        refine l_val (v := Nx (i + 1)) rfl rfl rfl (e_add (a := ((i : Nat) : Int)) (b := (1 : Int)) rfl rfl (i64n (by omega) (by omega))) ?_
        refine l_val (v := Nx (i + 1)) rfl rfl rfl (e_assign) ?_
        refine l_nil ?_
        refine f_mask (L' := [row (.slice (some ⟨b5, 0, none⟩) (2) 2) 26 1 (2) ((repL [.slice none 0 0] 2)), fam (.slice p0 (xs0.length) c0) (.slice rp8 ((xs0.length + i) + 1) rc9) 3 (xs0.length) ((xs0.length + i) + 1) (MK 0 xs0.length) (MK 0 (xs0.length + i) ++ [Nx (mrk 0 (xs0.length + i))]), row (.slice p1 (xs1.length) c1) 3 1 (xs1.length) ((MK 1 xs1.length))]) [false, true, true, true] rfl ?_
        exact f_cut ⟨(i + 1, rp8, rc9), ⟨⟨rfl, rfl, rfl, rfl, rfl⟩, (by rw [show MK 0 (xs0.length + (i + 1)) = MK 0 (xs0.length + i) ++ [Nx (mrk 0 (xs0.length + i))] from MK_succ _ _]; rfl), (by omega)⟩, (show 64 - (i + 1) < 64 - i from by omega)⟩
      ·
        refine c_exit ?_
        refine f_then_exit ?_
        refine f_then_exit ?_
        refine f_exit ?_
        refine f_then ?_
        have hie : i = 64 := by omega
        subst hie
        refine c_region ?_
        refine l_val (v := .slice (some ⟨b5, 0, none⟩) (2) 2) rfl rfl rfl (e_move) ?_
        refine l_val (v := .int .i64 (0)) rfl rfl rfl (e_move) ?_
        refine l_val (v := .slice gp0 (xs0.length + 64) gc0) rfl rfl rfl (e_move) ?_
        refine l_val (v := .pointer (some ((ba (some ⟨b5, 0, none⟩)).add (0 * 1)))) rfl rfl rfl (e_indexRow 0 (j := 0) (len := 2) (cap := 2) (p := (some ⟨b5, 0, none⟩)) rfl rfl tf164 (by omega) (by omega) rfl) ?_
        refine l_mu rfl rfl (m_storeRow 0 tf165 (o := 0 * 1) (v := .slice gp0 (xs0.length + 64) gc0) rfl rfl rfl rfl rfl (by omega) (by omega)) ?_
        refine l_nil ?_
        refine f_block ?_
        refine f_then ?_
        refine c_perm (L' := [row (.slice (some ⟨b5, 0, none⟩) (2) 2) 26 1 (2) ([.slice gp0 (xs0.length + 64) gc0, .slice none 0 0]), fam (.slice p0 (xs0.length) c0) (.slice gp0 (xs0.length + 64) gc0) 3 (xs0.length) (xs0.length + 64) (MK 0 xs0.length) (MK 0 (xs0.length + 64)), row (.slice p1 (xs1.length) c1) 3 1 (xs1.length) ((MK 1 xs1.length))]) (List.Perm.refl _) ?_
        refine c_region ?_
        refine l_val (v := .int .i64 (0)) rfl rfl rfl (e_move) ?_
        refine l_val (v := .int .i64 (1)) rfl rfl rfl (e_add (a := (0 : Int)) (b := (1 : Int)) rfl rfl (by decide)) ?_
        refine l_val (v := .int .i64 (1)) rfl rfl rfl (e_assign) ?_
        refine l_nil ?_
        refine f_cut ?_
        refine un_succ 1 ?_
        refine c_seq ?_
        refine c_seq ?_
        refine c_region ?_
        refine l_val (v := .int .i64 (1)) rfl rfl rfl (e_move) ?_
        refine l_val (v := .slice p 2 lc) rfl rfl rfl (e_move) ?_
        refine l_val (v := .int .i64 (2)) rfl rfl rfl (e_len (a := p) (n := 2) (c := lc) rfl tf163) ?_
        refine l_val (v := .bool true) rfl rfl rfl (e_lss (a := (1 : Int)) (b := (2 : Int)) rfl rfl) ?_
        refine l_nil ?_
        refine f_then ?_
        refine c_yes rfl ?_
        refine c_skip ?_
        refine f_then ?_
        refine c_seq ?_
        refine c_block ?_
        refine c_seq ?_
        refine c_region ?_
        refine l_val (v := .slice p 2 lc) rfl rfl rfl (e_move) ?_
        refine l_val (v := .int .i64 (1)) rfl rfl rfl (e_move) ?_
        refine l_val (v := .pointer (some ((ba p).add (1 * 1)))) rfl rfl rfl (e_indexAddr (k := 1) (len := 2) (cap := lc) (a := p) rfl rfl tf164 (by decide) hp) ?_
        refine l_val (v := .slice p1 (xs1.length) c1) rfl rfl rfl (e_load1 tf165 (v := .slice p1 (xs1.length) c1) rfl (Knows.of_base (Cs.mono _ _) (Cs.sub (vs := [.slice p1 (xs1.length) c1]) (1 * 1) hls rfl))) ?_
        refine l_val (v := .slice p1 (xs1.length) c1) rfl rfl rfl (e_assign) ?_
        refine l_nil ?_
        refine f_then ?_
        refine c_seq ?_
        refine c_seq ?_
        refine c_turn (fun w h => h.conseq_at 2 rfl (r' := fam (.slice p1 (xs1.length) c1) (.slice p1 (xs1.length) c1) 3 (xs1.length) (xs1.length) (MK 1 xs1.length) (MK 1 xs1.length)) (fun a h => fam_start a h)) ?_
        refine c_perm (L' := [row (.slice (some ⟨b5, 0, none⟩) (2) 2) 26 1 (2) ([.slice gp0 (xs0.length + 64) gc0, .slice none 0 0]), fam (.slice p0 (xs0.length) c0) (.slice gp0 (xs0.length + 64) gc0) 3 (xs0.length) (xs0.length + 64) (MK 0 xs0.length) (MK 0 (xs0.length + 64)), fam (.slice p1 (xs1.length) c1) (.slice p1 (xs1.length) c1) 3 (xs1.length) (xs1.length) (MK 1 xs1.length) (MK 1 xs1.length)]) (List.Perm.refl _) ?_
        refine c_region ?_
        refine l_val (v := .int .i64 (0)) rfl rfl rfl (e_assign) ?_
        refine l_nil ?_
        refine f_then ?_
        refine c_block ?_
        refine c_loop (fun (x_ : Nat × Option Addr × Nat) (f : Fm) (L : List Res) => match x_ with | (i, gp1, gc1) => (f 0 = .slice p 2 lc ∧ f 5 = .slice (some ⟨b5, 0, none⟩) (2) 2 ∧ f 6 = .int .i64 (1) ∧ f 7 = .slice gp1 (xs1.length + i) gc1 ∧ f 8 = Nx (i)) ∧ L = [row (.slice (some ⟨b5, 0, none⟩) (2) 2) 26 1 (2) ([.slice gp0 (xs0.length + 64) gc0, .slice none 0 0]), fam (.slice p0 (xs0.length) c0) (.slice gp0 (xs0.length + 64) gc0) 3 (xs0.length) (xs0.length + 64) (MK 0 xs0.length) (MK 0 (xs0.length + 64)), fam (.slice p1 (xs1.length) c1) (.slice gp1 (xs1.length + i) gc1) 3 (xs1.length) (xs1.length + i) (MK 1 xs1.length) (MK 1 (xs1.length + i))] ∧ (i ≤ 64)) (fun (x_ : Nat × Option Addr × Nat) => match x_ with | (i, gp1, gc1) => 64 - i) (0, p1, c1) ?_ ?_
        · exact ⟨⟨rfl, rfl, rfl, rfl, rfl⟩, rfl, (by omega)⟩
        rintro ⟨i, gp1, gc1⟩ f0 L0 ⟨⟨hs0, hs5, hs6, hs7, hs8⟩, hL, hi⟩
        subst L0
        refine rebase (d := 0) hs0 ?_
        refine rebase (d := 5) hs5 ?_
        refine rebase (d := 6) hs6 ?_
        refine rebase (d := 7) hs7 ?_
        refine rebase (d := 8) hs8 ?_
        clear hs0 hs5 hs6 hs7 hs8
        refine c_seq ?_
        refine c_seq ?_
        refine c_region ?_
        refine l_val (v := Nx (i)) rfl rfl rfl (e_move) ?_
        refine l_val (v := .bool (decide (((i : Nat) : Int) < (64 : Int)))) rfl rfl rfl (e_lss (a := ((i : Nat) : Int)) (b := (64 : Int)) rfl rfl) ?_
        refine l_nil ?_
        refine f_then ?_
        refine c_if (((i : Nat) : Int) < (64 : Int)) rfl (fun hc12 => ?_) (fun hc12 => ?_)
        ·
          refine c_skip ?_
          refine f_then ?_
          refine c_seq ?_
          refine c_block ?_
          refine c_region ?_
          refine l_val (v := .slice gp1 (xs1.length + i) gc1) rfl rfl rfl (e_move) ?_
          refine l_val (v := .int .i64 (1)) rfl rfl rfl (e_move) ?_
          refine l_val (v := .slice p 2 lc) rfl rfl rfl (e_move) ?_
          refine l_val (v := .int .i64 (1)) rfl rfl rfl (e_move) ?_
          refine l_val (v := .pointer (some ((ba p).add (1 * 1)))) rfl rfl rfl (e_indexAddr (k := 1) (len := 2) (cap := lc) (a := p) rfl rfl tf164 (by decide) hp) ?_
          refine l_val (v := .slice p1 (xs1.length) c1) rfl rfl rfl (e_load1 tf165 (v := .slice p1 (xs1.length) c1) rfl (Knows.of_base (Cs.mono _ _) (Cs.sub (vs := [.slice p1 (xs1.length) c1]) (1 * 1) hls rfl))) ?_
          refine l_val (v := Nx (xs1.length)) rfl rfl rfl (e_len (a := p1) (n := xs1.length) (c := c1) rfl tf38) ?_
          refine l_val (v := Nx (i)) rfl rfl rfl (e_move) ?_
          refine l_val (v := Nx (xs1.length + i)) rfl rfl rfl (e_add (a := ((xs1.length : Nat) : Int)) (b := ((i : Nat) : Int)) rfl rfl (i64n (by omega) (by omega))) ?_
          refine l_call rfl rfl rfl (cl_value (fst := []) (cap := []) (vs := [.int .i64 (1), Nx (xs1.length + i)]) (all := [.int .i64 (1), Nx (xs1.length + i)]) tf83 rfl rfl rfl) ?_
          intro w hw
          obtain ⟨β1, sb, kn, hw1, back⟩ := St.frame_all hw
          refine (mark2_ok β1 w hw1 1 (xs1.length + i) (by omega) (by omega)).mono ?_
          rintro e w' ⟨rfl, hw'⟩
          refine ⟨_, rfl, _, back _ _ hw', ?_⟩
          clear hw hw1 hw' back kn sb
          refine l_mv rfl rfl rfl (m_slices tf39 tf52 (vs := [(0, Nx (mrk 1 (xs1.length + i)))]) (cells := #[Nx (mrk 1 (xs1.length + i))]) rfl rfl rfl rfl) ?_
          rintro _ _ ⟨b13, rfl, rfl⟩
          refine l_mv rfl rfl rfl (m_append_fam 3 tf39 tf53 (u := .slice gp1 (xs1.length + i) gc1) (m := xs1.length + i) (us := MK 1 (xs1.length + i)) (ad := ⟨b13, 0, none⟩) (k := 1) (c := 1) (news := [Nx (mrk 1 (xs1.length + i))]) rfl rfl rfl rfl (k_pt 0 (cs := #[Nx (mrk 1 (xs1.length + i))]) (vs := [Nx (mrk 1 (xs1.length + i))]) rfl rfl) rfl (by omega) (by unfold maxLen; omega) (by omega)) ?_
          rintro _ _ ⟨rp14, rc15, rfl, rfl⟩
          refine l_val (v := .slice rp14 ((xs1.length + i) + 1) rc15) rfl rfl rfl (e_assign) ?_
          refine l_nil ?_
          refine f_block ?_
          refine f_then ?_
          refine c_region ?_
          refine l_val (v := Nx (i)) rfl rfl rfl (e_move) ?_
          refine l_val (v := Nx (i + 1)) rfl rfl rfl (e_add (a := ((i : Nat) : Int)) (b := (1 : Int)) rfl rfl (i64n (by omega) (by omega))) ?_
          refine l_val (v := Nx (i + 1)) rfl rfl rfl (e_assign) ?_
          refine l_nil ?_
          refine f_mask (L' := [row (.slice (some ⟨b5, 0, none⟩) (2) 2) 26 1 (2) ([.slice gp0 (xs0.length + 64) gc0, .slice none 0 0]), fam (.slice p0 (xs0.length) c0) (.slice gp0 (xs0.length + 64) gc0) 3 (xs0.length) (xs0.length + 64) (MK 0 xs0.length) (MK 0 (xs0.length + 64)), fam (.slice p1 (xs1.length) c1) (.slice rp14 ((xs1.length + i) + 1) rc15) 3 (xs1.length) ((xs1.length + i) + 1) (MK 1 xs1.length) (MK 1 (xs1.length + i) ++ [Nx (mrk 1 (xs1.length + i))])]) [false, true, true, true] rfl ?_
          exact f_cut ⟨(i + 1, rp14, rc15), ⟨⟨rfl, rfl, rfl, rfl, rfl⟩, (by rw [show MK 1 (xs1.length + (i + 1)) = MK 1 (xs1.length + i) ++ [Nx (mrk 1 (xs1.length + i))] from MK_succ _ _]; rfl), (by omega)⟩, (show 64 - (i + 1) < 64 - i from by omega)⟩
        ·
          refine c_exit ?_
          refine f_then_exit ?_
          refine f_then_exit ?_
          refine f_exit ?_
          refine f_then ?_
          have hie : i = 64 := by omega
          subst hie
          refine c_region ?_
          refine l_val (v := .slice (some ⟨b5, 0, none⟩) (2) 2) rfl rfl rfl (e_move) ?_
          refine l_val (v := .int .i64 (1)) rfl rfl rfl (e_move) ?_
          refine l_val (v := .slice gp1 (xs1.length + 64) gc1) rfl rfl rfl (e_move) ?_
          refine l_val (v := .pointer (some ((ba (some ⟨b5, 0, none⟩)).add (1 * 1)))) rfl rfl rfl (e_indexRow 0 (j := 1) (len := 2) (cap := 2) (p := (some ⟨b5, 0, none⟩)) rfl rfl tf164 (by omega) (by omega) rfl) ?_
          refine l_mu rfl rfl (m_storeRow 0 tf165 (o := 1 * 1) (v := .slice gp1 (xs1.length + 64) gc1) rfl rfl rfl rfl rfl (by omega) (by omega)) ?_
          refine l_nil ?_
          refine f_block ?_
          refine f_then ?_
          refine c_perm (L' := [row (.slice (some ⟨b5, 0, none⟩) (2) 2) 26 1 (2) ([.slice gp0 (xs0.length + 64) gc0, .slice gp1 (xs1.length + 64) gc1]), fam (.slice p0 (xs0.length) c0) (.slice gp0 (xs0.length + 64) gc0) 3 (xs0.length) (xs0.length + 64) (MK 0 xs0.length) (MK 0 (xs0.length + 64)), fam (.slice p1 (xs1.length) c1) (.slice gp1 (xs1.length + 64) gc1) 3 (xs1.length) (xs1.length + 64) (MK 1 xs1.length) (MK 1 (xs1.length + 64))]) (List.Perm.refl _) ?_
          refine c_region ?_
          refine l_val (v := .int .i64 (1)) rfl rfl rfl (e_move) ?_
          refine l_val (v := .int .i64 (2)) rfl rfl rfl (e_add (a := (1 : Int)) (b := (1 : Int)) rfl rfl (by decide)) ?_
          refine l_val (v := .int .i64 (2)) rfl rfl rfl (e_assign) ?_
          refine l_nil ?_
          refine f_cut ?_
          refine un_succ 0 ?_
          refine c_seq ?_
          refine c_seq ?_
          refine c_region ?_
          refine l_val (v := .int .i64 (2)) rfl rfl rfl (e_move) ?_
          refine l_val (v := .slice p 2 lc) rfl rfl rfl (e_move) ?_
          refine l_val (v := .int .i64 (2)) rfl rfl rfl (e_len (a := p) (n := 2) (c := lc) rfl tf163) ?_
          refine l_val (v := .bool false) rfl rfl rfl (e_lss (a := (2 : Int)) (b := (2 : Int)) rfl rfl) ?_
          refine l_nil ?_
          refine f_then ?_
          refine c_no rfl ?_
          refine c_exit ?_
          refine f_then_exit ?_
          refine f_then_exit ?_
          refine f_exit ?_
          refine f_then ?_
          refine c_seq ?_
          refine c_seq ?_
          refine c_region ?_
          refine l_val (v := .int .i64 (0)) rfl rfl rfl (e_assign) ?_
          refine l_nil ?_
          refine f_then ?_
          refine c_block ?_
          refine c_unroll 3 ?_
          refine un_succ 2 ?_
          refine c_seq ?_
          refine c_seq ?_
          refine c_region ?_
          refine l_val (v := .int .i64 (0)) rfl rfl rfl (e_move) ?_
          refine l_val (v := .slice p 2 lc) rfl rfl rfl (e_move) ?_
          refine l_val (v := .int .i64 (2)) rfl rfl rfl (e_len (a := p) (n := 2) (c := lc) rfl tf163) ?_
          refine l_val (v := .bool true) rfl rfl rfl (e_lss (a := (0 : Int)) (b := (2 : Int)) rfl rfl) ?_
          refine l_nil ?_
          refine f_then ?_
          refine c_yes rfl ?_
          refine c_skip ?_
          refine f_then ?_
          refine c_seq ?_
          refine c_block ?_
          refine c_seq ?_
          refine c_region ?_
          refine l_val (v := .int .i64 (0)) rfl rfl rfl (e_assign) ?_
          refine l_nil ?_
          refine f_then ?_
          refine c_block ?_
          refine c_loop (fun (i : Nat) (f : Fm) (L : List Res) => (f 0 = .slice p 2 lc ∧ f 5 = .slice (some ⟨b5, 0, none⟩) (2) 2 ∧ f 9 = .int .i64 (0) ∧ f 10 = Nx (i)) ∧ L = [row (.slice (some ⟨b5, 0, none⟩) (2) 2) 26 1 (2) ([.slice gp0 (xs0.length + 64) gc0, .slice gp1 (xs1.length + 64) gc1]), fam (.slice p0 (xs0.length) c0) (.slice gp0 (xs0.length + 64) gc0) 3 (xs0.length) (xs0.length + 64) (MK 0 xs0.length) (MK 0 (xs0.length + 64)), fam (.slice p1 (xs1.length) c1) (.slice gp1 (xs1.length + 64) gc1) 3 (xs1.length) (xs1.length + 64) (MK 1 xs1.length) (MK 1 (xs1.length + 64))] ∧ (i ≤ xs0.length + 64)) (fun (i : Nat) => xs0.length + 64 - i) 0 ?_ ?_
          · exact ⟨⟨rfl, rfl, rfl, rfl⟩, rfl, (by omega)⟩
          rintro i f0 L0 ⟨⟨hs0, hs5, hs9, hs10⟩, hL, hi⟩
          subst L0
          refine rebase (d := 0) hs0 ?_
          refine rebase (d := 5) hs5 ?_
          refine rebase (d := 9) hs9 ?_
          refine rebase (d := 10) hs10 ?_
          clear hs0 hs5 hs9 hs10
          refine c_seq ?_
          refine c_seq ?_
          refine c_region ?_
          refine l_val (v := Nx (i)) rfl rfl rfl (e_move) ?_
          refine l_val (v := .slice (some ⟨b5, 0, none⟩) (2) 2) rfl rfl rfl (e_move) ?_
          refine l_val (v := .int .i64 (0)) rfl rfl rfl (e_move) ?_
          refine l_val (v := .pointer (some ((ba (some ⟨b5, 0, none⟩)).add (0 * 1)))) rfl rfl rfl (e_indexRow 0 (j := 0) (len := 2) (cap := 2) (p := (some ⟨b5, 0, none⟩)) rfl rfl tf164 (by omega) (by omega) rfl) ?_
          refine l_val (v := .slice gp0 (xs0.length + 64) gc0) rfl rfl rfl (e_load1 tf165 (v := .slice gp0 (xs0.length + 64) gc0) rfl (k_row 0 (o := 0 * 1) (us := [.slice gp0 (xs0.length + 64) gc0]) rfl rfl (Nat.succ_pos _))) ?_
          refine l_val (v := Nx (xs0.length + 64)) rfl rfl rfl (e_len (a := gp0) (n := xs0.length + 64) (c := gc0) rfl tf38) ?_
          refine l_val (v := .bool (decide (((i : Nat) : Int) < ((xs0.length + 64 : Nat) : Int)))) rfl rfl rfl (e_lss (a := ((i : Nat) : Int)) (b := ((xs0.length + 64 : Nat) : Int)) rfl rfl) ?_
          refine l_nil ?_
          refine f_then ?_
          refine c_if (((i : Nat) : Int) < ((xs0.length + 64 : Nat) : Int)) rfl (fun hc18 => ?_) (fun hc18 => ?_)
          ·
            refine c_skip ?_
            refine f_then ?_
            refine c_seq ?_
            refine c_block ?_
            refine c_seq ?_
            refine c_quiet (by kernel_rfl) (by kernel_rfl) ?_
            refine q_val (v := .slice (some ⟨b5, 0, none⟩) (2) 2) rfl rfl rfl (e_move) ?_
            refine q_val (v := .int .i64 (0)) rfl rfl rfl (e_move) ?_
            refine q_val (v := .pointer (some ((ba (some ⟨b5, 0, none⟩)).add (0 * 1)))) rfl rfl rfl (e_indexRow 0 (j := 0) (len := 2) (cap := 2) (p := (some ⟨b5, 0, none⟩)) rfl rfl tf164 (by omega) (by omega) rfl) ?_
            refine q_val (v := .slice gp0 (xs0.length + 64) gc0) rfl rfl rfl (e_load1 tf165 (v := .slice gp0 (xs0.length + 64) gc0) rfl (k_row 0 (o := 0 * 1) (us := [.slice gp0 (xs0.length + 64) gc0]) rfl rfl (Nat.succ_pos _))) ?_
            refine q_val (v := Nx (i)) rfl rfl rfl (e_move) ?_
            refine q_val (v := .pointer (some ((ba gp0).add (i * 1)))) rfl rfl rfl (e_indexFam2 1 (j := i) (len := xs0.length + 64) (cap := gc0) (p := gp0) rfl rfl tf39 (by omega) (by omega) rfl) ?_
            refine q_val (v := Nx (mrk 0 i)) rfl rfl rfl (e_load1 tf10 (v := Nx (mrk 0 i)) rfl (k_fam2 1 (o := i * 1) (zs := [Nx (mrk 0 i)]) rfl (mk_at (by omega)) (Nat.succ_pos _))) ?_
            refine q_val (v := .int .i64 (0)) rfl rfl rfl (e_move) ?_
            refine q_val (v := Nx (i)) rfl rfl rfl (e_move) ?_
            refine q_call (v := Nx (mrk 0 i)) rfl rfl rfl (cl_value (fst := []) (cap := []) (vs := [.int .i64 (0), Nx (i)]) (all := [.int .i64 (0), Nx (i)]) tf83 rfl rfl rfl) (fun w hw => ?_) ?_
            · obtain ⟨β1, sb, kn, hw1, back⟩ := St.frame_all hw
              exact (mark2_ok β1 w hw1 0 i (by omega) (by omega)).mono (fun e w' ⟨he, hw'⟩ => ⟨he, st_mask [true, true, true] rfl (back _ _ hw')⟩)
            refine q_val (v := .bool (decide (((mrk 0 i : Nat) : Int) = ((mrk 0 i : Nat) : Int)))) rfl rfl rfl (e_eql (a := ((mrk 0 i : Nat) : Int)) (b := ((mrk 0 i : Nat) : Int)) rfl rfl) ?_
            refine q_val (v := .bool (decide (¬ (((mrk 0 i : Nat) : Int) = ((mrk 0 i : Nat) : Int))))) rfl rfl rfl (e_not_p (p := ((mrk 0 i : Nat) : Int) = ((mrk 0 i : Nat) : Int)) rfl) ?_
            refine q_val (v := .bool (decide (¬ (((mrk 0 i : Nat) : Int) = ((mrk 0 i : Nat) : Int))))) rfl rfl rfl (e_move) ?_
            refine q_split (s := 100) (p := ¬ (((mrk 0 i : Nat) : Int) = ((mrk 0 i : Nat) : Int))) rfl (fun h => ?_) (fun h => ?_)
            exact absurd h (fun h => h rfl)
            refine qg_val (v := Nx (i)) rfl rfl rfl rfl rfl (e_move) ?_
            refine qg_val (v := .slice p 2 lc) rfl rfl rfl rfl rfl (e_move) ?_
            refine qg_val (v := .int .i64 (0)) rfl rfl rfl rfl rfl (e_move) ?_
            refine qg_val (v := .pointer (some ((ba p).add (0 * 1)))) rfl rfl rfl rfl rfl (e_indexAddr (k := 0) (len := 2) (cap := lc) (a := p) rfl rfl tf164 (by decide) hp) ?_
            refine qg_val (v := .slice p0 (xs0.length) c0) rfl rfl rfl rfl rfl (e_load1 tf165 (v := .slice p0 (xs0.length) c0) rfl (Knows.of_base (Cs.mono _ _) (Cs.sub (vs := [.slice p0 (xs0.length) c0]) (0 * 1) hls rfl))) ?_
            refine qg_val (v := Nx (xs0.length)) rfl rfl rfl rfl rfl (e_len (a := p0) (n := xs0.length) (c := c0) rfl tf38) ?_
            refine qg_val (v := .bool (decide (((i : Nat) : Int) < ((xs0.length : Nat) : Int)))) rfl rfl rfl rfl rfl (e_lss (a := ((i : Nat) : Int)) (b := ((xs0.length : Nat) : Int)) rfl rfl) ?_
            refine qg_val (v := .bool (decide (((i : Nat) : Int) < ((xs0.length : Nat) : Int)))) rfl rfl rfl rfl rfl (e_move) ?_
            refine q_split (s := 108) (p := ((i : Nat) : Int) < ((xs0.length : Nat) : Int)) rfl (fun hg19 => ?_) (fun hg19 => ?_)
            ·
              refine qg_val (v := .slice p 2 lc) rfl rfl rfl rfl rfl (e_move) ?_
              refine qg_val (v := .int .i64 (0)) rfl rfl rfl rfl rfl (e_move) ?_
              refine qg_val (v := .pointer (some ((ba p).add (0 * 1)))) rfl rfl rfl rfl rfl (e_indexAddr (k := 0) (len := 2) (cap := lc) (a := p) rfl rfl tf164 (by decide) hp) ?_
              refine qg_val (v := .slice p0 (xs0.length) c0) rfl rfl rfl rfl rfl (e_load1 tf165 (v := .slice p0 (xs0.length) c0) rfl (Knows.of_base (Cs.mono _ _) (Cs.sub (vs := [.slice p0 (xs0.length) c0]) (0 * 1) hls rfl))) ?_
              refine qg_val (v := Nx (i)) rfl rfl rfl rfl rfl (e_move) ?_
              refine qg_val (v := .pointer (some ((ba p0).add (i * 1)))) rfl rfl rfl rfl rfl (e_indexFam1 1 (j := i) (len := xs0.length) (cap := c0) (p := p0) rfl rfl tf39 (by omega) (by omega) rfl) ?_
              refine qg_val (v := Nx (mrk 0 i)) rfl rfl rfl rfl rfl (e_load1 tf10 (v := Nx (mrk 0 i)) rfl (k_fam1 1 (o := i * 1) (zs := [Nx (mrk 0 i)]) rfl (mk_at (by omega)) (Nat.succ_pos _))) ?_
              refine qg_val (v := .int .i64 (0)) rfl rfl rfl rfl rfl (e_move) ?_
              refine qg_val (v := Nx (i)) rfl rfl rfl rfl rfl (e_move) ?_
              refine qg_call (v := Nx (mrk 0 i)) rfl rfl rfl rfl rfl (cl_value (fst := []) (cap := []) (vs := [.int .i64 (0), Nx (i)]) (all := [.int .i64 (0), Nx (i)]) tf83 rfl rfl rfl) (fun w hw => ?_) ?_
              · obtain ⟨β1, sb, kn, hw1, back⟩ := St.frame_all hw
                exact (mark2_ok β1 w hw1 0 i (by omega) (by omega)).mono (fun e w' ⟨he, hw'⟩ => ⟨he, st_mask [true, true, true] rfl (back _ _ hw')⟩)
              refine qg_val (v := .bool (decide (((mrk 0 i : Nat) : Int) = ((mrk 0 i : Nat) : Int)))) rfl rfl rfl rfl rfl (e_eql (a := ((mrk 0 i : Nat) : Int)) (b := ((mrk 0 i : Nat) : Int)) rfl rfl) ?_
              refine qg_val (v := .bool (decide (¬ (((mrk 0 i : Nat) : Int) = ((mrk 0 i : Nat) : Int))))) rfl rfl rfl rfl rfl (e_not_p (p := ((mrk 0 i : Nat) : Int) = ((mrk 0 i : Nat) : Int)) rfl) ?_
              refine qg_val (v := .bool (decide (¬ (((mrk 0 i : Nat) : Int) = ((mrk 0 i : Nat) : Int))))) rfl rfl rfl rfl rfl (e_pick_t rfl) ?_
              refine q_val (v := .bool (decide (¬ (((mrk 0 i : Nat) : Int) = ((mrk 0 i : Nat) : Int))))) rfl rfl rfl (e_pick_f rfl) ?_
              refine q_nil ?_
              refine f_then ?_
              refine c_if (¬ (((mrk 0 i : Nat) : Int) = ((mrk 0 i : Nat) : Int))) rfl (fun hc20 => ?_) (fun hc20 => ?_)
              ·
                exact absurd hc20 (fun h => h rfl)
              ·
                refine c_skip ?_
                refine f_block ?_
                refine f_then ?_
                refine c_region ?_
                refine l_val (v := Nx (i)) rfl rfl rfl (e_move) ?_
                refine l_val (v := Nx (i + 1)) rfl rfl rfl (e_add (a := ((i : Nat) : Int)) (b := (1 : Int)) rfl rfl (i64n (by omega) (by omega))) ?_
                refine l_val (v := Nx (i + 1)) rfl rfl rfl (e_assign) ?_
                refine l_nil ?_
                exact f_cut ⟨i + 1, ⟨⟨rfl, rfl, rfl, rfl⟩, rfl, (by omega)⟩, (show xs0.length + 64 - (i + 1) < xs0.length + 64 - i from by omega)⟩
            ·
              refine q_skip rfl rfl rfl rfl rfl rfl ?_
              refine q_skip rfl rfl rfl rfl rfl rfl ?_
              refine q_skip rfl rfl rfl rfl rfl rfl ?_
              refine q_skip rfl rfl rfl rfl rfl rfl ?_
              refine q_skip rfl rfl rfl rfl rfl rfl ?_
              refine q_skip rfl rfl rfl rfl rfl rfl ?_
              refine q_skip rfl rfl rfl rfl rfl rfl ?_
              refine q_skip rfl rfl rfl rfl rfl rfl ?_
              refine q_skip rfl rfl rfl rfl rfl rfl ?_
              refine q_skip rfl rfl rfl rfl rfl rfl ?_
              refine q_skip rfl rfl rfl rfl rfl rfl ?_
              refine q_skip rfl rfl rfl rfl rfl rfl ?_
              refine qg_val (v := .bool false) rfl rfl rfl rfl rfl (e_pick_f rfl) ?_
              refine q_val (v := .bool false) rfl rfl rfl (e_pick_f rfl) ?_
              refine q_nil ?_
              refine f_then ?_
              refine c_no rfl ?_
              refine c_skip ?_
              refine f_block ?_
              refine f_then ?_
              refine c_region ?_
              refine l_val (v := Nx (i)) rfl rfl rfl (e_move) ?_
              refine l_val (v := Nx (i + 1)) rfl rfl rfl (e_add (a := ((i : Nat) : Int)) (b := (1 : Int)) rfl rfl (i64n (by omega) (by omega))) ?_
              refine l_val (v := Nx (i + 1)) rfl rfl rfl (e_assign) ?_
              refine l_nil ?_
              exact f_cut ⟨i + 1, ⟨⟨rfl, rfl, rfl, rfl⟩, rfl, (by omega)⟩, (show xs0.length + 64 - (i + 1) < xs0.length + 64 - i from by omega)⟩
          ·
            refine c_exit ?_
            refine f_then_exit ?_
            refine f_then_exit ?_
            refine f_exit ?_
            refine f_block ?_
            refine f_then ?_
            refine c_region ?_
            refine l_val (v := .int .i64 (0)) rfl rfl rfl (e_move) ?_
            refine l_val (v := .int .i64 (1)) rfl rfl rfl (e_add (a := (0 : Int)) (b := (1 : Int)) rfl rfl (by decide)) ?_
            refine l_val (v := .int .i64 (1)) rfl rfl rfl (e_assign) ?_
            refine l_nil ?_
            refine f_cut ?_
            refine un_succ 1 ?_
            refine c_seq ?_
            refine c_seq ?_
            refine c_region ?_
            refine l_val (v := .int .i64 (1)) rfl rfl rfl (e_move) ?_
            refine l_val (v := .slice p 2 lc) rfl rfl rfl (e_move) ?_
            refine l_val (v := .int .i64 (2)) rfl rfl rfl (e_len (a := p) (n := 2) (c := lc) rfl tf163) ?_
            refine l_val (v := .bool true) rfl rfl rfl (e_lss (a := (1 : Int)) (b := (2 : Int)) rfl rfl) ?_
            refine l_nil ?_
            refine f_then ?_
            refine c_yes rfl ?_
            refine c_skip ?_
            refine f_then ?_
            refine c_seq ?_
            refine c_block ?_
            refine c_seq ?_
            refine c_region ?_
            refine l_val (v := .int .i64 (0)) rfl rfl rfl (e_assign) ?_
            refine l_nil ?_
            refine f_then ?_
            refine c_block ?_
            refine c_loop (fun (i : Nat) (f : Fm) (L : List Res) => (f 0 = .slice p 2 lc ∧ f 5 = .slice (some ⟨b5, 0, none⟩) (2) 2 ∧ f 9 = .int .i64 (1) ∧ f 10 = Nx (i)) ∧ L = [row (.slice (some ⟨b5, 0, none⟩) (2) 2) 26 1 (2) ([.slice gp0 (xs0.length + 64) gc0, .slice gp1 (xs1.length + 64) gc1]), fam (.slice p0 (xs0.length) c0) (.slice gp0 (xs0.length + 64) gc0) 3 (xs0.length) (xs0.length + 64) (MK 0 xs0.length) (MK 0 (xs0.length + 64)), fam (.slice p1 (xs1.length) c1) (.slice gp1 (xs1.length + 64) gc1) 3 (xs1.length) (xs1.length + 64) (MK 1 xs1.length) (MK 1 (xs1.length + 64))] ∧ (i ≤ xs1.length + 64)) (fun (i : Nat) => xs1.length + 64 - i) 0 ?_ ?_
            · exact ⟨⟨rfl, rfl, rfl, rfl⟩, rfl, (by omega)⟩
            rintro i f0 L0 ⟨⟨hs0, hs5, hs9, hs10⟩, hL, hi⟩
            subst L0
            refine rebase (d := 0) hs0 ?_
            refine rebase (d := 5) hs5 ?_
            refine rebase (d := 9) hs9 ?_
            refine rebase (d := 10) hs10 ?_
            clear hs0 hs5 hs9 hs10
            refine c_seq ?_
            refine c_seq ?_
            refine c_region ?_
            refine l_val (v := Nx (i)) rfl rfl rfl (e_move) ?_
            refine l_val (v := .slice (some ⟨b5, 0, none⟩) (2) 2) rfl rfl rfl (e_move) ?_
            refine l_val (v := .int .i64 (1)) rfl rfl rfl (e_move) ?_
            refine l_val (v := .pointer (some ((ba (some ⟨b5, 0, none⟩)).add (1 * 1)))) rfl rfl rfl (e_indexRow 0 (j := 1) (len := 2) (cap := 2) (p := (some ⟨b5, 0, none⟩)) rfl rfl tf164 (by omega) (by omega) rfl) ?_
            refine l_val (v := .slice gp1 (xs1.length + 64) gc1) rfl rfl rfl (e_load1 tf165 (v := .slice gp1 (xs1.length + 64) gc1) rfl (k_row 0 (o := 1 * 1) (us := [.slice gp1 (xs1.length + 64) gc1]) rfl rfl (Nat.succ_pos _))) ?_
            refine l_val (v := Nx (xs1.length + 64)) rfl rfl rfl (e_len (a := gp1) (n := xs1.length + 64) (c := gc1) rfl tf38) ?_
            refine l_val (v := .bool (decide (((i : Nat) : Int) < ((xs1.length + 64 : Nat) : Int)))) rfl rfl rfl (e_lss (a := ((i : Nat) : Int)) (b := ((xs1.length + 64 : Nat) : Int)) rfl rfl) ?_
            refine l_nil ?_
            refine f_then ?_
            refine c_if (((i : Nat) : Int) < ((xs1.length + 64 : Nat) : Int)) rfl (fun hc21 => ?_) (fun hc21 => ?_)
            ·
              refine c_skip ?_
              refine f_then ?_
              refine c_seq ?_
              refine c_block ?_
              refine c_seq ?_
              refine c_quiet (by kernel_rfl) (by kernel_rfl) ?_
              refine q_val (v := .slice (some ⟨b5, 0, none⟩) (2) 2) rfl rfl rfl (e_move) ?_
              refine q_val (v := .int .i64 (1)) rfl rfl rfl (e_move) ?_
              refine q_val (v := .pointer (some ((ba (some ⟨b5, 0, none⟩)).add (1 * 1)))) rfl rfl rfl (e_indexRow 0 (j := 1) (len := 2) (cap := 2) (p := (some ⟨b5, 0, none⟩)) rfl rfl tf164 (by omega) (by omega) rfl) ?_
              refine q_val (v := .slice gp1 (xs1.length + 64) gc1) rfl rfl rfl (e_load1 tf165 (v := .slice gp1 (xs1.length + 64) gc1) rfl (k_row 0 (o := 1 * 1) (us := [.slice gp1 (xs1.length + 64) gc1]) rfl rfl (Nat.succ_pos _))) ?_
              refine q_val (v := Nx (i)) rfl rfl rfl (e_move) ?_
              refine q_val (v := .pointer (some ((ba gp1).add (i * 1)))) rfl rfl rfl (e_indexFam2 2 (j := i) (len := xs1.length + 64) (cap := gc1) (p := gp1) rfl rfl tf39 (by omega) (by omega) rfl) ?_
              refine q_val (v := Nx (mrk 1 i)) rfl rfl rfl (e_load1 tf10 (v := Nx (mrk 1 i)) rfl (k_fam2 2 (o := i * 1) (zs := [Nx (mrk 1 i)]) rfl (mk_at (by omega)) (Nat.succ_pos _))) ?_
              refine q_val (v := .int .i64 (1)) rfl rfl rfl (e_move) ?_
              refine q_val (v := Nx (i)) rfl rfl rfl (e_move) ?_
              refine q_call (v := Nx (mrk 1 i)) rfl rfl rfl (cl_value (fst := []) (cap := []) (vs := [.int .i64 (1), Nx (i)]) (all := [.int .i64 (1), Nx (i)]) tf83 rfl rfl rfl) (fun w hw => ?_) ?_
              · obtain ⟨β1, sb, kn, hw1, back⟩ := St.frame_all hw
                exact (mark2_ok β1 w hw1 1 i (by omega) (by omega)).mono (fun e w' ⟨he, hw'⟩ => ⟨he, st_mask [true, true, true] rfl (back _ _ hw')⟩)
              refine q_val (v := .bool (decide (((mrk 1 i : Nat) : Int) = ((mrk 1 i : Nat) : Int)))) rfl rfl rfl (e_eql (a := ((mrk 1 i : Nat) : Int)) (b := ((mrk 1 i : Nat) : Int)) rfl rfl) ?_
              refine q_val (v := .bool (decide (¬ (((mrk 1 i : Nat) : Int) = ((mrk 1 i : Nat) : Int))))) rfl rfl rfl (e_not_p (p := ((mrk 1 i : Nat) : Int) = ((mrk 1 i : Nat) : Int)) rfl) ?_
              refine q_val (v := .bool (decide (¬ (((mrk 1 i : Nat) : Int) = ((mrk 1 i : Nat) : Int))))) rfl rfl rfl (e_move) ?_
              refine q_split (s := 100) (p := ¬ (((mrk 1 i : Nat) : Int) = ((mrk 1 i : Nat) : Int))) rfl (fun h => ?_) (fun h => ?_)
              exact absurd h (fun h => h rfl)
              refine qg_val (v := Nx (i)) rfl rfl rfl rfl rfl (e_move) ?_
              refine qg_val (v := .slice p 2 lc) rfl rfl rfl rfl rfl (e_move) ?_
              refine qg_val (v := .int .i64 (1)) rfl rfl rfl rfl rfl (e_move) ?_
              refine qg_val (v := .pointer (some ((ba p).add (1 * 1)))) rfl rfl rfl rfl rfl (e_indexAddr (k := 1) (len := 2) (cap := lc) (a := p) rfl rfl tf164 (by decide) hp) ?_
              refine qg_val (v := .slice p1 (xs1.length) c1) rfl rfl rfl rfl rfl (e_load1 tf165 (v := .slice p1 (xs1.length) c1) rfl (Knows.of_base (Cs.mono _ _) (Cs.sub (vs := [.slice p1 (xs1.length) c1]) (1 * 1) hls rfl))) ?_
              refine qg_val (v := Nx (xs1.length)) rfl rfl rfl rfl rfl (e_len (a := p1) (n := xs1.length) (c := c1) rfl tf38) ?_
              refine qg_val (v := .bool (decide (((i : Nat) : Int) < ((xs1.length : Nat) : Int)))) rfl rfl rfl rfl rfl (e_lss (a := ((i : Nat) : Int)) (b := ((xs1.length : Nat) : Int)) rfl rfl) ?_
              refine qg_val (v := .bool (decide (((i : Nat) : Int) < ((xs1.length : Nat) : Int)))) rfl rfl rfl rfl rfl (e_move) ?_
              refine q_split (s := 108) (p := ((i : Nat) : Int) < ((xs1.length : Nat) : Int)) rfl (fun hg22 => ?_) (fun hg22 => ?_)
              ·
                refine qg_val (v := .slice p 2 lc) rfl rfl rfl rfl rfl (e_move) ?_
                refine qg_val (v := .int .i64 (1)) rfl rfl rfl rfl rfl (e_move) ?_
                refine qg_val (v := .pointer (some ((ba p).add (1 * 1)))) rfl rfl rfl rfl rfl (e_indexAddr (k := 1) (len := 2) (cap := lc) (a := p) rfl rfl tf164 (by decide) hp) ?_
                refine qg_val (v := .slice p1 (xs1.length) c1) rfl rfl rfl rfl rfl (e_load1 tf165 (v := .slice p1 (xs1.length) c1) rfl (Knows.of_base (Cs.mono _ _) (Cs.sub (vs := [.slice p1 (xs1.length) c1]) (1 * 1) hls rfl))) ?_
                refine qg_val (v := Nx (i)) rfl rfl rfl rfl rfl (e_move) ?_
                refine qg_val (v := .pointer (some ((ba p1).add (i * 1)))) rfl rfl rfl rfl rfl (e_indexFam1 2 (j := i) (len := xs1.length) (cap := c1) (p := p1) rfl rfl tf39 (by omega) (by omega) rfl) ?_
                refine qg_val (v := Nx (mrk 1 i)) rfl rfl rfl rfl rfl (e_load1 tf10 (v := Nx (mrk 1 i)) rfl (k_fam1 2 (o := i * 1) (zs := [Nx (mrk 1 i)]) rfl (mk_at (by omega)) (Nat.succ_pos _))) ?_
                refine qg_val (v := .int .i64 (1)) rfl rfl rfl rfl rfl (e_move) ?_
                refine qg_val (v := Nx (i)) rfl rfl rfl rfl rfl (e_move) ?_
                refine qg_call (v := Nx (mrk 1 i)) rfl rfl rfl rfl rfl (cl_value (fst := []) (cap := []) (vs := [.int .i64 (1), Nx (i)]) (all := [.int .i64 (1), Nx (i)]) tf83 rfl rfl rfl) (fun w hw => ?_) ?_
                · obtain ⟨β1, sb, kn, hw1, back⟩ := St.frame_all hw
                  exact (mark2_ok β1 w hw1 1 i (by omega) (by omega)).mono (fun e w' ⟨he, hw'⟩ => ⟨he, st_mask [true, true, true] rfl (back _ _ hw')⟩)
                refine qg_val (v := .bool (decide (((mrk 1 i : Nat) : Int) = ((mrk 1 i : Nat) : Int)))) rfl rfl rfl rfl rfl (e_eql (a := ((mrk 1 i : Nat) : Int)) (b := ((mrk 1 i : Nat) : Int)) rfl rfl) ?_
                refine qg_val (v := .bool (decide (¬ (((mrk 1 i : Nat) : Int) = ((mrk 1 i : Nat) : Int))))) rfl rfl rfl rfl rfl (e_not_p (p := ((mrk 1 i : Nat) : Int) = ((mrk 1 i : Nat) : Int)) rfl) ?_
                refine qg_val (v := .bool (decide (¬ (((mrk 1 i : Nat) : Int) = ((mrk 1 i : Nat) : Int))))) rfl rfl rfl rfl rfl (e_pick_t rfl) ?_
                refine q_val (v := .bool (decide (¬ (((mrk 1 i : Nat) : Int) = ((mrk 1 i : Nat) : Int))))) rfl rfl rfl (e_pick_f rfl) ?_
                refine q_nil ?_
                refine f_then ?_
                refine c_if (¬ (((mrk 1 i : Nat) : Int) = ((mrk 1 i : Nat) : Int))) rfl (fun hc23 => ?_) (fun hc23 => ?_)
                ·
                  exact absurd hc23 (fun h => h rfl)
                ·
                  refine c_skip ?_
                  refine f_block ?_
                  refine f_then ?_
                  refine c_region ?_
                  refine l_val (v := Nx (i)) rfl rfl rfl (e_move) ?_
                  refine l_val (v := Nx (i + 1)) rfl rfl rfl (e_add (a := ((i : Nat) : Int)) (b := (1 : Int)) rfl rfl (i64n (by omega) (by omega))) ?_
                  refine l_val (v := Nx (i + 1)) rfl rfl rfl (e_assign) ?_
                  refine l_nil ?_
                  exact f_cut ⟨i + 1, ⟨⟨rfl, rfl, rfl, rfl⟩, rfl, (by omega)⟩, (show xs1.length + 64 - (i + 1) < xs1.length + 64 - i from by omega)⟩
              ·
                refine q_skip rfl rfl rfl rfl rfl rfl ?_
                refine q_skip rfl rfl rfl rfl rfl rfl ?_
                refine q_skip rfl rfl rfl rfl rfl rfl ?_
                refine q_skip rfl rfl rfl rfl rfl rfl ?_
                refine q_skip rfl rfl rfl rfl rfl rfl ?_
                refine q_skip rfl rfl rfl rfl rfl rfl ?_
                refine q_skip rfl rfl rfl rfl rfl rfl ?_
                refine q_skip rfl rfl rfl rfl rfl rfl ?_
                refine q_skip rfl rfl rfl rfl rfl rfl ?_
                refine q_skip rfl rfl rfl rfl rfl rfl ?_
                refine q_skip rfl rfl rfl rfl rfl rfl ?_
                refine q_skip rfl rfl rfl rfl rfl rfl ?_
                refine qg_val (v := .bool false) rfl rfl rfl rfl rfl (e_pick_f rfl) ?_
                refine q_val (v := .bool false) rfl rfl rfl (e_pick_f rfl) ?_
                refine q_nil ?_
                refine f_then ?_
                refine c_no rfl ?_
                refine c_skip ?_
                refine f_block ?_
                refine f_then ?_
                refine c_region ?_
                refine l_val (v := Nx (i)) rfl rfl rfl (e_move) ?_
                refine l_val (v := Nx (i + 1)) rfl rfl rfl (e_add (a := ((i : Nat) : Int)) (b := (1 : Int)) rfl rfl (i64n (by omega) (by omega))) ?_
                refine l_val (v := Nx (i + 1)) rfl rfl rfl (e_assign) ?_
                refine l_nil ?_
                exact f_cut ⟨i + 1, ⟨⟨rfl, rfl, rfl, rfl⟩, rfl, (by omega)⟩, (show xs1.length + 64 - (i + 1) < xs1.length + 64 - i from by omega)⟩
            ·
              refine c_exit ?_
              refine f_then_exit ?_
              refine f_then_exit ?_
              refine f_exit ?_
              refine f_block ?_
              refine f_then ?_
              refine c_region ?_
              refine l_val (v := .int .i64 (1)) rfl rfl rfl (e_move) ?_
              refine l_val (v := .int .i64 (2)) rfl rfl rfl (e_add (a := (1 : Int)) (b := (1 : Int)) rfl rfl (by decide)) ?_
              refine l_val (v := .int .i64 (2)) rfl rfl rfl (e_assign) ?_
              refine l_nil ?_
              refine f_cut ?_
              refine un_succ 0 ?_
              refine c_seq ?_
              refine c_seq ?_
              refine c_region ?_
              refine l_val (v := .int .i64 (2)) rfl rfl rfl (e_move) ?_
              refine l_val (v := .slice p 2 lc) rfl rfl rfl (e_move) ?_
              refine l_val (v := .int .i64 (2)) rfl rfl rfl (e_len (a := p) (n := 2) (c := lc) rfl tf163) ?_
              refine l_val (v := .bool false) rfl rfl rfl (e_lss (a := (2 : Int)) (b := (2 : Int)) rfl rfl) ?_
              refine l_nil ?_
              refine f_then ?_
              refine c_no rfl ?_
              refine c_exit ?_
              refine f_then_exit ?_
              refine f_then_exit ?_
              refine f_exit ?_
              refine f_then ?_
              refine c_seq ?_
              refine c_seq ?_
              refine c_region ?_
              refine l_val (v := .int .i64 (0)) rfl rfl rfl (e_assign) ?_
              refine l_nil ?_
              refine f_then ?_
              refine c_block ?_
              refine c_unroll 3 ?_
              refine un_succ 2 ?_
              refine c_seq ?_
              refine c_seq ?_
              refine c_region ?_
              refine l_val (v := .int .i64 (0)) rfl rfl rfl (e_move) ?_
              refine l_val (v := .slice p 2 lc) rfl rfl rfl (e_move) ?_
              refine l_val (v := .int .i64 (2)) rfl rfl rfl (e_len (a := p) (n := 2) (c := lc) rfl tf163) ?_
              refine l_val (v := .bool true) rfl rfl rfl (e_lss (a := (0 : Int)) (b := (2 : Int)) rfl rfl) ?_
              refine l_nil ?_
              refine f_then ?_
              refine c_yes rfl ?_
              refine c_skip ?_
              refine f_then ?_
              refine c_seq ?_
              refine c_block ?_
              refine c_seq ?_
              refine c_region ?_
              refine l_mv rfl rfl rfl (m_makeN (c := 64) tf39 tf53 tf52 rfl rfl rfl (by decide) (by decide) (by decide)) ?_
              rintro _ _ ⟨b24, rfl, rfl⟩
              refine l_val (v := .slice (some ⟨b24, 0, none⟩) (64) 64) rfl rfl rfl (e_assign) ?_
              refine l_nil ?_
              refine f_then ?_
              refine c_seq ?_
              refine c_seq ?_
              refine c_region ?_
              refine l_val (v := .int .i64 (0)) rfl rfl rfl (e_assign) ?_
              refine l_nil ?_
              refine f_then ?_
              refine c_block ?_
              refine c_loop (fun (i : Nat) (f : Fm) (L : List Res) => (f 0 = .slice p 2 lc ∧ f 5 = .slice (some ⟨b5, 0, none⟩) (2) 2 ∧ f 11 = .int .i64 (0) ∧ f 12 = .slice (some ⟨b24, 0, none⟩) (64) 64 ∧ f 13 = Nx (i)) ∧ L = [row (.slice (some ⟨b24, 0, none⟩) (64) 64) 3 1 (64) ((MK 2 i ++ (repL [.int .i64 (0)] 64).drop i)), row (.slice (some ⟨b5, 0, none⟩) (2) 2) 26 1 (2) ([.slice gp0 (xs0.length + 64) gc0, .slice gp1 (xs1.length + 64) gc1]), fam (.slice p0 (xs0.length) c0) (.slice gp0 (xs0.length + 64) gc0) 3 (xs0.length) (xs0.length + 64) (MK 0 xs0.length) (MK 0 (xs0.length + 64)), fam (.slice p1 (xs1.length) c1) (.slice gp1 (xs1.length + 64) gc1) 3 (xs1.length) (xs1.length + 64) (MK 1 xs1.length) (MK 1 (xs1.length + 64))] ∧ (i ≤ 64)) (fun (i : Nat) => 64 - i) 0 ?_ ?_
              · exact ⟨⟨rfl, rfl, rfl, rfl, rfl⟩, (by first | rfl | simp [MK]), (by omega)⟩
              rintro i f0 L0 ⟨⟨hs0, hs5, hs11, hs12, hs13⟩, hL, hi⟩
              subst L0
              refine rebase (d := 0) hs0 ?_
              refine rebase (d := 5) hs5 ?_
              refine rebase (d := 11) hs11 ?_
              refine rebase (d := 12) hs12 ?_
              refine rebase (d := 13) hs13 ?_
              clear hs0 hs5 hs11 hs12 hs13
              refine c_seq ?_
              refine c_seq ?_
              refine c_region ?_
              refine l_val (v := Nx (i)) rfl rfl rfl (e_move) ?_
              refine l_val (v := .bool (decide (((i : Nat) : Int) < (64 : Int)))) rfl rfl rfl (e_lss (a := ((i : Nat) : Int)) (b := (64 : Int)) rfl rfl) ?_
              refine l_nil ?_
              refine f_then ?_
              refine c_if (((i : Nat) : Int) < (64 : Int)) rfl (fun hc25 => ?_) (fun hc25 => ?_)
              ·
                refine c_skip ?_
                refine f_then ?_
                refine c_seq ?_
                refine c_block ?_
                refine c_region ?_
                refine l_val (v := .slice (some ⟨b24, 0, none⟩) (64) 64) rfl rfl rfl (e_move) ?_
                refine l_val (v := Nx (i)) rfl rfl rfl (e_move) ?_
                refine l_val (v := .int .i64 (0)) rfl rfl rfl (e_move) ?_
                refine l_val (v := .slice p 2 lc) rfl rfl rfl (e_move) ?_
                refine l_val (v := .int .i64 (2)) rfl rfl rfl (e_len (a := p) (n := 2) (c := lc) rfl tf163) ?_
                refine l_val (v := .int .i64 (2)) rfl rfl rfl (e_add (a := (0 : Int)) (b := (2 : Int)) rfl rfl (by decide)) ?_
                refine l_val (v := Nx (i)) rfl rfl rfl (e_move) ?_
                refine l_call rfl rfl rfl (cl_value (fst := []) (cap := []) (vs := [.int .i64 (2), Nx (i)]) (all := [.int .i64 (2), Nx (i)]) tf83 rfl rfl rfl) ?_
                intro w hw
                obtain ⟨β1, sb, kn, hw1, back⟩ := St.frame_all hw
                refine (mark2_ok β1 w hw1 2 i (by omega) (by omega)).mono ?_
                rintro e w' ⟨rfl, hw'⟩
                refine ⟨_, rfl, _, back _ _ hw', ?_⟩
                clear hw hw1 hw' back kn sb
                refine l_val (v := .pointer (some ((ba (some ⟨b24, 0, none⟩)).add (i * 1)))) rfl rfl rfl (e_indexRow 0 (j := i) (len := 64) (cap := 64) (p := (some ⟨b24, 0, none⟩)) rfl rfl tf39 (by omega) (by omega) rfl) ?_
                refine l_mu rfl rfl (m_storeRow 0 tf10 (o := i * 1) (v := Nx (mrk 2 i)) rfl rfl rfl rfl rfl (by omega) (by omega)) ?_
                refine l_nil ?_
                refine f_block ?_
                refine f_then ?_
                refine c_region ?_
                refine l_val (v := Nx (i)) rfl rfl rfl (e_move) ?_
                refine l_val (v := Nx (i + 1)) rfl rfl rfl (e_add (a := ((i : Nat) : Int)) (b := (1 : Int)) rfl rfl (i64n (by omega) (by omega))) ?_
                refine l_val (v := Nx (i + 1)) rfl rfl rfl (e_assign) ?_
                refine l_nil ?_
                refine f_perm (L' := [row (.slice (some ⟨b24, 0, none⟩) (64) 64) 3 1 (64) ((overL (MK 2 i ++ (repL [.int .i64 (0)] 64).drop i) (i * 1) [Nx (mrk 2 i)])), row (.slice (some ⟨b5, 0, none⟩) (2) 2) 26 1 (2) ([.slice gp0 (xs0.length + 64) gc0, .slice gp1 (xs1.length + 64) gc1]), fam (.slice p0 (xs0.length) c0) (.slice gp0 (xs0.length + 64) gc0) 3 (xs0.length) (xs0.length + 64) (MK 0 xs0.length) (MK 0 (xs0.length + 64)), fam (.slice p1 (xs1.length) c1) (.slice gp1 (xs1.length + 64) gc1) 3 (xs1.length) (xs1.length + 64) (MK 1 xs1.length) (MK 1 (xs1.length + 64))]) (List.Perm.refl _) ?_
                exact f_cut ⟨i + 1, ⟨⟨rfl, rfl, rfl, rfl, rfl⟩, (by rw [mk_step]), (by omega)⟩, (show 64 - (i + 1) < 64 - i from by omega)⟩
              ·
                refine c_exit ?_
                refine f_then_exit ?_
                refine f_then_exit ?_
                refine f_exit ?_
                refine f_then ?_
                have hie : i = 64 := by omega
                subst hie
                refine c_perm (L' := [row (.slice (some ⟨b24, 0, none⟩) (64) 64) 3 1 (64) ((MK 2 64 ++ (repL [.int .i64 (0)] 64).drop 64)), row (.slice (some ⟨b5, 0, none⟩) (2) 2) 26 1 (2) ([.slice gp0 (xs0.length + 64) gc0, .slice gp1 (xs1.length + 64) gc1]), fam (.slice p0 (xs0.length) c0) (.slice gp0 (xs0.length + 64) gc0) 3 (xs0.length) (xs0.length + 64) (MK 0 xs0.length) (MK 0 (xs0.length + 64)), fam (.slice p1 (xs1.length) c1) (.slice gp1 (xs1.length + 64) gc1) 3 (xs1.length) (xs1.length + 64) (MK 1 xs1.length) (MK 1 (xs1.length + 64))]) (List.Perm.refl _) ?_
                rw [mk_done (k := 2) (R := (repL [.int .i64 (0)] 64)) (by simp [repL_length])]
                refine c_turn (fun w h => h.conseq_at 2 rfl (r' := fam (.slice p0 (xs0.length) c0) (.slice p0 (xs0.length) c0) 3 (xs0.length) (xs0.length) (MK 0 xs0.length) (MK 0 xs0.length)) (fun a h => fam_start a (fam_first a h))) ?_
                refine c_perm (L' := [row (.slice (some ⟨b24, 0, none⟩) (64) 64) 3 1 (64) ((MK 2 64)), row (.slice (some ⟨b5, 0, none⟩) (2) 2) 26 1 (2) ([.slice gp0 (xs0.length + 64) gc0, .slice gp1 (xs1.length + 64) gc1]), fam (.slice p0 (xs0.length) c0) (.slice p0 (xs0.length) c0) 3 (xs0.length) (xs0.length) (MK 0 xs0.length) (MK 0 xs0.length), fam (.slice p1 (xs1.length) c1) (.slice gp1 (xs1.length + 64) gc1) 3 (xs1.length) (xs1.length + 64) (MK 1 xs1.length) (MK 1 (xs1.length + 64))]) (List.Perm.refl _) ?_
                refine c_region ?_
                refine l_val (v := .slice (some ⟨b5, 0, none⟩) (2) 2) rfl rfl rfl (e_move) ?_
                refine l_val (v := .int .i64 (0)) rfl rfl rfl (e_move) ?_
                refine l_val (v := .slice p 2 lc) rfl rfl rfl (e_move) ?_
                refine l_val (v := .int .i64 (0)) rfl rfl rfl (e_move) ?_
                refine l_val (v := .pointer (some ((ba p).add (0 * 1)))) rfl rfl rfl (e_indexAddr (k := 0) (len := 2) (cap := lc) (a := p) rfl rfl tf164 (by decide) hp) ?_
                refine l_val (v := .slice p0 (xs0.length) c0) rfl rfl rfl (e_load1 tf165 (v := .slice p0 (xs0.length) c0) rfl (Knows.of_base (Cs.mono _ _) (Cs.sub (vs := [.slice p0 (xs0.length) c0]) (0 * 1) hls rfl))) ?_
                refine l_val (v := .slice (some ⟨b24, 0, none⟩) (64) 64) rfl rfl rfl (e_move) ?_
                refine l_mv rfl rfl rfl (m_append_fam 2 tf39 tf53 (u := .slice p0 (xs0.length) c0) (m := xs0.length) (us := MK 0 xs0.length) (ad := ⟨b24, 0, none⟩) (k := 64) (c := 64) (news := ((MK 2 64))) rfl rfl rfl (by rw [MK_len]) (k_row_all (p := (some ⟨b24, 0, none⟩)) (m := 64) 0 rfl (by omega)) (MK_one _ _) (by omega) (by unfold maxLen; omega) (by omega)) ?_
                rintro _ _ ⟨rp26, rc27, rfl, rfl⟩
                refine l_val (v := .pointer (some ((ba (some ⟨b5, 0, none⟩)).add (0 * 1)))) rfl rfl rfl (e_indexRow 1 (j := 0) (len := 2) (cap := 2) (p := (some ⟨b5, 0, none⟩)) rfl rfl tf164 (by omega) (by omega) rfl) ?_
                refine l_mu rfl rfl (m_storeRow 1 tf165 (o := 0 * 1) (v := .slice rp26 (xs0.length + 64) rc27) rfl rfl rfl rfl rfl (by omega) (by omega)) ?_
                refine l_nil ?_
                refine f_block ?_
                refine f_then ?_
                refine c_perm (L' := [row (.slice (some ⟨b24, 0, none⟩) (64) 64) 3 1 (64) ((MK 2 64)), row (.slice (some ⟨b5, 0, none⟩) (2) 2) 26 1 (2) ([.slice rp26 (xs0.length + 64) rc27, .slice gp1 (xs1.length + 64) gc1]), fam (.slice p0 (xs0.length) c0) (.slice rp26 (xs0.length + 64) rc27) 3 (xs0.length) (xs0.length + 64) (MK 0 xs0.length) (MK 0 xs0.length ++ ((MK 2 64))), fam (.slice p1 (xs1.length) c1) (.slice gp1 (xs1.length + 64) gc1) 3 (xs1.length) (xs1.length + 64) (MK 1 xs1.length) (MK 1 (xs1.length + 64))]) (List.Perm.refl _) ?_
                refine c_region ?_
                refine l_val (v := .int .i64 (0)) rfl rfl rfl (e_move) ?_
                refine l_val (v := .int .i64 (1)) rfl rfl rfl (e_add (a := (0 : Int)) (b := (1 : Int)) rfl rfl (by decide)) ?_
                refine l_val (v := .int .i64 (1)) rfl rfl rfl (e_assign) ?_
                refine l_nil ?_
                refine f_cut ?_
                refine un_succ 1 ?_
                refine c_seq ?_
                refine c_seq ?_
                refine c_region ?_
                refine l_val (v := .int .i64 (1)) rfl rfl rfl (e_move) ?_
                refine l_val (v := .slice p 2 lc) rfl rfl rfl (e_move) ?_
                refine l_val (v := .int .i64 (2)) rfl rfl rfl (e_len (a := p) (n := 2) (c := lc) rfl tf163) ?_
                refine l_val (v := .bool true) rfl rfl rfl (e_lss (a := (1 : Int)) (b := (2 : Int)) rfl rfl) ?_
                refine l_nil ?_
                refine f_then ?_
                refine c_yes rfl ?_
                refine c_skip ?_
                refine f_then ?_
                refine c_seq ?_
                refine c_block ?_
                refine c_seq ?_
                refine c_region ?_
                refine l_mv rfl rfl rfl (m_makeN (c := 64) tf39 tf53 tf52 rfl rfl rfl (by decide) (by decide) (by decide)) ?_
                rintro _ _ ⟨b28, rfl, rfl⟩
                refine l_val (v := .slice (some ⟨b28, 0, none⟩) (64) 64) rfl rfl rfl (e_assign) ?_
                refine l_nil ?_
                refine f_then ?_
                refine c_seq ?_
                refine c_seq ?_
                refine c_region ?_
                refine l_val (v := .int .i64 (0)) rfl rfl rfl (e_assign) ?_
                refine l_nil ?_
                refine f_then ?_
                refine c_block ?_
                refine c_loop (fun (i : Nat) (f : Fm) (L : List Res) => (f 0 = .slice p 2 lc ∧ f 5 = .slice (some ⟨b5, 0, none⟩) (2) 2 ∧ f 11 = .int .i64 (1) ∧ f 12 = .slice (some ⟨b28, 0, none⟩) (64) 64 ∧ f 13 = Nx (i)) ∧ L = [row (.slice (some ⟨b28, 0, none⟩) (64) 64) 3 1 (64) ((MK 3 i ++ (repL [.int .i64 (0)] 64).drop i)), row (.slice (some ⟨b24, 0, none⟩) (64) 64) 3 1 (64) ((MK 2 64)), row (.slice (some ⟨b5, 0, none⟩) (2) 2) 26 1 (2) ([.slice rp26 (xs0.length + 64) rc27, .slice gp1 (xs1.length + 64) gc1]), fam (.slice p0 (xs0.length) c0) (.slice rp26 (xs0.length + 64) rc27) 3 (xs0.length) (xs0.length + 64) (MK 0 xs0.length) (MK 0 xs0.length ++ ((MK 2 64))), fam (.slice p1 (xs1.length) c1) (.slice gp1 (xs1.length + 64) gc1) 3 (xs1.length) (xs1.length + 64) (MK 1 xs1.length) (MK 1 (xs1.length + 64))] ∧ (i ≤ 64)) (fun (i : Nat) => 64 - i) 0 ?_ ?_
                · exact ⟨⟨rfl, rfl, rfl, rfl, rfl⟩, (by first | rfl | simp [MK]), (by omega)⟩
                rintro i f0 L0 ⟨⟨hs0, hs5, hs11, hs12, hs13⟩, hL, hi⟩
                subst L0
                refine rebase (d := 0) hs0 ?_
                refine rebase (d := 5) hs5 ?_
                refine rebase (d := 11) hs11 ?_
                refine rebase (d := 12) hs12 ?_
                refine rebase (d := 13) hs13 ?_
                clear hs0 hs5 hs11 hs12 hs13
                refine c_seq ?_
                refine c_seq ?_
                refine c_region ?_
                refine l_val (v := Nx (i)) rfl rfl rfl (e_move) ?_
                refine l_val (v := .bool (decide (((i : Nat) : Int) < (64 : Int)))) rfl rfl rfl (e_lss (a := ((i : Nat) : Int)) (b := (64 : Int)) rfl rfl) ?_
                refine l_nil ?_
                refine f_then ?_
                refine c_if (((i : Nat) : Int) < (64 : Int)) rfl (fun hc29 => ?_) (fun hc29 => ?_)
                ·
                  refine c_skip ?_
                  refine f_then ?_
                  refine c_seq ?_
                  refine c_block ?_
                  refine c_region ?_
                  refine l_val (v := .slice (some ⟨b28, 0, none⟩) (64) 64) rfl rfl rfl (e_move) ?_
                  refine l_val (v := Nx (i)) rfl rfl rfl (e_move) ?_
                  refine l_val (v := .int .i64 (1)) rfl rfl rfl (e_move) ?_
                  refine l_val (v := .slice p 2 lc) rfl rfl rfl (e_move) ?_
                  refine l_val (v := .int .i64 (2)) rfl rfl rfl (e_len (a := p) (n := 2) (c := lc) rfl tf163) ?_
                  refine l_val (v := .int .i64 (3)) rfl rfl rfl (e_add (a := (1 : Int)) (b := (2 : Int)) rfl rfl (by decide)) ?_
                  refine l_val (v := Nx (i)) rfl rfl rfl (e_move) ?_
                  refine l_call rfl rfl rfl (cl_value (fst := []) (cap := []) (vs := [.int .i64 (3), Nx (i)]) (all := [.int .i64 (3), Nx (i)]) tf83 rfl rfl rfl) ?_
                  intro w hw
                  obtain ⟨β1, sb, kn, hw1, back⟩ := St.frame_all hw
                  refine (mark2_ok β1 w hw1 3 i (by omega) (by omega)).mono ?_
                  rintro e w' ⟨rfl, hw'⟩
                  refine ⟨_, rfl, _, back _ _ hw', ?_⟩
                  clear hw hw1 hw' back kn sb
                  refine l_val (v := .pointer (some ((ba (some ⟨b28, 0, none⟩)).add (i * 1)))) rfl rfl rfl (e_indexRow 0 (j := i) (len := 64) (cap := 64) (p := (some ⟨b28, 0, none⟩)) rfl rfl tf39 (by omega) (by omega) rfl) ?_
                  refine l_mu rfl rfl (m_storeRow 0 tf10 (o := i * 1) (v := Nx (mrk 3 i)) rfl rfl rfl rfl rfl (by omega) (by omega)) ?_
                  refine l_nil ?_
                  refine f_block ?_
                  refine f_then ?_
                  refine c_region ?_
                  refine l_val (v := Nx (i)) rfl rfl rfl (e_move) ?_
                  refine l_val (v := Nx (i + 1)) rfl rfl rfl (e_add (a := ((i : Nat) : Int)) (b := (1 : Int)) rfl rfl (i64n (by omega) (by omega))) ?_
                  refine l_val (v := Nx (i + 1)) rfl rfl rfl (e_assign) ?_
                  refine l_nil ?_
                  refine f_perm (L' := [row (.slice (some ⟨b28, 0, none⟩) (64) 64) 3 1 (64) ((overL (MK 3 i ++ (repL [.int .i64 (0)] 64).drop i) (i * 1) [Nx (mrk 3 i)])), row (.slice (some ⟨b24, 0, none⟩) (64) 64) 3 1 (64) ((MK 2 64)), row (.slice (some ⟨b5, 0, none⟩) (2) 2) 26 1 (2) ([.slice rp26 (xs0.length + 64) rc27, .slice gp1 (xs1.length + 64) gc1]), fam (.slice p0 (xs0.length) c0) (.slice rp26 (xs0.length + 64) rc27) 3 (xs0.length) (xs0.length + 64) (MK 0 xs0.length) (MK 0 xs0.length ++ ((MK 2 64))), fam (.slice p1 (xs1.length) c1) (.slice gp1 (xs1.length + 64) gc1) 3 (xs1.length) (xs1.length + 64) (MK 1 xs1.length) (MK 1 (xs1.length + 64))]) (List.Perm.refl _) ?_
                  exact f_cut ⟨i + 1, ⟨⟨rfl, rfl, rfl, rfl, rfl⟩, (by rw [mk_step]), (by omega)⟩, (show 64 - (i + 1) < 64 - i from by omega)⟩
                ·
                  refine c_exit ?_
                  refine f_then_exit ?_
                  refine f_then_exit ?_
                  refine f_exit ?_
                  refine f_then ?_
                  have hie : i = 64 := by omega
                  subst hie
                  refine c_perm (L' := [row (.slice (some ⟨b28, 0, none⟩) (64) 64) 3 1 (64) ((MK 3 64 ++ (repL [.int .i64 (0)] 64).drop 64)), row (.slice (some ⟨b24, 0, none⟩) (64) 64) 3 1 (64) ((MK 2 64)), row (.slice (some ⟨b5, 0, none⟩) (2) 2) 26 1 (2) ([.slice rp26 (xs0.length + 64) rc27, .slice gp1 (xs1.length + 64) gc1]), fam (.slice p0 (xs0.length) c0) (.slice rp26 (xs0.length + 64) rc27) 3 (xs0.length) (xs0.length + 64) (MK 0 xs0.length) (MK 0 xs0.length ++ ((MK 2 64))), fam (.slice p1 (xs1.length) c1) (.slice gp1 (xs1.length + 64) gc1) 3 (xs1.length) (xs1.length + 64) (MK 1 xs1.length) (MK 1 (xs1.length + 64))]) (List.Perm.refl _) ?_
                  rw [mk_done (k := 3) (R := (repL [.int .i64 (0)] 64)) (by simp [repL_length])]
                  refine c_turn (fun w h => h.conseq_at 4 rfl (r' := fam (.slice p1 (xs1.length) c1) (.slice p1 (xs1.length) c1) 3 (xs1.length) (xs1.length) (MK 1 xs1.length) (MK 1 xs1.length)) (fun a h => fam_start a (fam_first a h))) ?_
                  refine c_perm (L' := [row (.slice (some ⟨b28, 0, none⟩) (64) 64) 3 1 (64) ((MK 3 64)), row (.slice (some ⟨b24, 0, none⟩) (64) 64) 3 1 (64) ((MK 2 64)), row (.slice (some ⟨b5, 0, none⟩) (2) 2) 26 1 (2) ([.slice rp26 (xs0.length + 64) rc27, .slice gp1 (xs1.length + 64) gc1]), fam (.slice p0 (xs0.length) c0) (.slice rp26 (xs0.length + 64) rc27) 3 (xs0.length) (xs0.length + 64) (MK 0 xs0.length) (MK 0 xs0.length ++ ((MK 2 64))), fam (.slice p1 (xs1.length) c1) (.slice p1 (xs1.length) c1) 3 (xs1.length) (xs1.length) (MK 1 xs1.length) (MK 1 xs1.length)]) (List.Perm.refl _) ?_
                  refine c_region ?_
                  refine l_val (v := .slice (some ⟨b5, 0, none⟩) (2) 2) rfl rfl rfl (e_move) ?_
                  refine l_val (v := .int .i64 (1)) rfl rfl rfl (e_move) ?_
                  refine l_val (v := .slice p 2 lc) rfl rfl rfl (e_move) ?_
                  refine l_val (v := .int .i64 (1)) rfl rfl rfl (e_move) ?_
                  refine l_val (v := .pointer (some ((ba p).add (1 * 1)))) rfl rfl rfl (e_indexAddr (k := 1) (len := 2) (cap := lc) (a := p) rfl rfl tf164 (by decide) hp) ?_
                  refine l_val (v := .slice p1 (xs1.length) c1) rfl rfl rfl (e_load1 tf165 (v := .slice p1 (xs1.length) c1) rfl (Knows.of_base (Cs.mono _ _) (Cs.sub (vs := [.slice p1 (xs1.length) c1]) (1 * 1) hls rfl))) ?_
                  refine l_val (v := .slice (some ⟨b28, 0, none⟩) (64) 64) rfl rfl rfl (e_move) ?_
                  refine l_mv rfl rfl rfl (m_append_fam 4 tf39 tf53 (u := .slice p1 (xs1.length) c1) (m := xs1.length) (us := MK 1 xs1.length) (ad := ⟨b28, 0, none⟩) (k := 64) (c := 64) (news := ((MK 3 64))) rfl rfl rfl (by rw [MK_len]) (k_row_all (p := (some ⟨b28, 0, none⟩)) (m := 64) 0 rfl (by omega)) (MK_one _ _) (by omega) (by unfold maxLen; omega) (by omega)) ?_
                  rintro _ _ ⟨rp30, rc31, rfl, rfl⟩
                  refine l_val (v := .pointer (some ((ba (some ⟨b5, 0, none⟩)).add (1 * 1)))) rfl rfl rfl (e_indexRow 2 (j := 1) (len := 2) (cap := 2) (p := (some ⟨b5, 0, none⟩)) rfl rfl tf164 (by omega) (by omega) rfl) ?_
                  refine l_mu rfl rfl (m_storeRow 2 tf165 (o := 1 * 1) (v := .slice rp30 (xs1.length + 64) rc31) rfl rfl rfl rfl rfl (by omega) (by omega)) ?_
                  refine l_nil ?_
                  refine f_block ?_
                  refine f_then ?_
                  refine c_perm (L' := [row (.slice (some ⟨b28, 0, none⟩) (64) 64) 3 1 (64) ((MK 3 64)), row (.slice (some ⟨b24, 0, none⟩) (64) 64) 3 1 (64) ((MK 2 64)), row (.slice (some ⟨b5, 0, none⟩) (2) 2) 26 1 (2) ([.slice rp26 (xs0.length + 64) rc27, .slice rp30 (xs1.length + 64) rc31]), fam (.slice p0 (xs0.length) c0) (.slice rp26 (xs0.length + 64) rc27) 3 (xs0.length) (xs0.length + 64) (MK 0 xs0.length) (MK 0 xs0.length ++ ((MK 2 64))), fam (.slice p1 (xs1.length) c1) (.slice rp30 (xs1.length + 64) rc31) 3 (xs1.length) (xs1.length + 64) (MK 1 xs1.length) (MK 1 xs1.length ++ ((MK 3 64)))]) (List.Perm.refl _) ?_
                  refine c_region ?_
                  refine l_val (v := .int .i64 (1)) rfl rfl rfl (e_move) ?_
                  refine l_val (v := .int .i64 (2)) rfl rfl rfl (e_add (a := (1 : Int)) (b := (1 : Int)) rfl rfl (by decide)) ?_
                  refine l_val (v := .int .i64 (2)) rfl rfl rfl (e_assign) ?_
                  refine l_nil ?_
                  refine f_cut ?_
                  refine un_succ 0 ?_
                  refine c_seq ?_
                  refine c_seq ?_
                  refine c_region ?_
                  refine l_val (v := .int .i64 (2)) rfl rfl rfl (e_move) ?_
                  refine l_val (v := .slice p 2 lc) rfl rfl rfl (e_move) ?_
                  refine l_val (v := .int .i64 (2)) rfl rfl rfl (e_len (a := p) (n := 2) (c := lc) rfl tf163) ?_
                  refine l_val (v := .bool false) rfl rfl rfl (e_lss (a := (2 : Int)) (b := (2 : Int)) rfl rfl) ?_
                  refine l_nil ?_
                  refine f_then ?_
                  refine c_no rfl ?_
                  refine c_exit ?_
                  refine f_then_exit ?_
                  refine f_then_exit ?_
                  refine f_exit ?_
                  refine f_then ?_
                  refine c_seq ?_
                  refine c_seq ?_
                  refine c_region ?_
                  refine l_val (v := .int .i64 (0)) rfl rfl rfl (e_assign) ?_
                  refine l_nil ?_
                  refine f_then ?_
                  refine c_block ?_
                  refine c_unroll 3 ?_
                  refine un_succ 2 ?_
                  refine c_seq ?_
                  refine c_seq ?_
                  refine c_region ?_
                  refine l_val (v := .int .i64 (0)) rfl rfl rfl (e_move) ?_
                  refine l_val (v := .slice p 2 lc) rfl rfl rfl (e_move) ?_
                  refine l_val (v := .int .i64 (2)) rfl rfl rfl (e_len (a := p) (n := 2) (c := lc) rfl tf163) ?_
                  refine l_val (v := .bool true) rfl rfl rfl (e_lss (a := (0 : Int)) (b := (2 : Int)) rfl rfl) ?_
                  refine l_nil ?_
                  refine f_then ?_
                  refine c_yes rfl ?_
                  refine c_skip ?_
                  refine f_then ?_
                  refine c_seq ?_
                  refine c_block ?_
                  refine c_seq ?_
                  refine c_region ?_
                  refine l_val (v := .int .i64 (0)) rfl rfl rfl (e_assign) ?_
                  refine l_nil ?_
                  refine f_then ?_
                  refine c_block ?_
                  refine c_loop (fun (i : Nat) (f : Fm) (L : List Res) => (f 0 = .slice p 2 lc ∧ f 5 = .slice (some ⟨b5, 0, none⟩) (2) 2 ∧ f 14 = .int .i64 (0) ∧ f 15 = Nx (i)) ∧ L = [row (.slice (some ⟨b28, 0, none⟩) (64) 64) 3 1 (64) ((MK 3 64)), row (.slice (some ⟨b24, 0, none⟩) (64) 64) 3 1 (64) ((MK 2 64)), row (.slice (some ⟨b5, 0, none⟩) (2) 2) 26 1 (2) ([.slice rp26 (xs0.length + 64) rc27, .slice rp30 (xs1.length + 64) rc31]), fam (.slice p0 (xs0.length) c0) (.slice rp26 (xs0.length + 64) rc27) 3 (xs0.length) (xs0.length + 64) (MK 0 xs0.length) (MK 0 xs0.length ++ ((MK 2 64))), fam (.slice p1 (xs1.length) c1) (.slice rp30 (xs1.length + 64) rc31) 3 (xs1.length) (xs1.length + 64) (MK 1 xs1.length) (MK 1 xs1.length ++ ((MK 3 64)))] ∧ (i ≤ xs0.length)) (fun (i : Nat) => xs0.length - i) 0 ?_ ?_
                  · exact ⟨⟨rfl, rfl, rfl, rfl⟩, rfl, (by omega)⟩
                  rintro i f0 L0 ⟨⟨hs0, hs5, hs14, hs15⟩, hL, hi⟩
                  subst L0
                  refine rebase (d := 0) hs0 ?_
                  refine rebase (d := 5) hs5 ?_
                  refine rebase (d := 14) hs14 ?_
                  refine rebase (d := 15) hs15 ?_
                  clear hs0 hs5 hs14 hs15
                  refine c_seq ?_
                  refine c_seq ?_
                  refine c_region ?_
                  refine l_val (v := Nx (i)) rfl rfl rfl (e_move) ?_
                  refine l_val (v := .slice p 2 lc) rfl rfl rfl (e_move) ?_
                  refine l_val (v := .int .i64 (0)) rfl rfl rfl (e_move) ?_
                  refine l_val (v := .pointer (some ((ba p).add (0 * 1)))) rfl rfl rfl (e_indexAddr (k := 0) (len := 2) (cap := lc) (a := p) rfl rfl tf164 (by decide) hp) ?_
                  refine l_val (v := .slice p0 (xs0.length) c0) rfl rfl rfl (e_load1 tf165 (v := .slice p0 (xs0.length) c0) rfl (Knows.of_base (Cs.mono _ _) (Cs.sub (vs := [.slice p0 (xs0.length) c0]) (0 * 1) hls rfl))) ?_
                  refine l_val (v := Nx (xs0.length)) rfl rfl rfl (e_len (a := p0) (n := xs0.length) (c := c0) rfl tf38) ?_
                  refine l_val (v := .bool (decide (((i : Nat) : Int) < ((xs0.length : Nat) : Int)))) rfl rfl rfl (e_lss (a := ((i : Nat) : Int)) (b := ((xs0.length : Nat) : Int)) rfl rfl) ?_
                  refine l_nil ?_
                  refine f_then ?_
                  refine c_if (((i : Nat) : Int) < ((xs0.length : Nat) : Int)) rfl (fun hc32 => ?_) (fun hc32 => ?_)
                  ·
                    refine c_skip ?_
                    refine f_then ?_
                    refine c_seq ?_
                    refine c_block ?_
                    refine c_seq ?_
                    refine c_quiet (by kernel_rfl) (by kernel_rfl) ?_
                    refine q_val (v := .slice p 2 lc) rfl rfl rfl (e_move) ?_
                    refine q_val (v := .int .i64 (0)) rfl rfl rfl (e_move) ?_
                    refine q_val (v := .pointer (some ((ba p).add (0 * 1)))) rfl rfl rfl (e_indexAddr (k := 0) (len := 2) (cap := lc) (a := p) rfl rfl tf164 (by decide) hp) ?_
                    refine q_val (v := .slice p0 (xs0.length) c0) rfl rfl rfl (e_load1 tf165 (v := .slice p0 (xs0.length) c0) rfl (Knows.of_base (Cs.mono _ _) (Cs.sub (vs := [.slice p0 (xs0.length) c0]) (0 * 1) hls rfl))) ?_
                    refine q_val (v := Nx (i)) rfl rfl rfl (e_move) ?_
                    refine q_val (v := .pointer (some ((ba p0).add (i * 1)))) rfl rfl rfl (e_indexFam1 3 (j := i) (len := xs0.length) (cap := c0) (p := p0) rfl rfl tf39 (by omega) (by omega) rfl) ?_
                    refine q_val (v := Nx (mrk 0 i)) rfl rfl rfl (e_load1 tf10 (v := Nx (mrk 0 i)) rfl (k_fam1 3 (o := i * 1) (zs := [Nx (mrk 0 i)]) rfl (mk_at (by omega)) (Nat.succ_pos _))) ?_
                    refine q_val (v := .int .i64 (0)) rfl rfl rfl (e_move) ?_
                    refine q_val (v := Nx (i)) rfl rfl rfl (e_move) ?_
                    refine q_call (v := Nx (mrk 0 i)) rfl rfl rfl (cl_value (fst := []) (cap := []) (vs := [.int .i64 (0), Nx (i)]) (all := [.int .i64 (0), Nx (i)]) tf83 rfl rfl rfl) (fun w hw => ?_) ?_
                    · obtain ⟨β1, sb, kn, hw1, back⟩ := St.frame_all hw
                      exact (mark2_ok β1 w hw1 0 i (by omega) (by omega)).mono (fun e w' ⟨he, hw'⟩ => ⟨he, st_mask [true, true, true, true, true] rfl (back _ _ hw')⟩)
                    refine q_val (v := .bool (decide (((mrk 0 i : Nat) : Int) = ((mrk 0 i : Nat) : Int)))) rfl rfl rfl (e_eql (a := ((mrk 0 i : Nat) : Int)) (b := ((mrk 0 i : Nat) : Int)) rfl rfl) ?_
                    refine q_val (v := .bool (decide (¬ (((mrk 0 i : Nat) : Int) = ((mrk 0 i : Nat) : Int))))) rfl rfl rfl (e_not_p (p := ((mrk 0 i : Nat) : Int) = ((mrk 0 i : Nat) : Int)) rfl) ?_
                    refine q_val (v := .bool (decide (¬ (((mrk 0 i : Nat) : Int) = ((mrk 0 i : Nat) : Int))))) rfl rfl rfl (e_move) ?_
                    refine q_split (s := 179) (p := ¬ (((mrk 0 i : Nat) : Int) = ((mrk 0 i : Nat) : Int))) rfl (fun h => ?_) (fun h => ?_)
                    exact absurd h (fun h => h rfl)
                    refine qg_val (v := .slice (some ⟨b5, 0, none⟩) (2) 2) rfl rfl rfl rfl rfl (e_move) ?_
                    refine qg_val (v := .int .i64 (0)) rfl rfl rfl rfl rfl (e_move) ?_
                    refine qg_val (v := .pointer (some ((ba (some ⟨b5, 0, none⟩)).add (0 * 1)))) rfl rfl rfl rfl rfl (e_indexRow 2 (j := 0) (len := 2) (cap := 2) (p := (some ⟨b5, 0, none⟩)) rfl rfl tf164 (by omega) (by omega) rfl) ?_
                    refine qg_val (v := .slice rp26 (xs0.length + 64) rc27) rfl rfl rfl rfl rfl (e_load1 tf165 (v := .slice rp26 (xs0.length + 64) rc27) rfl (k_row 2 (o := 0 * 1) (us := [.slice rp26 (xs0.length + 64) rc27]) rfl rfl (Nat.succ_pos _))) ?_
                    refine qg_val (v := Nx (i)) rfl rfl rfl rfl rfl (e_move) ?_
                    refine qg_val (v := .pointer (some ((ba rp26).add (i * 1)))) rfl rfl rfl rfl rfl (e_indexFam2 3 (j := i) (len := xs0.length + 64) (cap := rc27) (p := rp26) rfl rfl tf39 (by omega) (by omega) rfl) ?_
                    refine qg_val (v := Nx (mrk 0 i)) rfl rfl rfl rfl rfl (e_load1 tf10 (v := Nx (mrk 0 i)) rfl (k_fam2 3 (o := i * 1) (zs := [Nx (mrk 0 i)]) rfl (mk_at2 (by omega)) (Nat.succ_pos _))) ?_
                    refine qg_val (v := .int .i64 (0)) rfl rfl rfl rfl rfl (e_move) ?_
                    refine qg_val (v := Nx (i)) rfl rfl rfl rfl rfl (e_move) ?_
                    refine qg_call (v := Nx (mrk 0 i)) rfl rfl rfl rfl rfl (cl_value (fst := []) (cap := []) (vs := [.int .i64 (0), Nx (i)]) (all := [.int .i64 (0), Nx (i)]) tf83 rfl rfl rfl) (fun w hw => ?_) ?_
                    · obtain ⟨β1, sb, kn, hw1, back⟩ := St.frame_all hw
                      exact (mark2_ok β1 w hw1 0 i (by omega) (by omega)).mono (fun e w' ⟨he, hw'⟩ => ⟨he, st_mask [true, true, true, true, true] rfl (back _ _ hw')⟩)
                    refine qg_val (v := .bool (decide (((mrk 0 i : Nat) : Int) = ((mrk 0 i : Nat) : Int)))) rfl rfl rfl rfl rfl (e_eql (a := ((mrk 0 i : Nat) : Int)) (b := ((mrk 0 i : Nat) : Int)) rfl rfl) ?_
                    refine qg_val (v := .bool (decide (¬ (((mrk 0 i : Nat) : Int) = ((mrk 0 i : Nat) : Int))))) rfl rfl rfl rfl rfl (e_not_p (p := ((mrk 0 i : Nat) : Int) = ((mrk 0 i : Nat) : Int)) rfl) ?_
                    refine q_val (v := .bool (decide (¬ (((mrk 0 i : Nat) : Int) = ((mrk 0 i : Nat) : Int))))) rfl rfl rfl (e_pick_f rfl) ?_
                    refine q_nil ?_
                    refine f_then ?_
                    refine c_if (¬ (((mrk 0 i : Nat) : Int) = ((mrk 0 i : Nat) : Int))) rfl (fun hc33 => ?_) (fun hc33 => ?_)
                    ·
                      exact absurd hc33 (fun h => h rfl)
                    ·
                      refine c_skip ?_
                      refine f_block ?_
                      refine f_then ?_
                      refine c_region ?_
                      refine l_val (v := Nx (i)) rfl rfl rfl (e_move) ?_
                      refine l_val (v := Nx (i + 1)) rfl rfl rfl (e_add (a := ((i : Nat) : Int)) (b := (1 : Int)) rfl rfl (i64n (by omega) (by omega))) ?_
                      refine l_val (v := Nx (i + 1)) rfl rfl rfl (e_assign) ?_
                      refine l_nil ?_
                      exact f_cut ⟨i + 1, ⟨⟨rfl, rfl, rfl, rfl⟩, rfl, (by omega)⟩, (show xs0.length - (i + 1) < xs0.length - i from by omega)⟩
                  ·
                    refine c_exit ?_
                    refine f_then_exit ?_
                    refine f_then_exit ?_
                    refine f_exit ?_
                    refine f_block ?_
                    refine f_then ?_
                    refine c_region ?_
                    refine l_val (v := .int .i64 (0)) rfl rfl rfl (e_move) ?_
                    refine l_val (v := .int .i64 (1)) rfl rfl rfl (e_add (a := (0 : Int)) (b := (1 : Int)) rfl rfl (by decide)) ?_
                    refine l_val (v := .int .i64 (1)) rfl rfl rfl (e_assign) ?_
                    refine l_nil ?_
                    refine f_cut ?_
                    refine un_succ 1 ?_
                    refine c_seq ?_
                    refine c_seq ?_
                    refine c_region ?_
                    refine l_val (v := .int .i64 (1)) rfl rfl rfl (e_move) ?_
                    refine l_val (v := .slice p 2 lc) rfl rfl rfl (e_move) ?_
                    refine l_val (v := .int .i64 (2)) rfl rfl rfl (e_len (a := p) (n := 2) (c := lc) rfl tf163) ?_
                    refine l_val (v := .bool true) rfl rfl rfl (e_lss (a := (1 : Int)) (b := (2 : Int)) rfl rfl) ?_
                    refine l_nil ?_
                    refine f_then ?_
                    refine c_yes rfl ?_
                    refine c_skip ?_
                    refine f_then ?_
                    refine c_seq ?_
                    refine c_block ?_
                    refine c_seq ?_
                    refine c_region ?_
                    refine l_val (v := .int .i64 (0)) rfl rfl rfl (e_assign) ?_
                    refine l_nil ?_
                    refine f_then ?_
                    refine c_block ?_
                    refine c_loop (fun (i : Nat) (f : Fm) (L : List Res) => (f 0 = .slice p 2 lc ∧ f 5 = .slice (some ⟨b5, 0, none⟩) (2) 2 ∧ f 14 = .int .i64 (1) ∧ f 15 = Nx (i)) ∧ L = [row (.slice (some ⟨b28, 0, none⟩) (64) 64) 3 1 (64) ((MK 3 64)), row (.slice (some ⟨b24, 0, none⟩) (64) 64) 3 1 (64) ((MK 2 64)), row (.slice (some ⟨b5, 0, none⟩) (2) 2) 26 1 (2) ([.slice rp26 (xs0.length + 64) rc27, .slice rp30 (xs1.length + 64) rc31]), fam (.slice p0 (xs0.length) c0) (.slice rp26 (xs0.length + 64) rc27) 3 (xs0.length) (xs0.length + 64) (MK 0 xs0.length) (MK 0 xs0.length ++ ((MK 2 64))), fam (.slice p1 (xs1.length) c1) (.slice rp30 (xs1.length + 64) rc31) 3 (xs1.length) (xs1.length + 64) (MK 1 xs1.length) (MK 1 xs1.length ++ ((MK 3 64)))] ∧ (i ≤ xs1.length)) (fun (i : Nat) => xs1.length - i) 0 ?_ ?_
                    · exact ⟨⟨rfl, rfl, rfl, rfl⟩, rfl, (by omega)⟩
                    rintro i f0 L0 ⟨⟨hs0, hs5, hs14, hs15⟩, hL, hi⟩
                    subst L0
                    refine rebase (d := 0) hs0 ?_
                    refine rebase (d := 5) hs5 ?_
                    refine rebase (d := 14) hs14 ?_
                    refine rebase (d := 15) hs15 ?_
                    clear hs0 hs5 hs14 hs15
                    refine c_seq ?_
                    refine c_seq ?_
                    refine c_region ?_
                    refine l_val (v := Nx (i)) rfl rfl rfl (e_move) ?_
                    refine l_val (v := .slice p 2 lc) rfl rfl rfl (e_move) ?_
                    refine l_val (v := .int .i64 (1)) rfl rfl rfl (e_move) ?_
                    refine l_val (v := .pointer (some ((ba p).add (1 * 1)))) rfl rfl rfl (e_indexAddr (k := 1) (len := 2) (cap := lc) (a := p) rfl rfl tf164 (by decide) hp) ?_
                    refine l_val (v := .slice p1 (xs1.length) c1) rfl rfl rfl (e_load1 tf165 (v := .slice p1 (xs1.length) c1) rfl (Knows.of_base (Cs.mono _ _) (Cs.sub (vs := [.slice p1 (xs1.length) c1]) (1 * 1) hls rfl))) ?_
                    refine l_val (v := Nx (xs1.length)) rfl rfl rfl (e_len (a := p1) (n := xs1.length) (c := c1) rfl tf38) ?_
                    refine l_val (v := .bool (decide (((i : Nat) : Int) < ((xs1.length : Nat) : Int)))) rfl rfl rfl (e_lss (a := ((i : Nat) : Int)) (b := ((xs1.length : Nat) : Int)) rfl rfl) ?_
                    refine l_nil ?_
                    refine f_then ?_
                    refine c_if (((i : Nat) : Int) < ((xs1.length : Nat) : Int)) rfl (fun hc34 => ?_) (fun hc34 => ?_)
                    ·
                      refine c_skip ?_
                      refine f_then ?_
                      refine c_seq ?_
                      refine c_block ?_
                      refine c_seq ?_
                      refine c_quiet (by kernel_rfl) (by kernel_rfl) ?_
                      refine q_val (v := .slice p 2 lc) rfl rfl rfl (e_move) ?_
                      refine q_val (v := .int .i64 (1)) rfl rfl rfl (e_move) ?_
                      refine q_val (v := .pointer (some ((ba p).add (1 * 1)))) rfl rfl rfl (e_indexAddr (k := 1) (len := 2) (cap := lc) (a := p) rfl rfl tf164 (by decide) hp) ?_
                      refine q_val (v := .slice p1 (xs1.length) c1) rfl rfl rfl (e_load1 tf165 (v := .slice p1 (xs1.length) c1) rfl (Knows.of_base (Cs.mono _ _) (Cs.sub (vs := [.slice p1 (xs1.length) c1]) (1 * 1) hls rfl))) ?_
                      refine q_val (v := Nx (i)) rfl rfl rfl (e_move) ?_
                      refine q_val (v := .pointer (some ((ba p1).add (i * 1)))) rfl rfl rfl (e_indexFam1 4 (j := i) (len := xs1.length) (cap := c1) (p := p1) rfl rfl tf39 (by omega) (by omega) rfl) ?_
                      refine q_val (v := Nx (mrk 1 i)) rfl rfl rfl (e_load1 tf10 (v := Nx (mrk 1 i)) rfl (k_fam1 4 (o := i * 1) (zs := [Nx (mrk 1 i)]) rfl (mk_at (by omega)) (Nat.succ_pos _))) ?_
                      refine q_val (v := .int .i64 (1)) rfl rfl rfl (e_move) ?_
                      refine q_val (v := Nx (i)) rfl rfl rfl (e_move) ?_
                      refine q_call (v := Nx (mrk 1 i)) rfl rfl rfl (cl_value (fst := []) (cap := []) (vs := [.int .i64 (1), Nx (i)]) (all := [.int .i64 (1), Nx (i)]) tf83 rfl rfl rfl) (fun w hw => ?_) ?_
                      · obtain ⟨β1, sb, kn, hw1, back⟩ := St.frame_all hw
                        exact (mark2_ok β1 w hw1 1 i (by omega) (by omega)).mono (fun e w' ⟨he, hw'⟩ => ⟨he, st_mask [true, true, true, true, true] rfl (back _ _ hw')⟩)
                      refine q_val (v := .bool (decide (((mrk 1 i : Nat) : Int) = ((mrk 1 i : Nat) : Int)))) rfl rfl rfl (e_eql (a := ((mrk 1 i : Nat) : Int)) (b := ((mrk 1 i : Nat) : Int)) rfl rfl) ?_
                      refine q_val (v := .bool (decide (¬ (((mrk 1 i : Nat) : Int) = ((mrk 1 i : Nat) : Int))))) rfl rfl rfl (e_not_p (p := ((mrk 1 i : Nat) : Int) = ((mrk 1 i : Nat) : Int)) rfl) ?_
                      refine q_val (v := .bool (decide (¬ (((mrk 1 i : Nat) : Int) = ((mrk 1 i : Nat) : Int))))) rfl rfl rfl (e_move) ?_
                      refine q_split (s := 179) (p := ¬ (((mrk 1 i : Nat) : Int) = ((mrk 1 i : Nat) : Int))) rfl (fun h => ?_) (fun h => ?_)
                      exact absurd h (fun h => h rfl)
                      refine qg_val (v := .slice (some ⟨b5, 0, none⟩) (2) 2) rfl rfl rfl rfl rfl (e_move) ?_
                      refine qg_val (v := .int .i64 (1)) rfl rfl rfl rfl rfl (e_move) ?_
                      refine qg_val (v := .pointer (some ((ba (some ⟨b5, 0, none⟩)).add (1 * 1)))) rfl rfl rfl rfl rfl (e_indexRow 2 (j := 1) (len := 2) (cap := 2) (p := (some ⟨b5, 0, none⟩)) rfl rfl tf164 (by omega) (by omega) rfl) ?_
                      refine qg_val (v := .slice rp30 (xs1.length + 64) rc31) rfl rfl rfl rfl rfl (e_load1 tf165 (v := .slice rp30 (xs1.length + 64) rc31) rfl (k_row 2 (o := 1 * 1) (us := [.slice rp30 (xs1.length + 64) rc31]) rfl rfl (Nat.succ_pos _))) ?_
                      refine qg_val (v := Nx (i)) rfl rfl rfl rfl rfl (e_move) ?_
                      refine qg_val (v := .pointer (some ((ba rp30).add (i * 1)))) rfl rfl rfl rfl rfl (e_indexFam2 4 (j := i) (len := xs1.length + 64) (cap := rc31) (p := rp30) rfl rfl tf39 (by omega) (by omega) rfl) ?_
                      refine qg_val (v := Nx (mrk 1 i)) rfl rfl rfl rfl rfl (e_load1 tf10 (v := Nx (mrk 1 i)) rfl (k_fam2 4 (o := i * 1) (zs := [Nx (mrk 1 i)]) rfl (mk_at2 (by omega)) (Nat.succ_pos _))) ?_
                      refine qg_val (v := .int .i64 (1)) rfl rfl rfl rfl rfl (e_move) ?_
                      refine qg_val (v := Nx (i)) rfl rfl rfl rfl rfl (e_move) ?_
                      refine qg_call (v := Nx (mrk 1 i)) rfl rfl rfl rfl rfl (cl_value (fst := []) (cap := []) (vs := [.int .i64 (1), Nx (i)]) (all := [.int .i64 (1), Nx (i)]) tf83 rfl rfl rfl) (fun w hw => ?_) ?_
                      · obtain ⟨β1, sb, kn, hw1, back⟩ := St.frame_all hw
                        exact (mark2_ok β1 w hw1 1 i (by omega) (by omega)).mono (fun e w' ⟨he, hw'⟩ => ⟨he, st_mask [true, true, true, true, true] rfl (back _ _ hw')⟩)
                      refine qg_val (v := .bool (decide (((mrk 1 i : Nat) : Int) = ((mrk 1 i : Nat) : Int)))) rfl rfl rfl rfl rfl (e_eql (a := ((mrk 1 i : Nat) : Int)) (b := ((mrk 1 i : Nat) : Int)) rfl rfl) ?_
                      refine qg_val (v := .bool (decide (¬ (((mrk 1 i : Nat) : Int) = ((mrk 1 i : Nat) : Int))))) rfl rfl rfl rfl rfl (e_not_p (p := ((mrk 1 i : Nat) : Int) = ((mrk 1 i : Nat) : Int)) rfl) ?_
                      refine q_val (v := .bool (decide (¬ (((mrk 1 i : Nat) : Int) = ((mrk 1 i : Nat) : Int))))) rfl rfl rfl (e_pick_f rfl) ?_
                      refine q_nil ?_
                      refine f_then ?_
                      refine c_if (¬ (((mrk 1 i : Nat) : Int) = ((mrk 1 i : Nat) : Int))) rfl (fun hc35 => ?_) (fun hc35 => ?_)
                      ·
                        exact absurd hc35 (fun h => h rfl)
                      ·
                        refine c_skip ?_
                        refine f_block ?_
                        refine f_then ?_
                        refine c_region ?_
                        refine l_val (v := Nx (i)) rfl rfl rfl (e_move) ?_
                        refine l_val (v := Nx (i + 1)) rfl rfl rfl (e_add (a := ((i : Nat) : Int)) (b := (1 : Int)) rfl rfl (i64n (by omega) (by omega))) ?_
                        refine l_val (v := Nx (i + 1)) rfl rfl rfl (e_assign) ?_
                        refine l_nil ?_
                        exact f_cut ⟨i + 1, ⟨⟨rfl, rfl, rfl, rfl⟩, rfl, (by omega)⟩, (show xs1.length - (i + 1) < xs1.length - i from by omega)⟩
                    ·
                      refine c_exit ?_
                      refine f_then_exit ?_
                      refine f_then_exit ?_
                      refine f_exit ?_
                      refine f_block ?_
                      refine f_then ?_
                      refine c_region ?_
                      refine l_val (v := .int .i64 (1)) rfl rfl rfl (e_move) ?_
                      refine l_val (v := .int .i64 (2)) rfl rfl rfl (e_add (a := (1 : Int)) (b := (1 : Int)) rfl rfl (by decide)) ?_
                      refine l_val (v := .int .i64 (2)) rfl rfl rfl (e_assign) ?_
                      refine l_nil ?_
                      refine f_cut ?_
                      refine un_succ 0 ?_
                      refine c_seq ?_
                      refine c_seq ?_
                      refine c_region ?_
                      refine l_val (v := .int .i64 (2)) rfl rfl rfl (e_move) ?_
                      refine l_val (v := .slice p 2 lc) rfl rfl rfl (e_move) ?_
                      refine l_val (v := .int .i64 (2)) rfl rfl rfl (e_len (a := p) (n := 2) (c := lc) rfl tf163) ?_
                      refine l_val (v := .bool false) rfl rfl rfl (e_lss (a := (2 : Int)) (b := (2 : Int)) rfl rfl) ?_
                      refine l_nil ?_
                      refine f_then ?_
                      refine c_no rfl ?_
                      refine c_exit ?_
                      refine f_then_exit ?_
                      refine f_then_exit ?_
                      refine f_exit ?_
                      refine f_then ?_
                      refine c_seq ?_
                      refine c_region ?_
                      refine l_val (v := .bool true) rfl rfl rfl (e_assign) ?_
                      refine l_nil ?_
                      refine f_then ?_
                      refine c_ret ?_
                      refine ret1 Tryz.results48 (v := .bool true) rfl ?_
                      intro w hw
                      exact ⟨rfl, st_mask [false, false, false, false, false] rfl hw⟩
end Go.Proofs
