/-
  The examples of the chapter: walked. Printed by a program of my own.
-/
import Derived.Test.YthncdmfogeemcaaGreatPt6
import Derived.Test.YthncdmfogeemcaaGreatPtAwk
namespace Go.Pth
open Go.Sl Go.Brd Go.Proofs
abbrev poE (o : KO) : List Value := [Nx o.a, Nx o.b, Ix o.x, Ix o.y]
abbrev veE (o : KV) : List Value := [Ix o.x, Ix o.y]
theorem po_eq {x y : KO} : poE x = poE y ↔ x = y := by
  cases x; cases y
  simp only [poE, List.cons.injEq, Value.int.injEq, true_and, and_true, KO.mk.injEq, Int.ofNat_inj]
theorem ve_eq {x y : KV} : veE x = veE y ↔ x = y := by
  cases x; cases y
  simp only [veE, List.cons.injEq, Value.int.injEq, true_and, and_true, KV.mk.injEq]
theorem ar_eq {x y : KA} : areaE x = areaE y ↔ x = y := by
  cases x; cases y
  simp only [areaE, List.cons.injEq, Value.int.injEq, true_and, and_true, KA.mk.injEq]
section
variable {α : Type} {xs ys : List α}
theorem same_next {k : Nat} {x y : α} (hx : xs[k]? = some x) (hy : ys[k]? = some y) (e : x = y) (h : xs.take k = ys.take k) : xs.take (k + 1) = ys.take (k + 1) := by
  rw [List.take_add_one, List.take_add_one, hx, hy, h, e]
theorem same_at {k : Nat} {x y : α} (q : xs = ys) (hx : xs[k]? = some x) (hy : ys[k]? = some y) : x = y := by
  subst q; rw [hx] at hy; exact Option.some.inj hy
theorem same_done {k : Nat} (h1 : xs.length ≤ k) (h2 : ys.length ≤ k) (h : xs.take k = ys.take k) : xs = ys := by
  rwa [List.take_of_length_le h1, List.take_of_length_le h2] at h
end
end Go.Pth
namespace Go.Proofs
open Go Go.Sl Go.Brd Go.Pth
theorem awF1 (β : Base) (w : World) (hw : St β [] w) (v : Value) (hs : Sl AreaF.R β.heap v FOUR) : Calls Tryz.prog 11 #[v, .agg #[.int .i64 (0), .int .i64 (5)], .agg #[.int .i64 (30), .int .i64 (5)]] w fun r w' => ∃ c d, r = .returned (.tuple #[.slice c 4 d, .int .i64 (480), .int .i64 (0)]) ∧ St β [rowF VecF 27 c d ([⟨0, 5⟩, ⟨10, 5⟩, ⟨20, 5⟩, ⟨30, 5⟩] : List KV)] w' := by
  refine (find_ok β w hw v FOUR hs ⟨0, 5⟩ ⟨30, 5⟩).mono ?_
  rintro r w' ⟨c, d, way, n, err, rfl, hF, -, hw'⟩
  obtain ⟨rfl, rfl, rfl⟩ := aw1 hF
  exact ⟨c, d, rfl, hw'⟩
theorem awF2 (β : Base) (w : World) (hw : St β [] w) (v : Value) (hs : Sl AreaF.R β.heap v FOUR) : Calls Tryz.prog 11 #[v, .agg #[.int .i64 (5), .int .i64 (20)], .agg #[.int .i64 (25), .int .i64 (5)]] w fun r w' => ∃ c d, r = .returned (.tuple #[.slice c 5 d, .int .i64 (526), .int .i64 (0)]) ∧ St β [rowF VecF 27 c d ([⟨5, 20⟩, ⟨4, 10⟩, ⟨10, 5⟩, ⟨20, 5⟩, ⟨25, 5⟩] : List KV)] w' := by
  refine (find_ok β w hw v FOUR hs ⟨5, 20⟩ ⟨25, 5⟩).mono ?_
  rintro r w' ⟨c, d, way, n, err, rfl, hF, -, hw'⟩
  obtain ⟨rfl, rfl, rfl⟩ := aw2 hF
  exact ⟨c, d, rfl, hw'⟩
theorem awF3 (β : Base) (w : World) (hw : St β [] w) (v : Value) (hs : Sl AreaF.R β.heap v CORN) : Calls Tryz.prog 11 #[v, .agg #[.int .i64 (0), .int .i64 (0)], .agg #[.int .i64 (2), .int .i64 (2)]] w fun r w' => ∃ c d, r = .returned (.tuple #[.slice c 0 d, .int .i64 (0), .int .i64 (6)]) ∧ St β [rowF VecF 27 c d ([] : List KV)] w' := by
  refine (find_ok β w hw v CORN hs ⟨0, 0⟩ ⟨2, 2⟩).mono ?_
  rintro r w' ⟨c, d, way, n, err, rfl, hF, -, hw'⟩
  obtain ⟨rfl, rfl, rfl⟩ := aw3 hF
  exact ⟨c, d, rfl, hw'⟩
theorem awF4 (β : Base) (w : World) (hw : St β [] w) (v : Value) (hs : Sl AreaF.R β.heap v CORN) : Calls Tryz.prog 11 #[v, .agg #[.int .i64 (0), .int .i64 (0)], .agg #[.int .i64 (1), .int .i64 (1)]] w fun r w' => ∃ c d, r = .returned (.tuple #[.slice c 2 d, .int .i64 (23), .int .i64 (0)]) ∧ St β [rowF VecF 27 c d ([⟨0, 0⟩, ⟨1, 1⟩] : List KV)] w' := by
  refine (find_ok β w hw v CORN hs ⟨0, 0⟩ ⟨1, 1⟩).mono ?_
  rintro r w' ⟨c, d, way, n, err, rfl, hF, -, hw'⟩
  obtain ⟨rfl, rfl, rfl⟩ := aw4 hF
  exact ⟨c, d, rfl, hw'⟩
theorem awR1 (β : Base) (w : World) (hw : St β [] w) (v : Value) (hs : Sl AreaF.R β.heap v FOUR) : Calls Tryz.prog 8 #[v, .agg #[.int .i64 (10), .int .i64 (5)]] w fun r w' => ∃ c d, r = .returned (.tuple #[.slice c 2 d, .int .i64 (0)]) ∧ St β [rowF NatF 3 c d [0, 1]] w' := by
  have h := roomsM_ok β w hw v FOUR hs four_M 10 5
  rw [four_R1] at h; exact h
theorem awR2 (β : Base) (w : World) (hw : St β [] w) (v : Value) (hs : Sl AreaF.R β.heap v FOUR) : Calls Tryz.prog 8 #[v, .agg #[.int .i64 (15), .int .i64 (0)]] w fun r w' => ∃ c d, r = .returned (.tuple #[.slice c 0 d, .int .i64 (0)]) ∧ St β [rowF NatF 3 c d ([] : List Nat)] w' := by
  have h := roomsM_ok β w hw v FOUR hs four_M 15 0
  rw [four_R2] at h; exact h
theorem awP (β : Base) (w : World) (hw : St β [] w) (v : Value) (hs : Sl AreaF.R β.heap v FOUR) : Calls Tryz.prog 7 #[v] w fun r w' => ∃ c d, r = .returned (.tuple #[.slice c 3 d, .int .i64 (0)]) ∧ St β [rowF PoF 50 c d [⟨0, 1, 10, 5⟩, ⟨0, 3, 4, 10⟩, ⟨1, 2, 20, 5⟩]] w' := by
  have h := portalsM_ok β w hw v FOUR hs four_M
  rw [four_P] at h; exact h
theorem awL (β : Base) (w : World) (hw : St β [] w) : Calls Tryz.prog 14 #[.agg #[.int .i64 (0), .int .i64 (0)], .agg #[.int .i64 (3), .int .i64 (4)]] w fun r w' => r = .returned (.int .i64 (80)) ∧ St β [] w' := by
  have h := length_ok β w hw ⟨0, 0⟩ ⟨3, 4⟩
  rw [show lenV (⟨0, 0⟩ : KV).x (⟨0, 0⟩ : KV).y (⟨3, 4⟩ : KV).x (⟨3, 4⟩ : KV).y = 80 from aw5] at h; exact h
theorem ty97 : lay Tryz.prog 10000 50 = some [.int .i64, .int .i64, .int .i64, .int .i64] := by kernel_rfl
theorem ty98 : isAggT Tryz.prog 50 = true := by kernel_rfl
theorem ty99 : Tryz.prog.eqGuardType Tryz.prog.depth 50 = false := by kernel_rfl
theorem ty100 : cfB Tryz.prog 6 = true := by kernel_rfl
theorem ty101 : cfB Tryz.prog 13 = true := by kernel_rfl
theorem ty102 : cfB Tryz.prog 9 = true := by kernel_rfl
theorem ty103 : cfB Tryz.prog 11 = true := by kernel_rfl
theorem ty104 : cfB Tryz.prog 15 = true := by kernel_rfl
theorem ty105 : cfB Tryz.prog 16 = true := by kernel_rfl
theorem ty106 : cfB Tryz.prog 17 = true := by kernel_rfl
set_option maxHeartbeats 4000000 in
theorem sameI_ok (β : Base) (w : World) (hw : St β [] w) (v u : Value) (xs ys : List Nat) (hs : Sl NatF.R β.heap v xs) (ht : Sl NatF.R β.heap u ys) : Calls Tryz.prog 15 #[v, u] w fun r w' => r = .returned (.bool (decide (xs = ys))) ∧ St β [] w' := by
  obtain ⟨va, vc, rfl, vl, vm, ve⟩ := hs.get
  obtain ⟨ua, uc, rfl, ul, um, ue⟩ := ht.get
  refine enter (n := 26) Tryz.func15 rfl Tryz.ntmps15 rfl ?_ hw
  refine c_seq ?_
  refine c_region ?_
  refine l_val (v := .bool false) rfl rfl rfl (e_assign) ?_
  refine l_nil ?_
  refine f_then ?_
  refine c_seq ?_
  refine c_seq ?_
  refine c_region ?_
  refine l_val (v := .slice va (xs.length) (vc)) rfl rfl rfl (e_move) ?_
  refine l_val (v := Nx (xs.length)) rfl rfl rfl (e_len (a := va) (n := xs.length) (c := vc) rfl tv43) ?_
  refine l_val (v := .slice ua (ys.length) (uc)) rfl rfl rfl (e_move) ?_
  refine l_val (v := Nx (ys.length)) rfl rfl rfl (e_len (a := ua) (n := ys.length) (c := uc) rfl tv43) ?_
  refine l_val (v := .bool (decide (((xs.length : Nat) : Int) ≠ ((ys.length : Nat) : Int)))) rfl rfl rfl (e_neq (a := ((xs.length : Nat) : Int)) (b := ((ys.length : Nat) : Int)) rfl rfl) ?_
  refine l_nil ?_
  refine f_then ?_
  refine c_if (((xs.length : Nat) : Int) ≠ ((ys.length : Nat) : Int)) rfl (fun hc1 => ?_) (fun hc1 => ?_)
  ·
    refine c_seq ?_
    refine c_region ?_
    refine l_val (v := .bool false) rfl rfl rfl (e_assign) ?_
    refine l_nil ?_
    refine f_then ?_
    refine c_ret ?_
    refine f_then_ret ?_
    refine ret1 Tryz.results15 (v := .bool false) rfl ?_
    intro w hw
    exact ⟨congrArg (fun b : Bool => Ending.returned (.bool b)) (decide_eq_false (fun q => hc1 (by rw [q]))).symm, st_mask [] rfl hw⟩
  ·
    refine c_skip ?_
    refine f_then ?_
    refine c_seq ?_
    refine c_seq ?_
    refine c_region ?_
    refine l_val (v := .int .i64 (0)) rfl rfl rfl (e_assign) ?_
    refine l_nil ?_
    refine f_then ?_
    refine c_block ?_
    refine c_loop (fun (k : Nat) (f : Fm) (L : List Res) => (f 0 = .slice va (xs.length) (vc) ∧ f 1 = .slice ua (ys.length) (uc) ∧ f 5 = Nx (k)) ∧ L = [] ∧ (k ≤ xs.length ∧ xs.take k = ys.take k)) (fun (k : Nat) => xs.length - k) 0 ?_ ?_
    · exact ⟨⟨rfl, rfl, rfl⟩, rfl, ⟨by omega, by simp⟩⟩
    rintro k f0 L0 ⟨⟨hs0, hs1, hs5⟩, hL, ⟨hk, hp⟩⟩
    subst L0
    refine rebase (d := 0) hs0 ?_
    refine rebase (d := 1) hs1 ?_
    refine rebase (d := 5) hs5 ?_
    clear hs0 hs1 hs5
    refine c_seq ?_
    refine c_seq ?_
    refine c_region ?_
    refine l_val (v := Nx (k)) rfl rfl rfl (e_move) ?_
    refine l_val (v := .slice va (xs.length) (vc)) rfl rfl rfl (e_move) ?_
    refine l_val (v := Nx (xs.length)) rfl rfl rfl (e_len (a := va) (n := xs.length) (c := vc) rfl tv43) ?_
    refine l_val (v := .bool (decide (((k : Nat) : Int) < ((xs.length : Nat) : Int)))) rfl rfl rfl (e_lss (a := ((k : Nat) : Int)) (b := ((xs.length : Nat) : Int)) rfl rfl) ?_
    refine l_nil ?_
    refine f_then ?_
    refine c_if (((k : Nat) : Int) < ((xs.length : Nat) : Int)) rfl (fun hc2 => ?_) (fun hc2 => ?_)
    ·
      refine c_skip ?_
      refine f_then ?_
      refine c_seq ?_
      refine c_block ?_
      refine c_seq ?_
      refine c_quiet (by kernel_rfl) (by kernel_rfl) ?_
      refine q_val (v := .slice va (xs.length) (vc)) rfl rfl rfl (e_move) ?_
      refine q_val (v := Nx (k)) rfl rfl rfl (e_move) ?_
      obtain ⟨x3, hx4⟩ : ∃ x_, (xs)[k]? = some x_ := ⟨_, List.getElem?_eq_getElem (by omega)⟩
      obtain ⟨ha5, cs6, hc7, rfl⟩ := ve _ _ hx4
      refine q_val (v := .pointer (some ((ba va).add (k * 1)))) rfl rfl rfl (e_indexAddr (k := k) (len := xs.length) (cap := vc) (a := va) rfl rfl tu29 (by omega) ha5) ?_
      refine q_val (v := Nx (x3)) rfl rfl rfl (e_load1 tp2 (v := Nx (x3)) rfl (Knows.of_base (Cs.mono _ _) hc7)) ?_
      refine q_val (v := .slice ua (ys.length) (uc)) rfl rfl rfl (e_move) ?_
      refine q_val (v := Nx (k)) rfl rfl rfl (e_move) ?_
      obtain ⟨x9, hx10⟩ : ∃ x_, (ys)[k]? = some x_ := ⟨_, List.getElem?_eq_getElem (by omega)⟩
      obtain ⟨ha11, cs12, hc13, rfl⟩ := ue _ _ hx10
      refine q_val (v := .pointer (some ((ba ua).add (k * 1)))) rfl rfl rfl (e_indexAddr (k := k) (len := ys.length) (cap := uc) (a := ua) rfl rfl tu29 (by omega) ha11) ?_
      refine q_val (v := Nx (x9)) rfl rfl rfl (e_load1 tp2 (v := Nx (x9)) rfl (Knows.of_base (Cs.mono _ _) hc13)) ?_
      refine q_val (v := .bool (decide (((x3 : Nat) : Int) ≠ ((x9 : Nat) : Int)))) rfl rfl rfl (e_neq (a := ((x3 : Nat) : Int)) (b := ((x9 : Nat) : Int)) rfl rfl) ?_
      refine q_nil ?_
      refine f_then ?_
      refine c_if (((x3 : Nat) : Int) ≠ ((x9 : Nat) : Int)) rfl (fun hc15 => ?_) (fun hc15 => ?_)
      ·
        refine c_seq ?_
        refine c_region ?_
        refine l_val (v := .bool false) rfl rfl rfl (e_assign) ?_
        refine l_nil ?_
        refine f_then ?_
        refine c_ret ?_
        refine f_block_ret ?_
        refine f_then_ret ?_
        refine f_then_ret ?_
        refine f_block_ret ?_
        refine f_then_ret ?_
        refine ret1 Tryz.results15 (v := .bool false) rfl ?_
        intro w hw
        exact ⟨congrArg (fun b : Bool => Ending.returned (.bool b)) (decide_eq_false (fun q => absurd (same_at q hx4 hx10) (by have h := hc15; first | exact h | omega))).symm, st_mask [] rfl hw⟩
      ·
        refine c_skip ?_
        refine f_block ?_
        refine f_then ?_
        refine c_region ?_
        refine l_val (v := Nx (k)) rfl rfl rfl (e_move) ?_
        refine l_val (v := Nx (k + 1)) rfl rfl rfl (e_add (a := ((k : Nat) : Int)) (b := (1 : Int)) rfl rfl (i64n (by omega) (by omega))) ?_
        refine l_val (v := Nx (k + 1)) rfl rfl rfl (e_assign) ?_
        refine l_nil ?_
        exact f_cut ⟨k + 1, ⟨⟨rfl, rfl, rfl⟩, rfl, ⟨by omega, same_next hx4 hx10 (by have h := hc15; first | exact Decidable.not_not.1 h | omega) hp⟩⟩, (show xs.length - (k + 1) < xs.length - k from by omega)⟩
    ·
      refine c_exit ?_
      refine f_then_exit ?_
      refine f_then_exit ?_
      refine f_exit ?_
      refine f_then ?_
      refine c_seq ?_
      refine c_region ?_
      refine l_val (v := .bool true) rfl rfl rfl (e_assign) ?_
      refine l_nil ?_
      refine f_then ?_
      refine c_ret ?_
      refine ret1 Tryz.results15 (v := .bool true) rfl ?_
      intro w hw
      exact ⟨congrArg (fun b : Bool => Ending.returned (.bool b)) (decide_eq_true (same_done (by omega) (by omega) hp)).symm, st_mask [] rfl hw⟩
set_option maxHeartbeats 4000000 in
theorem sameP_ok (β : Base) (w : World) (hw : St β [] w) (v u : Value) (xs ys : List KO) (hs : Sl PoF.R β.heap v xs) (ht : Sl PoF.R β.heap u ys) : Calls Tryz.prog 16 #[v, u] w fun r w' => r = .returned (.bool (decide (xs = ys))) ∧ St β [] w' := by
  obtain ⟨va, vc, rfl, vl, vm, ve⟩ := hs.get
  obtain ⟨ua, uc, rfl, ul, um, ue⟩ := ht.get
  refine enter (n := 26) Tryz.func16 rfl Tryz.ntmps16 rfl ?_ hw
  refine c_seq ?_
  refine c_region ?_
  refine l_val (v := .bool false) rfl rfl rfl (e_assign) ?_
  refine l_nil ?_
  refine f_then ?_
  refine c_seq ?_
  refine c_seq ?_
  refine c_region ?_
  refine l_val (v := .slice va (xs.length) (vc)) rfl rfl rfl (e_move) ?_
  refine l_val (v := Nx (xs.length)) rfl rfl rfl (e_len (a := va) (n := xs.length) (c := vc) rfl tv61) ?_
  refine l_val (v := .slice ua (ys.length) (uc)) rfl rfl rfl (e_move) ?_
  refine l_val (v := Nx (ys.length)) rfl rfl rfl (e_len (a := ua) (n := ys.length) (c := uc) rfl tv61) ?_
  refine l_val (v := .bool (decide (((xs.length : Nat) : Int) ≠ ((ys.length : Nat) : Int)))) rfl rfl rfl (e_neq (a := ((xs.length : Nat) : Int)) (b := ((ys.length : Nat) : Int)) rfl rfl) ?_
  refine l_nil ?_
  refine f_then ?_
  refine c_if (((xs.length : Nat) : Int) ≠ ((ys.length : Nat) : Int)) rfl (fun hc1 => ?_) (fun hc1 => ?_)
  ·
    refine c_seq ?_
    refine c_region ?_
    refine l_val (v := .bool false) rfl rfl rfl (e_assign) ?_
    refine l_nil ?_
    refine f_then ?_
    refine c_ret ?_
    refine f_then_ret ?_
    refine ret1 Tryz.results16 (v := .bool false) rfl ?_
    intro w hw
    exact ⟨congrArg (fun b : Bool => Ending.returned (.bool b)) (decide_eq_false (fun q => hc1 (by rw [q]))).symm, st_mask [] rfl hw⟩
  ·
    refine c_skip ?_
    refine f_then ?_
    refine c_seq ?_
    refine c_seq ?_
    refine c_region ?_
    refine l_val (v := .int .i64 (0)) rfl rfl rfl (e_assign) ?_
    refine l_nil ?_
    refine f_then ?_
    refine c_block ?_
    refine c_loop (fun (k : Nat) (f : Fm) (L : List Res) => (f 0 = .slice va (xs.length) (vc) ∧ f 1 = .slice ua (ys.length) (uc) ∧ f 5 = Nx (k)) ∧ L = [] ∧ (k ≤ xs.length ∧ xs.take k = ys.take k)) (fun (k : Nat) => xs.length - k) 0 ?_ ?_
    · exact ⟨⟨rfl, rfl, rfl⟩, rfl, ⟨by omega, by simp⟩⟩
    rintro k f0 L0 ⟨⟨hs0, hs1, hs5⟩, hL, ⟨hk, hp⟩⟩
    subst L0
    refine rebase (d := 0) hs0 ?_
    refine rebase (d := 1) hs1 ?_
    refine rebase (d := 5) hs5 ?_
    clear hs0 hs1 hs5
    refine c_seq ?_
    refine c_seq ?_
    refine c_region ?_
    refine l_val (v := Nx (k)) rfl rfl rfl (e_move) ?_
    refine l_val (v := .slice va (xs.length) (vc)) rfl rfl rfl (e_move) ?_
    refine l_val (v := Nx (xs.length)) rfl rfl rfl (e_len (a := va) (n := xs.length) (c := vc) rfl tv61) ?_
    refine l_val (v := .bool (decide (((k : Nat) : Int) < ((xs.length : Nat) : Int)))) rfl rfl rfl (e_lss (a := ((k : Nat) : Int)) (b := ((xs.length : Nat) : Int)) rfl rfl) ?_
    refine l_nil ?_
    refine f_then ?_
    refine c_if (((k : Nat) : Int) < ((xs.length : Nat) : Int)) rfl (fun hc2 => ?_) (fun hc2 => ?_)
    ·
      refine c_skip ?_
      refine f_then ?_
      refine c_seq ?_
      refine c_block ?_
      refine c_seq ?_
      refine c_quiet (by kernel_rfl) (by kernel_rfl) ?_
      refine q_val (v := .slice va (xs.length) (vc)) rfl rfl rfl (e_move) ?_
      refine q_val (v := Nx (k)) rfl rfl rfl (e_move) ?_
      obtain ⟨x3, hx4⟩ : ∃ x_, (xs)[k]? = some x_ := ⟨_, List.getElem?_eq_getElem (by omega)⟩
      obtain ⟨ha5, cs6, hc7, rfl⟩ := ve _ _ hx4
      refine q_val (v := .pointer (some ((ba va).add (k * 4)))) rfl rfl rfl (e_indexAddr (k := k) (len := xs.length) (cap := vc) (a := va) rfl rfl tu38 (by omega) ha5) ?_
      refine q_val (v := .agg #[Nx (x3.a), Nx (x3.b), Ix (x3.x), Ix (x3.y)]) rfl rfl rfl (e_load tv62 (cs := [Nx (x3.a), Nx (x3.b), Ix (x3.x), Ix (x3.y)]) rfl (Knows.of_base (Cs.mono _ _) hc7) rfl) ?_
      refine q_val (v := .slice ua (ys.length) (uc)) rfl rfl rfl (e_move) ?_
      refine q_val (v := Nx (k)) rfl rfl rfl (e_move) ?_
      obtain ⟨x9, hx10⟩ : ∃ x_, (ys)[k]? = some x_ := ⟨_, List.getElem?_eq_getElem (by omega)⟩
      obtain ⟨ha11, cs12, hc13, rfl⟩ := ue _ _ hx10
      refine q_val (v := .pointer (some ((ba ua).add (k * 4)))) rfl rfl rfl (e_indexAddr (k := k) (len := ys.length) (cap := uc) (a := ua) rfl rfl tu38 (by omega) ha11) ?_
      refine q_val (v := .agg #[Nx (x9.a), Nx (x9.b), Ix (x9.x), Ix (x9.y)]) rfl rfl rfl (e_load tv62 (cs := [Nx (x9.a), Nx (x9.b), Ix (x9.x), Ix (x9.y)]) rfl (Knows.of_base (Cs.mono _ _) hc13) rfl) ?_
      refine q_val (v := .bool (decide (¬ (x3 = x9)))) rfl rfl rfl (e_neq_t (xs := poE x3) (ys := poE x9) ty97 ty98 ty99 rfl rfl rfl rfl (not_congr (po_eq (x := x3) (y := x9)))) ?_
      refine q_nil ?_
      refine f_then ?_
      refine c_if (¬ (x3 = x9)) rfl (fun hc15 => ?_) (fun hc15 => ?_)
      ·
        refine c_seq ?_
        refine c_region ?_
        refine l_val (v := .bool false) rfl rfl rfl (e_assign) ?_
        refine l_nil ?_
        refine f_then ?_
        refine c_ret ?_
        refine f_block_ret ?_
        refine f_then_ret ?_
        refine f_then_ret ?_
        refine f_block_ret ?_
        refine f_then_ret ?_
        refine ret1 Tryz.results16 (v := .bool false) rfl ?_
        intro w hw
        exact ⟨congrArg (fun b : Bool => Ending.returned (.bool b)) (decide_eq_false (fun q => absurd (same_at q hx4 hx10) (by have h := hc15; first | exact h | omega))).symm, st_mask [] rfl hw⟩
      ·
        refine c_skip ?_
        refine f_block ?_
        refine f_then ?_
        refine c_region ?_
        refine l_val (v := Nx (k)) rfl rfl rfl (e_move) ?_
        refine l_val (v := Nx (k + 1)) rfl rfl rfl (e_add (a := ((k : Nat) : Int)) (b := (1 : Int)) rfl rfl (i64n (by omega) (by omega))) ?_
        refine l_val (v := Nx (k + 1)) rfl rfl rfl (e_assign) ?_
        refine l_nil ?_
        exact f_cut ⟨k + 1, ⟨⟨rfl, rfl, rfl⟩, rfl, ⟨by omega, same_next hx4 hx10 (by have h := hc15; first | exact Decidable.not_not.1 h | omega) hp⟩⟩, (show xs.length - (k + 1) < xs.length - k from by omega)⟩
    ·
      refine c_exit ?_
      refine f_then_exit ?_
      refine f_then_exit ?_
      refine f_exit ?_
      refine f_then ?_
      refine c_seq ?_
      refine c_region ?_
      refine l_val (v := .bool true) rfl rfl rfl (e_assign) ?_
      refine l_nil ?_
      refine f_then ?_
      refine c_ret ?_
      refine ret1 Tryz.results16 (v := .bool true) rfl ?_
      intro w hw
      exact ⟨congrArg (fun b : Bool => Ending.returned (.bool b)) (decide_eq_true (same_done (by omega) (by omega) hp)).symm, st_mask [] rfl hw⟩
set_option maxHeartbeats 4000000 in
theorem sameV_ok (β : Base) (w : World) (hw : St β [] w) (v u : Value) (xs ys : List KV) (hs : Sl VecF.R β.heap v xs) (ht : Sl VecF.R β.heap u ys) : Calls Tryz.prog 17 #[v, u] w fun r w' => r = .returned (.bool (decide (xs = ys))) ∧ St β [] w' := by
  obtain ⟨va, vc, rfl, vl, vm, ve⟩ := hs.get
  obtain ⟨ua, uc, rfl, ul, um, ue⟩ := ht.get
  refine enter (n := 26) Tryz.func17 rfl Tryz.ntmps17 rfl ?_ hw
  refine c_seq ?_
  refine c_region ?_
  refine l_val (v := .bool false) rfl rfl rfl (e_assign) ?_
  refine l_nil ?_
  refine f_then ?_
  refine c_seq ?_
  refine c_seq ?_
  refine c_region ?_
  refine l_val (v := .slice va (xs.length) (vc)) rfl rfl rfl (e_move) ?_
  refine l_val (v := Nx (xs.length)) rfl rfl rfl (e_len (a := va) (n := xs.length) (c := vc) rfl tv68) ?_
  refine l_val (v := .slice ua (ys.length) (uc)) rfl rfl rfl (e_move) ?_
  refine l_val (v := Nx (ys.length)) rfl rfl rfl (e_len (a := ua) (n := ys.length) (c := uc) rfl tv68) ?_
  refine l_val (v := .bool (decide (((xs.length : Nat) : Int) ≠ ((ys.length : Nat) : Int)))) rfl rfl rfl (e_neq (a := ((xs.length : Nat) : Int)) (b := ((ys.length : Nat) : Int)) rfl rfl) ?_
  refine l_nil ?_
  refine f_then ?_
  refine c_if (((xs.length : Nat) : Int) ≠ ((ys.length : Nat) : Int)) rfl (fun hc1 => ?_) (fun hc1 => ?_)
  ·
    refine c_seq ?_
    refine c_region ?_
    refine l_val (v := .bool false) rfl rfl rfl (e_assign) ?_
    refine l_nil ?_
    refine f_then ?_
    refine c_ret ?_
    refine f_then_ret ?_
    refine ret1 Tryz.results17 (v := .bool false) rfl ?_
    intro w hw
    exact ⟨congrArg (fun b : Bool => Ending.returned (.bool b)) (decide_eq_false (fun q => hc1 (by rw [q]))).symm, st_mask [] rfl hw⟩
  ·
    refine c_skip ?_
    refine f_then ?_
    refine c_seq ?_
    refine c_seq ?_
    refine c_region ?_
    refine l_val (v := .int .i64 (0)) rfl rfl rfl (e_assign) ?_
    refine l_nil ?_
    refine f_then ?_
    refine c_block ?_
    refine c_loop (fun (k : Nat) (f : Fm) (L : List Res) => (f 0 = .slice va (xs.length) (vc) ∧ f 1 = .slice ua (ys.length) (uc) ∧ f 5 = Nx (k)) ∧ L = [] ∧ (k ≤ xs.length ∧ xs.take k = ys.take k)) (fun (k : Nat) => xs.length - k) 0 ?_ ?_
    · exact ⟨⟨rfl, rfl, rfl⟩, rfl, ⟨by omega, by simp⟩⟩
    rintro k f0 L0 ⟨⟨hs0, hs1, hs5⟩, hL, ⟨hk, hp⟩⟩
    subst L0
    refine rebase (d := 0) hs0 ?_
    refine rebase (d := 1) hs1 ?_
    refine rebase (d := 5) hs5 ?_
    clear hs0 hs1 hs5
    refine c_seq ?_
    refine c_seq ?_
    refine c_region ?_
    refine l_val (v := Nx (k)) rfl rfl rfl (e_move) ?_
    refine l_val (v := .slice va (xs.length) (vc)) rfl rfl rfl (e_move) ?_
    refine l_val (v := Nx (xs.length)) rfl rfl rfl (e_len (a := va) (n := xs.length) (c := vc) rfl tv68) ?_
    refine l_val (v := .bool (decide (((k : Nat) : Int) < ((xs.length : Nat) : Int)))) rfl rfl rfl (e_lss (a := ((k : Nat) : Int)) (b := ((xs.length : Nat) : Int)) rfl rfl) ?_
    refine l_nil ?_
    refine f_then ?_
    refine c_if (((k : Nat) : Int) < ((xs.length : Nat) : Int)) rfl (fun hc2 => ?_) (fun hc2 => ?_)
    ·
      refine c_skip ?_
      refine f_then ?_
      refine c_seq ?_
      refine c_block ?_
      refine c_seq ?_
      refine c_quiet (by kernel_rfl) (by kernel_rfl) ?_
      refine q_val (v := .slice va (xs.length) (vc)) rfl rfl rfl (e_move) ?_
      refine q_val (v := Nx (k)) rfl rfl rfl (e_move) ?_
      obtain ⟨x3, hx4⟩ : ∃ x_, (xs)[k]? = some x_ := ⟨_, List.getElem?_eq_getElem (by omega)⟩
      obtain ⟨ha5, cs6, hc7, rfl⟩ := ve _ _ hx4
      refine q_val (v := .pointer (some ((ba va).add (k * 2)))) rfl rfl rfl (e_indexAddr (k := k) (len := xs.length) (cap := vc) (a := va) rfl rfl tv67 (by omega) ha5) ?_
      refine q_val (v := .agg #[Ix (x3.x), Ix (x3.y)]) rfl rfl rfl (e_load tp7 (cs := [Ix (x3.x), Ix (x3.y)]) rfl (Knows.of_base (Cs.mono _ _) hc7) rfl) ?_
      refine q_val (v := .slice ua (ys.length) (uc)) rfl rfl rfl (e_move) ?_
      refine q_val (v := Nx (k)) rfl rfl rfl (e_move) ?_
      obtain ⟨x9, hx10⟩ : ∃ x_, (ys)[k]? = some x_ := ⟨_, List.getElem?_eq_getElem (by omega)⟩
      obtain ⟨ha11, cs12, hc13, rfl⟩ := ue _ _ hx10
      refine q_val (v := .pointer (some ((ba ua).add (k * 2)))) rfl rfl rfl (e_indexAddr (k := k) (len := ys.length) (cap := uc) (a := ua) rfl rfl tv67 (by omega) ha11) ?_
      refine q_val (v := .agg #[Ix (x9.x), Ix (x9.y)]) rfl rfl rfl (e_load tp7 (cs := [Ix (x9.x), Ix (x9.y)]) rfl (Knows.of_base (Cs.mono _ _) hc13) rfl) ?_
      refine q_val (v := .bool (decide (¬ (x3 = x9)))) rfl rfl rfl (e_neq_t (xs := veE x3) (ys := veE x9) tu33 tu34 tu35 rfl rfl rfl rfl (not_congr (ve_eq (x := x3) (y := x9)))) ?_
      refine q_nil ?_
      refine f_then ?_
      refine c_if (¬ (x3 = x9)) rfl (fun hc15 => ?_) (fun hc15 => ?_)
      ·
        refine c_seq ?_
        refine c_region ?_
        refine l_val (v := .bool false) rfl rfl rfl (e_assign) ?_
        refine l_nil ?_
        refine f_then ?_
        refine c_ret ?_
        refine f_block_ret ?_
        refine f_then_ret ?_
        refine f_then_ret ?_
        refine f_block_ret ?_
        refine f_then_ret ?_
        refine ret1 Tryz.results17 (v := .bool false) rfl ?_
        intro w hw
        exact ⟨congrArg (fun b : Bool => Ending.returned (.bool b)) (decide_eq_false (fun q => absurd (same_at q hx4 hx10) (by have h := hc15; first | exact h | omega))).symm, st_mask [] rfl hw⟩
      ·
        refine c_skip ?_
        refine f_block ?_
        refine f_then ?_
        refine c_region ?_
        refine l_val (v := Nx (k)) rfl rfl rfl (e_move) ?_
        refine l_val (v := Nx (k + 1)) rfl rfl rfl (e_add (a := ((k : Nat) : Int)) (b := (1 : Int)) rfl rfl (i64n (by omega) (by omega))) ?_
        refine l_val (v := Nx (k + 1)) rfl rfl rfl (e_assign) ?_
        refine l_nil ?_
        exact f_cut ⟨k + 1, ⟨⟨rfl, rfl, rfl⟩, rfl, ⟨by omega, same_next hx4 hx10 (by have h := hc15; first | exact Decidable.not_not.1 h | omega) hp⟩⟩, (show xs.length - (k + 1) < xs.length - k from by omega)⟩
    ·
      refine c_exit ?_
      refine f_then_exit ?_
      refine f_then_exit ?_
      refine f_exit ?_
      refine f_then ?_
      refine c_seq ?_
      refine c_region ?_
      refine l_val (v := .bool true) rfl rfl rfl (e_assign) ?_
      refine l_nil ?_
      refine f_then ?_
      refine c_ret ?_
      refine ret1 Tryz.results17 (v := .bool true) rfl ?_
      intro w hw
      exact ⟨congrArg (fun b : Bool => Ending.returned (.bool b)) (decide_eq_true (same_done (by omega) (by omega) hp)).symm, st_mask [] rfl hw⟩
theorem four_ok (β : Base) (w : World) (hw : St β [] w) : Calls Tryz.prog 13 #[] w fun r w' => ∃ p c, r = .returned (.slice p 4 c) ∧ St β [rowF AreaF 29 p c FOUR] w' := by
  refine enter (n := 6) Tryz.func13 rfl Tryz.ntmps13 rfl ?_ hw
  refine c_seq ?_
  refine c_region ?_
  refine l_val (v := .slice none 0 0) rfl rfl rfl (e_assign) ?_
  refine l_nil ?_
  refine f_then ?_
  refine c_seq ?_
  refine c_region ?_
  refine l_call rfl rfl rfl (cl_value (fst := []) (cap := []) (vs := [.int .i64 (0), .int .i64 (0), .int .i64 (10), .int .i64 (10)]) (all := [.int .i64 (0), .int .i64 (0), .int .i64 (10), .int .i64 (10)]) ty100 rfl rfl rfl) ?_
  intro w hw
  obtain ⟨β1, sb, kn, hw1, back⟩ := St.frame_all hw
  refine (room_ok β1 w hw1 (0 : Int) (0 : Int) (10 : Int) (10 : Int)).mono ?_
  rintro e w' ⟨rfl, hw'⟩
  refine ⟨_, rfl, _, back _ _ hw', ?_⟩
  clear hw hw1 hw' back kn sb
  refine l_call rfl rfl rfl (cl_value (fst := []) (cap := []) (vs := [.int .i64 (10), .int .i64 (4), .int .i64 (20), .int .i64 (7)]) (all := [.int .i64 (10), .int .i64 (4), .int .i64 (20), .int .i64 (7)]) ty100 rfl rfl rfl) ?_
  intro w hw
  obtain ⟨β1, sb, kn, hw1, back⟩ := St.frame_all hw
  refine (room_ok β1 w hw1 (10 : Int) (4 : Int) (20 : Int) (7 : Int)).mono ?_
  rintro e w' ⟨rfl, hw'⟩
  refine ⟨_, rfl, _, back _ _ hw', ?_⟩
  clear hw hw1 hw' back kn sb
  refine l_call rfl rfl rfl (cl_value (fst := []) (cap := []) (vs := [.int .i64 (20), .int .i64 (0), .int .i64 (30), .int .i64 (30)]) (all := [.int .i64 (20), .int .i64 (0), .int .i64 (30), .int .i64 (30)]) ty100 rfl rfl rfl) ?_
  intro w hw
  obtain ⟨β1, sb, kn, hw1, back⟩ := St.frame_all hw
  refine (room_ok β1 w hw1 (20 : Int) (0 : Int) (30 : Int) (30 : Int)).mono ?_
  rintro e w' ⟨rfl, hw'⟩
  refine ⟨_, rfl, _, back _ _ hw', ?_⟩
  clear hw hw1 hw' back kn sb
  refine l_call rfl rfl rfl (cl_value (fst := []) (cap := []) (vs := [.int .i64 (0), .int .i64 (10), .int .i64 (9), .int .i64 (30)]) (all := [.int .i64 (0), .int .i64 (10), .int .i64 (9), .int .i64 (30)]) ty100 rfl rfl rfl) ?_
  intro w hw
  obtain ⟨β1, sb, kn, hw1, back⟩ := St.frame_all hw
  refine (room_ok β1 w hw1 (0 : Int) (10 : Int) (9 : Int) (30 : Int)).mono ?_
  rintro e w' ⟨rfl, hw'⟩
  refine ⟨_, rfl, _, back _ _ hw', ?_⟩
  clear hw hw1 hw' back kn sb
  refine l_mv rfl rfl rfl (m_slices tp14 tp8 (vs := [(0, .agg #[.int .i64 (0), .int .i64 (0), .int .i64 (10), .int .i64 (10)]), (1, .agg #[.int .i64 (10), .int .i64 (4), .int .i64 (20), .int .i64 (7)]), (2, .agg #[.int .i64 (20), .int .i64 (0), .int .i64 (30), .int .i64 (30)]), (3, .agg #[.int .i64 (0), .int .i64 (10), .int .i64 (9), .int .i64 (30)])]) (cells := #[.int .i64 (0), .int .i64 (0), .int .i64 (10), .int .i64 (10), .int .i64 (10), .int .i64 (4), .int .i64 (20), .int .i64 (7), .int .i64 (20), .int .i64 (0), .int .i64 (30), .int .i64 (30), .int .i64 (0), .int .i64 (10), .int .i64 (9), .int .i64 (30)]) rfl rfl rfl rfl) ?_
  rintro _ _ ⟨b1, rfl, rfl⟩
  refine l_val (v := .slice (some ⟨b1, 0, none⟩) 4 4) rfl rfl rfl (e_assign) ?_
  refine l_nil ?_
  refine f_then ?_
  refine c_ret ?_
  refine ret1 Tryz.results13 (v := .slice (some ⟨b1, 0, none⟩) 4 4) rfl ?_
  intro w hw
  exact ⟨(some ⟨b1, 0, none⟩), 4, rfl, (st_mask [true] rfl hw).conseq_at 0 (r' := rowF AreaF 29 (some ⟨b1, 0, none⟩) 4 FOUR) rfl fun a h => pt_rowF (F := AreaF) (xs := FOUR) rfl (by decide) a h⟩
set_option maxHeartbeats 4000000 in
theorem awake_ok (β : Base) (w : World) (hw : St β [] w) : Calls Tryz.prog 4 #[] w fun r w' => r = .returned (.bool true) ∧ St β [] w' := by
  refine enter (n := 142) Tryz.func4 rfl Tryz.ntmps4 rfl ?_ hw
  refine c_seq ?_
  refine c_region ?_
  refine l_val (v := .bool false) rfl rfl rfl (e_assign) ?_
  refine l_nil ?_
  refine f_then ?_
  refine c_seq ?_
  refine c_region ?_
  refine l_call rfl rfl rfl (cl_value (fst := []) (cap := []) (vs := []) (all := []) ty101 rfl rfl rfl) ?_
  intro w hw
  obtain ⟨β1, sb, kn, hw1, back⟩ := St.frame_all hw
  refine (four_ok β1 w hw1).mono ?_
  rintro e w' ⟨p1, c2, rfl, hw'⟩
  refine ⟨_, rfl, _, back _ _ hw', ?_⟩
  clear hw hw1 hw' back kn sb
  refine l_val (v := .slice p1 (4) c2) rfl rfl rfl (e_assign) ?_
  refine l_nil ?_
  refine f_then ?_
  refine c_seq ?_
  refine c_region ?_
  refine l_val (v := .slice p1 (4) c2) rfl rfl rfl (e_move) ?_
  refine l_call rfl rfl rfl (cl_value (fst := []) (cap := []) (vs := [.slice p1 (4) c2]) (all := [.slice p1 (4) c2]) tv60 rfl rfl rfl) ?_
  intro w hw
  obtain ⟨β1, sb, kn, hw1, back⟩ := St.frame_all hw
  refine (awP β1 w hw1 _ (kn _ (k_flN 0 (F := AreaF) (m := 4) rfl rfl))).mono ?_
  rintro e w' ⟨p3, c4, rfl, hw'⟩
  refine ⟨_, rfl, _, back _ _ hw', ?_⟩
  clear hw hw1 hw' back kn sb
  refine l_val (v := .tuple #[.slice p3 (3) c4, .int .i64 (0)]) rfl rfl rfl (e_move) ?_
  refine l_val (v := .slice p3 (3) c4) rfl rfl rfl (e_extract (vs := #[.slice p3 (3) c4, .int .i64 (0)]) rfl rfl) ?_
  refine l_val (v := .int .i64 (0)) rfl rfl rfl (e_extract (vs := #[.slice p3 (3) c4, .int .i64 (0)]) rfl rfl) ?_
  refine l_val (v := .slice p3 (3) c4) rfl rfl rfl (e_assign) ?_
  refine l_val (v := .int .i64 (0)) rfl rfl rfl (e_assign) ?_
  refine l_nil ?_
  refine f_then ?_
  refine c_seq ?_
  refine c_region ?_
  refine l_val (v := .slice p1 (4) c2) rfl rfl rfl (e_move) ?_
  refine l_call rfl rfl rfl (cl_value (fst := []) (cap := []) (vs := [.int .i64 (0), .int .i64 (5)]) (all := [.int .i64 (0), .int .i64 (5)]) ty102 rfl rfl rfl) ?_
  intro w hw
  obtain ⟨β1, sb, kn, hw1, back⟩ := St.frame_all hw
  refine (point_ok β1 w hw1 (0 : Int) (5 : Int)).mono ?_
  rintro e w' ⟨rfl, hw'⟩
  refine ⟨_, rfl, _, back _ _ hw', ?_⟩
  clear hw hw1 hw' back kn sb
  refine l_call rfl rfl rfl (cl_value (fst := []) (cap := []) (vs := [.int .i64 (30), .int .i64 (5)]) (all := [.int .i64 (30), .int .i64 (5)]) ty102 rfl rfl rfl) ?_
  intro w hw
  obtain ⟨β1, sb, kn, hw1, back⟩ := St.frame_all hw
  refine (point_ok β1 w hw1 (30 : Int) (5 : Int)).mono ?_
  rintro e w' ⟨rfl, hw'⟩
  refine ⟨_, rfl, _, back _ _ hw', ?_⟩
  clear hw hw1 hw' back kn sb
  refine l_call rfl rfl rfl (cl_value (fst := []) (cap := []) (vs := [.slice p1 (4) c2, .agg #[.int .i64 (0), .int .i64 (5)], .agg #[.int .i64 (30), .int .i64 (5)]]) (all := [.slice p1 (4) c2, .agg #[.int .i64 (0), .int .i64 (5)], .agg #[.int .i64 (30), .int .i64 (5)]]) ty103 rfl rfl rfl) ?_
  intro w hw
  obtain ⟨β1, sb, kn, hw1, back⟩ := St.frame_all hw
  refine (awF1 β1 w hw1 _ (kn _ (k_flN 1 (F := AreaF) (m := 4) rfl rfl))).mono ?_
  rintro e w' ⟨p5, c6, rfl, hw'⟩
  refine ⟨_, rfl, _, back _ _ hw', ?_⟩
  clear hw hw1 hw' back kn sb
  refine l_val (v := .tuple #[.slice p5 (4) c6, .int .i64 (480), .int .i64 (0)]) rfl rfl rfl (e_move) ?_
  refine l_val (v := .slice p5 (4) c6) rfl rfl rfl (e_extract (vs := #[.slice p5 (4) c6, .int .i64 (480), .int .i64 (0)]) rfl rfl) ?_
  refine l_val (v := .int .i64 (480)) rfl rfl rfl (e_extract (vs := #[.slice p5 (4) c6, .int .i64 (480), .int .i64 (0)]) rfl rfl) ?_
  refine l_val (v := .int .i64 (0)) rfl rfl rfl (e_extract (vs := #[.slice p5 (4) c6, .int .i64 (480), .int .i64 (0)]) rfl rfl) ?_
  refine l_val (v := .slice p5 (4) c6) rfl rfl rfl (e_assign) ?_
  refine l_val (v := .int .i64 (480)) rfl rfl rfl (e_assign) ?_
  refine l_val (v := .int .i64 (0)) rfl rfl rfl (e_assign) ?_
  refine l_nil ?_
  refine f_then ?_
  refine c_seq ?_
  refine c_region ?_
  refine l_val (v := .slice p1 (4) c2) rfl rfl rfl (e_move) ?_
  refine l_call rfl rfl rfl (cl_value (fst := []) (cap := []) (vs := [.int .i64 (5), .int .i64 (20)]) (all := [.int .i64 (5), .int .i64 (20)]) ty102 rfl rfl rfl) ?_
  intro w hw
  obtain ⟨β1, sb, kn, hw1, back⟩ := St.frame_all hw
  refine (point_ok β1 w hw1 (5 : Int) (20 : Int)).mono ?_
  rintro e w' ⟨rfl, hw'⟩
  refine ⟨_, rfl, _, back _ _ hw', ?_⟩
  clear hw hw1 hw' back kn sb
  refine l_call rfl rfl rfl (cl_value (fst := []) (cap := []) (vs := [.int .i64 (25), .int .i64 (5)]) (all := [.int .i64 (25), .int .i64 (5)]) ty102 rfl rfl rfl) ?_
  intro w hw
  obtain ⟨β1, sb, kn, hw1, back⟩ := St.frame_all hw
  refine (point_ok β1 w hw1 (25 : Int) (5 : Int)).mono ?_
  rintro e w' ⟨rfl, hw'⟩
  refine ⟨_, rfl, _, back _ _ hw', ?_⟩
  clear hw hw1 hw' back kn sb
  refine l_call rfl rfl rfl (cl_value (fst := []) (cap := []) (vs := [.slice p1 (4) c2, .agg #[.int .i64 (5), .int .i64 (20)], .agg #[.int .i64 (25), .int .i64 (5)]]) (all := [.slice p1 (4) c2, .agg #[.int .i64 (5), .int .i64 (20)], .agg #[.int .i64 (25), .int .i64 (5)]]) ty103 rfl rfl rfl) ?_
  intro w hw
  obtain ⟨β1, sb, kn, hw1, back⟩ := St.frame_all hw
  refine (awF2 β1 w hw1 _ (kn _ (k_flN 2 (F := AreaF) (m := 4) rfl rfl))).mono ?_
  rintro e w' ⟨p7, c8, rfl, hw'⟩
  refine ⟨_, rfl, _, back _ _ hw', ?_⟩
  clear hw hw1 hw' back kn sb
  refine l_val (v := .tuple #[.slice p7 (5) c8, .int .i64 (526), .int .i64 (0)]) rfl rfl rfl (e_move) ?_
  refine l_val (v := .slice p7 (5) c8) rfl rfl rfl (e_extract (vs := #[.slice p7 (5) c8, .int .i64 (526), .int .i64 (0)]) rfl rfl) ?_
  refine l_val (v := .int .i64 (526)) rfl rfl rfl (e_extract (vs := #[.slice p7 (5) c8, .int .i64 (526), .int .i64 (0)]) rfl rfl) ?_
  refine l_val (v := .int .i64 (0)) rfl rfl rfl (e_extract (vs := #[.slice p7 (5) c8, .int .i64 (526), .int .i64 (0)]) rfl rfl) ?_
  refine l_val (v := .slice p7 (5) c8) rfl rfl rfl (e_assign) ?_
  refine l_val (v := .int .i64 (526)) rfl rfl rfl (e_assign) ?_
  refine l_val (v := .int .i64 (0)) rfl rfl rfl (e_assign) ?_
  refine l_nil ?_
  refine f_then ?_
  refine c_seq ?_
  refine c_region ?_
  refine l_val (v := .slice p1 (4) c2) rfl rfl rfl (e_move) ?_
  refine l_call rfl rfl rfl (cl_value (fst := []) (cap := []) (vs := [.int .i64 (10), .int .i64 (5)]) (all := [.int .i64 (10), .int .i64 (5)]) ty102 rfl rfl rfl) ?_
  intro w hw
  obtain ⟨β1, sb, kn, hw1, back⟩ := St.frame_all hw
  refine (point_ok β1 w hw1 (10 : Int) (5 : Int)).mono ?_
  rintro e w' ⟨rfl, hw'⟩
  refine ⟨_, rfl, _, back _ _ hw', ?_⟩
  clear hw hw1 hw' back kn sb
  refine l_call rfl rfl rfl (cl_value (fst := []) (cap := []) (vs := [.slice p1 (4) c2, .agg #[.int .i64 (10), .int .i64 (5)]]) (all := [.slice p1 (4) c2, .agg #[.int .i64 (10), .int .i64 (5)]]) tv69 rfl rfl rfl) ?_
  intro w hw
  obtain ⟨β1, sb, kn, hw1, back⟩ := St.frame_all hw
  refine (awR1 β1 w hw1 _ (kn _ (k_flN 3 (F := AreaF) (m := 4) rfl rfl))).mono ?_
  rintro e w' ⟨p9, c10, rfl, hw'⟩
  refine ⟨_, rfl, _, back _ _ hw', ?_⟩
  clear hw hw1 hw' back kn sb
  refine l_val (v := .tuple #[.slice p9 (2) c10, .int .i64 (0)]) rfl rfl rfl (e_move) ?_
  refine l_val (v := .slice p9 (2) c10) rfl rfl rfl (e_extract (vs := #[.slice p9 (2) c10, .int .i64 (0)]) rfl rfl) ?_
  refine l_val (v := .int .i64 (0)) rfl rfl rfl (e_extract (vs := #[.slice p9 (2) c10, .int .i64 (0)]) rfl rfl) ?_
  refine l_val (v := .slice p9 (2) c10) rfl rfl rfl (e_assign) ?_
  refine l_val (v := .int .i64 (0)) rfl rfl rfl (e_assign) ?_
  refine l_nil ?_
  refine f_then ?_
  refine c_seq ?_
  refine c_region ?_
  refine l_val (v := .slice p1 (4) c2) rfl rfl rfl (e_move) ?_
  refine l_call rfl rfl rfl (cl_value (fst := []) (cap := []) (vs := [.int .i64 (15), .int .i64 (0)]) (all := [.int .i64 (15), .int .i64 (0)]) ty102 rfl rfl rfl) ?_
  intro w hw
  obtain ⟨β1, sb, kn, hw1, back⟩ := St.frame_all hw
  refine (point_ok β1 w hw1 (15 : Int) (0 : Int)).mono ?_
  rintro e w' ⟨rfl, hw'⟩
  refine ⟨_, rfl, _, back _ _ hw', ?_⟩
  clear hw hw1 hw' back kn sb
  refine l_call rfl rfl rfl (cl_value (fst := []) (cap := []) (vs := [.slice p1 (4) c2, .agg #[.int .i64 (15), .int .i64 (0)]]) (all := [.slice p1 (4) c2, .agg #[.int .i64 (15), .int .i64 (0)]]) tv69 rfl rfl rfl) ?_
  intro w hw
  obtain ⟨β1, sb, kn, hw1, back⟩ := St.frame_all hw
  refine (awR2 β1 w hw1 _ (kn _ (k_flN 4 (F := AreaF) (m := 4) rfl rfl))).mono ?_
  rintro e w' ⟨p11, c12, rfl, hw'⟩
  refine ⟨_, rfl, _, back _ _ hw', ?_⟩
  clear hw hw1 hw' back kn sb
  refine l_val (v := .tuple #[.slice p11 (0) c12, .int .i64 (0)]) rfl rfl rfl (e_move) ?_
  refine l_val (v := .slice p11 (0) c12) rfl rfl rfl (e_extract (vs := #[.slice p11 (0) c12, .int .i64 (0)]) rfl rfl) ?_
  refine l_val (v := .int .i64 (0)) rfl rfl rfl (e_extract (vs := #[.slice p11 (0) c12, .int .i64 (0)]) rfl rfl) ?_
  refine l_val (v := .slice p11 (0) c12) rfl rfl rfl (e_assign) ?_
  refine l_val (v := .int .i64 (0)) rfl rfl rfl (e_assign) ?_
  refine l_nil ?_
  refine f_then ?_
  refine c_seq ?_
  refine c_region ?_
  refine l_call rfl rfl rfl (cl_value (fst := []) (cap := []) (vs := [.int .i64 (0), .int .i64 (0), .int .i64 (1), .int .i64 (1)]) (all := [.int .i64 (0), .int .i64 (0), .int .i64 (1), .int .i64 (1)]) ty100 rfl rfl rfl) ?_
  intro w hw
  obtain ⟨β1, sb, kn, hw1, back⟩ := St.frame_all hw
  refine (room_ok β1 w hw1 (0 : Int) (0 : Int) (1 : Int) (1 : Int)).mono ?_
  rintro e w' ⟨rfl, hw'⟩
  refine ⟨_, rfl, _, back _ _ hw', ?_⟩
  clear hw hw1 hw' back kn sb
  refine l_call rfl rfl rfl (cl_value (fst := []) (cap := []) (vs := [.int .i64 (1), .int .i64 (1), .int .i64 (2), .int .i64 (2)]) (all := [.int .i64 (1), .int .i64 (1), .int .i64 (2), .int .i64 (2)]) ty100 rfl rfl rfl) ?_
  intro w hw
  obtain ⟨β1, sb, kn, hw1, back⟩ := St.frame_all hw
  refine (room_ok β1 w hw1 (1 : Int) (1 : Int) (2 : Int) (2 : Int)).mono ?_
  rintro e w' ⟨rfl, hw'⟩
  refine ⟨_, rfl, _, back _ _ hw', ?_⟩
  clear hw hw1 hw' back kn sb
  refine l_mv rfl rfl rfl (m_slices tp14 tp8 (vs := [(0, .agg #[.int .i64 (0), .int .i64 (0), .int .i64 (1), .int .i64 (1)]), (1, .agg #[.int .i64 (1), .int .i64 (1), .int .i64 (2), .int .i64 (2)])]) (cells := #[.int .i64 (0), .int .i64 (0), .int .i64 (1), .int .i64 (1), .int .i64 (1), .int .i64 (1), .int .i64 (2), .int .i64 (2)]) rfl rfl rfl rfl) ?_
  rintro _ _ ⟨b13, rfl, rfl⟩
  refine l_val (v := .slice (some ⟨b13, 0, none⟩) 2 2) rfl rfl rfl (e_assign) ?_
  refine l_nil ?_
  refine f_then ?_
  refine c_seq ?_
  refine c_region ?_
  refine l_val (v := .slice (some ⟨b13, 0, none⟩) 2 2) rfl rfl rfl (e_move) ?_
  refine l_call rfl rfl rfl (cl_value (fst := []) (cap := []) (vs := [.int .i64 (0), .int .i64 (0)]) (all := [.int .i64 (0), .int .i64 (0)]) ty102 rfl rfl rfl) ?_
  intro w hw
  obtain ⟨β1, sb, kn, hw1, back⟩ := St.frame_all hw
  refine (point_ok β1 w hw1 (0 : Int) (0 : Int)).mono ?_
  rintro e w' ⟨rfl, hw'⟩
  refine ⟨_, rfl, _, back _ _ hw', ?_⟩
  clear hw hw1 hw' back kn sb
  refine l_call rfl rfl rfl (cl_value (fst := []) (cap := []) (vs := [.int .i64 (2), .int .i64 (2)]) (all := [.int .i64 (2), .int .i64 (2)]) ty102 rfl rfl rfl) ?_
  intro w hw
  obtain ⟨β1, sb, kn, hw1, back⟩ := St.frame_all hw
  refine (point_ok β1 w hw1 (2 : Int) (2 : Int)).mono ?_
  rintro e w' ⟨rfl, hw'⟩
  refine ⟨_, rfl, _, back _ _ hw', ?_⟩
  clear hw hw1 hw' back kn sb
  refine l_call rfl rfl rfl (cl_value (fst := []) (cap := []) (vs := [.slice (some ⟨b13, 0, none⟩) 2 2, .agg #[.int .i64 (0), .int .i64 (0)], .agg #[.int .i64 (2), .int .i64 (2)]]) (all := [.slice (some ⟨b13, 0, none⟩) 2 2, .agg #[.int .i64 (0), .int .i64 (0)], .agg #[.int .i64 (2), .int .i64 (2)]]) ty103 rfl rfl rfl) ?_
  intro w hw
  obtain ⟨β1, sb, kn, hw1, back⟩ := St.frame_all hw
  refine (awF3 β1 w hw1 _ (kn _ (k_ptFls (F := AreaF) 0 (m := 2) (xs := [(⟨0, 0, 1, 1⟩ : KA), (⟨1, 1, 2, 2⟩ : KA)]) rfl rfl rfl (by decide)))).mono ?_
  rintro e w' ⟨p14, c15, rfl, hw'⟩
  refine ⟨_, rfl, _, back _ _ hw', ?_⟩
  clear hw hw1 hw' back kn sb
  refine l_val (v := .tuple #[.slice p14 (0) c15, .int .i64 (0), .int .i64 (6)]) rfl rfl rfl (e_move) ?_
  refine l_val (v := .slice p14 (0) c15) rfl rfl rfl (e_extract (vs := #[.slice p14 (0) c15, .int .i64 (0), .int .i64 (6)]) rfl rfl) ?_
  refine l_val (v := .int .i64 (0)) rfl rfl rfl (e_extract (vs := #[.slice p14 (0) c15, .int .i64 (0), .int .i64 (6)]) rfl rfl) ?_
  refine l_val (v := .int .i64 (6)) rfl rfl rfl (e_extract (vs := #[.slice p14 (0) c15, .int .i64 (0), .int .i64 (6)]) rfl rfl) ?_
  refine l_val (v := .slice p14 (0) c15) rfl rfl rfl (e_assign) ?_
  refine l_val (v := .int .i64 (0)) rfl rfl rfl (e_assign) ?_
  refine l_val (v := .int .i64 (6)) rfl rfl rfl (e_assign) ?_
  refine l_nil ?_
  refine f_then ?_
  refine c_seq ?_
  refine c_region ?_
  refine l_val (v := .slice (some ⟨b13, 0, none⟩) 2 2) rfl rfl rfl (e_move) ?_
  refine l_call rfl rfl rfl (cl_value (fst := []) (cap := []) (vs := [.int .i64 (0), .int .i64 (0)]) (all := [.int .i64 (0), .int .i64 (0)]) ty102 rfl rfl rfl) ?_
  intro w hw
  obtain ⟨β1, sb, kn, hw1, back⟩ := St.frame_all hw
  refine (point_ok β1 w hw1 (0 : Int) (0 : Int)).mono ?_
  rintro e w' ⟨rfl, hw'⟩
  refine ⟨_, rfl, _, back _ _ hw', ?_⟩
  clear hw hw1 hw' back kn sb
  refine l_call rfl rfl rfl (cl_value (fst := []) (cap := []) (vs := [.int .i64 (1), .int .i64 (1)]) (all := [.int .i64 (1), .int .i64 (1)]) ty102 rfl rfl rfl) ?_
  intro w hw
  obtain ⟨β1, sb, kn, hw1, back⟩ := St.frame_all hw
  refine (point_ok β1 w hw1 (1 : Int) (1 : Int)).mono ?_
  rintro e w' ⟨rfl, hw'⟩
  refine ⟨_, rfl, _, back _ _ hw', ?_⟩
  clear hw hw1 hw' back kn sb
  refine l_call rfl rfl rfl (cl_value (fst := []) (cap := []) (vs := [.slice (some ⟨b13, 0, none⟩) 2 2, .agg #[.int .i64 (0), .int .i64 (0)], .agg #[.int .i64 (1), .int .i64 (1)]]) (all := [.slice (some ⟨b13, 0, none⟩) 2 2, .agg #[.int .i64 (0), .int .i64 (0)], .agg #[.int .i64 (1), .int .i64 (1)]]) ty103 rfl rfl rfl) ?_
  intro w hw
  obtain ⟨β1, sb, kn, hw1, back⟩ := St.frame_all hw
  refine (awF4 β1 w hw1 _ (kn _ (k_ptFls (F := AreaF) 1 (m := 2) (xs := [(⟨0, 0, 1, 1⟩ : KA), (⟨1, 1, 2, 2⟩ : KA)]) rfl rfl rfl (by decide)))).mono ?_
  rintro e w' ⟨p16, c17, rfl, hw'⟩
  refine ⟨_, rfl, _, back _ _ hw', ?_⟩
  clear hw hw1 hw' back kn sb
  refine l_val (v := .tuple #[.slice p16 (2) c17, .int .i64 (23), .int .i64 (0)]) rfl rfl rfl (e_move) ?_
  refine l_val (v := .slice p16 (2) c17) rfl rfl rfl (e_extract (vs := #[.slice p16 (2) c17, .int .i64 (23), .int .i64 (0)]) rfl rfl) ?_
  refine l_val (v := .int .i64 (23)) rfl rfl rfl (e_extract (vs := #[.slice p16 (2) c17, .int .i64 (23), .int .i64 (0)]) rfl rfl) ?_
  refine l_val (v := .int .i64 (0)) rfl rfl rfl (e_extract (vs := #[.slice p16 (2) c17, .int .i64 (23), .int .i64 (0)]) rfl rfl) ?_
  refine l_val (v := .slice p16 (2) c17) rfl rfl rfl (e_assign) ?_
  refine l_val (v := .int .i64 (23)) rfl rfl rfl (e_assign) ?_
  refine l_val (v := .int .i64 (0)) rfl rfl rfl (e_assign) ?_
  refine l_nil ?_
  refine f_then ?_
  refine c_seq ?_
  refine c_seq ?_
  refine c_region ?_
  refine l_val (v := .int .i64 (0)) rfl rfl rfl (e_move) ?_
  refine l_val (v := .int .i64 (0)) rfl rfl rfl (e_move) ?_
  refine l_val (v := .int .i64 (0)) rfl rfl rfl (e_add (a := (0 : Int)) (b := (0 : Int)) rfl rfl (by decide)) ?_
  refine l_val (v := .int .i64 (0)) rfl rfl rfl (e_move) ?_
  refine l_val (v := .int .i64 (0)) rfl rfl rfl (e_add (a := (0 : Int)) (b := (0 : Int)) rfl rfl (by decide)) ?_
  refine l_val (v := .int .i64 (0)) rfl rfl rfl (e_move) ?_
  refine l_val (v := .int .i64 (0)) rfl rfl rfl (e_add (a := (0 : Int)) (b := (0 : Int)) rfl rfl (by decide)) ?_
  refine l_val (v := .int .i64 (0)) rfl rfl rfl (e_move) ?_
  refine l_val (v := .int .i64 (0)) rfl rfl rfl (e_add (a := (0 : Int)) (b := (0 : Int)) rfl rfl (by decide)) ?_
  refine l_val (v := .int .i64 (0)) rfl rfl rfl (e_move) ?_
  refine l_val (v := .int .i64 (0)) rfl rfl rfl (e_add (a := (0 : Int)) (b := (0 : Int)) rfl rfl (by decide)) ?_
  refine l_val (v := .bool false) rfl rfl rfl (e_neq (a := (0 : Int)) (b := (0 : Int)) rfl rfl) ?_
  refine l_val (v := .bool false) rfl rfl rfl (e_move) ?_
  refine g_val (v := .int .i64 (6)) rfl rfl rfl rfl rfl (e_move) ?_
  refine g_val (v := .bool false) rfl rfl rfl rfl rfl (e_neq (a := (6 : Int)) (b := (6 : Int)) rfl rfl) ?_
  refine l_val (v := .bool false) rfl rfl rfl (e_pick_f rfl) ?_
  refine l_val (v := .bool false) rfl rfl rfl (e_move) ?_
  refine g_val (v := .int .i64 (480)) rfl rfl rfl rfl rfl (e_move) ?_
  refine g_val (v := .bool false) rfl rfl rfl rfl rfl (e_neq (a := (480 : Int)) (b := (480 : Int)) rfl rfl) ?_
  refine l_val (v := .bool false) rfl rfl rfl (e_pick_f rfl) ?_
  refine l_val (v := .bool false) rfl rfl rfl (e_move) ?_
  refine g_val (v := .int .i64 (23)) rfl rfl rfl rfl rfl (e_move) ?_
  refine g_val (v := .bool false) rfl rfl rfl rfl rfl (e_neq (a := (23 : Int)) (b := (23 : Int)) rfl rfl) ?_
  refine l_val (v := .bool false) rfl rfl rfl (e_pick_f rfl) ?_
  refine l_val (v := .bool false) rfl rfl rfl (e_move) ?_
  refine g_call rfl rfl rfl rfl rfl (cl_value (fst := []) (cap := []) (vs := [.int .i64 (0), .int .i64 (0)]) (all := [.int .i64 (0), .int .i64 (0)]) ty102 rfl rfl rfl) ?_
  intro w hw
  obtain ⟨β1, sb, kn, hw1, back⟩ := St.frame_all hw
  refine (point_ok β1 w hw1 (0 : Int) (0 : Int)).mono ?_
  rintro e w' ⟨rfl, hw'⟩
  refine ⟨_, rfl, _, back _ _ hw', ?_⟩
  clear hw hw1 hw' back kn sb
  refine g_call rfl rfl rfl rfl rfl (cl_value (fst := []) (cap := []) (vs := [.int .i64 (3), .int .i64 (4)]) (all := [.int .i64 (3), .int .i64 (4)]) ty102 rfl rfl rfl) ?_
  intro w hw
  obtain ⟨β1, sb, kn, hw1, back⟩ := St.frame_all hw
  refine (point_ok β1 w hw1 (3 : Int) (4 : Int)).mono ?_
  rintro e w' ⟨rfl, hw'⟩
  refine ⟨_, rfl, _, back _ _ hw', ?_⟩
  clear hw hw1 hw' back kn sb
  refine g_call rfl rfl rfl rfl rfl (cl_value (fst := []) (cap := []) (vs := [.agg #[.int .i64 (0), .int .i64 (0)], .agg #[.int .i64 (3), .int .i64 (4)]]) (all := [.agg #[.int .i64 (0), .int .i64 (0)], .agg #[.int .i64 (3), .int .i64 (4)]]) tw90 rfl rfl rfl) ?_
  intro w hw
  obtain ⟨β1, sb, kn, hw1, back⟩ := St.frame_all hw
  refine (awL β1 w hw1).mono ?_
  rintro e w' ⟨rfl, hw'⟩
  refine ⟨_, rfl, _, back _ _ hw', ?_⟩
  clear hw hw1 hw' back kn sb
  refine g_val (v := .bool false) rfl rfl rfl rfl rfl (e_neq (a := (80 : Int)) (b := (80 : Int)) rfl rfl) ?_
  refine l_val (v := .bool false) rfl rfl rfl (e_pick_f rfl) ?_
  refine l_val (v := .bool false) rfl rfl rfl (e_move) ?_
  refine g_val (v := .slice p11 (0) c12) rfl rfl rfl rfl rfl (e_move) ?_
  refine g_val (v := Nx (0)) rfl rfl rfl rfl rfl (e_len (a := p11) (n := 0) (c := c12) rfl tv43) ?_
  refine g_val (v := .bool (decide (((0 : Nat) : Int) ≠ (0 : Int)))) rfl rfl rfl rfl rfl (e_neq (a := ((0 : Nat) : Int)) (b := (0 : Int)) rfl rfl) ?_
  refine l_val (v := .bool (decide (((0 : Nat) : Int) ≠ (0 : Int)))) rfl rfl rfl (e_pick_f rfl) ?_
  refine l_val (v := .bool (decide (((0 : Nat) : Int) ≠ (0 : Int)))) rfl rfl rfl (e_move) ?_
  refine l_split (s := 109) (p := ((0 : Nat) : Int) ≠ (0 : Int)) rfl (fun h => ?_) (fun h => ?_)
  exact absurd h (fun q => q rfl)
  refine g_val (v := .slice p9 (2) c10) rfl rfl rfl rfl rfl (e_move) ?_
  refine g_mv rfl rfl rfl rfl rfl (m_slices tu29 tu30 (vs := [(0, .int .i64 (0)), (1, .int .i64 (1))]) (cells := #[.int .i64 (0), .int .i64 (1)]) rfl rfl rfl rfl) ?_
  rintro _ _ ⟨b18, rfl, rfl⟩
  refine g_call rfl rfl rfl rfl rfl (cl_value (fst := []) (cap := []) (vs := [.slice p9 (2) c10, .slice (some ⟨b18, 0, none⟩) 2 2]) (all := [.slice p9 (2) c10, .slice (some ⟨b18, 0, none⟩) 2 2]) ty104 rfl rfl rfl) ?_
  intro w hw
  obtain ⟨β1, sb, kn, hw1, back⟩ := St.frame_all hw
  refine (sameI_ok β1 w hw1 _ _ [0, 1] [0, 1] (kn _ (k_flN 5 (F := NatF) (m := 2) rfl rfl)) (kn _ (k_ptFls (F := NatF) 0 (m := 2) (xs := [0, 1]) rfl rfl rfl (by decide)))).mono ?_
  rintro e w' ⟨rfl, hw'⟩
  refine ⟨_, rfl, _, back _ _ hw', ?_⟩
  clear hw hw1 hw' back kn sb
  refine g_val (v := .bool (decide (¬ ([0, 1] = [0, 1])))) rfl rfl rfl rfl rfl (e_not_p (p := [0, 1] = [0, 1]) rfl) ?_
  refine l_val (v := .bool (decide (¬ ([0, 1] = [0, 1])))) rfl rfl rfl (e_pick_f rfl) ?_
  refine l_nil ?_
  refine f_then ?_
  refine c_if (¬ ([0, 1] = [0, 1])) rfl (fun hc19 => ?_) (fun hc19 => ?_)
  ·
    exact absurd hc19 (fun q => q (by decide))
  ·
    refine c_skip ?_
    refine f_then ?_
    refine c_seq ?_
    refine c_seq ?_
    refine c_region ?_
    refine l_val (v := .slice p3 (3) c4) rfl rfl rfl (e_move) ?_
    refine l_call rfl rfl rfl (cl_value (fst := []) (cap := []) (vs := [.int .i64 (10), .int .i64 (5)]) (all := [.int .i64 (10), .int .i64 (5)]) ty102 rfl rfl rfl) ?_
    intro w hw
    obtain ⟨β1, sb, kn, hw1, back⟩ := St.frame_all hw
    refine (point_ok β1 w hw1 (10 : Int) (5 : Int)).mono ?_
    rintro e w' ⟨rfl, hw'⟩
    refine ⟨_, rfl, _, back _ _ hw', ?_⟩
    clear hw hw1 hw' back kn sb
    refine l_val (v := .agg #[.int .i64 (0), .int .i64 (1), .int .i64 (10), .int .i64 (5)]) rfl rfl rfl (e_build tu37 tu36 (vs := [(0, .int .i64 (0)), (1, .int .i64 (1)), (2, .agg #[.int .i64 (10), .int .i64 (5)])]) (cells := #[.int .i64 (0), .int .i64 (1), .int .i64 (10), .int .i64 (5)]) rfl rfl) ?_
    refine l_call rfl rfl rfl (cl_value (fst := []) (cap := []) (vs := [.int .i64 (4), .int .i64 (10)]) (all := [.int .i64 (4), .int .i64 (10)]) ty102 rfl rfl rfl) ?_
    intro w hw
    obtain ⟨β1, sb, kn, hw1, back⟩ := St.frame_all hw
    refine (point_ok β1 w hw1 (4 : Int) (10 : Int)).mono ?_
    rintro e w' ⟨rfl, hw'⟩
    refine ⟨_, rfl, _, back _ _ hw', ?_⟩
    clear hw hw1 hw' back kn sb
    refine l_val (v := .agg #[.int .i64 (0), .int .i64 (3), .int .i64 (4), .int .i64 (10)]) rfl rfl rfl (e_build tu37 tu36 (vs := [(0, .int .i64 (0)), (1, .int .i64 (3)), (2, .agg #[.int .i64 (4), .int .i64 (10)])]) (cells := #[.int .i64 (0), .int .i64 (3), .int .i64 (4), .int .i64 (10)]) rfl rfl) ?_
    refine l_call rfl rfl rfl (cl_value (fst := []) (cap := []) (vs := [.int .i64 (20), .int .i64 (5)]) (all := [.int .i64 (20), .int .i64 (5)]) ty102 rfl rfl rfl) ?_
    intro w hw
    obtain ⟨β1, sb, kn, hw1, back⟩ := St.frame_all hw
    refine (point_ok β1 w hw1 (20 : Int) (5 : Int)).mono ?_
    rintro e w' ⟨rfl, hw'⟩
    refine ⟨_, rfl, _, back _ _ hw', ?_⟩
    clear hw hw1 hw' back kn sb
    refine l_val (v := .agg #[.int .i64 (1), .int .i64 (2), .int .i64 (20), .int .i64 (5)]) rfl rfl rfl (e_build tu37 tu36 (vs := [(0, .int .i64 (1)), (1, .int .i64 (2)), (2, .agg #[.int .i64 (20), .int .i64 (5)])]) (cells := #[.int .i64 (1), .int .i64 (2), .int .i64 (20), .int .i64 (5)]) rfl rfl) ?_
    refine l_mv rfl rfl rfl (m_slices tu38 tu37 (vs := [(0, .agg #[.int .i64 (0), .int .i64 (1), .int .i64 (10), .int .i64 (5)]), (1, .agg #[.int .i64 (0), .int .i64 (3), .int .i64 (4), .int .i64 (10)]), (2, .agg #[.int .i64 (1), .int .i64 (2), .int .i64 (20), .int .i64 (5)])]) (cells := #[.int .i64 (0), .int .i64 (1), .int .i64 (10), .int .i64 (5), .int .i64 (0), .int .i64 (3), .int .i64 (4), .int .i64 (10), .int .i64 (1), .int .i64 (2), .int .i64 (20), .int .i64 (5)]) rfl rfl rfl (by kernel_rfl)) ?_
    rintro _ _ ⟨b20, rfl, rfl⟩
    refine l_call rfl rfl rfl (cl_value (fst := []) (cap := []) (vs := [.slice p3 (3) c4, .slice (some ⟨b20, 0, none⟩) 3 3]) (all := [.slice p3 (3) c4, .slice (some ⟨b20, 0, none⟩) 3 3]) ty105 rfl rfl rfl) ?_
    intro w hw
    obtain ⟨β1, sb, kn, hw1, back⟩ := St.frame_all hw
    refine (sameP_ok β1 w hw1 _ _ [⟨0, 1, 10, 5⟩, ⟨0, 3, 4, 10⟩, ⟨1, 2, 20, 5⟩] [(⟨0, 1, 10, 5⟩ : KO), (⟨0, 3, 4, 10⟩ : KO), (⟨1, 2, 20, 5⟩ : KO)] (kn _ (k_flN 9 (F := PoF) (m := 3) rfl rfl)) (kn _ (k_ptFls (F := PoF) 0 (m := 3) (xs := [(⟨0, 1, 10, 5⟩ : KO), (⟨0, 3, 4, 10⟩ : KO), (⟨1, 2, 20, 5⟩ : KO)]) rfl rfl rfl (by decide)))).mono ?_
    rintro e w' ⟨rfl, hw'⟩
    refine ⟨_, rfl, _, back _ _ hw', ?_⟩
    clear hw hw1 hw' back kn sb
    refine l_val (v := .bool (decide (¬ ([⟨0, 1, 10, 5⟩, ⟨0, 3, 4, 10⟩, ⟨1, 2, 20, 5⟩] = [(⟨0, 1, 10, 5⟩ : KO), (⟨0, 3, 4, 10⟩ : KO), (⟨1, 2, 20, 5⟩ : KO)])))) rfl rfl rfl (e_not_p (p := [⟨0, 1, 10, 5⟩, ⟨0, 3, 4, 10⟩, ⟨1, 2, 20, 5⟩] = [(⟨0, 1, 10, 5⟩ : KO), (⟨0, 3, 4, 10⟩ : KO), (⟨1, 2, 20, 5⟩ : KO)]) rfl) ?_
    refine l_nil ?_
    refine f_then ?_
    refine c_if (¬ ([⟨0, 1, 10, 5⟩, ⟨0, 3, 4, 10⟩, ⟨1, 2, 20, 5⟩] = [(⟨0, 1, 10, 5⟩ : KO), (⟨0, 3, 4, 10⟩ : KO), (⟨1, 2, 20, 5⟩ : KO)])) rfl (fun hc21 => ?_) (fun hc21 => ?_)
    ·
      exact absurd hc21 (fun q => q (by decide))
    ·
      refine c_skip ?_
      refine f_then ?_
      refine c_seq ?_
      refine c_region ?_
      refine l_val (v := .slice p5 (4) c6) rfl rfl rfl (e_move) ?_
      refine l_call rfl rfl rfl (cl_value (fst := []) (cap := []) (vs := [.int .i64 (0), .int .i64 (5)]) (all := [.int .i64 (0), .int .i64 (5)]) ty102 rfl rfl rfl) ?_
      intro w hw
      obtain ⟨β1, sb, kn, hw1, back⟩ := St.frame_all hw
      refine (point_ok β1 w hw1 (0 : Int) (5 : Int)).mono ?_
      rintro e w' ⟨rfl, hw'⟩
      refine ⟨_, rfl, _, back _ _ hw', ?_⟩
      clear hw hw1 hw' back kn sb
      refine l_call rfl rfl rfl (cl_value (fst := []) (cap := []) (vs := [.int .i64 (10), .int .i64 (5)]) (all := [.int .i64 (10), .int .i64 (5)]) ty102 rfl rfl rfl) ?_
      intro w hw
      obtain ⟨β1, sb, kn, hw1, back⟩ := St.frame_all hw
      refine (point_ok β1 w hw1 (10 : Int) (5 : Int)).mono ?_
      rintro e w' ⟨rfl, hw'⟩
      refine ⟨_, rfl, _, back _ _ hw', ?_⟩
      clear hw hw1 hw' back kn sb
      refine l_call rfl rfl rfl (cl_value (fst := []) (cap := []) (vs := [.int .i64 (20), .int .i64 (5)]) (all := [.int .i64 (20), .int .i64 (5)]) ty102 rfl rfl rfl) ?_
      intro w hw
      obtain ⟨β1, sb, kn, hw1, back⟩ := St.frame_all hw
      refine (point_ok β1 w hw1 (20 : Int) (5 : Int)).mono ?_
      rintro e w' ⟨rfl, hw'⟩
      refine ⟨_, rfl, _, back _ _ hw', ?_⟩
      clear hw hw1 hw' back kn sb
      refine l_call rfl rfl rfl (cl_value (fst := []) (cap := []) (vs := [.int .i64 (30), .int .i64 (5)]) (all := [.int .i64 (30), .int .i64 (5)]) ty102 rfl rfl rfl) ?_
      intro w hw
      obtain ⟨β1, sb, kn, hw1, back⟩ := St.frame_all hw
      refine (point_ok β1 w hw1 (30 : Int) (5 : Int)).mono ?_
      rintro e w' ⟨rfl, hw'⟩
      refine ⟨_, rfl, _, back _ _ hw', ?_⟩
      clear hw hw1 hw' back kn sb
      refine l_mv rfl rfl rfl (m_slices tv67 tp5 (vs := [(0, .agg #[.int .i64 (0), .int .i64 (5)]), (1, .agg #[.int .i64 (10), .int .i64 (5)]), (2, .agg #[.int .i64 (20), .int .i64 (5)]), (3, .agg #[.int .i64 (30), .int .i64 (5)])]) (cells := #[.int .i64 (0), .int .i64 (5), .int .i64 (10), .int .i64 (5), .int .i64 (20), .int .i64 (5), .int .i64 (30), .int .i64 (5)]) rfl rfl rfl rfl) ?_
      rintro _ _ ⟨b22, rfl, rfl⟩
      refine l_call rfl rfl rfl (cl_value (fst := []) (cap := []) (vs := [.slice p5 (4) c6, .slice (some ⟨b22, 0, none⟩) 4 4]) (all := [.slice p5 (4) c6, .slice (some ⟨b22, 0, none⟩) 4 4]) ty106 rfl rfl rfl) ?_
      intro w hw
      obtain ⟨β1, sb, kn, hw1, back⟩ := St.frame_all hw
      refine (sameV_ok β1 w hw1 _ _ ([⟨0, 5⟩, ⟨10, 5⟩, ⟨20, 5⟩, ⟨30, 5⟩] : List KV) [(⟨0, 5⟩ : KV), (⟨10, 5⟩ : KV), (⟨20, 5⟩ : KV), (⟨30, 5⟩ : KV)] (kn _ (k_flN 9 (F := VecF) (m := 4) rfl rfl)) (kn _ (k_ptFls (F := VecF) 0 (m := 4) (xs := [(⟨0, 5⟩ : KV), (⟨10, 5⟩ : KV), (⟨20, 5⟩ : KV), (⟨30, 5⟩ : KV)]) rfl rfl rfl (by decide)))).mono ?_
      rintro e w' ⟨rfl, hw'⟩
      refine ⟨_, rfl, _, back _ _ hw', ?_⟩
      clear hw hw1 hw' back kn sb
      refine l_val (v := .bool (decide (([⟨0, 5⟩, ⟨10, 5⟩, ⟨20, 5⟩, ⟨30, 5⟩] : List KV) = [(⟨0, 5⟩ : KV), (⟨10, 5⟩ : KV), (⟨20, 5⟩ : KV), (⟨30, 5⟩ : KV)]))) rfl rfl rfl (e_move) ?_
      refine l_split (s := 132) (p := ([⟨0, 5⟩, ⟨10, 5⟩, ⟨20, 5⟩, ⟨30, 5⟩] : List KV) = [(⟨0, 5⟩ : KV), (⟨10, 5⟩ : KV), (⟨20, 5⟩ : KV), (⟨30, 5⟩ : KV)]) rfl (fun h => ?_) (fun h => ?_)
      rotate_left; exact absurd (by decide) h
      refine g_val (v := .slice p7 (5) c8) rfl rfl rfl rfl rfl (e_move) ?_
      refine g_call rfl rfl rfl rfl rfl (cl_value (fst := []) (cap := []) (vs := [.int .i64 (5), .int .i64 (20)]) (all := [.int .i64 (5), .int .i64 (20)]) ty102 rfl rfl rfl) ?_
      intro w hw
      obtain ⟨β1, sb, kn, hw1, back⟩ := St.frame_all hw
      refine (point_ok β1 w hw1 (5 : Int) (20 : Int)).mono ?_
      rintro e w' ⟨rfl, hw'⟩
      refine ⟨_, rfl, _, back _ _ hw', ?_⟩
      clear hw hw1 hw' back kn sb
      refine g_call rfl rfl rfl rfl rfl (cl_value (fst := []) (cap := []) (vs := [.int .i64 (4), .int .i64 (10)]) (all := [.int .i64 (4), .int .i64 (10)]) ty102 rfl rfl rfl) ?_
      intro w hw
      obtain ⟨β1, sb, kn, hw1, back⟩ := St.frame_all hw
      refine (point_ok β1 w hw1 (4 : Int) (10 : Int)).mono ?_
      rintro e w' ⟨rfl, hw'⟩
      refine ⟨_, rfl, _, back _ _ hw', ?_⟩
      clear hw hw1 hw' back kn sb
      refine g_call rfl rfl rfl rfl rfl (cl_value (fst := []) (cap := []) (vs := [.int .i64 (10), .int .i64 (5)]) (all := [.int .i64 (10), .int .i64 (5)]) ty102 rfl rfl rfl) ?_
      intro w hw
      obtain ⟨β1, sb, kn, hw1, back⟩ := St.frame_all hw
      refine (point_ok β1 w hw1 (10 : Int) (5 : Int)).mono ?_
      rintro e w' ⟨rfl, hw'⟩
      refine ⟨_, rfl, _, back _ _ hw', ?_⟩
      clear hw hw1 hw' back kn sb
      refine g_call rfl rfl rfl rfl rfl (cl_value (fst := []) (cap := []) (vs := [.int .i64 (20), .int .i64 (5)]) (all := [.int .i64 (20), .int .i64 (5)]) ty102 rfl rfl rfl) ?_
      intro w hw
      obtain ⟨β1, sb, kn, hw1, back⟩ := St.frame_all hw
      refine (point_ok β1 w hw1 (20 : Int) (5 : Int)).mono ?_
      rintro e w' ⟨rfl, hw'⟩
      refine ⟨_, rfl, _, back _ _ hw', ?_⟩
      clear hw hw1 hw' back kn sb
      refine g_call rfl rfl rfl rfl rfl (cl_value (fst := []) (cap := []) (vs := [.int .i64 (25), .int .i64 (5)]) (all := [.int .i64 (25), .int .i64 (5)]) ty102 rfl rfl rfl) ?_
      intro w hw
      obtain ⟨β1, sb, kn, hw1, back⟩ := St.frame_all hw
      refine (point_ok β1 w hw1 (25 : Int) (5 : Int)).mono ?_
      rintro e w' ⟨rfl, hw'⟩
      refine ⟨_, rfl, _, back _ _ hw', ?_⟩
      clear hw hw1 hw' back kn sb
      refine g_mv rfl rfl rfl rfl rfl (m_slices tv67 tp5 (vs := [(0, .agg #[.int .i64 (5), .int .i64 (20)]), (1, .agg #[.int .i64 (4), .int .i64 (10)]), (2, .agg #[.int .i64 (10), .int .i64 (5)]), (3, .agg #[.int .i64 (20), .int .i64 (5)]), (4, .agg #[.int .i64 (25), .int .i64 (5)])]) (cells := #[.int .i64 (5), .int .i64 (20), .int .i64 (4), .int .i64 (10), .int .i64 (10), .int .i64 (5), .int .i64 (20), .int .i64 (5), .int .i64 (25), .int .i64 (5)]) rfl rfl rfl (by kernel_rfl)) ?_
      rintro _ _ ⟨b23, rfl, rfl⟩
      refine g_call rfl rfl rfl rfl rfl (cl_value (fst := []) (cap := []) (vs := [.slice p7 (5) c8, .slice (some ⟨b23, 0, none⟩) 5 5]) (all := [.slice p7 (5) c8, .slice (some ⟨b23, 0, none⟩) 5 5]) ty106 rfl rfl rfl) ?_
      intro w hw
      obtain ⟨β1, sb, kn, hw1, back⟩ := St.frame_all hw
      refine (sameV_ok β1 w hw1 _ _ ([⟨5, 20⟩, ⟨4, 10⟩, ⟨10, 5⟩, ⟨20, 5⟩, ⟨25, 5⟩] : List KV) [(⟨5, 20⟩ : KV), (⟨4, 10⟩ : KV), (⟨10, 5⟩ : KV), (⟨20, 5⟩ : KV), (⟨25, 5⟩ : KV)] (kn _ (k_flN 9 (F := VecF) (m := 5) rfl rfl)) (kn _ (k_ptFls (F := VecF) 0 (m := 5) (xs := [(⟨5, 20⟩ : KV), (⟨4, 10⟩ : KV), (⟨10, 5⟩ : KV), (⟨20, 5⟩ : KV), (⟨25, 5⟩ : KV)]) rfl rfl rfl (by decide)))).mono ?_
      rintro e w' ⟨rfl, hw'⟩
      refine ⟨_, rfl, _, back _ _ hw', ?_⟩
      clear hw hw1 hw' back kn sb
      refine l_val (v := .bool (decide (([⟨5, 20⟩, ⟨4, 10⟩, ⟨10, 5⟩, ⟨20, 5⟩, ⟨25, 5⟩] : List KV) = [(⟨5, 20⟩ : KV), (⟨4, 10⟩ : KV), (⟨10, 5⟩ : KV), (⟨20, 5⟩ : KV), (⟨25, 5⟩ : KV)]))) rfl rfl rfl (e_pick_t rfl) ?_
      refine l_val (v := .bool (decide (([⟨5, 20⟩, ⟨4, 10⟩, ⟨10, 5⟩, ⟨20, 5⟩, ⟨25, 5⟩] : List KV) = [(⟨5, 20⟩ : KV), (⟨4, 10⟩ : KV), (⟨10, 5⟩ : KV), (⟨20, 5⟩ : KV), (⟨25, 5⟩ : KV)]))) rfl rfl rfl (e_assign) ?_
      refine l_nil ?_
      refine f_then ?_
      refine c_ret ?_
      refine ret1 Tryz.results4 (v := .bool (decide (([⟨5, 20⟩, ⟨4, 10⟩, ⟨10, 5⟩, ⟨20, 5⟩, ⟨25, 5⟩] : List KV) = [(⟨5, 20⟩ : KV), (⟨4, 10⟩ : KV), (⟨10, 5⟩ : KV), (⟨20, 5⟩ : KV), (⟨25, 5⟩ : KV)]))) rfl ?_
      intro w hw
      exact ⟨congrArg (fun b : Bool => Ending.returned (.bool b)) (decide_eq_true (by decide)), st_mask [false, false, false, false, false, false, false, false, false, false, false, false, false] rfl hw⟩
end Go.Proofs
