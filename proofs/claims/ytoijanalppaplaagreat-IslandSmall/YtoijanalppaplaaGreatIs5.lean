/-
 Index, Contains, comparing lists: walked. Printed by a program of my own.
-/
import Derived.Test.YtoijanalppaplaaGreatIs4
namespace Go.Isl
open Go.Sl Go.Brd Go.Stp Go.Proofs
theorem no_next {xs : List Int} {k : Nat} {x y : Int} (hx : xs[k]? = some y) (h : ¬ (x = y)) (hn : ∀ z ∈ xs.take k, z ≠ x) : ∀ z ∈ xs.take (k + 1), z ≠ x := by
 intro z hz
 rw [List.take_add_one, hx] at hz
 rcases List.mem_append.1 hz with hz | hz
 ·exact hn z hz
 ·rw [List.mem_singleton.1 hz]; exact fun e => h e.symm
theorem same_done {α : Type} {xs ys : List α} {k : Nat} (h1 : xs.length ≤ k) (h2 : ys.length ≤ k) (h : xs.take k = ys.take k) : xs = ys := by
 rwa [List.take_of_length_le h1, List.take_of_length_le h2] at h
theorem same_at {α : Type} {xs ys : List α} {k : Nat} {x y : α} (h : xs = ys) (hx : xs[k]? = some x) (hy : ys[k]? = some y) : x = y := by
 subst h; rw [hx] at hy; injection hy
theorem same_next {α : Type} {xs ys : List α} {k : Nat} {x y : α} (hx : xs[k]? = some x) (hy : ys[k]? = some y) (e : x = y) (h : xs.take k = ys.take k) : xs.take (k + 1) = ys.take (k + 1) := by
 rw [List.take_add_one, List.take_add_one, hx, hy, h, e]
/-- the bodies of the examples -/
def exB : List KB := [⟨1, 0, 0, 50, 0, 10, 10, false, false⟩, ⟨2, 75, 0, 0, 0, 10, 10, false, false⟩, ⟨3, 100, 0, 0, 0, 10, 10, false, false⟩, ⟨4, 0, 200, 0, 0, 500, 5, false, true⟩]
theorem fillBox (i x y vx vy w h : Int) : Instr.fill ([(0, 1), (1, 2), (3, 2), (5, 1), (6, 1), (7, 1), (8, 1)][·]?) (Value.agg #[.int .i64 0, .int .i64 0, .int .i64 0, .int .i64 0, .int .i64 0, .int .i64 0, .int .i64 0, .bool false, .bool false]).cells [(0, Ix i), (1, .agg #[Ix x, Ix y]), (2, .agg #[Ix vx, Ix vy]), (3, Ix w), (4, Ix h)] = some #[Ix i, Ix x, Ix y, Ix vx, Ix vy, Ix w, Ix h, .bool false, .bool false] := by kernel_rfl
theorem fillFloor (i x y w h : Int) (f : Bool) : Instr.fill ([(0, 1), (1, 2), (3, 2), (5, 1), (6, 1), (7, 1), (8, 1)][·]?) (Value.agg #[.int .i64 0, .int .i64 0, .int .i64 0, .int .i64 0, .int .i64 0, .int .i64 0, .int .i64 0, .bool false, .bool false]).cells [(0, Ix i), (1, .agg #[Ix x, Ix y]), (3, Ix w), (4, Ix h), (6, .bool f)] = some #[Ix i, Ix x, Ix y, .int .i64 0, .int .i64 0, Ix w, Ix h, .bool false, .bool f] := by kernel_rfl
end Go.Isl
namespace Go.Proofs
open Go Go.Sl Go.Brd Go.Stp Go.Isl
theorem tf63 : cfB Tryz.prog 81 = true := by kernel_rfl
theorem tf64 : Tryz.prog.underlying 43 = some (.slice 28) := by kernel_rfl
theorem tf65 : cfB Tryz.prog 56 = true := by kernel_rfl
theorem tf66 : stB Tryz.prog 33 [(0, 1), (1, 2), (3, 2), (5, 1), (6, 1), (7, 1), (8, 1)] = true := by kernel_rfl
theorem tf67 : (Tryz.prog.info? 27).bind (·.zero) = some (.agg #[.slice none 0 0, .slice none 0 0, .int .i64 (0), .int .i64 (0)]) := by kernel_rfl
theorem tf68 : cfB Tryz.prog 13 = true := by kernel_rfl
theorem tf69 : stB Tryz.prog 27 [(0, 1), (1, 1), (2, 2)] = true := by kernel_rfl
set_option maxHeartbeats 4000000 in
theorem indexI_ok (β : Base) (w : World) (hw : St β [] w) (v : Value) (xs : List Int) (hs : Sl IntF.R β.heap v xs) (x : Int) : Calls Tryz.prog 81 #[v, Ix x] w fun r w' => ∃ k : Int, r = .returned (Ix k) ∧ (0 ≤ k ↔ x ∈ xs) ∧ St β [] w' := by
 obtain ⟨va, vc, rfl, vl, vm, ve⟩ := hs.get
 refine enter (n := 19) Tryz.func81 rfl Tryz.ntmps81 rfl ?_ hw
 refine c_seq ?_
 refine c_region ?_
 refine l_val (v := .int .i64 (0)) rfl rfl rfl (e_assign) ?_
 refine l_nil ?_
 refine f_then ?_
 refine c_seq ?_
 refine c_seq ?_
 refine c_region ?_
 refine l_val (v := .slice va (xs.length) (vc)) rfl rfl rfl (e_move) ?_
 refine l_val (v := Nx (xs.length)) rfl rfl rfl (e_len (a := va) (n := xs.length) (c := vc) rfl tf28) ?_
 refine l_val (v := .int .i64 (0)) rfl rfl rfl (e_move) ?_
 refine l_nil ?_
 refine f_then ?_
 refine c_block ?_
 refine c_loop (fun (k : Nat) (f : Fm) (L : List Res) => (f 0 = .slice va (xs.length) (vc) ∧ f 1 = Ix (x) ∧ f 7 = Nx (xs.length) ∧ f 8 = Nx (k)) ∧ L = [] ∧ (k ≤ xs.length ∧ ∀ y ∈ xs.take k, y ≠ x)) (fun (k : Nat) => xs.length - k) 0 ?_ ?_
 ·exact ⟨⟨rfl, rfl, rfl, rfl⟩, rfl, ⟨by omega, by simp⟩⟩
 rintro k f0 L0 ⟨⟨hs0, hs1, hs7, hs8⟩, hL, ⟨hk, hno⟩⟩
 subst L0
 refine rebase (d := 0) hs0 ?_
 refine rebase (d := 1) hs1 ?_
 refine rebase (d := 7) hs7 ?_
 refine rebase (d := 8) hs8 ?_
 clear hs0 hs1 hs7 hs8
 refine c_seq ?_
 refine c_region ?_
 refine l_val (v := .bool (decide (((k : Nat) : Int) < ((xs.length : Nat) : Int)))) rfl rfl rfl (e_lss (a := ((k : Nat) : Int)) (b := ((xs.length : Nat) : Int)) rfl rfl) ?_
 refine l_nil ?_
 refine f_then ?_
 refine c_seq ?_
 refine c_if (((k : Nat) : Int) < ((xs.length : Nat) : Int)) rfl (fun hc1 => ?_) (fun hc1 => ?_)
 ·
  refine c_skip ?_
  refine f_then ?_
  refine c_seq ?_
  refine c_block ?_
  refine c_seq ?_
  refine c_region ?_
  refine l_val (v := Nx (k)) rfl rfl rfl (e_move) ?_
  refine l_val (v := Nx (k)) rfl rfl rfl (e_assign) ?_
  refine l_nil ?_
  refine f_then ?_
  refine c_seq ?_
  refine c_region ?_
  refine l_val (v := Ix (x)) rfl rfl rfl (e_move) ?_
  refine l_val (v := .slice va (xs.length) (vc)) rfl rfl rfl (e_move) ?_
  refine l_val (v := Nx (k)) rfl rfl rfl (e_move) ?_
  obtain ⟨x2, hx3⟩ : ∃ x_, (xs)[k]? = some x_ := ⟨_, List.getElem?_eq_getElem (by omega)⟩
  obtain ⟨ha4, cs5, hc6, rfl⟩ := ve _ _ hx3
  refine l_val (v := .pointer (some ((ba va).add (k * 1)))) rfl rfl rfl (e_indexAddr (k := k) (len := xs.length) (cap := vc) (a := va) rfl rfl tf23 (by omega) ha4) ?_
  refine l_val (v := Ix (x2)) rfl rfl rfl (e_load1 tf11 (v := Ix (x2)) rfl (Knows.of_base (Cs.mono _ _) hc6)) ?_
  refine l_val (v := .bool (decide ((x) = (x2)))) rfl rfl rfl (e_eql (a := (x)) (b := (x2)) rfl rfl) ?_
  refine l_nil ?_
  refine f_then ?_
  refine c_if ((x) = (x2)) rfl (fun hc8 => ?_) (fun hc8 => ?_)
  ·
   refine c_seq ?_
   refine c_region ?_
   refine l_val (v := Nx (k)) rfl rfl rfl (e_move) ?_
   refine l_val (v := Nx (k)) rfl rfl rfl (e_assign) ?_
   refine l_nil ?_
   refine f_then ?_
   refine c_ret ?_
   refine f_block_ret ?_
   refine f_then_ret ?_
   refine f_then_ret ?_
   refine f_block_ret ?_
   refine f_then_ret ?_
   refine ret1 Tryz.results81 (v := Nx (k)) rfl ?_
   intro w hw
   exact ⟨_, rfl, ⟨fun _ => by rw [show x = x2 from hc8]; exact List.mem_of_getElem? hx3, fun _ => by omega⟩, st_mask [] rfl hw⟩
  ·
   refine c_skip ?_
   refine f_block ?_
   refine f_then ?_
   refine c_region ?_
   refine l_val (v := Nx (k + 1)) rfl rfl rfl (e_add (a := ((k : Nat) : Int)) (b := (1 : Int)) rfl rfl (i64n (by omega) (by omega))) ?_
   refine l_val (v := Nx (k + 1)) rfl rfl rfl (e_move) ?_
   refine l_nil ?_
   exact f_cut ⟨k + 1, ⟨⟨rfl, rfl, rfl, rfl⟩, rfl, ⟨by omega, no_next hx3 hc8 hno⟩⟩, (show xs.length - (k + 1) < xs.length - k from by omega)⟩
 ·
  refine c_exit ?_
  refine f_then_exit ?_
  refine f_then_exit ?_
  refine f_exit ?_
  refine f_then ?_
  refine c_seq ?_
  refine c_region ?_
  refine l_val (v := .int .i64 (-1)) rfl rfl rfl (e_assign) ?_
  refine l_nil ?_
  refine f_then ?_
  refine c_ret ?_
  refine ret1 Tryz.results81 (v := .int .i64 (-1)) rfl ?_
  intro w hw
  exact ⟨-1, rfl, ⟨fun q => absurd q (by omega), fun q => absurd rfl (hno x (by rwa [List.take_of_length_le (by omega)]))⟩, st_mask [] rfl hw⟩
theorem containsI_ok (β : Base) (w : World) (hw : St β [] w) (v : Value) (xs : List Int) (hs : Sl IntF.R β.heap v xs) (x : Int) : Calls Tryz.prog 52 #[v, Ix x] w fun r w' => r = .returned (.bool (decide (x ∈ xs))) ∧ St β [] w' := by
 obtain ⟨va, vc, rfl, vl, vm, ve⟩ := hs.get
 refine enter (n := 9) Tryz.func52 rfl Tryz.ntmps52 rfl ?_ hw
 refine c_seq ?_
 refine c_region ?_
 refine l_val (v := .bool false) rfl rfl rfl (e_assign) ?_
 refine l_nil ?_
 refine f_then ?_
 refine c_seq ?_
 refine c_region ?_
 refine l_val (v := .slice va (xs.length) (vc)) rfl rfl rfl (e_move) ?_
 refine l_val (v := Ix (x)) rfl rfl rfl (e_move) ?_
 refine l_call rfl rfl rfl (cl_value (fst := []) (cap := []) (vs := [.slice va (xs.length) (vc), Ix (x)]) (all := [.slice va (xs.length) (vc), Ix (x)]) tf63 rfl rfl rfl) ?_
 intro w hw
 obtain ⟨β1, sb, kn, hw1, back⟩ := St.frame_all hw
 refine (indexI_ok β1 w hw1 _ xs (Sl.mono _ _ _ _ _ sb (⟨⟨_, _, rfl, vl, vm, ve⟩⟩ : Sl IntF.R _ _ xs)) x).mono ?_
 rintro e w' ⟨k1, rfl, hk2, hw'⟩
 refine ⟨_, rfl, _, back _ _ hw', ?_⟩
 clear hw hw1 hw' back kn sb
 refine l_val (v := .bool (decide ((0 : Int) ≤ (k1)))) rfl rfl rfl (e_geq (a := (k1)) (b := (0 : Int)) rfl rfl) ?_
 refine l_val (v := .bool (decide ((0 : Int) ≤ (k1)))) rfl rfl rfl (e_assign) ?_
 refine l_nil ?_
 refine f_then ?_
 refine c_ret ?_
 refine ret1 Tryz.results52 (v := .bool (decide ((0 : Int) ≤ (k1)))) rfl ?_
 intro w hw
 exact ⟨congrArg (fun b : Bool => Ending.returned (.bool b)) (decide_eq_decide.2 hk2), st_mask [] rfl hw⟩
set_option maxHeartbeats 4000000 in
theorem sameI_ok (β : Base) (w : World) (hw : St β [] w) (v u : Value) (xs ys : List Int) (hs : Sl IntF.R β.heap v xs) (ht : Sl IntF.R β.heap u ys) : Calls Tryz.prog 56 #[v, u] w fun r w' => r = .returned (.bool (decide (xs = ys))) ∧ St β [] w' := by
 obtain ⟨va, vc, rfl, vl, vm, ve⟩ := hs.get
 obtain ⟨ua, uc, rfl, ul, um, ue⟩ := ht.get
 refine enter (n := 26) Tryz.func56 rfl Tryz.ntmps56 rfl ?_ hw
 refine c_seq ?_
 refine c_region ?_
 refine l_val (v := .bool false) rfl rfl rfl (e_assign) ?_
 refine l_nil ?_
 refine f_then ?_
 refine c_seq ?_
 refine c_seq ?_
 refine c_region ?_
 refine l_val (v := .slice va (xs.length) (vc)) rfl rfl rfl (e_move) ?_
 refine l_val (v := Nx (xs.length)) rfl rfl rfl (e_len (a := va) (n := xs.length) (c := vc) rfl tf28) ?_
 refine l_val (v := .slice ua (ys.length) (uc)) rfl rfl rfl (e_move) ?_
 refine l_val (v := Nx (ys.length)) rfl rfl rfl (e_len (a := ua) (n := ys.length) (c := uc) rfl tf28) ?_
 refine l_val (v := .bool (decide (((xs.length : Nat) : Int) ≠ ((ys.length : Nat) : Int)))) rfl rfl rfl (e_neq (a := ((xs.length : Nat) : Int)) (b := ((ys.length : Nat) : Int)) rfl rfl) ?_
 refine l_nil ?_
 refine f_then ?_
 refine c_if (((xs.length : Nat) : Int) ≠ ((ys.length : Nat) : Int)) rfl (fun hc1 => ?_) (fun hc1 => ?_)
 ·
  refine c_seq ?_
  refine c_region ?_
  refine l_val (v := .bool false) rfl rfl rfl (e_assign) ?_
  refine l_nil ?_
  refine f_then ?_
  refine c_ret ?_
  refine f_then_ret ?_
  refine ret1 Tryz.results56 (v := .bool false) rfl ?_
  intro w hw
  exact ⟨congrArg (fun b : Bool => Ending.returned (.bool b)) (decide_eq_false (fun q => hc1 (by rw [q]))).symm, st_mask [] rfl hw⟩
 ·
  refine c_skip ?_
  refine f_then ?_
  refine c_seq ?_
  refine c_seq ?_
  refine c_region ?_
  refine l_val (v := .int .i64 (0)) rfl rfl rfl (e_assign) ?_
  refine l_nil ?_
  refine f_then ?_
  refine c_block ?_
  refine c_loop (fun (k : Nat) (f : Fm) (L : List Res) => (f 0 = .slice va (xs.length) (vc) ∧ f 1 = .slice ua (ys.length) (uc) ∧ f 5 = Nx (k)) ∧ L = [] ∧ (k ≤ xs.length ∧ xs.take k = ys.take k)) (fun (k : Nat) => xs.length - k) 0 ?_ ?_
  ·exact ⟨⟨rfl, rfl, rfl⟩, rfl, ⟨by omega, by simp⟩⟩
  rintro k f0 L0 ⟨⟨hs0, hs1, hs5⟩, hL, ⟨hk, hp⟩⟩
  subst L0
  refine rebase (d := 0) hs0 ?_
  refine rebase (d := 1) hs1 ?_
  refine rebase (d := 5) hs5 ?_
  clear hs0 hs1 hs5
  refine c_seq ?_
  refine c_seq ?_
  refine c_region ?_
  refine l_val (v := Nx (k)) rfl rfl rfl (e_move) ?_
  refine l_val (v := .slice va (xs.length) (vc)) rfl rfl rfl (e_move) ?_
  refine l_val (v := Nx (xs.length)) rfl rfl rfl (e_len (a := va) (n := xs.length) (c := vc) rfl tf28) ?_
  refine l_val (v := .bool (decide (((k : Nat) : Int) < ((xs.length : Nat) : Int)))) rfl rfl rfl (e_lss (a := ((k : Nat) : Int)) (b := ((xs.length : Nat) : Int)) rfl rfl) ?_
  refine l_nil ?_
  refine f_then ?_
  refine c_if (((k : Nat) : Int) < ((xs.length : Nat) : Int)) rfl (fun hc2 => ?_) (fun hc2 => ?_)
  ·
   refine c_skip ?_
   refine f_then ?_
   refine c_seq ?_
   refine c_block ?_
   refine c_seq ?_
   refine c_quiet (by kernel_rfl) (by kernel_rfl) ?_
   refine q_val (v := .slice va (xs.length) (vc)) rfl rfl rfl (e_move) ?_
   refine q_val (v := Nx (k)) rfl rfl rfl (e_move) ?_
   obtain ⟨x3, hx4⟩ : ∃ x_, (xs)[k]? = some x_ := ⟨_, List.getElem?_eq_getElem (by omega)⟩
   obtain ⟨ha5, cs6, hc7, rfl⟩ := ve _ _ hx4
   refine q_val (v := .pointer (some ((ba va).add (k * 1)))) rfl rfl rfl (e_indexAddr (k := k) (len := xs.length) (cap := vc) (a := va) rfl rfl tf23 (by omega) ha5) ?_
   refine q_val (v := Ix (x3)) rfl rfl rfl (e_load1 tf11 (v := Ix (x3)) rfl (Knows.of_base (Cs.mono _ _) hc7)) ?_
   refine q_val (v := .slice ua (ys.length) (uc)) rfl rfl rfl (e_move) ?_
   refine q_val (v := Nx (k)) rfl rfl rfl (e_move) ?_
   obtain ⟨x9, hx10⟩ : ∃ x_, (ys)[k]? = some x_ := ⟨_, List.getElem?_eq_getElem (by omega)⟩
   obtain ⟨ha11, cs12, hc13, rfl⟩ := ue _ _ hx10
   refine q_val (v := .pointer (some ((ba ua).add (k * 1)))) rfl rfl rfl (e_indexAddr (k := k) (len := ys.length) (cap := uc) (a := ua) rfl rfl tf23 (by omega) ha11) ?_
   refine q_val (v := Ix (x9)) rfl rfl rfl (e_load1 tf11 (v := Ix (x9)) rfl (Knows.of_base (Cs.mono _ _) hc13)) ?_
   refine q_val (v := .bool (decide ((x3) ≠ (x9)))) rfl rfl rfl (e_neq (a := (x3)) (b := (x9)) rfl rfl) ?_
   refine q_nil ?_
   refine f_then ?_
   refine c_if ((x3) ≠ (x9)) rfl (fun hc15 => ?_) (fun hc15 => ?_)
   ·
    refine c_seq ?_
    refine c_region ?_
    refine l_val (v := .bool false) rfl rfl rfl (e_assign) ?_
    refine l_nil ?_
    refine f_then ?_
    refine c_ret ?_
    refine f_block_ret ?_
    refine f_then_ret ?_
    refine f_then_ret ?_
    refine f_block_ret ?_
    refine f_then_ret ?_
    refine ret1 Tryz.results56 (v := .bool false) rfl ?_
    intro w hw
    exact ⟨congrArg (fun b : Bool => Ending.returned (.bool b)) (decide_eq_false (fun q => hc15 (same_at q hx4 hx10))).symm, st_mask [] rfl hw⟩
   ·
    refine c_skip ?_
    refine f_block ?_
    refine f_then ?_
    refine c_region ?_
    refine l_val (v := Nx (k)) rfl rfl rfl (e_move) ?_
    refine l_val (v := Nx (k + 1)) rfl rfl rfl (e_add (a := ((k : Nat) : Int)) (b := (1 : Int)) rfl rfl (i64n (by omega) (by omega))) ?_
    refine l_val (v := Nx (k + 1)) rfl rfl rfl (e_assign) ?_
    refine l_nil ?_
    exact f_cut ⟨k + 1, ⟨⟨rfl, rfl, rfl⟩, rfl, ⟨by omega, same_next hx4 hx10 (Decidable.not_not.1 hc15) hp⟩⟩, (show xs.length - (k + 1) < xs.length - k from by omega)⟩
  ·
   refine c_exit ?_
   refine f_then_exit ?_
   refine f_then_exit ?_
   refine f_exit ?_
   refine f_then ?_
   refine c_seq ?_
   refine c_region ?_
   refine l_val (v := .bool true) rfl rfl rfl (e_assign) ?_
   refine l_nil ?_
   refine f_then ?_
   refine c_ret ?_
   refine ret1 Tryz.results56 (v := .bool true) rfl ?_
   intro w hw
   exact ⟨congrArg (fun b : Bool => Ending.returned (.bool b)) (decide_eq_true (same_done (by omega) (by omega) hp)).symm, st_mask [] rfl hw⟩
set_option maxHeartbeats 4000000 in
theorem sameL_ok (β : Base) (w : World) (hw : St β [] w) (v u : Value) (xs ys : List (List Int)) (hs : Sl IntF.R.slice β.heap v xs) (ht : Sl IntF.R.slice β.heap u ys) : Calls Tryz.prog 23 #[v, u] w fun r w' => r = .returned (.bool (decide (xs = ys))) ∧ St β [] w' := by
 obtain ⟨va, vc, rfl, vl, vm, ve⟩ := hs.get
 obtain ⟨ua, uc, rfl, ul, um, ue⟩ := ht.get
 refine enter (n := 27) Tryz.func23 rfl Tryz.ntmps23 rfl ?_ hw
 refine c_seq ?_
 refine c_region ?_
 refine l_val (v := .bool false) rfl rfl rfl (e_assign) ?_
 refine l_nil ?_
 refine f_then ?_
 refine c_seq ?_
 refine c_seq ?_
 refine c_region ?_
 refine l_val (v := .slice va (xs.length) (vc)) rfl rfl rfl (e_move) ?_
 refine l_val (v := Nx (xs.length)) rfl rfl rfl (e_len (a := va) (n := xs.length) (c := vc) rfl tf64) ?_
 refine l_val (v := .slice ua (ys.length) (uc)) rfl rfl rfl (e_move) ?_
 refine l_val (v := Nx (ys.length)) rfl rfl rfl (e_len (a := ua) (n := ys.length) (c := uc) rfl tf64) ?_
 refine l_val (v := .bool (decide (((xs.length : Nat) : Int) ≠ ((ys.length : Nat) : Int)))) rfl rfl rfl (e_neq (a := ((xs.length : Nat) : Int)) (b := ((ys.length : Nat) : Int)) rfl rfl) ?_
 refine l_nil ?_
 refine f_then ?_
 refine c_if (((xs.length : Nat) : Int) ≠ ((ys.length : Nat) : Int)) rfl (fun hc1 => ?_) (fun hc1 => ?_)
 ·
  refine c_seq ?_
  refine c_region ?_
  refine l_val (v := .bool false) rfl rfl rfl (e_assign) ?_
  refine l_nil ?_
  refine f_then ?_
  refine c_ret ?_
  refine f_then_ret ?_
  refine ret1 Tryz.results23 (v := .bool false) rfl ?_
  intro w hw
  exact ⟨congrArg (fun b : Bool => Ending.returned (.bool b)) (decide_eq_false (fun q => hc1 (by rw [q]))).symm, st_mask [] rfl hw⟩
 ·
  refine c_skip ?_
  refine f_then ?_
  refine c_seq ?_
  refine c_seq ?_
  refine c_region ?_
  refine l_val (v := .slice va (xs.length) (vc)) rfl rfl rfl (e_move) ?_
  refine l_val (v := Nx (xs.length)) rfl rfl rfl (e_len (a := va) (n := xs.length) (c := vc) rfl tf64) ?_
  refine l_val (v := .int .i64 (0)) rfl rfl rfl (e_move) ?_
  refine l_nil ?_
  refine f_then ?_
  refine c_block ?_
  refine c_loop (fun (k : Nat) (f : Fm) (L : List Res) => (f 0 = .slice va (xs.length) (vc) ∧ f 1 = .slice ua (ys.length) (uc) ∧ f 12 = Nx (xs.length) ∧ f 13 = Nx (k)) ∧ L = [] ∧ (k ≤ xs.length ∧ xs.take k = ys.take k)) (fun (k : Nat) => xs.length - k) 0 ?_ ?_
  ·exact ⟨⟨rfl, rfl, rfl, rfl⟩, rfl, ⟨by omega, by simp⟩⟩
  rintro k f0 L0 ⟨⟨hs0, hs1, hs12, hs13⟩, hL, ⟨hk, hp⟩⟩
  subst L0
  refine rebase (d := 0) hs0 ?_
  refine rebase (d := 1) hs1 ?_
  refine rebase (d := 12) hs12 ?_
  refine rebase (d := 13) hs13 ?_
  clear hs0 hs1 hs12 hs13
  refine c_seq ?_
  refine c_region ?_
  refine l_val (v := .bool (decide (((k : Nat) : Int) < ((xs.length : Nat) : Int)))) rfl rfl rfl (e_lss (a := ((k : Nat) : Int)) (b := ((xs.length : Nat) : Int)) rfl rfl) ?_
  refine l_nil ?_
  refine f_then ?_
  refine c_seq ?_
  refine c_if (((k : Nat) : Int) < ((xs.length : Nat) : Int)) rfl (fun hc2 => ?_) (fun hc2 => ?_)
  ·
   refine c_skip ?_
   refine f_then ?_
   refine c_seq ?_
   refine c_block ?_
   refine c_seq ?_
   refine c_region ?_
   refine l_val (v := Nx (k)) rfl rfl rfl (e_move) ?_
   refine l_val (v := Nx (k)) rfl rfl rfl (e_assign) ?_
   refine l_nil ?_
   refine f_then ?_
   refine c_seq ?_
   obtain ⟨x3, hx4⟩ : ∃ x_, (xs)[k]? = some x_ := ⟨_, List.getElem?_eq_getElem (by omega)⟩
   obtain ⟨ha5, cs6, hc7, hr8⟩ := ve _ _ hx4
   obtain ⟨v9, rfl, hv10⟩ := hr8
   obtain ⟨a11, c12, rfl, hl13, hm14, he15⟩ := (hv10).get
   obtain ⟨x16, hx17⟩ : ∃ x_, (ys)[k]? = some x_ := ⟨_, List.getElem?_eq_getElem (by omega)⟩
   obtain ⟨ha18, cs19, hc20, hr21⟩ := ue _ _ hx17
   obtain ⟨v22, rfl, hv23⟩ := hr21
   obtain ⟨a24, c25, rfl, hl26, hm27, he28⟩ := (hv23).get
   refine c_any [⟨[], [], [0], [16], fun f => f 16 = .slice va (xs.length) (vc)⟩, ⟨[], [], [1], [17], fun f => f 17 = Nx (k)⟩, ⟨[0, 1], [0, 1], [], [18], fun f => f 18 = .pointer (some ((ba va).add (k * 1)))⟩, ⟨[0, 1, 2], [2], [], [19], fun f => f 19 = .slice a11 (x3.length) (c12)⟩, ⟨[], [], [2], [20], fun f => f 20 = .slice ua (ys.length) (uc)⟩, ⟨[], [], [1], [21], fun f => f 21 = Nx (k)⟩, ⟨[4, 5], [4, 5], [], [22], fun f => f 22 = .pointer (some ((ba ua).add (k * 1)))⟩, ⟨[4, 5, 6], [6], [], [23], fun f => f 23 = .slice a24 (x16.length) (c25)⟩, ⟨[0, 1, 2, 3, 4, 5, 6, 7], [3, 7], [], [24], fun f => f 24 = .bool (decide (x3 = x16))⟩, ⟨[0, 1, 2, 3, 4, 5, 6, 7, 8], [8], [], [25], fun f => f 25 = .bool (decide (¬ (x3 = x16)))⟩] [] [(0, .slice va (xs.length) (vc)), (5, Nx (k)), (1, .slice ua (ys.length) (uc)), (12, Nx (xs.length)), (13, Nx (k))] [0, 2, 3, 4] [] (by kernel_rfl) (by kernel_rfl) (by kernel_rfl) (by kernel_rfl) rfl ⟨rfl, rfl, rfl, rfl, rfl, trivial⟩ ⟨?_, ?_, ?_, ?_, ?_, ?_, ?_, ?_, ?_, ?_, trivial⟩ ?_
   ·rintro f M - ⟨i0, -⟩
    have hs0 : f 0 = .slice va (xs.length) (vc) := i0
    refine ob_start (L' := M) (by rfl) (up_cons rfl hs0) ?_
    refine l_val (v := .slice va (xs.length) (vc)) rfl rfl rfl (e_move) ?_
    refine l_nil ?_
    exact f_owes_d (up_cons rfl hs0) rfl (List.Perm.refl _)
   ·rintro f M - ⟨i0, -⟩
    have hs5 : f 5 = Nx (k) := i0
    refine ob_start (L' := M) (by rfl) (up_cons rfl hs5) ?_
    refine l_val (v := Nx (k)) rfl rfl rfl (e_move) ?_
    refine l_nil ?_
    exact f_owes_d (up_cons rfl hs5) rfl (List.Perm.refl _)
   ·rintro f M ⟨k0, k1, -⟩ -
    have hs16 : f 16 = .slice va (xs.length) (vc) := k0
    have hs17 : f 17 = Nx (k) := k1
    refine ob_start (L' := M) (by rfl) (up_cons (up_cons rfl hs16) hs17) ?_
    refine l_val (v := .pointer (some ((ba va).add (k * 1)))) rfl rfl rfl (e_indexAddr (k := k) (len := xs.length) (cap := vc) (a := va) rfl rfl tf21 (by omega) ha5) ?_
    refine l_nil ?_
    exact f_owes_d (up_cons (up_cons rfl hs16) hs17) rfl (List.Perm.refl _)
   ·rintro f M ⟨k0, -⟩ -
    have hs18 : f 18 = .pointer (some ((ba va).add (k * 1))) := k0
    refine ob_start (L' := M) (by rfl) (up_cons rfl hs18) ?_
    refine l_val (v := .slice a11 (x3.length) (c12)) rfl rfl rfl (e_load1 tf22 (v := .slice a11 (x3.length) (c12)) rfl (Knows.of_base (Cs.mono _ _) hc7)) ?_
    refine l_nil ?_
    exact f_owes_d (up_cons rfl hs18) rfl (List.Perm.refl _)
   ·rintro f M - ⟨i0, -⟩
    have hs1 : f 1 = .slice ua (ys.length) (uc) := i0
    refine ob_start (L' := M) (by rfl) (up_cons rfl hs1) ?_
    refine l_val (v := .slice ua (ys.length) (uc)) rfl rfl rfl (e_move) ?_
    refine l_nil ?_
    exact f_owes_d (up_cons rfl hs1) rfl (List.Perm.refl _)
   ·rintro f M - ⟨i0, -⟩
    have hs5 : f 5 = Nx (k) := i0
    refine ob_start (L' := M) (by rfl) (up_cons rfl hs5) ?_
    refine l_val (v := Nx (k)) rfl rfl rfl (e_move) ?_
    refine l_nil ?_
    exact f_owes_d (up_cons rfl hs5) rfl (List.Perm.refl _)
   ·rintro f M ⟨k0, k1, -⟩ -
    have hs20 : f 20 = .slice ua (ys.length) (uc) := k0
    have hs21 : f 21 = Nx (k) := k1
    refine ob_start (L' := M) (by rfl) (up_cons (up_cons rfl hs20) hs21) ?_
    refine l_val (v := .pointer (some ((ba ua).add (k * 1)))) rfl rfl rfl (e_indexAddr (k := k) (len := ys.length) (cap := uc) (a := ua) rfl rfl tf21 (by omega) ha18) ?_
    refine l_nil ?_
    exact f_owes_d (up_cons (up_cons rfl hs20) hs21) rfl (List.Perm.refl _)
   ·rintro f M ⟨k0, -⟩ -
    have hs22 : f 22 = .pointer (some ((ba ua).add (k * 1))) := k0
    refine ob_start (L' := M) (by rfl) (up_cons rfl hs22) ?_
    refine l_val (v := .slice a24 (x16.length) (c25)) rfl rfl rfl (e_load1 tf22 (v := .slice a24 (x16.length) (c25)) rfl (Knows.of_base (Cs.mono _ _) hc20)) ?_
    refine l_nil ?_
    exact f_owes_d (up_cons rfl hs22) rfl (List.Perm.refl _)
   ·rintro f M ⟨k0, k1, -⟩ -
    have hs19 : f 19 = .slice a11 (x3.length) (c12) := k0
    have hs23 : f 23 = .slice a24 (x16.length) (c25) := k1
    refine ob_start (L' := M) (by rfl) (up_cons (up_cons rfl hs19) hs23) ?_
    refine l_call rfl rfl rfl (cl_value (fst := []) (cap := []) (vs := [.slice a11 (x3.length) (c12), .slice a24 (x16.length) (c25)]) (all := [.slice a11 (x3.length) (c12), .slice a24 (x16.length) (c25)]) tf65 rfl rfl rfl) ?_
    intro w hw
    obtain ⟨β1, sb, kn, hw1, back⟩ := St.frame_all hw
    refine (sameI_ok β1 w hw1 _ _ x3 x16 (Sl.mono _ _ _ _ _ sb (⟨⟨_, _, rfl, by omega, by omega, he15⟩⟩ : Sl IntF.R _ _ x3)) (Sl.mono _ _ _ _ _ sb (⟨⟨_, _, rfl, by omega, by omega, he28⟩⟩ : Sl IntF.R _ _ x16))).mono ?_
    rintro e w' ⟨rfl, hw'⟩
    refine ⟨_, rfl, _, back _ _ hw', ?_⟩
    clear hw hw1 hw' back kn sb
    refine l_nil ?_
    exact f_owes_d (up_cons (up_cons rfl hs19) hs23) rfl (List.Perm.refl _)
   ·rintro f M ⟨k0, -⟩ -
    have hs24 : f 24 = .bool (decide (x3 = x16)) := k0
    refine ob_start (L' := M) (by rfl) (up_cons rfl hs24) ?_
    refine l_val (v := .bool (decide (¬ (x3 = x16)))) rfl rfl rfl (e_not_p (p := x3 = x16) rfl) ?_
    refine l_nil ?_
    exact f_owes_d (up_cons rfl hs24) rfl (List.Perm.refl _)
   rintro fa29 ⟨-, -, -, -, -, -, -, -, -, k9, -⟩ ⟨j0, j1, j2, j3, -⟩
   refine f_re (L' := []) (by rfl) ?_
   refine f_rebase (d := 0) (v := .slice va (xs.length) (vc)) j0 ?_
   refine f_rebase (d := 1) (v := .slice ua (ys.length) (uc)) j1 ?_
   refine f_rebase (d := 12) (v := Nx (xs.length)) j2 ?_
   refine f_rebase (d := 13) (v := Nx (k)) j3 ?_
   refine f_rebase (d := 25) (v := .bool (decide (¬ (x3 = x16)))) k9 ?_
   refine f_then ?_
   refine c_if (¬ (x3 = x16)) rfl (fun hc30 => ?_) (fun hc30 => ?_)
   ·
    refine c_seq ?_
    refine c_region ?_
    refine l_val (v := .bool false) rfl rfl rfl (e_assign) ?_
    refine l_nil ?_
    refine f_then ?_
    refine c_ret ?_
    refine f_block_ret ?_
    refine f_then_ret ?_
    refine f_then_ret ?_
    refine f_block_ret ?_
    refine f_then_ret ?_
    refine ret1 Tryz.results23 (v := .bool false) rfl ?_
    intro w hw
    exact ⟨congrArg (fun b : Bool => Ending.returned (.bool b)) (decide_eq_false (fun q => hc30 (same_at q hx4 hx17))).symm, st_mask [] rfl hw⟩
   ·
    refine c_skip ?_
    refine f_block ?_
    refine f_then ?_
    refine c_region ?_
    refine l_val (v := Nx (k + 1)) rfl rfl rfl (e_add (a := ((k : Nat) : Int)) (b := (1 : Int)) rfl rfl (i64n (by omega) (by omega))) ?_
    refine l_val (v := Nx (k + 1)) rfl rfl rfl (e_move) ?_
    refine l_nil ?_
    exact f_cut ⟨k + 1, ⟨⟨rfl, rfl, rfl, rfl⟩, rfl, ⟨by omega, same_next hx4 hx17 (Decidable.not_not.1 hc30) hp⟩⟩, (show xs.length - (k + 1) < xs.length - k from by omega)⟩
  ·
   refine c_exit ?_
   refine f_then_exit ?_
   refine f_then_exit ?_
   refine f_exit ?_
   refine f_then ?_
   refine c_seq ?_
   refine c_region ?_
   refine l_val (v := .bool true) rfl rfl rfl (e_assign) ?_
   refine l_nil ?_
   refine f_then ?_
   refine c_ret ?_
   refine ret1 Tryz.results23 (v := .bool true) rfl ?_
   intro w hw
   exact ⟨congrArg (fun b : Bool => Ending.returned (.bool b)) (decide_eq_true (same_done (by omega) (by omega) hp)).symm, st_mask [] rfl hw⟩
theorem box_ok (β : Base) (w : World) (hw : St β [] w) (i x y vx vy : Int) : Calls Tryz.prog 13 #[Ix i, Ix x, Ix y, Ix vx, Ix vy] w fun r w' => r = .returned (.agg (bC (⟨i, x, y, vx, vy, 10, 10, false, false⟩ : KB))) ∧ St β [] w' := by
 refine enter (n := 19) Tryz.func13 rfl Tryz.ntmps13 rfl ?_ hw
 refine c_seq ?_
 refine c_region ?_
 refine l_mv rfl rfl rfl (m_alloc tf17) ?_
 rintro _ _ ⟨b1, rfl, rfl⟩
 refine l_nil ?_
 refine f_then ?_
 refine c_seq ?_
 refine c_region ?_
 refine l_val (v := Ix (i)) rfl rfl rfl (e_move) ?_
 refine l_val (v := Ix (x)) rfl rfl rfl (e_move) ?_
 refine l_val (v := Ix (y)) rfl rfl rfl (e_move) ?_
 refine l_val (v := .agg #[Ix (x), Ix (y)]) rfl rfl rfl (e_build tf8 tf13 (vs := [(0, Ix (x)), (1, Ix (y))]) (cells := #[Ix (x), Ix (y)]) rfl rfl) ?_
 refine l_val (v := Ix (vx)) rfl rfl rfl (e_move) ?_
 refine l_val (v := Ix (vy)) rfl rfl rfl (e_move) ?_
 refine l_val (v := .agg #[Ix (vx), Ix (vy)]) rfl rfl rfl (e_build tf8 tf13 (vs := [(0, Ix (vx)), (1, Ix (vy))]) (cells := #[Ix (vx), Ix (vy)]) rfl rfl) ?_
 refine l_val (v := .agg #[Ix (i), Ix (x), Ix (y), Ix (vx), Ix (vy), .int .i64 (10), .int .i64 (10), .bool false, .bool false]) rfl rfl rfl (e_build tf17 tf66 (vs := [(0, Ix (i)), (1, .agg #[Ix (x), Ix (y)]), (2, .agg #[Ix (vx), Ix (vy)]), (3, .int .i64 (10)), (4, .int .i64 (10))]) (cells := #[Ix (i), Ix (x), Ix (y), Ix (vx), Ix (vy), .int .i64 (10), .int .i64 (10), .bool false, .bool false]) rfl (fillBox _ _ _ _ _ _ _)) ?_
 refine l_mu rfl rfl (m_store 0 tf1 (b := b1) (o := 0) (T := 33) (cs := #[.int .i64 (0), .int .i64 (0), .int .i64 (0), .int .i64 (0), .int .i64 (0), .int .i64 (0), .int .i64 (0), .bool false, .bool false]) (cs' := #[Ix (i), Ix (x), Ix (y), Ix (vx), Ix (vy), .int .i64 (10), .int .i64 (10), .bool false, .bool false]) (v := .agg #[Ix (i), Ix (x), Ix (y), Ix (vx), Ix (vy), .int .i64 (10), .int .i64 (10), .bool false, .bool false]) rfl rfl rfl rfl rfl rfl rfl) ?_
 refine l_nil ?_
 refine f_then ?_
 refine c_ret ?_
 refine retG (l := [.cell 10 33]) (m := [.agg #[Ix (i), Ix (x), Ix (y), Ix (vx), Ix (vy), .int .i64 (10), .int .i64 (10), .bool false, .bool false]]) (v := .agg #[Ix (i), Ix (x), Ix (y), Ix (vx), Ix (vy), .int .i64 (10), .int .i64 (10), .bool false, .bool false]) Tryz.results13 ⟨rd_cell tf1 (cs := [Ix (i), Ix (x), Ix (y), Ix (vx), Ix (vy), .int .i64 (10), .int .i64 (10), .bool false, .bool false]) rfl (k_pt 0 (cs := #[Ix (i), Ix (x), Ix (y), Ix (vx), Ix (vy), .int .i64 (10), .int .i64 (10), .bool false, .bool false]) (vs := [Ix (i), Ix (x), Ix (y), Ix (vx), Ix (vy), .int .i64 (10), .int .i64 (10), .bool false, .bool false]) rfl rfl) rfl, trivial⟩ rfl ?_
 intro w hw
 exact ⟨rfl, st_mask [false] rfl hw⟩
set_option maxHeartbeats 4000000 in
theorem example_ok (β : Base) (w : World) (hw : St β [] w) : Calls Tryz.prog 15 #[] w fun r w' => ∃ b, r = .returned (.agg #[.slice (some ⟨b, 0, none⟩) 4 4, .slice none 0 0, Ix 0, Ix 0]) ∧ St β [rowF BodyF 33 (some ⟨b, 0, none⟩) 4 exB] w' := by
 refine enter (n := 10) Tryz.func15 rfl Tryz.ntmps15 rfl ?_ hw
 refine c_seq ?_
 refine c_region ?_
 refine l_mv rfl rfl rfl (m_alloc tf67) ?_
 rintro _ _ ⟨b1, rfl, rfl⟩
 refine l_nil ?_
 refine f_then ?_
 refine c_seq ?_
 refine c_region ?_
 refine l_val (v := .agg #[.int .i64 (0), .int .i64 (200)]) rfl rfl rfl (e_build tf8 tf13 (vs := [(1, .int .i64 (200))]) (cells := #[.int .i64 (0), .int .i64 (200)]) rfl rfl) ?_
 refine l_val (v := .agg #[.int .i64 (4), .int .i64 (0), .int .i64 (200), .int .i64 (0), .int .i64 (0), .int .i64 (500), .int .i64 (5), .bool false, .bool true]) rfl rfl rfl (e_build tf17 tf66 (vs := [(0, .int .i64 (4)), (1, .agg #[.int .i64 (0), .int .i64 (200)]), (3, .int .i64 (500)), (4, .int .i64 (5)), (6, .bool true)]) (cells := #[.int .i64 (4), .int .i64 (0), .int .i64 (200), .int .i64 (0), .int .i64 (0), .int .i64 (500), .int .i64 (5), .bool false, .bool true]) rfl (fillFloor _ _ _ _ _ _)) ?_
 refine l_mv rfl rfl rfl (m_alloc tf17) ?_
 rintro _ _ ⟨b2, rfl, rfl⟩
 refine l_mu rfl rfl (m_store 0 tf1 (b := b2) (o := 0) (T := 33) (cs := #[.int .i64 (0), .int .i64 (0), .int .i64 (0), .int .i64 (0), .int .i64 (0), .int .i64 (0), .int .i64 (0), .bool false, .bool false]) (cs' := #[.int .i64 (4), .int .i64 (0), .int .i64 (200), .int .i64 (0), .int .i64 (0), .int .i64 (500), .int .i64 (5), .bool false, .bool true]) (v := .agg #[.int .i64 (4), .int .i64 (0), .int .i64 (200), .int .i64 (0), .int .i64 (0), .int .i64 (500), .int .i64 (5), .bool false, .bool true]) rfl rfl rfl rfl rfl rfl rfl) ?_
 refine l_nil ?_
 refine f_then ?_
 refine c_seq ?_
 refine c_any [⟨[], [], [], [4], fun f => f 4 = .agg #[.int .i64 (1), .int .i64 (0), .int .i64 (0), .int .i64 (50), .int .i64 (0), .int .i64 (10), .int .i64 (10), .bool false, .bool false]⟩, ⟨[0], [], [], [5], fun f => f 5 = .agg #[.int .i64 (2), .int .i64 (75), .int .i64 (0), .int .i64 (0), .int .i64 (0), .int .i64 (10), .int .i64 (10), .bool false, .bool false]⟩, ⟨[0, 1], [], [], [6], fun f => f 6 = .agg #[.int .i64 (3), .int .i64 (100), .int .i64 (0), .int .i64 (0), .int .i64 (0), .int .i64 (10), .int .i64 (10), .bool false, .bool false]⟩, ⟨[], [], [0], [7], fun f => f 7 = .agg #[.int .i64 (4), .int .i64 (0), .int .i64 (200), .int .i64 (0), .int .i64 (0), .int .i64 (500), .int .i64 (5), .bool false, .bool true]⟩, ⟨[0, 1, 2, 3], [0, 1, 2, 3], [], [8], fun f => f 8 = .slice (some ⟨(blk (f 8)), 0, none⟩) 4 4⟩, ⟨[0, 1, 2, 3, 4], [4], [], [8, 9], fun f => f 9 = .agg #[.slice (some ⟨(blk (f 8)), 0, none⟩) 4 4, .slice none 0 0, .int .i64 (0), .int .i64 (0)]⟩, ⟨[0, 1, 2, 3, 4, 5], [5], [1], [], fun _ => True⟩] [⟨none, none, [3], [], fun _ => pt b2 (.cells #[.int .i64 (4), .int .i64 (0), .int .i64 (200), .int .i64 (0), .int .i64 (0), .int .i64 (500), .int .i64 (5), .bool false, .bool true] 33)⟩, ⟨none, (some 6), [6], [], fun _ => pt b1 (.cells #[.slice none 0 0, .slice none 0 0, .int .i64 (0), .int .i64 (0)] 27)⟩, ⟨(some 4), none, [], [8], fun f => pt (blk (f 8)) (.cells #[.int .i64 (1), .int .i64 (0), .int .i64 (0), .int .i64 (50), .int .i64 (0), .int .i64 (10), .int .i64 (10), .bool false, .bool false, .int .i64 (2), .int .i64 (75), .int .i64 (0), .int .i64 (0), .int .i64 (0), .int .i64 (10), .int .i64 (10), .bool false, .bool false, .int .i64 (3), .int .i64 (100), .int .i64 (0), .int .i64 (0), .int .i64 (0), .int .i64 (10), .int .i64 (10), .bool false, .bool false, .int .i64 (4), .int .i64 (0), .int .i64 (200), .int .i64 (0), .int .i64 (0), .int .i64 (500), .int .i64 (5), .bool false, .bool true] 33)⟩, ⟨(some 6), none, [], [8], fun f => pt b1 (.cells #[.slice (some ⟨(blk (f 8)), 0, none⟩) 4 4, .slice none 0 0, .int .i64 (0), .int .i64 (0)] 27)⟩] [(1, .pointer (some ⟨b2, 0, none⟩)), (0, .pointer (some ⟨b1, 0, none⟩))] [1] [] (by kernel_rfl) (by kernel_rfl) (by kernel_rfl) (by kernel_rfl) rfl ⟨rfl, rfl, trivial⟩ ⟨?_, ?_, ?_, ?_, ?_, ?_, ?_, trivial⟩ ?_
 ·rintro f M - -
  refine ob_start (L' := M) (by rfl) rfl ?_
  refine l_call rfl rfl rfl (cl_value (fst := []) (cap := []) (vs := [.int .i64 (1), .int .i64 (0), .int .i64 (0), .int .i64 (50), .int .i64 (0)]) (all := [.int .i64 (1), .int .i64 (0), .int .i64 (0), .int .i64 (50), .int .i64 (0)]) tf68 rfl rfl rfl) ?_
  intro w hw
  obtain ⟨β1, sb, kn, hw1, back⟩ := St.frame_all hw
  refine (box_ok β1 w hw1 1 0 0 50 0).mono ?_
  rintro e w' ⟨rfl, hw'⟩
  refine ⟨_, rfl, _, back _ _ hw', ?_⟩
  clear hw hw1 hw' back kn sb
  refine l_nil ?_
  exact f_owes_d rfl rfl (List.Perm.refl _)
 ·rintro f M - -
  refine ob_start (L' := M) (by rfl) rfl ?_
  refine l_call rfl rfl rfl (cl_value (fst := []) (cap := []) (vs := [.int .i64 (2), .int .i64 (75), .int .i64 (0), .int .i64 (0), .int .i64 (0)]) (all := [.int .i64 (2), .int .i64 (75), .int .i64 (0), .int .i64 (0), .int .i64 (0)]) tf68 rfl rfl rfl) ?_
  intro w hw
  obtain ⟨β1, sb, kn, hw1, back⟩ := St.frame_all hw
  refine (box_ok β1 w hw1 2 75 0 0 0).mono ?_
  rintro e w' ⟨rfl, hw'⟩
  refine ⟨_, rfl, _, back _ _ hw', ?_⟩
  clear hw hw1 hw' back kn sb
  refine l_nil ?_
  exact f_owes_d rfl rfl (List.Perm.refl _)
 ·rintro f M - -
  refine ob_start (L' := M) (by rfl) rfl ?_
  refine l_call rfl rfl rfl (cl_value (fst := []) (cap := []) (vs := [.int .i64 (3), .int .i64 (100), .int .i64 (0), .int .i64 (0), .int .i64 (0)]) (all := [.int .i64 (3), .int .i64 (100), .int .i64 (0), .int .i64 (0), .int .i64 (0)]) tf68 rfl rfl rfl) ?_
  intro w hw
  obtain ⟨β1, sb, kn, hw1, back⟩ := St.frame_all hw
  refine (box_ok β1 w hw1 3 100 0 0 0).mono ?_
  rintro e w' ⟨rfl, hw'⟩
  refine ⟨_, rfl, _, back _ _ hw', ?_⟩
  clear hw hw1 hw' back kn sb
  refine l_nil ?_
  exact f_owes_d rfl rfl (List.Perm.refl _)
 ·rintro f M - ⟨i0, -⟩
  have hs1 : f 1 = .pointer (some ⟨b2, 0, none⟩) := i0
  refine ob_start (L' := pt b2 (.cells #[.int .i64 (4), .int .i64 (0), .int .i64 (200), .int .i64 (0), .int .i64 (0), .int .i64 (500), .int .i64 (5), .bool false, .bool true] 33) :: M) (by rfl) (up_cons rfl hs1) ?_
  refine l_val (v := .agg #[.int .i64 (4), .int .i64 (0), .int .i64 (200), .int .i64 (0), .int .i64 (0), .int .i64 (500), .int .i64 (5), .bool false, .bool true]) rfl rfl rfl (e_load tf1 (cs := [.int .i64 (4), .int .i64 (0), .int .i64 (200), .int .i64 (0), .int .i64 (0), .int .i64 (500), .int .i64 (5), .bool false, .bool true]) rfl (k_pt 0 (cs := #[.int .i64 (4), .int .i64 (0), .int .i64 (200), .int .i64 (0), .int .i64 (0), .int .i64 (500), .int .i64 (5), .bool false, .bool true]) (vs := [.int .i64 (4), .int .i64 (0), .int .i64 (200), .int .i64 (0), .int .i64 (0), .int .i64 (500), .int .i64 (5), .bool false, .bool true]) rfl rfl) rfl) ?_
  refine l_nil ?_
  exact f_owes_d (up_cons rfl hs1) rfl (perm_front 0 rfl)
 ·rintro f M ⟨k0, k1, k2, k3, -⟩ -
  have hs4 : f 4 = .agg #[.int .i64 (1), .int .i64 (0), .int .i64 (0), .int .i64 (50), .int .i64 (0), .int .i64 (10), .int .i64 (10), .bool false, .bool false] := k0
  have hs5 : f 5 = .agg #[.int .i64 (2), .int .i64 (75), .int .i64 (0), .int .i64 (0), .int .i64 (0), .int .i64 (10), .int .i64 (10), .bool false, .bool false] := k1
  have hs6 : f 6 = .agg #[.int .i64 (3), .int .i64 (100), .int .i64 (0), .int .i64 (0), .int .i64 (0), .int .i64 (10), .int .i64 (10), .bool false, .bool false] := k2
  have hs7 : f 7 = .agg #[.int .i64 (4), .int .i64 (0), .int .i64 (200), .int .i64 (0), .int .i64 (0), .int .i64 (500), .int .i64 (5), .bool false, .bool true] := k3
  refine ob_start (L' := M) (by rfl) (up_cons (up_cons (up_cons (up_cons rfl hs4) hs5) hs6) hs7) ?_
  refine l_mv rfl rfl rfl (m_slices tf16 tf17 (vs := [(0, .agg #[.int .i64 (1), .int .i64 (0), .int .i64 (0), .int .i64 (50), .int .i64 (0), .int .i64 (10), .int .i64 (10), .bool false, .bool false]), (1, .agg #[.int .i64 (2), .int .i64 (75), .int .i64 (0), .int .i64 (0), .int .i64 (0), .int .i64 (10), .int .i64 (10), .bool false, .bool false]), (2, .agg #[.int .i64 (3), .int .i64 (100), .int .i64 (0), .int .i64 (0), .int .i64 (0), .int .i64 (10), .int .i64 (10), .bool false, .bool false]), (3, .agg #[.int .i64 (4), .int .i64 (0), .int .i64 (200), .int .i64 (0), .int .i64 (0), .int .i64 (500), .int .i64 (5), .bool false, .bool true])]) (cells := #[.int .i64 (1), .int .i64 (0), .int .i64 (0), .int .i64 (50), .int .i64 (0), .int .i64 (10), .int .i64 (10), .bool false, .bool false, .int .i64 (2), .int .i64 (75), .int .i64 (0), .int .i64 (0), .int .i64 (0), .int .i64 (10), .int .i64 (10), .bool false, .bool false, .int .i64 (3), .int .i64 (100), .int .i64 (0), .int .i64 (0), .int .i64 (0), .int .i64 (10), .int .i64 (10), .bool false, .bool false, .int .i64 (4), .int .i64 (0), .int .i64 (200), .int .i64 (0), .int .i64 (0), .int .i64 (500), .int .i64 (5), .bool false, .bool true]) rfl rfl rfl rfl) ?_
  rintro _ _ ⟨b4, rfl, rfl⟩
  refine l_nil ?_
  exact f_owes_d (up_cons (up_cons (up_cons (up_cons rfl hs4) hs5) hs6) hs7) rfl (perm_front 0 rfl)
 ·rintro f M ⟨k0, -⟩ -
  have hs8 : f 8 = .slice (some ⟨(blk (f 8)), 0, none⟩) 4 4 := k0
  refine ob_start (L' := M) (by rfl) (up_cons rfl hs8) ?_
  refine l_val (v := .agg #[.slice (some ⟨(blk (f 8)), 0, none⟩) 4 4, .slice none 0 0, .int .i64 (0), .int .i64 (0)]) rfl rfl rfl (e_build tf67 tf69 (vs := [(0, .slice (some ⟨(blk (f 8)), 0, none⟩) 4 4)]) (cells := #[.slice (some ⟨(blk (f 8)), 0, none⟩) 4 4, .slice none 0 0, .int .i64 (0), .int .i64 (0)]) rfl rfl) ?_
  refine l_nil ?_
  exact f_owes_d (up_cons rfl hs8) rfl (List.Perm.refl _)
 ·rintro f M ⟨k0, -⟩ ⟨i0, -⟩
  have hs0 : f 0 = .pointer (some ⟨b1, 0, none⟩) := i0
  have hs9 : f 9 = .agg #[.slice (some ⟨(blk (f 8)), 0, none⟩) 4 4, .slice none 0 0, .int .i64 (0), .int .i64 (0)] := k0
  refine ob_start (L' := pt b1 (.cells #[.slice none 0 0, .slice none 0 0, .int .i64 (0), .int .i64 (0)] 27) :: M) (by rfl) (up_cons (up_cons rfl hs0) hs9) ?_
  refine l_mu rfl rfl (m_store 0 tf31 (b := b1) (o := 0) (T := 27) (cs := #[.slice none 0 0, .slice none 0 0, .int .i64 (0), .int .i64 (0)]) (cs' := #[.slice (some ⟨(blk (f 8)), 0, none⟩) 4 4, .slice none 0 0, .int .i64 (0), .int .i64 (0)]) (v := .agg #[.slice (some ⟨(blk (f 8)), 0, none⟩) 4 4, .slice none 0 0, .int .i64 (0), .int .i64 (0)]) rfl rfl rfl rfl rfl rfl rfl) ?_
  refine l_nil ?_
  exact f_owes_n (up_cons (up_cons rfl hs0) hs9) trivial (perm_front 0 rfl)
 rintro fa5 ⟨-, -, -, -, -, -, -, -⟩ ⟨j0, -⟩
 refine f_re (L' := [pt b2 (.cells #[.int .i64 (4), .int .i64 (0), .int .i64 (200), .int .i64 (0), .int .i64 (0), .int .i64 (500), .int .i64 (5), .bool false, .bool true] 33), pt (blk (fa5 8)) (.cells #[.int .i64 (1), .int .i64 (0), .int .i64 (0), .int .i64 (50), .int .i64 (0), .int .i64 (10), .int .i64 (10), .bool false, .bool false, .int .i64 (2), .int .i64 (75), .int .i64 (0), .int .i64 (0), .int .i64 (0), .int .i64 (10), .int .i64 (10), .bool false, .bool false, .int .i64 (3), .int .i64 (100), .int .i64 (0), .int .i64 (0), .int .i64 (0), .int .i64 (10), .int .i64 (10), .bool false, .bool false, .int .i64 (4), .int .i64 (0), .int .i64 (200), .int .i64 (0), .int .i64 (0), .int .i64 (500), .int .i64 (5), .bool false, .bool true] 33), pt b1 (.cells #[.slice (some ⟨(blk (fa5 8)), 0, none⟩) 4 4, .slice none 0 0, .int .i64 (0), .int .i64 (0)] 27)]) (by rfl) ?_
 refine f_rebase (d := 0) (v := .pointer (some ⟨b1, 0, none⟩)) j0 ?_
 refine f_then ?_
 refine c_ret ?_
 refine retG (l := [.cell 0 27]) (m := [.agg #[.slice (some ⟨(blk (fa5 8)), 0, none⟩) 4 4, .slice none 0 0, .int .i64 (0), .int .i64 (0)]]) (v := .agg #[.slice (some ⟨(blk (fa5 8)), 0, none⟩) 4 4, .slice none 0 0, .int .i64 (0), .int .i64 (0)]) Tryz.results15 ⟨rd_cell tf31 (cs := [.slice (some ⟨(blk (fa5 8)), 0, none⟩) 4 4, .slice none 0 0, .int .i64 (0), .int .i64 (0)]) rfl (k_pt 2 (cs := #[.slice (some ⟨(blk (fa5 8)), 0, none⟩) 4 4, .slice none 0 0, .int .i64 (0), .int .i64 (0)]) (vs := [.slice (some ⟨(blk (fa5 8)), 0, none⟩) 4 4, .slice none 0 0, .int .i64 (0), .int .i64 (0)]) rfl rfl) rfl, trivial⟩ rfl ?_
 intro w hw
 exact ⟨(blk (fa5 8)), rfl, (st_mask [false, true, false] rfl hw).conseq (pt_rowF (F := BodyF) (xs := exB) rfl (by decide))⟩
end Go.Proofs
