/-
 Index, Contains, comparing lists: walked. Printed by a program of my own.
-/
import Derived.Test.YtdkibofhppgbjaaGreatDoorIs4
namespace Go.Isl
open Go.Sl Go.Brd Go.Stp Go.Proofs
theorem no_next {xs : List Int} {k : Nat} {x y : Int} (hx : xs[k]? = some y) (h : ¬ (x = y)) (hn : ∀ z ∈ xs.take k, z ≠ x) : ∀ z ∈ xs.take (k + 1), z ≠ x := by
 intro z hz
 rw [List.take_add_one, hx] at hz
 rcases List.mem_append.1 hz with hz | hz
 ·exact hn z hz
 ·rw [List.mem_singleton.1 hz]; exact fun e => h e.symm
end Go.Isl
namespace Go.Proofs
open Go Go.Sl Go.Brd Go.Stp Go.Isl
theorem uz63 : cfB Tryz.prog 106 = true := by kernel_rfl
theorem uz67 : (Tryz.prog.info? 30).bind (·.zero) = some (.agg #[.slice none 0 0, .slice none 0 0, .int .i64 (0), .int .i64 (0)]) := by kernel_rfl
theorem uz69 : stB Tryz.prog 30 [(0, 1), (1, 1), (2, 2)] = true := by kernel_rfl
set_option maxHeartbeats 4000000 in
theorem indexI_ok (β : Base) (w : World) (hw : St β [] w) (v : Value) (xs : List Int) (hs : Sl IntF.R β.heap v xs) (x : Int) : Calls Tryz.prog 106 #[v, Ix x] w fun r w' => ∃ k : Int, r = .returned (Ix k) ∧ (0 ≤ k ↔ x ∈ xs) ∧ St β [] w' := by
 obtain ⟨va, vc, rfl, vl, vm, ve⟩ := hs.get
 refine enter (n := 19) Tryz.func106 rfl Tryz.ntmps106 rfl ?_ hw
 refine c_seq ?_
 refine c_region ?_
 refine l_val (v := .int .i64 (0)) rfl rfl rfl (e_assign) ?_
 refine l_nil ?_
 refine f_then ?_
 refine c_seq ?_
 refine c_seq ?_
 refine c_region ?_
 refine l_val (v := .slice va (xs.length) (vc)) rfl rfl rfl (e_move) ?_
 refine l_val (v := Nx (xs.length)) rfl rfl rfl (e_len (a := va) (n := xs.length) (c := vc) rfl uz28) ?_
 refine l_val (v := .int .i64 (0)) rfl rfl rfl (e_move) ?_
 refine l_nil ?_
 refine f_then ?_
 refine c_block ?_
 refine c_loop (fun (k : Nat) (f : Fm) (L : List Res) => (f 0 = .slice va (xs.length) (vc) ∧ f 1 = Ix (x) ∧ f 7 = Nx (xs.length) ∧ f 8 = Nx (k)) ∧ L = [] ∧ (k ≤ xs.length ∧ ∀ y ∈ xs.take k, y ≠ x)) (fun (k : Nat) => xs.length - k) 0 ?_ ?_
 ·exact ⟨⟨rfl, rfl, rfl, rfl⟩, rfl, ⟨by omega, by simp⟩⟩
 rintro k f0 L0 ⟨⟨hs0, hs1, hs7, hs8⟩, hL, ⟨hk, hno⟩⟩
 subst L0
 refine rebase (d := 0) hs0 ?_
 refine rebase (d := 1) hs1 ?_
 refine rebase (d := 7) hs7 ?_
 refine rebase (d := 8) hs8 ?_
 clear hs0 hs1 hs7 hs8
 refine c_seq ?_
 refine c_region ?_
 refine l_val (v := .bool (decide (((k : Nat) : Int) < ((xs.length : Nat) : Int)))) rfl rfl rfl (e_lss (a := ((k : Nat) : Int)) (b := ((xs.length : Nat) : Int)) rfl rfl) ?_
 refine l_nil ?_
 refine f_then ?_
 refine c_seq ?_
 refine c_if (((k : Nat) : Int) < ((xs.length : Nat) : Int)) rfl (fun hc1 => ?_) (fun hc1 => ?_)
 ·
  refine c_skip ?_
  refine f_then ?_
  refine c_seq ?_
  refine c_block ?_
  refine c_seq ?_
  refine c_region ?_
  refine l_val (v := Nx (k)) rfl rfl rfl (e_move) ?_
  refine l_val (v := Nx (k)) rfl rfl rfl (e_assign) ?_
  refine l_nil ?_
  refine f_then ?_
  refine c_seq ?_
  refine c_region ?_
  refine l_val (v := Ix (x)) rfl rfl rfl (e_move) ?_
  refine l_val (v := .slice va (xs.length) (vc)) rfl rfl rfl (e_move) ?_
  refine l_val (v := Nx (k)) rfl rfl rfl (e_move) ?_
  obtain ⟨x2, hx3⟩ : ∃ x_, (xs)[k]? = some x_ := ⟨_, List.getElem?_eq_getElem (by omega)⟩
  obtain ⟨ha4, cs5, hc6, rfl⟩ := ve _ _ hx3
  refine l_val (v := .pointer (some ((ba va).add (k * 1)))) rfl rfl rfl (e_indexAddr (k := k) (len := xs.length) (cap := vc) (a := va) rfl rfl uz23 (by omega) ha4) ?_
  refine l_val (v := Ix (x2)) rfl rfl rfl (e_load1 uz11 (v := Ix (x2)) rfl (Knows.of_base (Cs.mono _ _) hc6)) ?_
  refine l_val (v := .bool (decide ((x) = (x2)))) rfl rfl rfl (e_eql (a := (x)) (b := (x2)) rfl rfl) ?_
  refine l_nil ?_
  refine f_then ?_
  refine c_if ((x) = (x2)) rfl (fun hc8 => ?_) (fun hc8 => ?_)
  ·
   refine c_seq ?_
   refine c_region ?_
   refine l_val (v := Nx (k)) rfl rfl rfl (e_move) ?_
   refine l_val (v := Nx (k)) rfl rfl rfl (e_assign) ?_
   refine l_nil ?_
   refine f_then ?_
   refine c_ret ?_
   refine f_block_ret ?_
   refine f_then_ret ?_
   refine f_then_ret ?_
   refine f_block_ret ?_
   refine f_then_ret ?_
   refine ret1 Tryz.results106 (v := Nx (k)) rfl ?_
   intro w hw
   exact ⟨_, rfl, ⟨fun _ => by rw [show x = x2 from hc8]; exact List.mem_of_getElem? hx3, fun _ => by omega⟩, st_mask [] rfl hw⟩
  ·
   refine c_skip ?_
   refine f_block ?_
   refine f_then ?_
   refine c_region ?_
   refine l_val (v := Nx (k + 1)) rfl rfl rfl (e_add (a := ((k : Nat) : Int)) (b := (1 : Int)) rfl rfl (i64n (by omega) (by omega))) ?_
   refine l_val (v := Nx (k + 1)) rfl rfl rfl (e_move) ?_
   refine l_nil ?_
   exact f_cut ⟨k + 1, ⟨⟨rfl, rfl, rfl, rfl⟩, rfl, ⟨by omega, no_next hx3 hc8 hno⟩⟩, (show xs.length - (k + 1) < xs.length - k from by omega)⟩
 ·
  refine c_exit ?_
  refine f_then_exit ?_
  refine f_then_exit ?_
  refine f_exit ?_
  refine f_then ?_
  refine c_seq ?_
  refine c_region ?_
  refine l_val (v := .int .i64 (-1)) rfl rfl rfl (e_assign) ?_
  refine l_nil ?_
  refine f_then ?_
  refine c_ret ?_
  refine ret1 Tryz.results106 (v := .int .i64 (-1)) rfl ?_
  intro w hw
  exact ⟨-1, rfl, ⟨fun q => absurd q (by omega), fun q => absurd rfl (hno x (by rwa [List.take_of_length_le (by omega)]))⟩, st_mask [] rfl hw⟩
theorem containsI_ok (β : Base) (w : World) (hw : St β [] w) (v : Value) (xs : List Int) (hs : Sl IntF.R β.heap v xs) (x : Int) : Calls Tryz.prog 54 #[v, Ix x] w fun r w' => r = .returned (.bool (decide (x ∈ xs))) ∧ St β [] w' := by
 obtain ⟨va, vc, rfl, vl, vm, ve⟩ := hs.get
 refine enter (n := 9) Tryz.func54 rfl Tryz.ntmps54 rfl ?_ hw
 refine c_seq ?_
 refine c_region ?_
 refine l_val (v := .bool false) rfl rfl rfl (e_assign) ?_
 refine l_nil ?_
 refine f_then ?_
 refine c_seq ?_
 refine c_region ?_
 refine l_val (v := .slice va (xs.length) (vc)) rfl rfl rfl (e_move) ?_
 refine l_val (v := Ix (x)) rfl rfl rfl (e_move) ?_
 refine l_call rfl rfl rfl (cl_value (fst := []) (cap := []) (vs := [.slice va (xs.length) (vc), Ix (x)]) (all := [.slice va (xs.length) (vc), Ix (x)]) uz63 rfl rfl rfl) ?_
 intro w hw
 obtain ⟨β1, sb, kn, hw1, back⟩ := St.frame_all hw
 refine (indexI_ok β1 w hw1 _ xs (Sl.mono _ _ _ _ _ sb (⟨⟨_, _, rfl, vl, vm, ve⟩⟩ : Sl IntF.R _ _ xs)) x).mono ?_
 rintro e w' ⟨k1, rfl, hk2, hw'⟩
 refine ⟨_, rfl, _, back _ _ hw', ?_⟩
 clear hw hw1 hw' back kn sb
 refine l_val (v := .bool (decide ((0 : Int) ≤ (k1)))) rfl rfl rfl (e_geq (a := (k1)) (b := (0 : Int)) rfl rfl) ?_
 refine l_val (v := .bool (decide ((0 : Int) ≤ (k1)))) rfl rfl rfl (e_assign) ?_
 refine l_nil ?_
 refine f_then ?_
 refine c_ret ?_
 refine ret1 Tryz.results54 (v := .bool (decide ((0 : Int) ≤ (k1)))) rfl ?_
 intro w hw
 exact ⟨congrArg (fun b : Bool => Ending.returned (.bool b)) (decide_eq_decide.2 hk2), st_mask [] rfl hw⟩
end Go.Proofs
