/-
 Scenes that are lent, kept, written over and compared; the law. Printed by a program of my own.
-/
import Derived.Test.YtdkibofhppgbjaaGreatDoorSt17
import Derived.Test.YtdkibofhppgbjaaGreatDoorStAwk
namespace Go.Proofs
open Go Go.Sl Go.Stp
theorem el_same {α : Type} {xs : List α} {k : Nat} {a b : α} (h1 : xs[k]? = some a) (h2 : xs[k]? = some b) : a = b := by rw [h1] at h2; injection h2
theorem tf140 : cfB Tryz.prog 55 = true := by kernel_rfl
theorem tf141 : cfB Tryz.prog 56 = true := by kernel_rfl
theorem tf142 : cfB Tryz.prog 58 = true := by kernel_rfl
theorem tf143 : cfB Tryz.prog 59 = true := by kernel_rfl
theorem tf144 : cfB Tryz.prog 13 = true := by kernel_rfl
theorem tf145 : cfB Tryz.prog 79 = true := by kernel_rfl
theorem tf146 : cfB Tryz.prog 80 = true := by kernel_rfl
theorem tf147 : cfB Tryz.prog 82 = true := by kernel_rfl
theorem tf148 : cfB Tryz.prog 83 = true := by kernel_rfl
set_option maxHeartbeats 4000000 in
theorem eqB_ok (β : Base) (w : World) (hw : St β [] w) (v u : Value) (xs : List KB) (hs : Sl KBR β.heap v xs) (hu : Sl KBR β.heap u xs) : Calls Tryz.prog 55 #[v, u] w fun r w' => r = .returned (.bool true) ∧ St β [] w' := by
 obtain ⟨va, vc, rfl, vl, vm, ve⟩ := hs.get
 obtain ⟨ua, uc, rfl, ul, um, ue⟩ := hu.get
 refine enter (n := 26) Tryz.func55 rfl Tryz.ntmps55 rfl ?_ hw
 refine c_seq ?_
 refine c_region ?_
 refine l_val (v := .bool false) rfl rfl rfl (e_assign) ?_
 refine l_nil ?_
 refine f_then ?_
 refine c_seq ?_
 refine c_seq ?_
 refine c_region ?_
 refine l_val (v := .slice va (xs.length) (vc)) rfl rfl rfl (e_move) ?_
 refine l_val (v := Nx (xs.length)) rfl rfl rfl (e_len (a := va) (n := xs.length) (c := vc) rfl tf40) ?_
 refine l_val (v := .slice ua (xs.length) (uc)) rfl rfl rfl (e_move) ?_
 refine l_val (v := Nx (xs.length)) rfl rfl rfl (e_len (a := ua) (n := xs.length) (c := uc) rfl tf40) ?_
 refine l_val (v := .bool (decide (((xs.length : Nat) : Int) ≠ ((xs.length : Nat) : Int)))) rfl rfl rfl (e_neq (a := ((xs.length : Nat) : Int)) (b := ((xs.length : Nat) : Int)) rfl rfl) ?_
 refine l_nil ?_
 refine f_then ?_
 refine c_if (((xs.length : Nat) : Int) ≠ ((xs.length : Nat) : Int)) rfl (fun hc1 => ?_) (fun hc1 => ?_)
 ·
  exact absurd hc1 (by omega)
 ·
  refine c_skip ?_
  refine f_then ?_
  refine c_seq ?_
  refine c_seq ?_
  refine c_region ?_
  refine l_val (v := .int .i64 (0)) rfl rfl rfl (e_assign) ?_
  refine l_nil ?_
  refine f_then ?_
  refine c_block ?_
  refine c_loop (fun (k : Nat) (f : Fm) (L : List Res) => (f 0 = .slice va (xs.length) (vc) ∧ f 1 = .slice ua (xs.length) (uc) ∧ f 5 = Nx (k)) ∧ L = [] ∧ (k ≤ xs.length)) (fun (k : Nat) => xs.length - k) 0 ?_ ?_
  ·exact ⟨⟨rfl, rfl, rfl⟩, rfl, (by omega)⟩
  rintro k f0 L0 ⟨⟨hs0, hs1, hs5⟩, hL, hk⟩
  subst L0
  refine rebase (d := 0) hs0 ?_
  refine rebase (d := 1) hs1 ?_
  refine rebase (d := 5) hs5 ?_
  clear hs0 hs1 hs5
  refine c_seq ?_
  refine c_seq ?_
  refine c_region ?_
  refine l_val (v := Nx (k)) rfl rfl rfl (e_move) ?_
  refine l_val (v := .slice va (xs.length) (vc)) rfl rfl rfl (e_move) ?_
  refine l_val (v := Nx (xs.length)) rfl rfl rfl (e_len (a := va) (n := xs.length) (c := vc) rfl tf40) ?_
  refine l_val (v := .bool (decide (((k : Nat) : Int) < ((xs.length : Nat) : Int)))) rfl rfl rfl (e_lss (a := ((k : Nat) : Int)) (b := ((xs.length : Nat) : Int)) rfl rfl) ?_
  refine l_nil ?_
  refine f_then ?_
  refine c_if (((k : Nat) : Int) < ((xs.length : Nat) : Int)) rfl (fun hc2 => ?_) (fun hc2 => ?_)
  ·
   refine c_skip ?_
   refine f_then ?_
   refine c_seq ?_
   refine c_block ?_
   refine c_seq ?_
   refine c_quiet (by kernel_rfl) (by kernel_rfl) ?_
   refine q_val (v := .slice va (xs.length) (vc)) rfl rfl rfl (e_move) ?_
   refine q_val (v := Nx (k)) rfl rfl rfl (e_move) ?_
   obtain ⟨x3, hx4⟩ : ∃ x_, (xs)[k]? = some x_ := ⟨_, List.getElem?_eq_getElem (by omega)⟩
   obtain ⟨ha5, cs6, hc7, rfl⟩ := ve _ _ hx4
   refine q_val (v := .pointer (some ((ba va).add (k * 9)))) rfl rfl rfl (e_indexAddr (k := k) (len := xs.length) (cap := vc) (a := va) rfl rfl tf43 (by omega) ha5) ?_
   refine q_val (v := .agg (bC x3)) rfl rfl rfl (e_load tf22 (cs := (bodyE x3)) rfl (Knows.of_base (Cs.mono _ _) hc7) rfl) ?_
   refine q_val (v := .slice ua (xs.length) (uc)) rfl rfl rfl (e_move) ?_
   refine q_val (v := Nx (k)) rfl rfl rfl (e_move) ?_
   obtain ⟨x9, hx10⟩ : ∃ x_, (xs)[k]? = some x_ := ⟨_, List.getElem?_eq_getElem (by omega)⟩
   obtain ⟨ha11, cs12, hc13, rfl⟩ := ue _ _ hx10
   refine q_val (v := .pointer (some ((ba ua).add (k * 9)))) rfl rfl rfl (e_indexAddr (k := k) (len := xs.length) (cap := uc) (a := ua) rfl rfl tf43 (by omega) ha11) ?_
   refine q_val (v := .agg (bC x9)) rfl rfl rfl (e_load tf22 (cs := (bodyE x9)) rfl (Knows.of_base (Cs.mono _ _) hc13) rfl) ?_
   refine q_val (v := .bool (decide (¬ (x3 = x9)))) rfl rfl rfl (e_neq_t (xs := (bodyE x3)) (ys := (bodyE x9)) tf133 tf134 tf135 rfl rfl rfl rfl (not_congr body_eq)) ?_
   refine q_nil ?_
   refine f_then ?_
   refine c_if (¬ (x3 = x9)) rfl (fun hc15 => ?_) (fun hc15 => ?_)
   ·
    exact absurd hc15 (Decidable.not_not.2 (el_same hx4 hx10))
   ·
    refine c_skip ?_
    refine f_block ?_
    refine f_then ?_
    refine c_region ?_
    refine l_val (v := Nx (k)) rfl rfl rfl (e_move) ?_
    refine l_val (v := Nx (k + 1)) rfl rfl rfl (e_add (a := ((k : Nat) : Int)) (b := (1 : Int)) rfl rfl (i64n (by omega) (by omega))) ?_
    refine l_val (v := Nx (k + 1)) rfl rfl rfl (e_assign) ?_
    refine l_nil ?_
    exact f_cut ⟨k + 1, ⟨⟨rfl, rfl, rfl⟩, rfl, (by omega)⟩, (show xs.length - (k + 1) < xs.length - k from by omega)⟩
  ·
   refine c_exit ?_
   refine f_then_exit ?_
   refine f_then_exit ?_
   refine f_exit ?_
   refine f_then ?_
   refine c_seq ?_
   refine c_region ?_
   refine l_val (v := .bool true) rfl rfl rfl (e_assign) ?_
   refine l_nil ?_
   refine f_then ?_
   refine c_ret ?_
   refine ret1 Tryz.results55 (v := .bool true) rfl ?_
   intro w hw
   exact ⟨rfl, st_mask [] rfl hw⟩
set_option maxHeartbeats 4000000 in
theorem eqR_ok (β : Base) (w : World) (hw : St β [] w) (v u : Value) (xs : List KR) (hs : Sl KRR β.heap v xs) (hu : Sl KRR β.heap u xs) : Calls Tryz.prog 56 #[v, u] w fun r w' => r = .returned (.bool true) ∧ St β [] w' := by
 obtain ⟨va, vc, rfl, vl, vm, ve⟩ := hs.get
 obtain ⟨ua, uc, rfl, ul, um, ue⟩ := hu.get
 refine enter (n := 26) Tryz.func56 rfl Tryz.ntmps56 rfl ?_ hw
 refine c_seq ?_
 refine c_region ?_
 refine l_val (v := .bool false) rfl rfl rfl (e_assign) ?_
 refine l_nil ?_
 refine f_then ?_
 refine c_seq ?_
 refine c_seq ?_
 refine c_region ?_
 refine l_val (v := .slice va (xs.length) (vc)) rfl rfl rfl (e_move) ?_
 refine l_val (v := Nx (xs.length)) rfl rfl rfl (e_len (a := va) (n := xs.length) (c := vc) rfl tf45) ?_
 refine l_val (v := .slice ua (xs.length) (uc)) rfl rfl rfl (e_move) ?_
 refine l_val (v := Nx (xs.length)) rfl rfl rfl (e_len (a := ua) (n := xs.length) (c := uc) rfl tf45) ?_
 refine l_val (v := .bool (decide (((xs.length : Nat) : Int) ≠ ((xs.length : Nat) : Int)))) rfl rfl rfl (e_neq (a := ((xs.length : Nat) : Int)) (b := ((xs.length : Nat) : Int)) rfl rfl) ?_
 refine l_nil ?_
 refine f_then ?_
 refine c_if (((xs.length : Nat) : Int) ≠ ((xs.length : Nat) : Int)) rfl (fun hc1 => ?_) (fun hc1 => ?_)
 ·
  exact absurd hc1 (by omega)
 ·
  refine c_skip ?_
  refine f_then ?_
  refine c_seq ?_
  refine c_seq ?_
  refine c_region ?_
  refine l_val (v := .int .i64 (0)) rfl rfl rfl (e_assign) ?_
  refine l_nil ?_
  refine f_then ?_
  refine c_block ?_
  refine c_loop (fun (k : Nat) (f : Fm) (L : List Res) => (f 0 = .slice va (xs.length) (vc) ∧ f 1 = .slice ua (xs.length) (uc) ∧ f 5 = Nx (k)) ∧ L = [] ∧ (k ≤ xs.length)) (fun (k : Nat) => xs.length - k) 0 ?_ ?_
  ·exact ⟨⟨rfl, rfl, rfl⟩, rfl, (by omega)⟩
  rintro k f0 L0 ⟨⟨hs0, hs1, hs5⟩, hL, hk⟩
  subst L0
  refine rebase (d := 0) hs0 ?_
  refine rebase (d := 1) hs1 ?_
  refine rebase (d := 5) hs5 ?_
  clear hs0 hs1 hs5
  refine c_seq ?_
  refine c_seq ?_
  refine c_region ?_
  refine l_val (v := Nx (k)) rfl rfl rfl (e_move) ?_
  refine l_val (v := .slice va (xs.length) (vc)) rfl rfl rfl (e_move) ?_
  refine l_val (v := Nx (xs.length)) rfl rfl rfl (e_len (a := va) (n := xs.length) (c := vc) rfl tf45) ?_
  refine l_val (v := .bool (decide (((k : Nat) : Int) < ((xs.length : Nat) : Int)))) rfl rfl rfl (e_lss (a := ((k : Nat) : Int)) (b := ((xs.length : Nat) : Int)) rfl rfl) ?_
  refine l_nil ?_
  refine f_then ?_
  refine c_if (((k : Nat) : Int) < ((xs.length : Nat) : Int)) rfl (fun hc2 => ?_) (fun hc2 => ?_)
  ·
   refine c_skip ?_
   refine f_then ?_
   refine c_seq ?_
   refine c_block ?_
   refine c_seq ?_
   refine c_quiet (by kernel_rfl) (by kernel_rfl) ?_
   refine q_val (v := .slice va (xs.length) (vc)) rfl rfl rfl (e_move) ?_
   refine q_val (v := Nx (k)) rfl rfl rfl (e_move) ?_
   obtain ⟨x3, hx4⟩ : ∃ x_, (xs)[k]? = some x_ := ⟨_, List.getElem?_eq_getElem (by omega)⟩
   obtain ⟨ha5, cs6, hc7, rfl⟩ := ve _ _ hx4
   refine q_val (v := .pointer (some ((ba va).add (k * 3)))) rfl rfl rfl (e_indexAddr (k := k) (len := xs.length) (cap := vc) (a := va) rfl rfl tf46 (by omega) ha5) ?_
   refine q_val (v := .agg #[Ix (x3.a), Ix (x3.b), Ix (x3.len)]) rfl rfl rfl (e_load tf47 (cs := [Ix (x3.a), Ix (x3.b), Ix (x3.len)]) rfl (Knows.of_base (Cs.mono _ _) hc7) rfl) ?_
   refine q_val (v := .slice ua (xs.length) (uc)) rfl rfl rfl (e_move) ?_
   refine q_val (v := Nx (k)) rfl rfl rfl (e_move) ?_
   obtain ⟨x9, hx10⟩ : ∃ x_, (xs)[k]? = some x_ := ⟨_, List.getElem?_eq_getElem (by omega)⟩
   obtain ⟨ha11, cs12, hc13, rfl⟩ := ue _ _ hx10
   refine q_val (v := .pointer (some ((ba ua).add (k * 3)))) rfl rfl rfl (e_indexAddr (k := k) (len := xs.length) (cap := uc) (a := ua) rfl rfl tf46 (by omega) ha11) ?_
   refine q_val (v := .agg #[Ix (x9.a), Ix (x9.b), Ix (x9.len)]) rfl rfl rfl (e_load tf47 (cs := [Ix (x9.a), Ix (x9.b), Ix (x9.len)]) rfl (Knows.of_base (Cs.mono _ _) hc13) rfl) ?_
   refine q_val (v := .bool (decide (¬ (x3 = x9)))) rfl rfl rfl (e_neq_t (xs := [Ix (x3.a), Ix (x3.b), Ix (x3.len)]) (ys := [Ix (x9.a), Ix (x9.b), Ix (x9.len)]) tf137 tf138 tf139 rfl rfl rfl rfl (not_congr rope_eq)) ?_
   refine q_nil ?_
   refine f_then ?_
   refine c_if (¬ (x3 = x9)) rfl (fun hc15 => ?_) (fun hc15 => ?_)
   ·
    exact absurd hc15 (Decidable.not_not.2 (el_same hx4 hx10))
   ·
    refine c_skip ?_
    refine f_block ?_
    refine f_then ?_
    refine c_region ?_
    refine l_val (v := Nx (k)) rfl rfl rfl (e_move) ?_
    refine l_val (v := Nx (k + 1)) rfl rfl rfl (e_add (a := ((k : Nat) : Int)) (b := (1 : Int)) rfl rfl (i64n (by omega) (by omega))) ?_
    refine l_val (v := Nx (k + 1)) rfl rfl rfl (e_assign) ?_
    refine l_nil ?_
    exact f_cut ⟨k + 1, ⟨⟨rfl, rfl, rfl⟩, rfl, (by omega)⟩, (show xs.length - (k + 1) < xs.length - k from by omega)⟩
  ·
   refine c_exit ?_
   refine f_then_exit ?_
   refine f_then_exit ?_
   refine f_exit ?_
   refine f_then ?_
   refine c_seq ?_
   refine c_region ?_
   refine l_val (v := .bool true) rfl rfl rfl (e_assign) ?_
   refine l_nil ?_
   refine f_then ?_
   refine c_ret ?_
   refine ret1 Tryz.results56 (v := .bool true) rfl ?_
   intro w hw
   exact ⟨rfl, st_mask [] rfl hw⟩
set_option maxHeartbeats 4000000 in
theorem eqS_ok (β : Base) (w : World) (hw : St β [] w) (v u : Value) (xs : List KS) (hs : Sl KSR β.heap v xs) (hu : Sl KSR β.heap u xs) : Calls Tryz.prog 14 #[v, u] w fun r w' => r = .returned (.bool true) ∧ St β [] w' := by
 obtain ⟨va, vc, rfl, vl, vm, ve⟩ := hs.get
 obtain ⟨ua, uc, rfl, ul, um, ue⟩ := hu.get
 refine enter (n := 26) Tryz.func14 rfl Tryz.ntmps14 rfl ?_ hw
 refine c_seq ?_
 refine c_region ?_
 refine l_val (v := .bool false) rfl rfl rfl (e_assign) ?_
 refine l_nil ?_
 refine f_then ?_
 refine c_seq ?_
 refine c_seq ?_
 refine c_region ?_
 refine l_val (v := .slice va (xs.length) (vc)) rfl rfl rfl (e_move) ?_
 refine l_val (v := Nx (xs.length)) rfl rfl rfl (e_len (a := va) (n := xs.length) (c := vc) rfl tf105) ?_
 refine l_val (v := .slice ua (xs.length) (uc)) rfl rfl rfl (e_move) ?_
 refine l_val (v := Nx (xs.length)) rfl rfl rfl (e_len (a := ua) (n := xs.length) (c := uc) rfl tf105) ?_
 refine l_val (v := .bool (decide (((xs.length : Nat) : Int) ≠ ((xs.length : Nat) : Int)))) rfl rfl rfl (e_neq (a := ((xs.length : Nat) : Int)) (b := ((xs.length : Nat) : Int)) rfl rfl) ?_
 refine l_nil ?_
 refine f_then ?_
 refine c_if (((xs.length : Nat) : Int) ≠ ((xs.length : Nat) : Int)) rfl (fun hc1 => ?_) (fun hc1 => ?_)
 ·
  exact absurd hc1 (by omega)
 ·
  refine c_skip ?_
  refine f_then ?_
  refine c_seq ?_
  refine c_seq ?_
  refine c_region ?_
  refine l_val (v := .int .i64 (0)) rfl rfl rfl (e_assign) ?_
  refine l_nil ?_
  refine f_then ?_
  refine c_block ?_
  refine c_loop (fun (k : Nat) (f : Fm) (L : List Res) => (f 0 = .slice va (xs.length) (vc) ∧ f 1 = .slice ua (xs.length) (uc) ∧ f 5 = Nx (k)) ∧ L = [] ∧ (k ≤ xs.length)) (fun (k : Nat) => xs.length - k) 0 ?_ ?_
  ·exact ⟨⟨rfl, rfl, rfl⟩, rfl, (by omega)⟩
  rintro k f0 L0 ⟨⟨hs0, hs1, hs5⟩, hL, hk⟩
  subst L0
  refine rebase (d := 0) hs0 ?_
  refine rebase (d := 1) hs1 ?_
  refine rebase (d := 5) hs5 ?_
  clear hs0 hs1 hs5
  refine c_seq ?_
  refine c_seq ?_
  refine c_region ?_
  refine l_val (v := Nx (k)) rfl rfl rfl (e_move) ?_
  refine l_val (v := .slice va (xs.length) (vc)) rfl rfl rfl (e_move) ?_
  refine l_val (v := Nx (xs.length)) rfl rfl rfl (e_len (a := va) (n := xs.length) (c := vc) rfl tf105) ?_
  refine l_val (v := .bool (decide (((k : Nat) : Int) < ((xs.length : Nat) : Int)))) rfl rfl rfl (e_lss (a := ((k : Nat) : Int)) (b := ((xs.length : Nat) : Int)) rfl rfl) ?_
  refine l_nil ?_
  refine f_then ?_
  refine c_if (((k : Nat) : Int) < ((xs.length : Nat) : Int)) rfl (fun hc2 => ?_) (fun hc2 => ?_)
  ·
   refine c_skip ?_
   refine f_then ?_
   refine c_seq ?_
   refine c_block ?_
   refine c_seq ?_
   refine c_quiet (by kernel_rfl) (by kernel_rfl) ?_
   refine q_val (v := .slice va (xs.length) (vc)) rfl rfl rfl (e_move) ?_
   refine q_val (v := Nx (k)) rfl rfl rfl (e_move) ?_
   obtain ⟨x3, hx4⟩ : ∃ x_, (xs)[k]? = some x_ := ⟨_, List.getElem?_eq_getElem (by omega)⟩
   obtain ⟨ha5, cs6, hc7, rfl⟩ := ve _ _ hx4
   refine q_val (v := .pointer (some ((ba va).add (k * 3)))) rfl rfl rfl (e_indexAddr (k := k) (len := xs.length) (cap := vc) (a := va) rfl rfl tf100 (by omega) ha5) ?_
   refine q_val (v := .agg #[Ix (x3.id), Bx (x3.along), Ix (x3.by_)]) rfl rfl rfl (e_load tf106 (cs := [Ix (x3.id), Bx (x3.along), Ix (x3.by_)]) rfl (Knows.of_base (Cs.mono _ _) hc7) rfl) ?_
   refine q_val (v := .slice ua (xs.length) (uc)) rfl rfl rfl (e_move) ?_
   refine q_val (v := Nx (k)) rfl rfl rfl (e_move) ?_
   obtain ⟨x9, hx10⟩ : ∃ x_, (xs)[k]? = some x_ := ⟨_, List.getElem?_eq_getElem (by omega)⟩
   obtain ⟨ha11, cs12, hc13, rfl⟩ := ue _ _ hx10
   refine q_val (v := .pointer (some ((ba ua).add (k * 3)))) rfl rfl rfl (e_indexAddr (k := k) (len := xs.length) (cap := uc) (a := ua) rfl rfl tf100 (by omega) ha11) ?_
   refine q_val (v := .agg #[Ix (x9.id), Bx (x9.along), Ix (x9.by_)]) rfl rfl rfl (e_load tf106 (cs := [Ix (x9.id), Bx (x9.along), Ix (x9.by_)]) rfl (Knows.of_base (Cs.mono _ _) hc13) rfl) ?_
   refine q_val (v := .bool (decide (¬ (x3 = x9)))) rfl rfl rfl (e_neq_t (xs := [Ix (x3.id), Bx (x3.along), Ix (x3.by_)]) (ys := [Ix (x9.id), Bx (x9.along), Ix (x9.by_)]) tf111 tf112 tf113 rfl rfl rfl rfl (not_congr (stop_eq (x := x3) (y := x9)))) ?_
   refine q_nil ?_
   refine f_then ?_
   refine c_if (¬ (x3 = x9)) rfl (fun hc15 => ?_) (fun hc15 => ?_)
   ·
    exact absurd hc15 (Decidable.not_not.2 (el_same hx4 hx10))
   ·
    refine c_skip ?_
    refine f_block ?_
    refine f_then ?_
    refine c_region ?_
    refine l_val (v := Nx (k)) rfl rfl rfl (e_move) ?_
    refine l_val (v := Nx (k + 1)) rfl rfl rfl (e_add (a := ((k : Nat) : Int)) (b := (1 : Int)) rfl rfl (i64n (by omega) (by omega))) ?_
    refine l_val (v := Nx (k + 1)) rfl rfl rfl (e_assign) ?_
    refine l_nil ?_
    exact f_cut ⟨k + 1, ⟨⟨rfl, rfl, rfl⟩, rfl, (by omega)⟩, (show xs.length - (k + 1) < xs.length - k from by omega)⟩
  ·
   refine c_exit ?_
   refine f_then_exit ?_
   refine f_then_exit ?_
   refine f_exit ?_
   refine f_then ?_
   refine c_seq ?_
   refine c_region ?_
   refine l_val (v := .bool true) rfl rfl rfl (e_assign) ?_
   refine l_nil ?_
   refine f_then ?_
   refine c_ret ?_
   refine ret1 Tryz.results14 (v := .bool true) rfl ?_
   intro w hw
   exact ⟨rfl, st_mask [] rfl hw⟩
theorem eqScene_ok (β : Base) (w : World) (hw : St β [] w) (v rv u ru : Value) (gx gy : Int) (bs : List KB) (rs : List KR) (hs : Sl KBR β.heap v bs) (hr : Sl KRR β.heap rv rs) (hu : Sl KBR β.heap u bs) (hq : Sl KRR β.heap ru rs) : Calls Tryz.prog 13 #[.agg #[v, rv, Ix gx, Ix gy], .agg #[u, ru, Ix gx, Ix gy]] w fun r w' => r = .returned (.bool true) ∧ St β [] w' := by
 obtain ⟨va, vc, rfl, vl, vm, ve⟩ := hs.get
 obtain ⟨rva, rvc, rfl, rvl, rvm, rve⟩ := hr.get
 obtain ⟨ua, uc, rfl, ul, um, ue⟩ := hu.get
 obtain ⟨rua, ruc, rfl, rul, rum, rue⟩ := hq.get
 refine enter (n := 24) Tryz.func13 rfl Tryz.ntmps13 rfl ?_ hw
 refine c_seq ?_
 refine c_region ?_
 refine l_mv rfl rfl rfl (m_box (v := .agg #[.slice va (bs.length) (vc), .slice rva (rs.length) (rvc), Ix (gx), Ix (gy)]) rfl) ?_
 rintro _ _ ⟨b1, rfl, rfl⟩
 refine l_mv rfl rfl rfl (m_box (v := .agg #[.slice ua (bs.length) (uc), .slice rua (rs.length) (ruc), Ix (gx), Ix (gy)]) rfl) ?_
 rintro _ _ ⟨b2, rfl, rfl⟩
 refine l_val (v := .bool false) rfl rfl rfl (e_assign) ?_
 refine l_nil ?_
 refine f_then ?_
 refine c_seq ?_
 refine c_region ?_
 refine l_val (v := .pointer (some ⟨b1, 0, none⟩)) rfl rfl rfl (e_fieldPt (b := b1) (o := 0) rfl tf49) ?_
 refine l_val (v := .slice va (bs.length) (vc)) rfl rfl rfl (e_load1 tf50 (v := .slice va (bs.length) (vc)) rfl (k_pt 1 (cs := #[.slice va (bs.length) (vc), .slice rva (rs.length) (rvc), Ix (gx), Ix (gy)]) (vs := [.slice va (bs.length) (vc)]) rfl rfl)) ?_
 refine l_val (v := .pointer (some ⟨b2, 0, none⟩)) rfl rfl rfl (e_fieldPt (b := b2) (o := 0) rfl tf49) ?_
 refine l_val (v := .slice ua (bs.length) (uc)) rfl rfl rfl (e_load1 tf50 (v := .slice ua (bs.length) (uc)) rfl (k_pt 0 (cs := #[.slice ua (bs.length) (uc), .slice rua (rs.length) (ruc), Ix (gx), Ix (gy)]) (vs := [.slice ua (bs.length) (uc)]) rfl rfl)) ?_
 refine l_call rfl rfl rfl (cl_value (fst := []) (cap := []) (vs := [.slice va (bs.length) (vc), .slice ua (bs.length) (uc)]) (all := [.slice va (bs.length) (vc), .slice ua (bs.length) (uc)]) tf140 rfl rfl rfl) ?_
 intro w hw
 obtain ⟨β1, sb, kn, hw1, back⟩ := St.frame_all hw
 refine (eqB_ok β1 w hw1 _ _ bs (Sl.mono _ _ _ _ _ sb (⟨⟨_, _, rfl, vl, vm, ve⟩⟩ : Sl KBR _ _ bs)) (Sl.mono _ _ _ _ _ sb (⟨⟨_, _, rfl, ul, um, ue⟩⟩ : Sl KBR _ _ bs))).mono ?_
 rintro e w' ⟨rfl, hw'⟩
 refine ⟨_, rfl, _, back _ _ hw', ?_⟩
 clear hw hw1 hw' back kn sb
 refine l_val (v := .bool true) rfl rfl rfl (e_move) ?_
 refine g_val (v := .pointer (some ⟨b1, 1, none⟩)) rfl rfl rfl rfl rfl (e_fieldPt (b := b1) (o := 0) rfl tf55) ?_
 refine g_val (v := .slice rva (rs.length) (rvc)) rfl rfl rfl rfl rfl (e_load1 tf56 (v := .slice rva (rs.length) (rvc)) rfl (k_pt 1 (cs := #[.slice va (bs.length) (vc), .slice rva (rs.length) (rvc), Ix (gx), Ix (gy)]) (vs := [.slice rva (rs.length) (rvc)]) rfl rfl)) ?_
 refine g_val (v := .pointer (some ⟨b2, 1, none⟩)) rfl rfl rfl rfl rfl (e_fieldPt (b := b2) (o := 0) rfl tf55) ?_
 refine g_val (v := .slice rua (rs.length) (ruc)) rfl rfl rfl rfl rfl (e_load1 tf56 (v := .slice rua (rs.length) (ruc)) rfl (k_pt 0 (cs := #[.slice ua (bs.length) (uc), .slice rua (rs.length) (ruc), Ix (gx), Ix (gy)]) (vs := [.slice rua (rs.length) (ruc)]) rfl rfl)) ?_
 refine g_call rfl rfl rfl rfl rfl (cl_value (fst := []) (cap := []) (vs := [.slice rva (rs.length) (rvc), .slice rua (rs.length) (ruc)]) (all := [.slice rva (rs.length) (rvc), .slice rua (rs.length) (ruc)]) tf141 rfl rfl rfl) ?_
 intro w hw
 obtain ⟨β1, sb, kn, hw1, back⟩ := St.frame_all hw
 refine (eqR_ok β1 w hw1 _ _ rs (Sl.mono _ _ _ _ _ sb (⟨⟨_, _, rfl, rvl, rvm, rve⟩⟩ : Sl KRR _ _ rs)) (Sl.mono _ _ _ _ _ sb (⟨⟨_, _, rfl, rul, rum, rue⟩⟩ : Sl KRR _ _ rs))).mono ?_
 rintro e w' ⟨rfl, hw'⟩
 refine ⟨_, rfl, _, back _ _ hw', ?_⟩
 clear hw hw1 hw' back kn sb
 refine l_val (v := .bool true) rfl rfl rfl (e_pick_t rfl) ?_
 refine l_val (v := .bool true) rfl rfl rfl (e_move) ?_
 refine g_val (v := .pointer (some ⟨b1, 2, none⟩)) rfl rfl rfl rfl rfl (e_fieldPt (b := b1) (o := 0) rfl tf57) ?_
 refine g_val (v := .agg #[Ix (gx), Ix (gy)]) rfl rfl rfl rfl rfl (e_load tf15 (cs := [Ix (gx), Ix (gy)]) rfl (k_pt 1 (cs := #[.slice va (bs.length) (vc), .slice rva (rs.length) (rvc), Ix (gx), Ix (gy)]) (vs := [Ix (gx), Ix (gy)]) rfl rfl) rfl) ?_
 refine g_val (v := .pointer (some ⟨b2, 2, none⟩)) rfl rfl rfl rfl rfl (e_fieldPt (b := b2) (o := 0) rfl tf57) ?_
 refine g_val (v := .agg #[Ix (gx), Ix (gy)]) rfl rfl rfl rfl rfl (e_load tf15 (cs := [Ix (gx), Ix (gy)]) rfl (k_pt 0 (cs := #[.slice ua (bs.length) (uc), .slice rua (rs.length) (ruc), Ix (gx), Ix (gy)]) (vs := [Ix (gx), Ix (gy)]) rfl rfl) rfl) ?_
 refine g_val (v := .bool (decide ((gx) = (gx) ∧ (gy) = (gy)))) rfl rfl rfl rfl rfl (e_eql_t (xs := [Ix (gx), Ix (gy)]) (ys := [Ix (gx), Ix (gy)]) tf18 tf19 tf20 rfl rfl rfl rfl vec_eq) ?_
 refine l_val (v := .bool (decide ((gx) = (gx) ∧ (gy) = (gy)))) rfl rfl rfl (e_pick_t rfl) ?_
 refine l_val (v := .bool (decide ((gx) = (gx) ∧ (gy) = (gy)))) rfl rfl rfl (e_assign) ?_
 refine l_nil ?_
 refine f_then ?_
 refine c_ret ?_
 refine ret1 Tryz.results13 (v := .bool (decide ((gx) = (gx) ∧ (gy) = (gy)))) rfl ?_
 intro w hw
 exact ⟨by first | rfl | simp, st_mask [false, false] rfl hw⟩
theorem lentS_ok (β : Base) (w : World) (hw : St β [] w) (v rv : Value) (gx gy : Int) (bs : List KB) (rs : List KR) (hs : Sl KBR β.heap v bs) (hr : Sl KRR β.heap rv rs) (hbn : bs.length ≤ 1048576) (hrn : rs.length ≤ 1048576) : Calls Tryz.prog 17 #[.agg #[v, rv, Ix gx, Ix gy]] w fun r w' => ∃ p c q d, r = .returned (.agg #[.slice p bs.length c, .slice q rs.length d, Ix gx, Ix gy]) ∧ St β [rowF BodyF 52 p c (lentL (markB 1) bs), rowF RopeF 78 q d (lentL (markR 1) rs)] w' := by
 obtain ⟨va, vc, rfl, vl, vm, ve⟩ := hs.get
 obtain ⟨rva, rvc, rfl, rvl, rvm, rve⟩ := hr.get
 refine enter (n := 12) Tryz.func17 rfl Tryz.ntmps17 rfl ?_ hw
 refine c_seq ?_
 refine c_region ?_
 refine l_mv rfl rfl rfl (m_box (v := .agg #[.slice va (bs.length) (vc), .slice rva (rs.length) (rvc), Ix (gx), Ix (gy)]) rfl) ?_
 rintro _ _ ⟨b1, rfl, rfl⟩
 refine l_mv rfl rfl rfl (m_alloc tf85) ?_
 rintro _ _ ⟨b2, rfl, rfl⟩
 refine l_nil ?_
 refine f_then ?_
 refine c_seq ?_
 refine c_region ?_
 refine l_val (v := .pointer (some ⟨b1, 0, none⟩)) rfl rfl rfl (e_fieldPt (b := b1) (o := 0) rfl tf49) ?_
 refine l_val (v := .slice va (bs.length) (vc)) rfl rfl rfl (e_load1 tf50 (v := .slice va (bs.length) (vc)) rfl (k_pt 1 (cs := #[.slice va (bs.length) (vc), .slice rva (rs.length) (rvc), Ix (gx), Ix (gy)]) (vs := [.slice va (bs.length) (vc)]) rfl rfl)) ?_
 refine l_call rfl rfl rfl (cl_value (fst := []) (cap := []) (vs := [.slice va (bs.length) (vc)]) (all := [.slice va (bs.length) (vc)]) tf142 rfl rfl rfl) ?_
 intro w hw
 obtain ⟨β1, sb, kn, hw1, back⟩ := St.frame_all hw
 refine (lentB_ok β1 w hw1 _ bs (Sl.mono _ _ _ _ _ sb (⟨⟨_, _, rfl, vl, vm, ve⟩⟩ : Sl KBR _ _ bs)) (by omega)).mono ?_
 rintro e w' ⟨p3, c4, rfl, hw'⟩
 refine ⟨_, rfl, _, back _ _ hw', ?_⟩
 clear hw hw1 hw' back kn sb
 refine l_val (v := .pointer (some ⟨b1, 0, none⟩)) rfl rfl rfl (e_fieldPt (b := b1) (o := 0) rfl tf49) ?_
 refine l_mu rfl rfl (m_store 2 tf50 (b := b1) (o := 0) (T := 30) (cs := #[.slice va (bs.length) (vc), .slice rva (rs.length) (rvc), Ix (gx), Ix (gy)]) (cs' := #[.slice p3 (bs.length) c4, .slice rva (rs.length) (rvc), Ix (gx), Ix (gy)]) (v := .slice p3 (bs.length) c4) rfl rfl rfl rfl rfl rfl rfl) ?_
 refine l_nil ?_
 refine f_then ?_
 refine c_seq ?_
 refine c_region ?_
 refine l_val (v := .pointer (some ⟨b1, 1, none⟩)) rfl rfl rfl (e_fieldPt (b := b1) (o := 0) rfl tf55) ?_
 refine l_val (v := .slice rva (rs.length) (rvc)) rfl rfl rfl (e_load1 tf56 (v := .slice rva (rs.length) (rvc)) rfl (k_pt 2 (cs := #[.slice p3 (bs.length) c4, .slice rva (rs.length) (rvc), Ix (gx), Ix (gy)]) (vs := [.slice rva (rs.length) (rvc)]) rfl rfl)) ?_
 refine l_call rfl rfl rfl (cl_value (fst := []) (cap := []) (vs := [.slice rva (rs.length) (rvc)]) (all := [.slice rva (rs.length) (rvc)]) tf143 rfl rfl rfl) ?_
 intro w hw
 obtain ⟨β1, sb, kn, hw1, back⟩ := St.frame_all hw
 refine (lentR_ok β1 w hw1 _ rs (Sl.mono _ _ _ _ _ sb (⟨⟨_, _, rfl, rvl, rvm, rve⟩⟩ : Sl KRR _ _ rs)) (by omega)).mono ?_
 rintro e w' ⟨p5, c6, rfl, hw'⟩
 refine ⟨_, rfl, _, back _ _ hw', ?_⟩
 clear hw hw1 hw' back kn sb
 refine l_val (v := .pointer (some ⟨b1, 1, none⟩)) rfl rfl rfl (e_fieldPt (b := b1) (o := 0) rfl tf55) ?_
 refine l_mu rfl rfl (m_store 3 tf56 (b := b1) (o := 1) (T := 30) (cs := #[.slice p3 (bs.length) c4, .slice rva (rs.length) (rvc), Ix (gx), Ix (gy)]) (cs' := #[.slice p3 (bs.length) c4, .slice p5 (rs.length) c6, Ix (gx), Ix (gy)]) (v := .slice p5 (rs.length) c6) rfl rfl rfl rfl rfl rfl rfl) ?_
 refine l_nil ?_
 refine f_then ?_
 refine c_seq ?_
 refine c_region ?_
 refine l_val (v := .agg #[.slice p3 (bs.length) c4, .slice p5 (rs.length) c6, Ix (gx), Ix (gy)]) rfl rfl rfl (e_load tf86 (cs := [.slice p3 (bs.length) c4, .slice p5 (rs.length) c6, Ix (gx), Ix (gy)]) rfl (k_pt 3 (cs := #[.slice p3 (bs.length) c4, .slice p5 (rs.length) c6, Ix (gx), Ix (gy)]) (vs := [.slice p3 (bs.length) c4, .slice p5 (rs.length) c6, Ix (gx), Ix (gy)]) rfl rfl) rfl) ?_
 refine l_mu rfl rfl (m_store 2 tf86 (b := b2) (o := 0) (T := 30) (cs := #[.slice none 0 0, .slice none 0 0, .int .i64 (0), .int .i64 (0)]) (cs' := #[.slice p3 (bs.length) c4, .slice p5 (rs.length) c6, Ix (gx), Ix (gy)]) (v := .agg #[.slice p3 (bs.length) c4, .slice p5 (rs.length) c6, Ix (gx), Ix (gy)]) rfl rfl rfl rfl rfl rfl rfl) ?_
 refine l_nil ?_
 refine f_then ?_
 refine c_ret ?_
 refine retG (l := [.cell 2 30]) (m := [.agg #[.slice p3 (bs.length) c4, .slice p5 (rs.length) c6, Ix (gx), Ix (gy)]]) (v := .agg #[.slice p3 (bs.length) c4, .slice p5 (rs.length) c6, Ix (gx), Ix (gy)]) Tryz.results17 ⟨rd_cell tf86 (cs := [.slice p3 (bs.length) c4, .slice p5 (rs.length) c6, Ix (gx), Ix (gy)]) rfl (k_pt 2 (cs := #[.slice p3 (bs.length) c4, .slice p5 (rs.length) c6, Ix (gx), Ix (gy)]) (vs := [.slice p3 (bs.length) c4, .slice p5 (rs.length) c6, Ix (gx), Ix (gy)]) rfl rfl) rfl, trivial⟩ rfl ?_
 intro w hw
 have hw2 := st_mask (L' := [rowF RopeF 78 p5 c6 (lentL (markR 1) rs), rowF BodyF 52 p3 c4 (lentL (markB 1) bs)]) [true, true, false, false] rfl hw
 exact ⟨_, _, _, _, rfl, hw2.perm (perm_ix [1, 0] 2 rfl (by kernel_rfl) (by kernel_rfl))⟩
theorem keptS_ok (β : Base) (w : World) (hw : St β [] w) (p q : Option Addr) (c d : Nat) (u ru : Value) (gx gy : Int) (bs : List KB) (rs : List KR) (hbn : bs.length ≤ 1048576) (hrn : rs.length ≤ 1048576) (hlb : Sl KBR β.heap (.slice p (lentL (markB 1) bs).length c) (lentL (markB 1) bs)) (hlr : Sl KRR β.heap (.slice q (lentL (markR 1) rs).length d) (lentL (markR 1) rs)) (hu : Sl KBR β.heap u bs) (hq : Sl KRR β.heap ru rs) : Calls Tryz.prog 28 #[.agg #[.slice p bs.length c, .slice q rs.length d, Ix gx, Ix gy], .agg #[u, ru, Ix gx, Ix gy]] w fun r w' => r = .returned (.bool true) ∧ St β [] w' := by
 obtain ⟨ua, uc, rfl, ul, um, ue⟩ := hu.get
 obtain ⟨rua, ruc, rfl, rul, rum, rue⟩ := hq.get
 refine enter (n := 22) Tryz.func28 rfl Tryz.ntmps28 rfl ?_ hw
 refine c_seq ?_
 refine c_region ?_
 refine l_mv rfl rfl rfl (m_box (v := .agg #[.slice p (bs.length) (c), .slice q (rs.length) (d), Ix (gx), Ix (gy)]) rfl) ?_
 rintro _ _ ⟨b1, rfl, rfl⟩
 refine l_mv rfl rfl rfl (m_box (v := .agg #[.slice ua (bs.length) (uc), .slice rua (rs.length) (ruc), Ix (gx), Ix (gy)]) rfl) ?_
 rintro _ _ ⟨b2, rfl, rfl⟩
 refine l_val (v := .bool false) rfl rfl rfl (e_assign) ?_
 refine l_nil ?_
 refine f_then ?_
 refine c_seq ?_
 refine c_region ?_
 refine l_val (v := .agg #[.slice p (bs.length) (c), .slice q (rs.length) (d), Ix (gx), Ix (gy)]) rfl rfl rfl (e_load tf86 (cs := [.slice p (bs.length) (c), .slice q (rs.length) (d), Ix (gx), Ix (gy)]) rfl (k_pt 1 (cs := #[.slice p (bs.length) (c), .slice q (rs.length) (d), Ix (gx), Ix (gy)]) (vs := [.slice p (bs.length) (c), .slice q (rs.length) (d), Ix (gx), Ix (gy)]) rfl rfl) rfl) ?_
 refine l_val (v := .agg #[.slice ua (bs.length) (uc), .slice rua (rs.length) (ruc), Ix (gx), Ix (gy)]) rfl rfl rfl (e_load tf86 (cs := [.slice ua (bs.length) (uc), .slice rua (rs.length) (ruc), Ix (gx), Ix (gy)]) rfl (k_pt 0 (cs := #[.slice ua (bs.length) (uc), .slice rua (rs.length) (ruc), Ix (gx), Ix (gy)]) (vs := [.slice ua (bs.length) (uc), .slice rua (rs.length) (ruc), Ix (gx), Ix (gy)]) rfl rfl) rfl) ?_
 refine l_call rfl rfl rfl (cl_value (fst := []) (cap := []) (vs := [.agg #[.slice p (bs.length) (c), .slice q (rs.length) (d), Ix (gx), Ix (gy)], .agg #[.slice ua (bs.length) (uc), .slice rua (rs.length) (ruc), Ix (gx), Ix (gy)]]) (all := [.agg #[.slice p (bs.length) (c), .slice q (rs.length) (d), Ix (gx), Ix (gy)], .agg #[.slice ua (bs.length) (uc), .slice rua (rs.length) (ruc), Ix (gx), Ix (gy)]]) tf144 rfl rfl rfl) ?_
 intro w hw
 obtain ⟨β1, sb, kn, hw1, back⟩ := St.frame_all hw
 refine (eqScene_ok β1 w hw1 _ _ _ _ (gx) (gy) bs rs (Sl.mono _ _ _ _ _ sb (sl_pre hlb)) (Sl.mono _ _ _ _ _ sb (sl_pre hlr)) (Sl.mono _ _ _ _ _ sb (⟨⟨_, _, rfl, ul, um, ue⟩⟩ : Sl KBR _ _ bs)) (Sl.mono _ _ _ _ _ sb (⟨⟨_, _, rfl, rul, rum, rue⟩⟩ : Sl KRR _ _ rs))).mono ?_
 rintro e w' ⟨rfl, hw'⟩
 refine ⟨_, rfl, _, back _ _ hw', ?_⟩
 clear hw hw1 hw' back kn sb
 refine l_val (v := .bool true) rfl rfl rfl (e_move) ?_
 refine g_val (v := .pointer (some ⟨b1, 0, none⟩)) rfl rfl rfl rfl rfl (e_fieldPt (b := b1) (o := 0) rfl tf49) ?_
 refine g_val (v := .slice p (bs.length) (c)) rfl rfl rfl rfl rfl (e_load1 tf50 (v := .slice p (bs.length) (c)) rfl (k_pt 1 (cs := #[.slice p (bs.length) (c), .slice q (rs.length) (d), Ix (gx), Ix (gy)]) (vs := [.slice p (bs.length) (c)]) rfl rfl)) ?_
 refine g_val (v := .pointer (some ⟨b2, 0, none⟩)) rfl rfl rfl rfl rfl (e_fieldPt (b := b2) (o := 0) rfl tf49) ?_
 refine g_val (v := .slice ua (bs.length) (uc)) rfl rfl rfl rfl rfl (e_load1 tf50 (v := .slice ua (bs.length) (uc)) rfl (k_pt 0 (cs := #[.slice ua (bs.length) (uc), .slice rua (rs.length) (ruc), Ix (gx), Ix (gy)]) (vs := [.slice ua (bs.length) (uc)]) rfl rfl)) ?_
 refine g_call rfl rfl rfl rfl rfl (cl_value (fst := []) (cap := []) (vs := [.slice p (bs.length) (c), .slice ua (bs.length) (uc)]) (all := [.slice p (bs.length) (c), .slice ua (bs.length) (uc)]) tf145 rfl rfl rfl) ?_
 intro w hw
 obtain ⟨β1, sb, kn, hw1, back⟩ := St.frame_all hw
 refine (keptB_ok β1 w hw1 _ _ _ bs (by omega) (Sl.mono _ _ _ _ _ sb hlb) (Sl.mono _ _ _ _ _ sb (⟨⟨_, _, rfl, ul, um, ue⟩⟩ : Sl KBR _ _ bs))).mono ?_
 rintro e w' ⟨rfl, hw'⟩
 refine ⟨_, rfl, _, back _ _ hw', ?_⟩
 clear hw hw1 hw' back kn sb
 refine l_val (v := .bool true) rfl rfl rfl (e_pick_t rfl) ?_
 refine l_val (v := .bool true) rfl rfl rfl (e_move) ?_
 refine g_val (v := .pointer (some ⟨b1, 1, none⟩)) rfl rfl rfl rfl rfl (e_fieldPt (b := b1) (o := 0) rfl tf55) ?_
 refine g_val (v := .slice q (rs.length) (d)) rfl rfl rfl rfl rfl (e_load1 tf56 (v := .slice q (rs.length) (d)) rfl (k_pt 1 (cs := #[.slice p (bs.length) (c), .slice q (rs.length) (d), Ix (gx), Ix (gy)]) (vs := [.slice q (rs.length) (d)]) rfl rfl)) ?_
 refine g_val (v := .pointer (some ⟨b2, 1, none⟩)) rfl rfl rfl rfl rfl (e_fieldPt (b := b2) (o := 0) rfl tf55) ?_
 refine g_val (v := .slice rua (rs.length) (ruc)) rfl rfl rfl rfl rfl (e_load1 tf56 (v := .slice rua (rs.length) (ruc)) rfl (k_pt 0 (cs := #[.slice ua (bs.length) (uc), .slice rua (rs.length) (ruc), Ix (gx), Ix (gy)]) (vs := [.slice rua (rs.length) (ruc)]) rfl rfl)) ?_
 refine g_call rfl rfl rfl rfl rfl (cl_value (fst := []) (cap := []) (vs := [.slice q (rs.length) (d), .slice rua (rs.length) (ruc)]) (all := [.slice q (rs.length) (d), .slice rua (rs.length) (ruc)]) tf146 rfl rfl rfl) ?_
 intro w hw
 obtain ⟨β1, sb, kn, hw1, back⟩ := St.frame_all hw
 refine (keptR_ok β1 w hw1 _ _ _ rs (by omega) (Sl.mono _ _ _ _ _ sb hlr) (Sl.mono _ _ _ _ _ sb (⟨⟨_, _, rfl, rul, rum, rue⟩⟩ : Sl KRR _ _ rs))).mono ?_
 rintro e w' ⟨rfl, hw'⟩
 refine ⟨_, rfl, _, back _ _ hw', ?_⟩
 clear hw hw1 hw' back kn sb
 refine l_val (v := .bool true) rfl rfl rfl (e_pick_t rfl) ?_
 refine l_val (v := .bool true) rfl rfl rfl (e_assign) ?_
 refine l_nil ?_
 refine f_then ?_
 refine c_ret ?_
 refine ret1 Tryz.results28 (v := .bool true) rfl ?_
 intro w hw
 exact ⟨rfl, st_mask [false, false] rfl hw⟩
theorem overS_ok (β : Base) (w : World) (p q : Option Addr) (c d n m : Nat) (gx gy : Int) (ys : List KB) (us : List KR) (hlB : ys.length = n + 12) (hlR : us.length = m + 12) (hn : n ≤ 1000000) (hm : m ≤ 1000000) (hw : St β [rowF BodyF 52 p c ys, rowF RopeF 78 q d us] w) : Calls Tryz.prog 30 #[.agg #[.slice p n c, .slice q m d, Ix gx, Ix gy]] w fun r w' => ∃ zs ts, r = .returned (.tuple #[]) ∧ St β [rowF BodyF 52 p c zs, rowF RopeF 78 q d ts] w' := by
 refine enter (n := 8) Tryz.func30 rfl Tryz.ntmps30 rfl ?_ hw
 refine c_seq ?_
 refine c_region ?_
 refine l_mv rfl rfl rfl (m_box (v := .agg #[.slice p (n) c, .slice q (m) d, Ix (gx), Ix (gy)]) rfl) ?_
 rintro _ _ ⟨b1, rfl, rfl⟩
 refine l_nil ?_
 refine f_then ?_
 refine c_seq ?_
 refine c_region ?_
 refine l_val (v := .pointer (some ⟨b1, 0, none⟩)) rfl rfl rfl (e_fieldPt (b := b1) (o := 0) rfl tf49) ?_
 refine l_val (v := .slice p (n) c) rfl rfl rfl (e_load1 tf50 (v := .slice p (n) c) rfl (k_pt 0 (cs := #[.slice p (n) c, .slice q (m) d, Ix (gx), Ix (gy)]) (vs := [.slice p (n) c]) rfl rfl)) ?_
 refine l_call rfl rfl rfl (cl_value (fst := []) (cap := []) (vs := [.slice p (n) c]) (all := [.slice p (n) c]) tf147 rfl rfl rfl) ?_
 intro w hw
 replace hw := hw.perm (L' := _ :: _ :: _ :: []) (by exact (((perm_front 2 rfl).trans (perm_front 1 rfl)).trans (perm_front 2 rfl)))
 obtain ⟨β1, sb, kn, hw1, back⟩ := St.frame (L := [_]) (M := _ :: _ :: []) hw
 refine (overB_ok β1 w _ _ _ ys hlB (by omega) hw1).mono ?_
 rintro e w' ⟨zs2, rfl, hw'⟩
 refine ⟨_, rfl, _, back _ _ hw', ?_⟩
 clear hw hw1 hw' back kn sb
 refine l_nil ?_
 refine f_then ?_
 refine c_region ?_
 refine l_val (v := .pointer (some ⟨b1, 1, none⟩)) rfl rfl rfl (e_fieldPt (b := b1) (o := 0) rfl tf55) ?_
 refine l_val (v := .slice q (m) d) rfl rfl rfl (e_load1 tf56 (v := .slice q (m) d) rfl (k_pt 1 (cs := #[.slice p (n) c, .slice q (m) d, Ix (gx), Ix (gy)]) (vs := [.slice q (m) d]) rfl rfl)) ?_
 refine l_call rfl rfl rfl (cl_value (fst := []) (cap := []) (vs := [.slice q (m) d]) (all := [.slice q (m) d]) tf148 rfl rfl rfl) ?_
 intro w hw
 replace hw := hw.perm (L' := _ :: _ :: _ :: []) (by exact (((perm_front 1 rfl).trans (perm_front 1 rfl)).trans (perm_front 2 rfl)))
 obtain ⟨β1, sb, kn, hw1, back⟩ := St.frame (L := [_]) (M := _ :: _ :: []) hw
 refine (overR_ok β1 w _ _ _ us hlR (by omega) hw1).mono ?_
 rintro e w' ⟨zs3, rfl, hw'⟩
 refine ⟨_, rfl, _, back _ _ hw', ?_⟩
 clear hw hw1 hw' back kn sb
 refine l_nil ?_
 refine end0 Tryz.results30 ?_
 intro w hw
 have hw2 := st_mask (L' := [rowF RopeF 78 q d zs3, rowF BodyF 52 p c zs2]) [true, true, false] rfl hw
 exact ⟨zs2, zs3, rfl, hw2.perm (perm_ix [1, 0] 2 rfl (by kernel_rfl) (by kernel_rfl))⟩
set_option maxHeartbeats 4000000 in
theorem few_ok (β : Base) (w : World) (hw : St β [] w) (v rv : Value) (gx gy : Int) (bs : List KB) (rs : List KR) (hs : Sl KBR β.heap v bs) (hr : Sl KRR β.heap rv rs) : Calls Tryz.prog 23 #[.agg #[v, rv, Ix gx, Ix gy]] w fun r w' => ∃ b, r = .returned (.bool b) ∧ (b = true → bs.length ≤ 10 ∧ rs.length ≤ 6) ∧ St β [] w' := by
 obtain ⟨va, vc, rfl, vl, vm, ve⟩ := hs.get
 obtain ⟨rva, rvc, rfl, rvl, rvm, rve⟩ := hr.get
 refine enter (n := 48) Tryz.func23 rfl Tryz.ntmps23 rfl ?_ hw
 refine c_seq ?_
 refine c_region ?_
 refine l_mv rfl rfl rfl (m_box (v := .agg #[.slice va (bs.length) (vc), .slice rva (rs.length) (rvc), Ix (gx), Ix (gy)]) rfl) ?_
 rintro _ _ ⟨b1, rfl, rfl⟩
 refine l_val (v := .bool false) rfl rfl rfl (e_assign) ?_
 refine l_nil ?_
 refine f_then ?_
 refine c_seq ?_
 refine c_seq ?_
 refine c_region ?_
 refine l_val (v := .pointer (some ⟨b1, 0, none⟩)) rfl rfl rfl (e_fieldPt (b := b1) (o := 0) rfl tf49) ?_
 refine l_val (v := .slice va (bs.length) (vc)) rfl rfl rfl (e_load1 tf50 (v := .slice va (bs.length) (vc)) rfl (k_pt 0 (cs := #[.slice va (bs.length) (vc), .slice rva (rs.length) (rvc), Ix (gx), Ix (gy)]) (vs := [.slice va (bs.length) (vc)]) rfl rfl)) ?_
 refine l_val (v := Nx (bs.length)) rfl rfl rfl (e_len (a := va) (n := bs.length) (c := vc) rfl tf40) ?_
 refine l_val (v := .bool (decide ((10 : Int) < ((bs.length : Nat) : Int)))) rfl rfl rfl (e_gtr (a := ((bs.length : Nat) : Int)) (b := (10 : Int)) rfl rfl) ?_
 refine l_val (v := .bool (decide ((10 : Int) < ((bs.length : Nat) : Int)))) rfl rfl rfl (e_move) ?_
 refine l_split (s := 10) (p := (10 : Int) < ((bs.length : Nat) : Int)) rfl (fun hg2 => ?_) (fun hg2 => ?_)
 ·
  refine l_skip rfl rfl rfl rfl rfl rfl ?_
  refine l_skip rfl rfl rfl rfl rfl rfl ?_
  refine l_skip rfl rfl rfl rfl rfl rfl ?_
  refine l_skip rfl rfl rfl rfl rfl rfl ?_
  refine l_val (v := .bool true) rfl rfl rfl (e_pick_t rfl) ?_
  refine l_nil ?_
  refine f_then ?_
  refine c_yes rfl ?_
  refine c_seq ?_
  refine c_region ?_
  refine l_val (v := .bool false) rfl rfl rfl (e_assign) ?_
  refine l_nil ?_
  refine f_then ?_
  refine c_ret ?_
  refine f_then_ret ?_
  refine ret1 Tryz.results23 (v := .bool false) rfl ?_
  intro w hw
  exact ⟨false, rfl, (fun h => by cases h), st_mask [false] rfl hw⟩
 ·
  refine g_val (v := .pointer (some ⟨b1, 1, none⟩)) rfl rfl rfl rfl rfl (e_fieldPt (b := b1) (o := 0) rfl tf55) ?_
  refine g_val (v := .slice rva (rs.length) (rvc)) rfl rfl rfl rfl rfl (e_load1 tf56 (v := .slice rva (rs.length) (rvc)) rfl (k_pt 0 (cs := #[.slice va (bs.length) (vc), .slice rva (rs.length) (rvc), Ix (gx), Ix (gy)]) (vs := [.slice rva (rs.length) (rvc)]) rfl rfl)) ?_
  refine g_val (v := Nx (rs.length)) rfl rfl rfl rfl rfl (e_len (a := rva) (n := rs.length) (c := rvc) rfl tf45) ?_
  refine g_val (v := .bool (decide ((6 : Int) < ((rs.length : Nat) : Int)))) rfl rfl rfl rfl rfl (e_gtr (a := ((rs.length : Nat) : Int)) (b := (6 : Int)) rfl rfl) ?_
  refine l_val (v := .bool (decide ((6 : Int) < ((rs.length : Nat) : Int)))) rfl rfl rfl (e_pick_f rfl) ?_
  refine l_nil ?_
  refine f_then ?_
  refine c_if ((6 : Int) < ((rs.length : Nat) : Int)) rfl (fun hc3 => ?_) (fun hc3 => ?_)
  ·
   refine c_seq ?_
   refine c_region ?_
   refine l_val (v := .bool false) rfl rfl rfl (e_assign) ?_
   refine l_nil ?_
   refine f_then ?_
   refine c_ret ?_
   refine f_then_ret ?_
   refine ret1 Tryz.results23 (v := .bool false) rfl ?_
   intro w hw
   exact ⟨false, rfl, (fun h => by cases h), st_mask [false] rfl hw⟩
  ·
   refine c_skip ?_
   refine f_then ?_
   refine c_seq ?_
   refine c_region ?_
   refine l_val (v := .int .i64 (0)) rfl rfl rfl (e_assign) ?_
   refine l_nil ?_
   refine f_then ?_
   refine c_seq ?_
   refine c_seq ?_
   refine c_region ?_
   refine l_val (v := .int .i64 (0)) rfl rfl rfl (e_assign) ?_
   refine l_nil ?_
   refine f_then ?_
   refine c_block ?_
   refine c_mask [true] rfl ?_
   refine c_loop (fun (x_ : Nat × Int) (f : Fm) (L : List Res) => match x_ with | (k, t) => (f 1 = .pointer (some ⟨b1, 0, none⟩) ∧ f 3 = Ix (t) ∧ f 4 = Nx (k)) ∧ L = [pt b1 (.cells #[.slice va (bs.length) (vc), .slice rva (rs.length) (rvc), Ix (gx), Ix (gy)] 30)] ∧ (k ≤ bs.length ∧ 0 ≤ t ∧ t ≤ 8192 * ((k : Nat) : Int))) (fun (x_ : Nat × Int) => match x_ with | (k, t) => bs.length - k) (0, 0) ?_ ?_
   ·exact ⟨⟨rfl, rfl, rfl⟩, rfl, ⟨by omega, by omega, by omega⟩⟩
   rintro ⟨k, t⟩ f0 L0 ⟨⟨hs1, hs3, hs4⟩, hL, ⟨hk, ht1, ht2⟩⟩
   subst L0
   refine rebase (d := 1) hs1 ?_
   refine rebase (d := 3) hs3 ?_
   refine rebase (d := 4) hs4 ?_
   clear hs1 hs3 hs4
   refine c_seq ?_
   refine c_seq ?_
   refine c_region ?_
   refine l_val (v := Nx (k)) rfl rfl rfl (e_move) ?_
   refine l_val (v := .pointer (some ⟨b1, 0, none⟩)) rfl rfl rfl (e_fieldPt (b := b1) (o := 0) rfl tf49) ?_
   refine l_val (v := .slice va (bs.length) (vc)) rfl rfl rfl (e_load1 tf50 (v := .slice va (bs.length) (vc)) rfl (k_pt 0 (cs := #[.slice va (bs.length) (vc), .slice rva (rs.length) (rvc), Ix (gx), Ix (gy)]) (vs := [.slice va (bs.length) (vc)]) rfl rfl)) ?_
   refine l_val (v := Nx (bs.length)) rfl rfl rfl (e_len (a := va) (n := bs.length) (c := vc) rfl tf40) ?_
   refine l_val (v := .bool (decide (((k : Nat) : Int) < ((bs.length : Nat) : Int)))) rfl rfl rfl (e_lss (a := ((k : Nat) : Int)) (b := ((bs.length : Nat) : Int)) rfl rfl) ?_
   refine l_nil ?_
   refine f_then ?_
   refine c_if (((k : Nat) : Int) < ((bs.length : Nat) : Int)) rfl (fun hc4 => ?_) (fun hc4 => ?_)
   ·
    refine c_skip ?_
    refine f_then ?_
    refine c_seq ?_
    refine c_block ?_
    refine c_seq ?_
    obtain ⟨x5, hx6⟩ : ∃ x_, (bs)[k]? = some x_ := ⟨_, List.getElem?_eq_getElem (by omega)⟩
    obtain ⟨ha7, cs8, hc9, rfl⟩ := ve _ _ hx6
    refine c_any [⟨[], [], [0], [23], fun f => f 23 = .pointer (some ⟨b1, 0, none⟩)⟩, ⟨[0], [0], [], [24], fun f => f 24 = .slice va (bs.length) (vc)⟩, ⟨[], [], [1], [25], fun f => f 25 = Nx (k)⟩, ⟨[0, 1, 2], [1, 2], [], [26], fun f => f 26 = .pointer (some ((ba va).add (k * 9)))⟩, ⟨[0, 1, 2, 3], [3], [], [27], fun f => f 27 = .agg (bC x5)⟩, ⟨[], [], [0], [28], fun f => f 28 = .pointer (some ⟨b1, 2, none⟩)⟩, ⟨[5], [5], [], [29], fun f => f 29 = .agg #[Ix (gx), Ix (gy)]⟩, ⟨[0, 1, 2, 3, 4, 5, 6], [4, 6], [], [30], fun f => f 30 = .agg #[Ix (speedX x5 (gx) (gy)), Ix (speedY x5 (gx) (gy))]⟩, ⟨[], [], [], [5], fun f => f 5 = .pointer (some ⟨(blk (f 5)), 0, none⟩)⟩, ⟨[0, 1, 2, 3, 4, 5, 6, 7, 8], [8, 7], [], [], fun _ => True⟩] [⟨none, none, [1, 6], [], fun _ => pt b1 (.cells #[.slice va (bs.length) (vc), .slice rva (rs.length) (rvc), Ix (gx), Ix (gy)] 30)⟩, ⟨(some 8), (some 9), [9], [5], fun f => pt (blk (f 5)) (.cells #[.int .i64 (0), .int .i64 (0)] 28)⟩, ⟨(some 9), none, [], [5], fun f => pt (blk (f 5)) (.cells #[Ix (speedX x5 (gx) (gy)), Ix (speedY x5 (gx) (gy))] 28)⟩] [(1, .pointer (some ⟨b1, 0, none⟩)), (4, Nx (k)), (3, Ix (t))] [0, 2, 1] [] (by kernel_rfl) (by kernel_rfl) (by kernel_rfl) (by kernel_rfl) rfl ⟨rfl, rfl, rfl, trivial⟩ ⟨?_, ?_, ?_, ?_, ?_, ?_, ?_, ?_, ?_, ?_, trivial⟩ ?_
    ·rintro f M - ⟨i0, -⟩
     have hs1 : f 1 = .pointer (some ⟨b1, 0, none⟩) := i0
     refine ob_start (L' := M) (by rfl) (up_cons rfl hs1) ?_
     refine l_val (v := .pointer (some ⟨b1, 0, none⟩)) rfl rfl rfl (e_fieldPt (b := b1) (o := 0) rfl tf49) ?_
     refine l_nil ?_
     exact f_owes_d (up_cons rfl hs1) rfl (List.Perm.refl _)
    ·rintro f M ⟨k0, -⟩ -
     have hs23 : f 23 = .pointer (some ⟨b1, 0, none⟩) := k0
     refine ob_start (L' := pt b1 (.cells #[.slice va (bs.length) (vc), .slice rva (rs.length) (rvc), Ix (gx), Ix (gy)] 30) :: M) (by rfl) (up_cons rfl hs23) ?_
     refine l_val (v := .slice va (bs.length) (vc)) rfl rfl rfl (e_load1 tf50 (v := .slice va (bs.length) (vc)) rfl (k_pt 0 (cs := #[.slice va (bs.length) (vc), .slice rva (rs.length) (rvc), Ix (gx), Ix (gy)]) (vs := [.slice va (bs.length) (vc)]) rfl rfl)) ?_
     refine l_nil ?_
     exact f_owes_d (up_cons rfl hs23) rfl (perm_front 0 rfl)
    ·rintro f M - ⟨i0, -⟩
     have hs4 : f 4 = Nx (k) := i0
     refine ob_start (L' := M) (by rfl) (up_cons rfl hs4) ?_
     refine l_val (v := Nx (k)) rfl rfl rfl (e_move) ?_
     refine l_nil ?_
     exact f_owes_d (up_cons rfl hs4) rfl (List.Perm.refl _)
    ·rintro f M ⟨k0, k1, -⟩ -
     have hs24 : f 24 = .slice va (bs.length) (vc) := k0
     have hs25 : f 25 = Nx (k) := k1
     refine ob_start (L' := M) (by rfl) (up_cons (up_cons rfl hs24) hs25) ?_
     refine l_val (v := .pointer (some ((ba va).add (k * 9)))) rfl rfl rfl (e_indexAddr (k := k) (len := bs.length) (cap := vc) (a := va) rfl rfl tf43 (by omega) ha7) ?_
     refine l_nil ?_
     exact f_owes_d (up_cons (up_cons rfl hs24) hs25) rfl (List.Perm.refl _)
    ·rintro f M ⟨k0, -⟩ -
     have hs26 : f 26 = .pointer (some ((ba va).add (k * 9))) := k0
     refine ob_start (L' := M) (by rfl) (up_cons rfl hs26) ?_
     refine l_val (v := .agg (bC x5)) rfl rfl rfl (e_load tf22 (cs := (bodyE x5)) rfl (Knows.of_base (Cs.mono _ _) hc9) rfl) ?_
     refine l_nil ?_
     exact f_owes_d (up_cons rfl hs26) rfl (List.Perm.refl _)
    ·rintro f M - ⟨i0, -⟩
     have hs1 : f 1 = .pointer (some ⟨b1, 0, none⟩) := i0
     refine ob_start (L' := M) (by rfl) (up_cons rfl hs1) ?_
     refine l_val (v := .pointer (some ⟨b1, 2, none⟩)) rfl rfl rfl (e_fieldPt (b := b1) (o := 0) rfl tf57) ?_
     refine l_nil ?_
     exact f_owes_d (up_cons rfl hs1) rfl (List.Perm.refl _)
    ·rintro f M ⟨k0, -⟩ -
     have hs28 : f 28 = .pointer (some ⟨b1, 2, none⟩) := k0
     refine ob_start (L' := pt b1 (.cells #[.slice va (bs.length) (vc), .slice rva (rs.length) (rvc), Ix (gx), Ix (gy)] 30) :: M) (by rfl) (up_cons rfl hs28) ?_
     refine l_val (v := .agg #[Ix (gx), Ix (gy)]) rfl rfl rfl (e_load tf15 (cs := [Ix (gx), Ix (gy)]) rfl (k_pt 0 (cs := #[.slice va (bs.length) (vc), .slice rva (rs.length) (rvc), Ix (gx), Ix (gy)]) (vs := [Ix (gx), Ix (gy)]) rfl rfl) rfl) ?_
     refine l_nil ?_
     exact f_owes_d (up_cons rfl hs28) rfl (perm_front 0 rfl)
    ·rintro f M ⟨k0, k1, -⟩ -
     have hs27 : f 27 = .agg (bC x5) := k0
     have hs29 : f 29 = .agg #[Ix (gx), Ix (gy)] := k1
     refine ob_start (L' := M) (by rfl) (up_cons (up_cons rfl hs27) hs29) ?_
     refine l_call rfl rfl rfl (cl_value (fst := []) (cap := []) (vs := [.agg (bC x5), .agg #[Ix (gx), Ix (gy)]]) (all := [.agg (bC x5), .agg #[Ix (gx), Ix (gy)]]) tf129 rfl rfl rfl) ?_
     intro w hw
     obtain ⟨β1, sb, kn, hw1, back⟩ := St.frame_all hw
     refine (speed7_ok β1 w hw1 x5 (gx) (gy)).mono ?_
     rintro e w' ⟨rfl, hw'⟩
     refine ⟨_, rfl, _, back _ _ hw', ?_⟩
     clear hw hw1 hw' back kn sb
     refine l_nil ?_
     exact f_owes_d (up_cons (up_cons rfl hs27) hs29) rfl (List.Perm.refl _)
    ·rintro f M - -
     refine ob_start (L' := M) (by rfl) rfl ?_
     refine l_mv rfl rfl rfl (m_alloc tf17) ?_
     rintro _ _ ⟨b12, rfl, rfl⟩
     refine l_nil ?_
     exact f_owes_d rfl rfl (perm_front 0 rfl)
    ·rintro f M ⟨k0, k1, -⟩ -
     have hs5 : f 5 = .pointer (some ⟨(blk (f 5)), 0, none⟩) := k0
     have hs30 : f 30 = .agg #[Ix (speedX x5 (gx) (gy)), Ix (speedY x5 (gx) (gy))] := k1
     refine ob_start (L' := pt (blk (f 5)) (.cells #[.int .i64 (0), .int .i64 (0)] 28) :: M) (by rfl) (up_cons (up_cons rfl hs5) hs30) ?_
     refine l_mu rfl rfl (m_store 0 tf15 (b := (blk (f 5))) (o := 0) (T := 28) (cs := #[.int .i64 (0), .int .i64 (0)]) (cs' := #[Ix (speedX x5 (gx) (gy)), Ix (speedY x5 (gx) (gy))]) (v := .agg #[Ix (speedX x5 (gx) (gy)), Ix (speedY x5 (gx) (gy))]) rfl rfl rfl rfl rfl rfl rfl) ?_
     refine l_nil ?_
     exact f_owes_n (up_cons (up_cons rfl hs5) hs30) trivial (perm_front 0 rfl)
    rintro fa13 ⟨-, -, -, -, -, -, -, -, k8, -, -⟩ ⟨j0, j1, j2, -⟩
    refine f_re (L' := [pt b1 (.cells #[.slice va (bs.length) (vc), .slice rva (rs.length) (rvc), Ix (gx), Ix (gy)] 30), pt (blk (fa13 5)) (.cells #[Ix (speedX x5 (gx) (gy)), Ix (speedY x5 (gx) (gy))] 28)]) (by rfl) ?_
    refine f_rebase (d := 1) (v := .pointer (some ⟨b1, 0, none⟩)) j0 ?_
    refine f_rebase (d := 3) (v := Ix (t)) j1 ?_
    refine f_rebase (d := 4) (v := Nx (k)) j2 ?_
    refine f_rebase (d := 5) (v := .pointer (some ⟨(blk (fa13 5)), 0, none⟩)) k8 ?_
    refine f_then ?_
    have hsp := speed_bd x5 gx gy
    refine c_region ?_
    refine l_val (v := Ix (t)) rfl rfl rfl (e_move) ?_
    refine l_val (v := .pointer (some ⟨(blk (fa13 5)), 0, none⟩)) rfl rfl rfl (e_fieldPt (b := (blk (fa13 5))) (o := 0) rfl tf7) ?_
    refine l_val (v := Ix (speedX x5 (gx) (gy))) rfl rfl rfl (e_load1 tf2 (v := Ix (speedX x5 (gx) (gy))) rfl (k_pt 1 (cs := #[Ix (speedX x5 (gx) (gy)), Ix (speedY x5 (gx) (gy))]) (vs := [Ix (speedX x5 (gx) (gy))]) rfl rfl)) ?_
    refine l_val (v := .pointer (some ⟨(blk (fa13 5)), 0, none⟩)) rfl rfl rfl (e_fieldPt (b := (blk (fa13 5))) (o := 0) rfl tf7) ?_
    refine l_val (v := Ix (speedX x5 (gx) (gy))) rfl rfl rfl (e_load1 tf2 (v := Ix (speedX x5 (gx) (gy))) rfl (k_pt 1 (cs := #[Ix (speedX x5 (gx) (gy)), Ix (speedY x5 (gx) (gy))]) (vs := [Ix (speedX x5 (gx) (gy))]) rfl rfl)) ?_
    refine l_val (v := Ix (0 - (speedX x5 (gx) (gy)))) rfl rfl rfl (e_neg (a := (speedX x5 (gx) (gy))) rfl (i64w (by omega))) ?_
    refine l_val (v := Ix (max (speedX x5 (gx) (gy)) (0 - (speedX x5 (gx) (gy))))) rfl rfl rfl (e_max (a := (speedX x5 (gx) (gy))) (b := (0 - (speedX x5 (gx) (gy)))) rfl rfl) ?_
    refine l_val (v := .pointer (some ⟨(blk (fa13 5)), 1, none⟩)) rfl rfl rfl (e_fieldPt (b := (blk (fa13 5))) (o := 0) rfl tf8) ?_
    refine l_val (v := Ix (speedY x5 (gx) (gy))) rfl rfl rfl (e_load1 tf2 (v := Ix (speedY x5 (gx) (gy))) rfl (k_pt 1 (cs := #[Ix (speedX x5 (gx) (gy)), Ix (speedY x5 (gx) (gy))]) (vs := [Ix (speedY x5 (gx) (gy))]) rfl rfl)) ?_
    refine l_val (v := .pointer (some ⟨(blk (fa13 5)), 1, none⟩)) rfl rfl rfl (e_fieldPt (b := (blk (fa13 5))) (o := 0) rfl tf8) ?_
    refine l_val (v := Ix (speedY x5 (gx) (gy))) rfl rfl rfl (e_load1 tf2 (v := Ix (speedY x5 (gx) (gy))) rfl (k_pt 1 (cs := #[Ix (speedX x5 (gx) (gy)), Ix (speedY x5 (gx) (gy))]) (vs := [Ix (speedY x5 (gx) (gy))]) rfl rfl)) ?_
    refine l_val (v := Ix (0 - (speedY x5 (gx) (gy)))) rfl rfl rfl (e_neg (a := (speedY x5 (gx) (gy))) rfl (i64w (by omega))) ?_
    refine l_val (v := Ix (max (speedY x5 (gx) (gy)) (0 - (speedY x5 (gx) (gy))))) rfl rfl rfl (e_max (a := (speedY x5 (gx) (gy))) (b := (0 - (speedY x5 (gx) (gy)))) rfl rfl) ?_
    refine l_val (v := Ix ((max (speedX x5 (gx) (gy)) (0 - (speedX x5 (gx) (gy)))) + (max (speedY x5 (gx) (gy)) (0 - (speedY x5 (gx) (gy)))))) rfl rfl rfl (e_add (a := (max (speedX x5 (gx) (gy)) (0 - (speedX x5 (gx) (gy))))) (b := (max (speedY x5 (gx) (gy)) (0 - (speedY x5 (gx) (gy))))) rfl rfl (i64w (by omega))) ?_
    refine l_val (v := Ix ((t) + ((max (speedX x5 (gx) (gy)) (0 - (speedX x5 (gx) (gy)))) + (max (speedY x5 (gx) (gy)) (0 - (speedY x5 (gx) (gy))))))) rfl rfl rfl (e_add (a := (t)) (b := ((max (speedX x5 (gx) (gy)) (0 - (speedX x5 (gx) (gy)))) + (max (speedY x5 (gx) (gy)) (0 - (speedY x5 (gx) (gy)))))) rfl rfl (i64w (by omega))) ?_
    refine l_val (v := Ix ((t) + ((max (speedX x5 (gx) (gy)) (0 - (speedX x5 (gx) (gy)))) + (max (speedY x5 (gx) (gy)) (0 - (speedY x5 (gx) (gy))))))) rfl rfl rfl (e_assign) ?_
    refine l_nil ?_
    refine f_block ?_
    refine f_then ?_
    refine c_region ?_
    refine l_val (v := Nx (k)) rfl rfl rfl (e_move) ?_
    refine l_val (v := Nx (k + 1)) rfl rfl rfl (e_add (a := ((k : Nat) : Int)) (b := (1 : Int)) rfl rfl (i64n (by omega) (by omega))) ?_
    refine l_val (v := Nx (k + 1)) rfl rfl rfl (e_assign) ?_
    refine l_nil ?_
    refine f_mask (L' := [pt b1 (.cells #[.slice va (bs.length) (vc), .slice rva (rs.length) (rvc), Ix (gx), Ix (gy)] 30)]) [true, false] rfl ?_
    exact f_cut ⟨(k + 1, (t) + ((max (speedX x5 (gx) (gy)) (0 - (speedX x5 (gx) (gy)))) + (max (speedY x5 (gx) (gy)) (0 - (speedY x5 (gx) (gy)))))), ⟨⟨rfl, rfl, rfl⟩, rfl, ⟨by omega, by omega, by omega⟩⟩, (show bs.length - (k + 1) < bs.length - k from by omega)⟩
   ·
    refine c_exit ?_
    refine f_then_exit ?_
    refine f_then_exit ?_
    refine f_exit ?_
    refine f_then ?_
    refine c_seq ?_
    refine c_region ?_
    refine l_val (v := Ix (t)) rfl rfl rfl (e_move) ?_
    refine l_val (v := .bool (decide ((t) ≤ (8000 : Int)))) rfl rfl rfl (e_leq (a := (t)) (b := (8000 : Int)) rfl rfl) ?_
    refine l_val (v := .bool (decide ((t) ≤ (8000 : Int)))) rfl rfl rfl (e_assign) ?_
    refine l_nil ?_
    refine f_then ?_
    refine c_ret ?_
    refine ret1 Tryz.results23 (v := .bool (decide ((t) ≤ (8000 : Int)))) rfl ?_
    intro w hw
    exact ⟨_, rfl, (fun _ => ⟨by omega, by omega⟩), st_mask [false] rfl hw⟩
theorem stepRY_ok (β : Base) (w : World) (hw : St β [] w) (v rv : Value) (gx gy : Int) (bs : List KB) (rs : List KR) (hs : Sl KBR β.heap v bs) (hr : Sl KRR β.heap rv rs) (h : okS bs rs gx gy) (B : List KB) (S : List KS) (hBS : stepsTo rs gx gy bs bs.length = (B, S)) : Calls Tryz.prog 75 #[.agg #[v, rv, Ix gx, Ix gy]] w fun r w' => ∃ p1 c1 p2 c2 sp sc, r = .returned (.tuple #[.agg #[.slice p1 bs.length c1, .slice p2 rs.length c2, Ix gx, Ix gy], .slice sp S.length sc, .int .i64 (0)]) ∧ St β [rowF BodyF 52 p1 c1 B, rowF RopeF 78 p2 c2 rs, rowF StopF 55 sp sc S] w' := by
 refine (step8_ok β w hw v rv gx gy bs rs hs hr).mono ?_
 rintro r w' (⟨_, p1, c1, p2, c2, sp, sc, rfl, hw'⟩ | ⟨hn, _⟩)
 ·rw [hBS] at hw' ⊢; exact ⟨p1, c1, p2, c2, sp, sc, rfl, hw'⟩
 ·exact absurd h hn
theorem stepRN_ok (β : Base) (w : World) (hw : St β [] w) (v rv : Value) (gx gy : Int) (bs : List KB) (rs : List KR) (hs : Sl KBR β.heap v bs) (hr : Sl KRR β.heap rv rs) (h : ¬ okS bs rs gx gy) : Calls Tryz.prog 75 #[.agg #[v, rv, Ix gx, Ix gy]] w fun r w' => r = .returned (.tuple #[.agg #[.slice none 0 0, .slice none 0 0, .int .i64 (0), .int .i64 (0)], .slice none 0 0, .int .i64 (2)]) ∧ St β [] w' := by
 refine (step8_ok β w hw v rv gx gy bs rs hs hr).mono ?_
 rintro r w' (⟨hy, _⟩ | ⟨_, rfl, hw'⟩)
 ·exact absurd hy h
 ·exact ⟨rfl, hw'⟩
end Go.Proofs
