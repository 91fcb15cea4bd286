/-
 Scenes that are lent, kept, written over and compared; the law. Printed by a program of my own.
-/
import Derived.Test.YtbhkgodiencdlaaDoorSt17
import Derived.Test.YtbhkgodiencdlaaDoorStAwk
namespace Go.Proofs
open Go Go.Sl Go.Stp
theorem el_same {α : Type} {xs : List α} {k : Nat} {a b : α} (h1 : xs[k]? = some a) (h2 : xs[k]? = some b) : a = b := by rw [h1] at h2; injection h2
theorem tf140 : cfB Tryd.prog 20 = true := by kernel_rfl
theorem tf141 : cfB Tryd.prog 59 = true := by kernel_rfl
theorem tf142 : cfB Tryd.prog 68 = true := by kernel_rfl
theorem tf143 : cfB Tryd.prog 69 = true := by kernel_rfl
theorem tf144 : cfB Tryd.prog 33 = true := by kernel_rfl
theorem tf145 : cfB Tryd.prog 70 = true := by kernel_rfl
theorem tf146 : cfB Tryd.prog 71 = true := by kernel_rfl
theorem tf147 : cfB Tryd.prog 72 = true := by kernel_rfl
theorem tf148 : cfB Tryd.prog 73 = true := by kernel_rfl
theorem tf149 : cfB Tryd.prog 38 = true := by kernel_rfl
theorem tf150 : cfB Tryd.prog 17 = true := by kernel_rfl
theorem tf151 : cfB Tryd.prog 35 = true := by kernel_rfl
theorem tf152 : cfB Tryd.prog 39 = true := by kernel_rfl
theorem tf153 : cfB Tryd.prog 40 = true := by kernel_rfl
theorem tf155 : cfB Tryd.prog 14 = true := by kernel_rfl
theorem tf156 : cfB Tryd.prog 13 = true := by kernel_rfl
set_option maxHeartbeats 4000000 in
theorem eqB_ok (β : Base) (w : World) (hw : St β [] w) (v u : Value) (xs : List KB) (hs : Sl KBR β.heap v xs) (hu : Sl KBR β.heap u xs) : Calls Tryd.prog 20 #[v, u] w fun r w' => r = .returned (.bool true) ∧ St β [] w' := by
 obtain ⟨va, vc, rfl, vl, vm, ve⟩ := hs.get
 obtain ⟨ua, uc, rfl, ul, um, ue⟩ := hu.get
 refine enter (n := 26) Tryd.func20 rfl Tryd.ntmps20 rfl ?_ hw
 refine c_seq ?_
 refine c_region ?_
 refine l_val (v := .bool false) rfl rfl rfl (e_assign) ?_
 refine l_nil ?_
 refine f_then ?_
 refine c_seq ?_
 refine c_seq ?_
 refine c_region ?_
 refine l_val (v := .slice va (xs.length) (vc)) rfl rfl rfl (e_move) ?_
 refine l_val (v := Nx (xs.length)) rfl rfl rfl (e_len (a := va) (n := xs.length) (c := vc) rfl tf40) ?_
 refine l_val (v := .slice ua (xs.length) (uc)) rfl rfl rfl (e_move) ?_
 refine l_val (v := Nx (xs.length)) rfl rfl rfl (e_len (a := ua) (n := xs.length) (c := uc) rfl tf40) ?_
 refine l_val (v := .bool (decide (((xs.length : Nat) : Int) ≠ ((xs.length : Nat) : Int)))) rfl rfl rfl (e_neq (a := ((xs.length : Nat) : Int)) (b := ((xs.length : Nat) : Int)) rfl rfl) ?_
 refine l_nil ?_
 refine f_then ?_
 refine c_if (((xs.length : Nat) : Int) ≠ ((xs.length : Nat) : Int)) rfl (fun hc1 => ?_) (fun hc1 => ?_)
 ·
  exact absurd hc1 (by omega)
 ·
  refine c_skip ?_
  refine f_then ?_
  refine c_seq ?_
  refine c_seq ?_
  refine c_region ?_
  refine l_val (v := .int .i64 (0)) rfl rfl rfl (e_assign) ?_
  refine l_nil ?_
  refine f_then ?_
  refine c_block ?_
  refine c_loop (fun (k : Nat) (f : Fm) (L : List Res) => (f 0 = .slice va (xs.length) (vc) ∧ f 1 = .slice ua (xs.length) (uc) ∧ f 5 = Nx (k)) ∧ L = [] ∧ (k ≤ xs.length)) (fun (k : Nat) => xs.length - k) 0 ?_ ?_
  ·exact ⟨⟨rfl, rfl, rfl⟩, rfl, (by omega)⟩
  rintro k f0 L0 ⟨⟨hs0, hs1, hs5⟩, hL, hk⟩
  subst L0
  refine rebase (d := 0) hs0 ?_
  refine rebase (d := 1) hs1 ?_
  refine rebase (d := 5) hs5 ?_
  clear hs0 hs1 hs5
  refine c_seq ?_
  refine c_seq ?_
  refine c_region ?_
  refine l_val (v := Nx (k)) rfl rfl rfl (e_move) ?_
  refine l_val (v := .slice va (xs.length) (vc)) rfl rfl rfl (e_move) ?_
  refine l_val (v := Nx (xs.length)) rfl rfl rfl (e_len (a := va) (n := xs.length) (c := vc) rfl tf40) ?_
  refine l_val (v := .bool (decide (((k : Nat) : Int) < ((xs.length : Nat) : Int)))) rfl rfl rfl (e_lss (a := ((k : Nat) : Int)) (b := ((xs.length : Nat) : Int)) rfl rfl) ?_
  refine l_nil ?_
  refine f_then ?_
  refine c_if (((k : Nat) : Int) < ((xs.length : Nat) : Int)) rfl (fun hc2 => ?_) (fun hc2 => ?_)
  ·
   refine c_skip ?_
   refine f_then ?_
   refine c_seq ?_
   refine c_block ?_
   refine c_seq ?_
   refine c_quiet (by kernel_rfl) (by kernel_rfl) ?_
   refine q_val (v := .slice va (xs.length) (vc)) rfl rfl rfl (e_move) ?_
   refine q_val (v := Nx (k)) rfl rfl rfl (e_move) ?_
   obtain ⟨x3, hx4⟩ : ∃ x_, (xs)[k]? = some x_ := ⟨_, List.getElem?_eq_getElem (by omega)⟩
   obtain ⟨ha5, cs6, hc7, rfl⟩ := ve _ _ hx4
   refine q_val (v := .pointer (some ((ba va).add (k * 9)))) rfl rfl rfl (e_indexAddr (k := k) (len := xs.length) (cap := vc) (a := va) rfl rfl tf43 (by omega) ha5) ?_
   refine q_val (v := .agg (bC x3)) rfl rfl rfl (e_load tf22 (cs := (bodyE x3)) rfl (Knows.of_base (Cs.mono _ _) hc7) rfl) ?_
   refine q_val (v := .slice ua (xs.length) (uc)) rfl rfl rfl (e_move) ?_
   refine q_val (v := Nx (k)) rfl rfl rfl (e_move) ?_
   obtain ⟨x9, hx10⟩ : ∃ x_, (xs)[k]? = some x_ := ⟨_, List.getElem?_eq_getElem (by omega)⟩
   obtain ⟨ha11, cs12, hc13, rfl⟩ := ue _ _ hx10
   refine q_val (v := .pointer (some ((ba ua).add (k * 9)))) rfl rfl rfl (e_indexAddr (k := k) (len := xs.length) (cap := uc) (a := ua) rfl rfl tf43 (by omega) ha11) ?_
   refine q_val (v := .agg (bC x9)) rfl rfl rfl (e_load tf22 (cs := (bodyE x9)) rfl (Knows.of_base (Cs.mono _ _) hc13) rfl) ?_
   refine q_val (v := .bool (decide (¬ (x3 = x9)))) rfl rfl rfl (e_neq_t (xs := (bodyE x3)) (ys := (bodyE x9)) tf133 tf134 tf135 rfl rfl rfl rfl (not_congr body_eq)) ?_
   refine q_nil ?_
   refine f_then ?_
   refine c_if (¬ (x3 = x9)) rfl (fun hc15 => ?_) (fun hc15 => ?_)
   ·
    exact absurd hc15 (Decidable.not_not.2 (el_same hx4 hx10))
   ·
    refine c_skip ?_
    refine f_block ?_
    refine f_then ?_
    refine c_region ?_
    refine l_val (v := Nx (k)) rfl rfl rfl (e_move) ?_
    refine l_val (v := Nx (k + 1)) rfl rfl rfl (e_add (a := ((k : Nat) : Int)) (b := (1 : Int)) rfl rfl (i64n (by omega) (by omega))) ?_
    refine l_val (v := Nx (k + 1)) rfl rfl rfl (e_assign) ?_
    refine l_nil ?_
    exact f_cut ⟨k + 1, ⟨⟨rfl, rfl, rfl⟩, rfl, (by omega)⟩, (show xs.length - (k + 1) < xs.length - k from by omega)⟩
  ·
   refine c_exit ?_
   refine f_then_exit ?_
   refine f_then_exit ?_
   refine f_exit ?_
   refine f_then ?_
   refine c_seq ?_
   refine c_region ?_
   refine l_val (v := .bool true) rfl rfl rfl (e_assign) ?_
   refine l_nil ?_
   refine f_then ?_
   refine c_ret ?_
   refine ret1 Tryd.results20 (v := .bool true) rfl ?_
   intro w hw
   exact ⟨rfl, st_mask [] rfl hw⟩
set_option maxHeartbeats 4000000 in
theorem eqR_ok (β : Base) (w : World) (hw : St β [] w) (v u : Value) (xs : List KR) (hs : Sl KRR β.heap v xs) (hu : Sl KRR β.heap u xs) : Calls Tryd.prog 59 #[v, u] w fun r w' => r = .returned (.bool true) ∧ St β [] w' := by
 obtain ⟨va, vc, rfl, vl, vm, ve⟩ := hs.get
 obtain ⟨ua, uc, rfl, ul, um, ue⟩ := hu.get
 refine enter (n := 26) Tryd.func59 rfl Tryd.ntmps59 rfl ?_ hw
 refine c_seq ?_
 refine c_region ?_
 refine l_val (v := .bool false) rfl rfl rfl (e_assign) ?_
 refine l_nil ?_
 refine f_then ?_
 refine c_seq ?_
 refine c_seq ?_
 refine c_region ?_
 refine l_val (v := .slice va (xs.length) (vc)) rfl rfl rfl (e_move) ?_
 refine l_val (v := Nx (xs.length)) rfl rfl rfl (e_len (a := va) (n := xs.length) (c := vc) rfl tf45) ?_
 refine l_val (v := .slice ua (xs.length) (uc)) rfl rfl rfl (e_move) ?_
 refine l_val (v := Nx (xs.length)) rfl rfl rfl (e_len (a := ua) (n := xs.length) (c := uc) rfl tf45) ?_
 refine l_val (v := .bool (decide (((xs.length : Nat) : Int) ≠ ((xs.length : Nat) : Int)))) rfl rfl rfl (e_neq (a := ((xs.length : Nat) : Int)) (b := ((xs.length : Nat) : Int)) rfl rfl) ?_
 refine l_nil ?_
 refine f_then ?_
 refine c_if (((xs.length : Nat) : Int) ≠ ((xs.length : Nat) : Int)) rfl (fun hc1 => ?_) (fun hc1 => ?_)
 ·
  exact absurd hc1 (by omega)
 ·
  refine c_skip ?_
  refine f_then ?_
  refine c_seq ?_
  refine c_seq ?_
  refine c_region ?_
  refine l_val (v := .int .i64 (0)) rfl rfl rfl (e_assign) ?_
  refine l_nil ?_
  refine f_then ?_
  refine c_block ?_
  refine c_loop (fun (k : Nat) (f : Fm) (L : List Res) => (f 0 = .slice va (xs.length) (vc) ∧ f 1 = .slice ua (xs.length) (uc) ∧ f 5 = Nx (k)) ∧ L = [] ∧ (k ≤ xs.length)) (fun (k : Nat) => xs.length - k) 0 ?_ ?_
  ·exact ⟨⟨rfl, rfl, rfl⟩, rfl, (by omega)⟩
  rintro k f0 L0 ⟨⟨hs0, hs1, hs5⟩, hL, hk⟩
  subst L0
  refine rebase (d := 0) hs0 ?_
  refine rebase (d := 1) hs1 ?_
  refine rebase (d := 5) hs5 ?_
  clear hs0 hs1 hs5
  refine c_seq ?_
  refine c_seq ?_
  refine c_region ?_
  refine l_val (v := Nx (k)) rfl rfl rfl (e_move) ?_
  refine l_val (v := .slice va (xs.length) (vc)) rfl rfl rfl (e_move) ?_
  refine l_val (v := Nx (xs.length)) rfl rfl rfl (e_len (a := va) (n := xs.length) (c := vc) rfl tf45) ?_
  refine l_val (v := .bool (decide (((k : Nat) : Int) < ((xs.length : Nat) : Int)))) rfl rfl rfl (e_lss (a := ((k : Nat) : Int)) (b := ((xs.length : Nat) : Int)) rfl rfl) ?_
  refine l_nil ?_
  refine f_then ?_
  refine c_if (((k : Nat) : Int) < ((xs.length : Nat) : Int)) rfl (fun hc2 => ?_) (fun hc2 => ?_)
  ·
   refine c_skip ?_
   refine f_then ?_
   refine c_seq ?_
   refine c_block ?_
   refine c_seq ?_
   refine c_quiet (by kernel_rfl) (by kernel_rfl) ?_
   refine q_val (v := .slice va (xs.length) (vc)) rfl rfl rfl (e_move) ?_
   refine q_val (v := Nx (k)) rfl rfl rfl (e_move) ?_
   obtain ⟨x3, hx4⟩ : ∃ x_, (xs)[k]? = some x_ := ⟨_, List.getElem?_eq_getElem (by omega)⟩
   obtain ⟨ha5, cs6, hc7, rfl⟩ := ve _ _ hx4
   refine q_val (v := .pointer (some ((ba va).add (k * 3)))) rfl rfl rfl (e_indexAddr (k := k) (len := xs.length) (cap := vc) (a := va) rfl rfl tf46 (by omega) ha5) ?_
   refine q_val (v := .agg #[Ix (x3.a), Ix (x3.b), Ix (x3.len)]) rfl rfl rfl (e_load tf47 (cs := [Ix (x3.a), Ix (x3.b), Ix (x3.len)]) rfl (Knows.of_base (Cs.mono _ _) hc7) rfl) ?_
   refine q_val (v := .slice ua (xs.length) (uc)) rfl rfl rfl (e_move) ?_
   refine q_val (v := Nx (k)) rfl rfl rfl (e_move) ?_
   obtain ⟨x9, hx10⟩ : ∃ x_, (xs)[k]? = some x_ := ⟨_, List.getElem?_eq_getElem (by omega)⟩
   obtain ⟨ha11, cs12, hc13, rfl⟩ := ue _ _ hx10
   refine q_val (v := .pointer (some ((ba ua).add (k * 3)))) rfl rfl rfl (e_indexAddr (k := k) (len := xs.length) (cap := uc) (a := ua) rfl rfl tf46 (by omega) ha11) ?_
   refine q_val (v := .agg #[Ix (x9.a), Ix (x9.b), Ix (x9.len)]) rfl rfl rfl (e_load tf47 (cs := [Ix (x9.a), Ix (x9.b), Ix (x9.len)]) rfl (Knows.of_base (Cs.mono _ _) hc13) rfl) ?_
   refine q_val (v := .bool (decide (¬ (x3 = x9)))) rfl rfl rfl (e_neq_t (xs := [Ix (x3.a), Ix (x3.b), Ix (x3.len)]) (ys := [Ix (x9.a), Ix (x9.b), Ix (x9.len)]) tf137 tf138 tf139 rfl rfl rfl rfl (not_congr rope_eq)) ?_
   refine q_nil ?_
   refine f_then ?_
   refine c_if (¬ (x3 = x9)) rfl (fun hc15 => ?_) (fun hc15 => ?_)
   ·
    exact absurd hc15 (Decidable.not_not.2 (el_same hx4 hx10))
   ·
    refine c_skip ?_
    refine f_block ?_
    refine f_then ?_
    refine c_region ?_
    refine l_val (v := Nx (k)) rfl rfl rfl (e_move) ?_
    refine l_val (v := Nx (k + 1)) rfl rfl rfl (e_add (a := ((k : Nat) : Int)) (b := (1 : Int)) rfl rfl (i64n (by omega) (by omega))) ?_
    refine l_val (v := Nx (k + 1)) rfl rfl rfl (e_assign) ?_
    refine l_nil ?_
    exact f_cut ⟨k + 1, ⟨⟨rfl, rfl, rfl⟩, rfl, (by omega)⟩, (show xs.length - (k + 1) < xs.length - k from by omega)⟩
  ·
   refine c_exit ?_
   refine f_then_exit ?_
   refine f_then_exit ?_
   refine f_exit ?_
   refine f_then ?_
   refine c_seq ?_
   refine c_region ?_
   refine l_val (v := .bool true) rfl rfl rfl (e_assign) ?_
   refine l_nil ?_
   refine f_then ?_
   refine c_ret ?_
   refine ret1 Tryd.results59 (v := .bool true) rfl ?_
   intro w hw
   exact ⟨rfl, st_mask [] rfl hw⟩
set_option maxHeartbeats 4000000 in
theorem eqS_ok (β : Base) (w : World) (hw : St β [] w) (v u : Value) (xs : List KS) (hs : Sl KSR β.heap v xs) (hu : Sl KSR β.heap u xs) : Calls Tryd.prog 35 #[v, u] w fun r w' => r = .returned (.bool true) ∧ St β [] w' := by
 obtain ⟨va, vc, rfl, vl, vm, ve⟩ := hs.get
 obtain ⟨ua, uc, rfl, ul, um, ue⟩ := hu.get
 refine enter (n := 26) Tryd.func35 rfl Tryd.ntmps35 rfl ?_ hw
 refine c_seq ?_
 refine c_region ?_
 refine l_val (v := .bool false) rfl rfl rfl (e_assign) ?_
 refine l_nil ?_
 refine f_then ?_
 refine c_seq ?_
 refine c_seq ?_
 refine c_region ?_
 refine l_val (v := .slice va (xs.length) (vc)) rfl rfl rfl (e_move) ?_
 refine l_val (v := Nx (xs.length)) rfl rfl rfl (e_len (a := va) (n := xs.length) (c := vc) rfl tf105) ?_
 refine l_val (v := .slice ua (xs.length) (uc)) rfl rfl rfl (e_move) ?_
 refine l_val (v := Nx (xs.length)) rfl rfl rfl (e_len (a := ua) (n := xs.length) (c := uc) rfl tf105) ?_
 refine l_val (v := .bool (decide (((xs.length : Nat) : Int) ≠ ((xs.length : Nat) : Int)))) rfl rfl rfl (e_neq (a := ((xs.length : Nat) : Int)) (b := ((xs.length : Nat) : Int)) rfl rfl) ?_
 refine l_nil ?_
 refine f_then ?_
 refine c_if (((xs.length : Nat) : Int) ≠ ((xs.length : Nat) : Int)) rfl (fun hc1 => ?_) (fun hc1 => ?_)
 ·
  exact absurd hc1 (by omega)
 ·
  refine c_skip ?_
  refine f_then ?_
  refine c_seq ?_
  refine c_seq ?_
  refine c_region ?_
  refine l_val (v := .int .i64 (0)) rfl rfl rfl (e_assign) ?_
  refine l_nil ?_
  refine f_then ?_
  refine c_block ?_
  refine c_loop (fun (k : Nat) (f : Fm) (L : List Res) => (f 0 = .slice va (xs.length) (vc) ∧ f 1 = .slice ua (xs.length) (uc) ∧ f 5 = Nx (k)) ∧ L = [] ∧ (k ≤ xs.length)) (fun (k : Nat) => xs.length - k) 0 ?_ ?_
  ·exact ⟨⟨rfl, rfl, rfl⟩, rfl, (by omega)⟩
  rintro k f0 L0 ⟨⟨hs0, hs1, hs5⟩, hL, hk⟩
  subst L0
  refine rebase (d := 0) hs0 ?_
  refine rebase (d := 1) hs1 ?_
  refine rebase (d := 5) hs5 ?_
  clear hs0 hs1 hs5
  refine c_seq ?_
  refine c_seq ?_
  refine c_region ?_
  refine l_val (v := Nx (k)) rfl rfl rfl (e_move) ?_
  refine l_val (v := .slice va (xs.length) (vc)) rfl rfl rfl (e_move) ?_
  refine l_val (v := Nx (xs.length)) rfl rfl rfl (e_len (a := va) (n := xs.length) (c := vc) rfl tf105) ?_
  refine l_val (v := .bool (decide (((k : Nat) : Int) < ((xs.length : Nat) : Int)))) rfl rfl rfl (e_lss (a := ((k : Nat) : Int)) (b := ((xs.length : Nat) : Int)) rfl rfl) ?_
  refine l_nil ?_
  refine f_then ?_
  refine c_if (((k : Nat) : Int) < ((xs.length : Nat) : Int)) rfl (fun hc2 => ?_) (fun hc2 => ?_)
  ·
   refine c_skip ?_
   refine f_then ?_
   refine c_seq ?_
   refine c_block ?_
   refine c_seq ?_
   refine c_quiet (by kernel_rfl) (by kernel_rfl) ?_
   refine q_val (v := .slice va (xs.length) (vc)) rfl rfl rfl (e_move) ?_
   refine q_val (v := Nx (k)) rfl rfl rfl (e_move) ?_
   obtain ⟨x3, hx4⟩ : ∃ x_, (xs)[k]? = some x_ := ⟨_, List.getElem?_eq_getElem (by omega)⟩
   obtain ⟨ha5, cs6, hc7, rfl⟩ := ve _ _ hx4
   refine q_val (v := .pointer (some ((ba va).add (k * 3)))) rfl rfl rfl (e_indexAddr (k := k) (len := xs.length) (cap := vc) (a := va) rfl rfl tf100 (by omega) ha5) ?_
   refine q_val (v := .agg #[Ix (x3.id), Bx (x3.along), Ix (x3.by_)]) rfl rfl rfl (e_load tf106 (cs := [Ix (x3.id), Bx (x3.along), Ix (x3.by_)]) rfl (Knows.of_base (Cs.mono _ _) hc7) rfl) ?_
   refine q_val (v := .slice ua (xs.length) (uc)) rfl rfl rfl (e_move) ?_
   refine q_val (v := Nx (k)) rfl rfl rfl (e_move) ?_
   obtain ⟨x9, hx10⟩ : ∃ x_, (xs)[k]? = some x_ := ⟨_, List.getElem?_eq_getElem (by omega)⟩
   obtain ⟨ha11, cs12, hc13, rfl⟩ := ue _ _ hx10
   refine q_val (v := .pointer (some ((ba ua).add (k * 3)))) rfl rfl rfl (e_indexAddr (k := k) (len := xs.length) (cap := uc) (a := ua) rfl rfl tf100 (by omega) ha11) ?_
   refine q_val (v := .agg #[Ix (x9.id), Bx (x9.along), Ix (x9.by_)]) rfl rfl rfl (e_load tf106 (cs := [Ix (x9.id), Bx (x9.along), Ix (x9.by_)]) rfl (Knows.of_base (Cs.mono _ _) hc13) rfl) ?_
   refine q_val (v := .bool (decide (¬ (x3 = x9)))) rfl rfl rfl (e_neq_t (xs := [Ix (x3.id), Bx (x3.along), Ix (x3.by_)]) (ys := [Ix (x9.id), Bx (x9.along), Ix (x9.by_)]) tf111 tf112 tf113 rfl rfl rfl rfl (not_congr (stop_eq (x := x3) (y := x9)))) ?_
   refine q_nil ?_
   refine f_then ?_
   refine c_if (¬ (x3 = x9)) rfl (fun hc15 => ?_) (fun hc15 => ?_)
   ·
    exact absurd hc15 (Decidable.not_not.2 (el_same hx4 hx10))
   ·
    refine c_skip ?_
    refine f_block ?_
    refine f_then ?_
    refine c_region ?_
    refine l_val (v := Nx (k)) rfl rfl rfl (e_move) ?_
    refine l_val (v := Nx (k + 1)) rfl rfl rfl (e_add (a := ((k : Nat) : Int)) (b := (1 : Int)) rfl rfl (i64n (by omega) (by omega))) ?_
    refine l_val (v := Nx (k + 1)) rfl rfl rfl (e_assign) ?_
    refine l_nil ?_
    exact f_cut ⟨k + 1, ⟨⟨rfl, rfl, rfl⟩, rfl, (by omega)⟩, (show xs.length - (k + 1) < xs.length - k from by omega)⟩
  ·
   refine c_exit ?_
   refine f_then_exit ?_
   refine f_then_exit ?_
   refine f_exit ?_
   refine f_then ?_
   refine c_seq ?_
   refine c_region ?_
   refine l_val (v := .bool true) rfl rfl rfl (e_assign) ?_
   refine l_nil ?_
   refine f_then ?_
   refine c_ret ?_
   refine ret1 Tryd.results35 (v := .bool true) rfl ?_
   intro w hw
   exact ⟨rfl, st_mask [] rfl hw⟩
theorem eqScene_ok (β : Base) (w : World) (hw : St β [] w) (v rv u ru : Value) (gx gy : Int) (bs : List KB) (rs : List KR) (hs : Sl KBR β.heap v bs) (hr : Sl KRR β.heap rv rs) (hu : Sl KBR β.heap u bs) (hq : Sl KRR β.heap ru rs) : Calls Tryd.prog 33 #[.agg #[v, rv, Ix gx, Ix gy], .agg #[u, ru, Ix gx, Ix gy]] w fun r w' => r = .returned (.bool true) ∧ St β [] w' := by
 obtain ⟨va, vc, rfl, vl, vm, ve⟩ := hs.get
 obtain ⟨rva, rvc, rfl, rvl, rvm, rve⟩ := hr.get
 obtain ⟨ua, uc, rfl, ul, um, ue⟩ := hu.get
 obtain ⟨rua, ruc, rfl, rul, rum, rue⟩ := hq.get
 refine enter (n := 24) Tryd.func33 rfl Tryd.ntmps33 rfl ?_ hw
 refine c_seq ?_
 refine c_region ?_
 refine l_mv rfl rfl rfl (m_box (v := .agg #[.slice va (bs.length) (vc), .slice rva (rs.length) (rvc), Ix (gx), Ix (gy)]) rfl) ?_
 rintro _ _ ⟨b1, rfl, rfl⟩
 refine l_mv rfl rfl rfl (m_box (v := .agg #[.slice ua (bs.length) (uc), .slice rua (rs.length) (ruc), Ix (gx), Ix (gy)]) rfl) ?_
 rintro _ _ ⟨b2, rfl, rfl⟩
 refine l_val (v := .bool false) rfl rfl rfl (e_assign) ?_
 refine l_nil ?_
 refine f_then ?_
 refine c_seq ?_
 refine c_region ?_
 refine l_val (v := .pointer (some ⟨b1, 0, none⟩)) rfl rfl rfl (e_fieldPt (b := b1) (o := 0) rfl tf49) ?_
 refine l_val (v := .slice va (bs.length) (vc)) rfl rfl rfl (e_load1 tf50 (v := .slice va (bs.length) (vc)) rfl (k_pt 1 (cs := #[.slice va (bs.length) (vc), .slice rva (rs.length) (rvc), Ix (gx), Ix (gy)]) (vs := [.slice va (bs.length) (vc)]) rfl rfl)) ?_
 refine l_val (v := .pointer (some ⟨b2, 0, none⟩)) rfl rfl rfl (e_fieldPt (b := b2) (o := 0) rfl tf49) ?_
 refine l_val (v := .slice ua (bs.length) (uc)) rfl rfl rfl (e_load1 tf50 (v := .slice ua (bs.length) (uc)) rfl (k_pt 0 (cs := #[.slice ua (bs.length) (uc), .slice rua (rs.length) (ruc), Ix (gx), Ix (gy)]) (vs := [.slice ua (bs.length) (uc)]) rfl rfl)) ?_
 refine l_call rfl rfl rfl (cl_value (fst := []) (cap := []) (vs := [.slice va (bs.length) (vc), .slice ua (bs.length) (uc)]) (all := [.slice va (bs.length) (vc), .slice ua (bs.length) (uc)]) tf140 rfl rfl rfl) ?_
 intro w hw
 obtain ⟨β1, sb, kn, hw1, back⟩ := St.frame_all hw
 refine (eqB_ok β1 w hw1 _ _ bs (Sl.mono _ _ _ _ _ sb (⟨⟨_, _, rfl, vl, vm, ve⟩⟩ : Sl KBR _ _ bs)) (Sl.mono _ _ _ _ _ sb (⟨⟨_, _, rfl, ul, um, ue⟩⟩ : Sl KBR _ _ bs))).mono ?_
 rintro e w' ⟨rfl, hw'⟩
 refine ⟨_, rfl, _, back _ _ hw', ?_⟩
 clear hw hw1 hw' back kn sb
 refine l_val (v := .bool true) rfl rfl rfl (e_move) ?_
 refine g_val (v := .pointer (some ⟨b1, 1, none⟩)) rfl rfl rfl rfl rfl (e_fieldPt (b := b1) (o := 0) rfl tf55) ?_
 refine g_val (v := .slice rva (rs.length) (rvc)) rfl rfl rfl rfl rfl (e_load1 tf56 (v := .slice rva (rs.length) (rvc)) rfl (k_pt 1 (cs := #[.slice va (bs.length) (vc), .slice rva (rs.length) (rvc), Ix (gx), Ix (gy)]) (vs := [.slice rva (rs.length) (rvc)]) rfl rfl)) ?_
 refine g_val (v := .pointer (some ⟨b2, 1, none⟩)) rfl rfl rfl rfl rfl (e_fieldPt (b := b2) (o := 0) rfl tf55) ?_
 refine g_val (v := .slice rua (rs.length) (ruc)) rfl rfl rfl rfl rfl (e_load1 tf56 (v := .slice rua (rs.length) (ruc)) rfl (k_pt 0 (cs := #[.slice ua (bs.length) (uc), .slice rua (rs.length) (ruc), Ix (gx), Ix (gy)]) (vs := [.slice rua (rs.length) (ruc)]) rfl rfl)) ?_
 refine g_call rfl rfl rfl rfl rfl (cl_value (fst := []) (cap := []) (vs := [.slice rva (rs.length) (rvc), .slice rua (rs.length) (ruc)]) (all := [.slice rva (rs.length) (rvc), .slice rua (rs.length) (ruc)]) tf141 rfl rfl rfl) ?_
 intro w hw
 obtain ⟨β1, sb, kn, hw1, back⟩ := St.frame_all hw
 refine (eqR_ok β1 w hw1 _ _ rs (Sl.mono _ _ _ _ _ sb (⟨⟨_, _, rfl, rvl, rvm, rve⟩⟩ : Sl KRR _ _ rs)) (Sl.mono _ _ _ _ _ sb (⟨⟨_, _, rfl, rul, rum, rue⟩⟩ : Sl KRR _ _ rs))).mono ?_
 rintro e w' ⟨rfl, hw'⟩
 refine ⟨_, rfl, _, back _ _ hw', ?_⟩
 clear hw hw1 hw' back kn sb
 refine l_val (v := .bool true) rfl rfl rfl (e_pick_t rfl) ?_
 refine l_val (v := .bool true) rfl rfl rfl (e_move) ?_
 refine g_val (v := .pointer (some ⟨b1, 2, none⟩)) rfl rfl rfl rfl rfl (e_fieldPt (b := b1) (o := 0) rfl tf57) ?_
 refine g_val (v := .agg #[Ix (gx), Ix (gy)]) rfl rfl rfl rfl rfl (e_load tf15 (cs := [Ix (gx), Ix (gy)]) rfl (k_pt 1 (cs := #[.slice va (bs.length) (vc), .slice rva (rs.length) (rvc), Ix (gx), Ix (gy)]) (vs := [Ix (gx), Ix (gy)]) rfl rfl) rfl) ?_
 refine g_val (v := .pointer (some ⟨b2, 2, none⟩)) rfl rfl rfl rfl rfl (e_fieldPt (b := b2) (o := 0) rfl tf57) ?_
 refine g_val (v := .agg #[Ix (gx), Ix (gy)]) rfl rfl rfl rfl rfl (e_load tf15 (cs := [Ix (gx), Ix (gy)]) rfl (k_pt 0 (cs := #[.slice ua (bs.length) (uc), .slice rua (rs.length) (ruc), Ix (gx), Ix (gy)]) (vs := [Ix (gx), Ix (gy)]) rfl rfl) rfl) ?_
 refine g_val (v := .bool (decide ((gx) = (gx) ∧ (gy) = (gy)))) rfl rfl rfl rfl rfl (e_eql_t (xs := [Ix (gx), Ix (gy)]) (ys := [Ix (gx), Ix (gy)]) tf18 tf19 tf20 rfl rfl rfl rfl vec_eq) ?_
 refine l_val (v := .bool (decide ((gx) = (gx) ∧ (gy) = (gy)))) rfl rfl rfl (e_pick_t rfl) ?_
 refine l_val (v := .bool (decide ((gx) = (gx) ∧ (gy) = (gy)))) rfl rfl rfl (e_assign) ?_
 refine l_nil ?_
 refine f_then ?_
 refine c_ret ?_
 refine ret1 Tryd.results33 (v := .bool (decide ((gx) = (gx) ∧ (gy) = (gy)))) rfl ?_
 intro w hw
 exact ⟨by first | rfl | simp, st_mask [false, false] rfl hw⟩
theorem lentS_ok (β : Base) (w : World) (hw : St β [] w) (v rv : Value) (gx gy : Int) (bs : List KB) (rs : List KR) (hs : Sl KBR β.heap v bs) (hr : Sl KRR β.heap rv rs) (hbn : bs.length ≤ 1048576) (hrn : rs.length ≤ 1048576) : Calls Tryd.prog 38 #[.agg #[v, rv, Ix gx, Ix gy]] w fun r w' => ∃ p c q d, r = .returned (.agg #[.slice p bs.length c, .slice q rs.length d, Ix gx, Ix gy]) ∧ St β [rowF BodyF 31 p c (lentL (markB 1) bs), rowF RopeF 35 q d (lentL (markR 1) rs)] w' := by
 obtain ⟨va, vc, rfl, vl, vm, ve⟩ := hs.get
 obtain ⟨rva, rvc, rfl, rvl, rvm, rve⟩ := hr.get
 refine enter (n := 12) Tryd.func38 rfl Tryd.ntmps38 rfl ?_ hw
 refine c_seq ?_
 refine c_region ?_
 refine l_mv rfl rfl rfl (m_box (v := .agg #[.slice va (bs.length) (vc), .slice rva (rs.length) (rvc), Ix (gx), Ix (gy)]) rfl) ?_
 rintro _ _ ⟨b1, rfl, rfl⟩
 refine l_mv rfl rfl rfl (m_alloc tf85) ?_
 rintro _ _ ⟨b2, rfl, rfl⟩
 refine l_nil ?_
 refine f_then ?_
 refine c_seq ?_
 refine c_region ?_
 refine l_val (v := .pointer (some ⟨b1, 0, none⟩)) rfl rfl rfl (e_fieldPt (b := b1) (o := 0) rfl tf49) ?_
 refine l_val (v := .slice va (bs.length) (vc)) rfl rfl rfl (e_load1 tf50 (v := .slice va (bs.length) (vc)) rfl (k_pt 1 (cs := #[.slice va (bs.length) (vc), .slice rva (rs.length) (rvc), Ix (gx), Ix (gy)]) (vs := [.slice va (bs.length) (vc)]) rfl rfl)) ?_
 refine l_call rfl rfl rfl (cl_value (fst := []) (cap := []) (vs := [.slice va (bs.length) (vc)]) (all := [.slice va (bs.length) (vc)]) tf142 rfl rfl rfl) ?_
 intro w hw
 obtain ⟨β1, sb, kn, hw1, back⟩ := St.frame_all hw
 refine (lentB_ok β1 w hw1 _ bs (Sl.mono _ _ _ _ _ sb (⟨⟨_, _, rfl, vl, vm, ve⟩⟩ : Sl KBR _ _ bs)) (by omega)).mono ?_
 rintro e w' ⟨p3, c4, rfl, hw'⟩
 refine ⟨_, rfl, _, back _ _ hw', ?_⟩
 clear hw hw1 hw' back kn sb
 refine l_val (v := .pointer (some ⟨b1, 0, none⟩)) rfl rfl rfl (e_fieldPt (b := b1) (o := 0) rfl tf49) ?_
 refine l_mu rfl rfl (m_store 2 tf50 (b := b1) (o := 0) (T := 27) (cs := #[.slice va (bs.length) (vc), .slice rva (rs.length) (rvc), Ix (gx), Ix (gy)]) (cs' := #[.slice p3 (bs.length) c4, .slice rva (rs.length) (rvc), Ix (gx), Ix (gy)]) (v := .slice p3 (bs.length) c4) rfl rfl rfl rfl rfl rfl rfl) ?_
 refine l_nil ?_
 refine f_then ?_
 refine c_seq ?_
 refine c_region ?_
 refine l_val (v := .pointer (some ⟨b1, 1, none⟩)) rfl rfl rfl (e_fieldPt (b := b1) (o := 0) rfl tf55) ?_
 refine l_val (v := .slice rva (rs.length) (rvc)) rfl rfl rfl (e_load1 tf56 (v := .slice rva (rs.length) (rvc)) rfl (k_pt 2 (cs := #[.slice p3 (bs.length) c4, .slice rva (rs.length) (rvc), Ix (gx), Ix (gy)]) (vs := [.slice rva (rs.length) (rvc)]) rfl rfl)) ?_
 refine l_call rfl rfl rfl (cl_value (fst := []) (cap := []) (vs := [.slice rva (rs.length) (rvc)]) (all := [.slice rva (rs.length) (rvc)]) tf143 rfl rfl rfl) ?_
 intro w hw
 obtain ⟨β1, sb, kn, hw1, back⟩ := St.frame_all hw
 refine (lentR_ok β1 w hw1 _ rs (Sl.mono _ _ _ _ _ sb (⟨⟨_, _, rfl, rvl, rvm, rve⟩⟩ : Sl KRR _ _ rs)) (by omega)).mono ?_
 rintro e w' ⟨p5, c6, rfl, hw'⟩
 refine ⟨_, rfl, _, back _ _ hw', ?_⟩
 clear hw hw1 hw' back kn sb
 refine l_val (v := .pointer (some ⟨b1, 1, none⟩)) rfl rfl rfl (e_fieldPt (b := b1) (o := 0) rfl tf55) ?_
 refine l_mu rfl rfl (m_store 3 tf56 (b := b1) (o := 1) (T := 27) (cs := #[.slice p3 (bs.length) c4, .slice rva (rs.length) (rvc), Ix (gx), Ix (gy)]) (cs' := #[.slice p3 (bs.length) c4, .slice p5 (rs.length) c6, Ix (gx), Ix (gy)]) (v := .slice p5 (rs.length) c6) rfl rfl rfl rfl rfl rfl rfl) ?_
 refine l_nil ?_
 refine f_then ?_
 refine c_seq ?_
 refine c_region ?_
 refine l_val (v := .agg #[.slice p3 (bs.length) c4, .slice p5 (rs.length) c6, Ix (gx), Ix (gy)]) rfl rfl rfl (e_load tf86 (cs := [.slice p3 (bs.length) c4, .slice p5 (rs.length) c6, Ix (gx), Ix (gy)]) rfl (k_pt 3 (cs := #[.slice p3 (bs.length) c4, .slice p5 (rs.length) c6, Ix (gx), Ix (gy)]) (vs := [.slice p3 (bs.length) c4, .slice p5 (rs.length) c6, Ix (gx), Ix (gy)]) rfl rfl) rfl) ?_
 refine l_mu rfl rfl (m_store 2 tf86 (b := b2) (o := 0) (T := 27) (cs := #[.slice none 0 0, .slice none 0 0, .int .i64 (0), .int .i64 (0)]) (cs' := #[.slice p3 (bs.length) c4, .slice p5 (rs.length) c6, Ix (gx), Ix (gy)]) (v := .agg #[.slice p3 (bs.length) c4, .slice p5 (rs.length) c6, Ix (gx), Ix (gy)]) rfl rfl rfl rfl rfl rfl rfl) ?_
 refine l_nil ?_
 refine f_then ?_
 refine c_ret ?_
 refine retG (l := [.cell 2 27]) (m := [.agg #[.slice p3 (bs.length) c4, .slice p5 (rs.length) c6, Ix (gx), Ix (gy)]]) (v := .agg #[.slice p3 (bs.length) c4, .slice p5 (rs.length) c6, Ix (gx), Ix (gy)]) Tryd.results38 ⟨rd_cell tf86 (cs := [.slice p3 (bs.length) c4, .slice p5 (rs.length) c6, Ix (gx), Ix (gy)]) rfl (k_pt 2 (cs := #[.slice p3 (bs.length) c4, .slice p5 (rs.length) c6, Ix (gx), Ix (gy)]) (vs := [.slice p3 (bs.length) c4, .slice p5 (rs.length) c6, Ix (gx), Ix (gy)]) rfl rfl) rfl, trivial⟩ rfl ?_
 intro w hw
 have hw2 := st_mask (L' := [rowF RopeF 35 p5 c6 (lentL (markR 1) rs), rowF BodyF 31 p3 c4 (lentL (markB 1) bs)]) [true, true, false, false] rfl hw
 exact ⟨_, _, _, _, rfl, hw2.perm (perm_ix [1, 0] 2 rfl (by kernel_rfl) (by kernel_rfl))⟩
theorem keptS_ok (β : Base) (w : World) (hw : St β [] w) (p q : Option Addr) (c d : Nat) (u ru : Value) (gx gy : Int) (bs : List KB) (rs : List KR) (hbn : bs.length ≤ 1048576) (hrn : rs.length ≤ 1048576) (hlb : Sl KBR β.heap (.slice p (lentL (markB 1) bs).length c) (lentL (markB 1) bs)) (hlr : Sl KRR β.heap (.slice q (lentL (markR 1) rs).length d) (lentL (markR 1) rs)) (hu : Sl KBR β.heap u bs) (hq : Sl KRR β.heap ru rs) : Calls Tryd.prog 39 #[.agg #[.slice p bs.length c, .slice q rs.length d, Ix gx, Ix gy], .agg #[u, ru, Ix gx, Ix gy]] w fun r w' => r = .returned (.bool true) ∧ St β [] w' := by
 obtain ⟨ua, uc, rfl, ul, um, ue⟩ := hu.get
 obtain ⟨rua, ruc, rfl, rul, rum, rue⟩ := hq.get
 refine enter (n := 22) Tryd.func39 rfl Tryd.ntmps39 rfl ?_ hw
 refine c_seq ?_
 refine c_region ?_
 refine l_mv rfl rfl rfl (m_box (v := .agg #[.slice p (bs.length) (c), .slice q (rs.length) (d), Ix (gx), Ix (gy)]) rfl) ?_
 rintro _ _ ⟨b1, rfl, rfl⟩
 refine l_mv rfl rfl rfl (m_box (v := .agg #[.slice ua (bs.length) (uc), .slice rua (rs.length) (ruc), Ix (gx), Ix (gy)]) rfl) ?_
 rintro _ _ ⟨b2, rfl, rfl⟩
 refine l_val (v := .bool false) rfl rfl rfl (e_assign) ?_
 refine l_nil ?_
 refine f_then ?_
 refine c_seq ?_
 refine c_region ?_
 refine l_val (v := .agg #[.slice p (bs.length) (c), .slice q (rs.length) (d), Ix (gx), Ix (gy)]) rfl rfl rfl (e_load tf86 (cs := [.slice p (bs.length) (c), .slice q (rs.length) (d), Ix (gx), Ix (gy)]) rfl (k_pt 1 (cs := #[.slice p (bs.length) (c), .slice q (rs.length) (d), Ix (gx), Ix (gy)]) (vs := [.slice p (bs.length) (c), .slice q (rs.length) (d), Ix (gx), Ix (gy)]) rfl rfl) rfl) ?_
 refine l_val (v := .agg #[.slice ua (bs.length) (uc), .slice rua (rs.length) (ruc), Ix (gx), Ix (gy)]) rfl rfl rfl (e_load tf86 (cs := [.slice ua (bs.length) (uc), .slice rua (rs.length) (ruc), Ix (gx), Ix (gy)]) rfl (k_pt 0 (cs := #[.slice ua (bs.length) (uc), .slice rua (rs.length) (ruc), Ix (gx), Ix (gy)]) (vs := [.slice ua (bs.length) (uc), .slice rua (rs.length) (ruc), Ix (gx), Ix (gy)]) rfl rfl) rfl) ?_
 refine l_call rfl rfl rfl (cl_value (fst := []) (cap := []) (vs := [.agg #[.slice p (bs.length) (c), .slice q (rs.length) (d), Ix (gx), Ix (gy)], .agg #[.slice ua (bs.length) (uc), .slice rua (rs.length) (ruc), Ix (gx), Ix (gy)]]) (all := [.agg #[.slice p (bs.length) (c), .slice q (rs.length) (d), Ix (gx), Ix (gy)], .agg #[.slice ua (bs.length) (uc), .slice rua (rs.length) (ruc), Ix (gx), Ix (gy)]]) tf144 rfl rfl rfl) ?_
 intro w hw
 obtain ⟨β1, sb, kn, hw1, back⟩ := St.frame_all hw
 refine (eqScene_ok β1 w hw1 _ _ _ _ (gx) (gy) bs rs (Sl.mono _ _ _ _ _ sb (sl_pre hlb)) (Sl.mono _ _ _ _ _ sb (sl_pre hlr)) (Sl.mono _ _ _ _ _ sb (⟨⟨_, _, rfl, ul, um, ue⟩⟩ : Sl KBR _ _ bs)) (Sl.mono _ _ _ _ _ sb (⟨⟨_, _, rfl, rul, rum, rue⟩⟩ : Sl KRR _ _ rs))).mono ?_
 rintro e w' ⟨rfl, hw'⟩
 refine ⟨_, rfl, _, back _ _ hw', ?_⟩
 clear hw hw1 hw' back kn sb
 refine l_val (v := .bool true) rfl rfl rfl (e_move) ?_
 refine g_val (v := .pointer (some ⟨b1, 0, none⟩)) rfl rfl rfl rfl rfl (e_fieldPt (b := b1) (o := 0) rfl tf49) ?_
 refine g_val (v := .slice p (bs.length) (c)) rfl rfl rfl rfl rfl (e_load1 tf50 (v := .slice p (bs.length) (c)) rfl (k_pt 1 (cs := #[.slice p (bs.length) (c), .slice q (rs.length) (d), Ix (gx), Ix (gy)]) (vs := [.slice p (bs.length) (c)]) rfl rfl)) ?_
 refine g_val (v := .pointer (some ⟨b2, 0, none⟩)) rfl rfl rfl rfl rfl (e_fieldPt (b := b2) (o := 0) rfl tf49) ?_
 refine g_val (v := .slice ua (bs.length) (uc)) rfl rfl rfl rfl rfl (e_load1 tf50 (v := .slice ua (bs.length) (uc)) rfl (k_pt 0 (cs := #[.slice ua (bs.length) (uc), .slice rua (rs.length) (ruc), Ix (gx), Ix (gy)]) (vs := [.slice ua (bs.length) (uc)]) rfl rfl)) ?_
 refine g_call rfl rfl rfl rfl rfl (cl_value (fst := []) (cap := []) (vs := [.slice p (bs.length) (c), .slice ua (bs.length) (uc)]) (all := [.slice p (bs.length) (c), .slice ua (bs.length) (uc)]) tf145 rfl rfl rfl) ?_
 intro w hw
 obtain ⟨β1, sb, kn, hw1, back⟩ := St.frame_all hw
 refine (keptB_ok β1 w hw1 _ _ _ bs (by omega) (Sl.mono _ _ _ _ _ sb hlb) (Sl.mono _ _ _ _ _ sb (⟨⟨_, _, rfl, ul, um, ue⟩⟩ : Sl KBR _ _ bs))).mono ?_
 rintro e w' ⟨rfl, hw'⟩
 refine ⟨_, rfl, _, back _ _ hw', ?_⟩
 clear hw hw1 hw' back kn sb
 refine l_val (v := .bool true) rfl rfl rfl (e_pick_t rfl) ?_
 refine l_val (v := .bool true) rfl rfl rfl (e_move) ?_
 refine g_val (v := .pointer (some ⟨b1, 1, none⟩)) rfl rfl rfl rfl rfl (e_fieldPt (b := b1) (o := 0) rfl tf55) ?_
 refine g_val (v := .slice q (rs.length) (d)) rfl rfl rfl rfl rfl (e_load1 tf56 (v := .slice q (rs.length) (d)) rfl (k_pt 1 (cs := #[.slice p (bs.length) (c), .slice q (rs.length) (d), Ix (gx), Ix (gy)]) (vs := [.slice q (rs.length) (d)]) rfl rfl)) ?_
 refine g_val (v := .pointer (some ⟨b2, 1, none⟩)) rfl rfl rfl rfl rfl (e_fieldPt (b := b2) (o := 0) rfl tf55) ?_
 refine g_val (v := .slice rua (rs.length) (ruc)) rfl rfl rfl rfl rfl (e_load1 tf56 (v := .slice rua (rs.length) (ruc)) rfl (k_pt 0 (cs := #[.slice ua (bs.length) (uc), .slice rua (rs.length) (ruc), Ix (gx), Ix (gy)]) (vs := [.slice rua (rs.length) (ruc)]) rfl rfl)) ?_
 refine g_call rfl rfl rfl rfl rfl (cl_value (fst := []) (cap := []) (vs := [.slice q (rs.length) (d), .slice rua (rs.length) (ruc)]) (all := [.slice q (rs.length) (d), .slice rua (rs.length) (ruc)]) tf146 rfl rfl rfl) ?_
 intro w hw
 obtain ⟨β1, sb, kn, hw1, back⟩ := St.frame_all hw
 refine (keptR_ok β1 w hw1 _ _ _ rs (by omega) (Sl.mono _ _ _ _ _ sb hlr) (Sl.mono _ _ _ _ _ sb (⟨⟨_, _, rfl, rul, rum, rue⟩⟩ : Sl KRR _ _ rs))).mono ?_
 rintro e w' ⟨rfl, hw'⟩
 refine ⟨_, rfl, _, back _ _ hw', ?_⟩
 clear hw hw1 hw' back kn sb
 refine l_val (v := .bool true) rfl rfl rfl (e_pick_t rfl) ?_
 refine l_val (v := .bool true) rfl rfl rfl (e_assign) ?_
 refine l_nil ?_
 refine f_then ?_
 refine c_ret ?_
 refine ret1 Tryd.results39 (v := .bool true) rfl ?_
 intro w hw
 exact ⟨rfl, st_mask [false, false] rfl hw⟩
theorem overS_ok (β : Base) (w : World) (p q : Option Addr) (c d n m : Nat) (gx gy : Int) (ys : List KB) (us : List KR) (hlB : ys.length = n + 12) (hlR : us.length = m + 12) (hn : n ≤ 1000000) (hm : m ≤ 1000000) (hw : St β [rowF BodyF 31 p c ys, rowF RopeF 35 q d us] w) : Calls Tryd.prog 40 #[.agg #[.slice p n c, .slice q m d, Ix gx, Ix gy]] w fun r w' => ∃ zs ts, r = .returned (.tuple #[]) ∧ St β [rowF BodyF 31 p c zs, rowF RopeF 35 q d ts] w' := by
 refine enter (n := 8) Tryd.func40 rfl Tryd.ntmps40 rfl ?_ hw
 refine c_seq ?_
 refine c_region ?_
 refine l_mv rfl rfl rfl (m_box (v := .agg #[.slice p (n) c, .slice q (m) d, Ix (gx), Ix (gy)]) rfl) ?_
 rintro _ _ ⟨b1, rfl, rfl⟩
 refine l_nil ?_
 refine f_then ?_
 refine c_seq ?_
 refine c_region ?_
 refine l_val (v := .pointer (some ⟨b1, 0, none⟩)) rfl rfl rfl (e_fieldPt (b := b1) (o := 0) rfl tf49) ?_
 refine l_val (v := .slice p (n) c) rfl rfl rfl (e_load1 tf50 (v := .slice p (n) c) rfl (k_pt 0 (cs := #[.slice p (n) c, .slice q (m) d, Ix (gx), Ix (gy)]) (vs := [.slice p (n) c]) rfl rfl)) ?_
 refine l_call rfl rfl rfl (cl_value (fst := []) (cap := []) (vs := [.slice p (n) c]) (all := [.slice p (n) c]) tf147 rfl rfl rfl) ?_
 intro w hw
 replace hw := hw.perm (L' := _ :: _ :: _ :: []) (by exact (((perm_front 2 rfl).trans (perm_front 1 rfl)).trans (perm_front 2 rfl)))
 obtain ⟨β1, sb, kn, hw1, back⟩ := St.frame (L := [_]) (M := _ :: _ :: []) hw
 refine (overB_ok β1 w _ _ _ ys hlB (by omega) hw1).mono ?_
 rintro e w' ⟨zs2, rfl, hw'⟩
 refine ⟨_, rfl, _, back _ _ hw', ?_⟩
 clear hw hw1 hw' back kn sb
 refine l_nil ?_
 refine f_then ?_
 refine c_region ?_
 refine l_val (v := .pointer (some ⟨b1, 1, none⟩)) rfl rfl rfl (e_fieldPt (b := b1) (o := 0) rfl tf55) ?_
 refine l_val (v := .slice q (m) d) rfl rfl rfl (e_load1 tf56 (v := .slice q (m) d) rfl (k_pt 1 (cs := #[.slice p (n) c, .slice q (m) d, Ix (gx), Ix (gy)]) (vs := [.slice q (m) d]) rfl rfl)) ?_
 refine l_call rfl rfl rfl (cl_value (fst := []) (cap := []) (vs := [.slice q (m) d]) (all := [.slice q (m) d]) tf148 rfl rfl rfl) ?_
 intro w hw
 replace hw := hw.perm (L' := _ :: _ :: _ :: []) (by exact (((perm_front 1 rfl).trans (perm_front 1 rfl)).trans (perm_front 2 rfl)))
 obtain ⟨β1, sb, kn, hw1, back⟩ := St.frame (L := [_]) (M := _ :: _ :: []) hw
 refine (overR_ok β1 w _ _ _ us hlR (by omega) hw1).mono ?_
 rintro e w' ⟨zs3, rfl, hw'⟩
 refine ⟨_, rfl, _, back _ _ hw', ?_⟩
 clear hw hw1 hw' back kn sb
 refine l_nil ?_
 refine end0 Tryd.results40 ?_
 intro w hw
 have hw2 := st_mask (L' := [rowF RopeF 35 q d zs3, rowF BodyF 31 p c zs2]) [true, true, false] rfl hw
 exact ⟨zs2, zs3, rfl, hw2.perm (perm_ix [1, 0] 2 rfl (by kernel_rfl) (by kernel_rfl))⟩
theorem stepRY_ok (β : Base) (w : World) (hw : St β [] w) (v rv : Value) (gx gy : Int) (bs : List KB) (rs : List KR) (hs : Sl KBR β.heap v bs) (hr : Sl KRR β.heap rv rs) (h : okS bs rs gx gy) (B : List KB) (S : List KS) (hBS : stepsTo rs gx gy bs bs.length = (B, S)) : Calls Tryd.prog 17 #[.agg #[v, rv, Ix gx, Ix gy]] w fun r w' => ∃ p1 c1 p2 c2 sp sc, r = .returned (.tuple #[.agg #[.slice p1 bs.length c1, .slice p2 rs.length c2, Ix gx, Ix gy], .slice sp S.length sc, .int .i64 (0)]) ∧ St β [rowF BodyF 31 p1 c1 B, rowF RopeF 35 p2 c2 rs, rowF StopF 45 sp sc S] w' := by
 refine (step8_ok β w hw v rv gx gy bs rs hs hr).mono ?_
 rintro r w' (⟨_, p1, c1, p2, c2, sp, sc, rfl, hw'⟩ | ⟨hn, _⟩)
 ·rw [hBS] at hw' ⊢; exact ⟨p1, c1, p2, c2, sp, sc, rfl, hw'⟩
 ·exact absurd h hn
theorem stepRN_ok (β : Base) (w : World) (hw : St β [] w) (v rv : Value) (gx gy : Int) (bs : List KB) (rs : List KR) (hs : Sl KBR β.heap v bs) (hr : Sl KRR β.heap rv rs) (h : ¬ okS bs rs gx gy) : Calls Tryd.prog 17 #[.agg #[v, rv, Ix gx, Ix gy]] w fun r w' => r = .returned (.tuple #[.agg #[.slice none 0 0, .slice none 0 0, .int .i64 (0), .int .i64 (0)], .slice none 0 0, .int .i64 (2)]) ∧ St β [] w' := by
 refine (step8_ok β w hw v rv gx gy bs rs hs hr).mono ?_
 rintro r w' (⟨hy, _⟩ | ⟨_, rfl, hw'⟩)
 ·exact absurd hy h
 ·exact ⟨rfl, hw'⟩
set_option maxHeartbeats 4000000 in
theorem stepsY_ok (β : Base) (w : World) (hw : St β [] w) (v rv : Value) (gx gy : Int) (bs : List KB) (rs : List KR) (hs : Sl KBR β.heap v bs) (hr : Sl KRR β.heap rv rs) (hgx : -9223372036854775808 ≤ gx ∧ gx ≤ 9223372036854775807) (hgy : -9223372036854775808 ≤ gy ∧ gy ≤ 9223372036854775807) (hG : GR β) (hbn : bs.length ≤ 10) (hrn : rs.length ≤ 6) (hokS : okS bs rs gx gy) : Calls Tryd.prog 13 #[.agg #[v, rv, Ix gx, Ix gy]] w fun r w' => r = .returned (.bool true) ∧ St β [] w' := by
 obtain ⟨va, vc, rfl, vl, vm, ve⟩ := hs.get
 obtain ⟨rva, rvc, rfl, rvl, rvm, rve⟩ := hr.get
 obtain ⟨B, S, hBS⟩ : ∃ B S, stepsTo rs gx gy bs bs.length = (B, S) := ⟨_, _, rfl⟩
 have hBl : B.length = bs.length := by rw [show B = (stepsTo rs gx gy bs bs.length).1 by rw [hBS]]; exact (step_keeps hokS.2.2.2.1 _).1.len
 refine enter (n := 50) Tryd.func13 rfl Tryd.ntmps13 rfl ?_ hw
 refine c_seq ?_
 refine c_region ?_
 refine l_mv rfl rfl rfl (m_box (v := .agg #[.slice va (bs.length) (vc), .slice rva (rs.length) (rvc), Ix (gx), Ix (gy)]) rfl) ?_
 rintro _ _ ⟨b1, rfl, rfl⟩
 refine l_val (v := .bool false) rfl rfl rfl (e_assign) ?_
 refine l_nil ?_
 refine f_then ?_
 refine c_seq ?_
 refine c_region ?_
 refine l_val (v := .agg #[.slice va (bs.length) (vc), .slice rva (rs.length) (rvc), Ix (gx), Ix (gy)]) rfl rfl rfl (e_load tf86 (cs := [.slice va (bs.length) (vc), .slice rva (rs.length) (rvc), Ix (gx), Ix (gy)]) rfl (k_pt 0 (cs := #[.slice va (bs.length) (vc), .slice rva (rs.length) (rvc), Ix (gx), Ix (gy)]) (vs := [.slice va (bs.length) (vc), .slice rva (rs.length) (rvc), Ix (gx), Ix (gy)]) rfl rfl) rfl) ?_
 refine l_call rfl rfl rfl (cl_value (fst := []) (cap := []) (vs := [.agg #[.slice va (bs.length) (vc), .slice rva (rs.length) (rvc), Ix (gx), Ix (gy)]]) (all := [.agg #[.slice va (bs.length) (vc), .slice rva (rs.length) (rvc), Ix (gx), Ix (gy)]]) tf149 rfl rfl rfl) ?_
 intro w hw
 obtain ⟨β1, sb, kn, hw1, back⟩ := St.frame_all hw
 refine (lentS_ok β1 w hw1 _ _ gx gy bs rs (Sl.mono _ _ _ _ _ sb (⟨⟨_, _, rfl, vl, vm, ve⟩⟩ : Sl KBR _ _ bs)) (Sl.mono _ _ _ _ _ sb (⟨⟨_, _, rfl, rvl, rvm, rve⟩⟩ : Sl KRR _ _ rs)) (by omega) (by omega)).mono ?_
 rintro e w' ⟨p2, c3, q4, d5, rfl, hw'⟩
 refine ⟨_, rfl, _, back _ _ hw', ?_⟩
 clear hw hw1 hw' back kn sb
 refine l_mv rfl rfl rfl (m_alloc tf85) ?_
 rintro _ _ ⟨b6, rfl, rfl⟩
 refine l_mu rfl rfl (m_store 0 tf86 (b := b6) (o := 0) (T := 27) (cs := #[.slice none 0 0, .slice none 0 0, .int .i64 (0), .int .i64 (0)]) (cs' := #[.slice p2 (bs.length) c3, .slice q4 (rs.length) d5, Ix (gx), Ix (gy)]) (v := .agg #[.slice p2 (bs.length) c3, .slice q4 (rs.length) d5, Ix (gx), Ix (gy)]) rfl rfl rfl rfl rfl rfl rfl) ?_
 refine l_nil ?_
 refine f_then ?_
 refine c_seq ?_
 refine c_region ?_
 refine l_val (v := .agg #[.slice p2 (bs.length) c3, .slice q4 (rs.length) d5, Ix (gx), Ix (gy)]) rfl rfl rfl (e_load tf86 (cs := [.slice p2 (bs.length) c3, .slice q4 (rs.length) d5, Ix (gx), Ix (gy)]) rfl (k_pt 0 (cs := #[.slice p2 (bs.length) c3, .slice q4 (rs.length) d5, Ix (gx), Ix (gy)]) (vs := [.slice p2 (bs.length) c3, .slice q4 (rs.length) d5, Ix (gx), Ix (gy)]) rfl rfl) rfl) ?_
 refine l_call rfl rfl rfl (cl_value (fst := []) (cap := []) (vs := [.agg #[.slice p2 (bs.length) c3, .slice q4 (rs.length) d5, Ix (gx), Ix (gy)]]) (all := [.agg #[.slice p2 (bs.length) c3, .slice q4 (rs.length) d5, Ix (gx), Ix (gy)]]) tf104 rfl rfl rfl) ?_
 intro w hw
 obtain ⟨β1, sb, kn, hw1, back⟩ := St.frame_all hw
 refine (stepY_ok β1 w hw1 _ _ gx gy bs rs (kn _ (k_flPre 1 (F := BodyF) (xs := bs) rfl rfl)) (kn _ (k_flPre 2 (F := RopeF) (xs := rs) rfl rfl)) hgx hgy (GR.mono sb hG) hokS B S hBS).mono ?_
 rintro e w' ⟨p7, c8, p9, c10, p11, c12, rfl, hw'⟩
 refine ⟨_, rfl, _, back _ _ hw', ?_⟩
 clear hw hw1 hw' back kn sb
 refine l_val (v := .tuple #[.agg #[.slice p7 (bs.length) c8, .slice p9 (rs.length) c10, Ix (gx), Ix (gy)], .slice p11 (S.length) c12, .int .i64 (0)]) rfl rfl rfl (e_move) ?_
 refine l_val (v := .agg #[.slice p7 (bs.length) c8, .slice p9 (rs.length) c10, Ix (gx), Ix (gy)]) rfl rfl rfl (e_extract (vs := #[.agg #[.slice p7 (bs.length) c8, .slice p9 (rs.length) c10, Ix (gx), Ix (gy)], .slice p11 (S.length) c12, .int .i64 (0)]) rfl rfl) ?_
 refine l_val (v := .slice p11 (S.length) c12) rfl rfl rfl (e_extract (vs := #[.agg #[.slice p7 (bs.length) c8, .slice p9 (rs.length) c10, Ix (gx), Ix (gy)], .slice p11 (S.length) c12, .int .i64 (0)]) rfl rfl) ?_
 refine l_val (v := .int .i64 (0)) rfl rfl rfl (e_extract (vs := #[.agg #[.slice p7 (bs.length) c8, .slice p9 (rs.length) c10, Ix (gx), Ix (gy)], .slice p11 (S.length) c12, .int .i64 (0)]) rfl rfl) ?_
 refine l_mv rfl rfl rfl (m_alloc tf85) ?_
 rintro _ _ ⟨b13, rfl, rfl⟩
 refine l_mu rfl rfl (m_store 0 tf86 (b := b13) (o := 0) (T := 27) (cs := #[.slice none 0 0, .slice none 0 0, .int .i64 (0), .int .i64 (0)]) (cs' := #[.slice p7 (bs.length) c8, .slice p9 (rs.length) c10, Ix (gx), Ix (gy)]) (v := .agg #[.slice p7 (bs.length) c8, .slice p9 (rs.length) c10, Ix (gx), Ix (gy)]) rfl rfl rfl rfl rfl rfl rfl) ?_
 refine l_val (v := .slice p11 (S.length) c12) rfl rfl rfl (e_assign) ?_
 refine l_val (v := .int .i64 (0)) rfl rfl rfl (e_assign) ?_
 refine l_nil ?_
 refine f_then ?_
 refine c_seq ?_
 refine c_region ?_
 refine l_val (v := .agg #[.slice va (bs.length) (vc), .slice rva (rs.length) (rvc), Ix (gx), Ix (gy)]) rfl rfl rfl (e_load tf86 (cs := [.slice va (bs.length) (vc), .slice rva (rs.length) (rvc), Ix (gx), Ix (gy)]) rfl (k_pt 7 (cs := #[.slice va (bs.length) (vc), .slice rva (rs.length) (rvc), Ix (gx), Ix (gy)]) (vs := [.slice va (bs.length) (vc), .slice rva (rs.length) (rvc), Ix (gx), Ix (gy)]) rfl rfl) rfl) ?_
 refine l_call rfl rfl rfl (cl_value (fst := []) (cap := []) (vs := [.agg #[.slice va (bs.length) (vc), .slice rva (rs.length) (rvc), Ix (gx), Ix (gy)]]) (all := [.agg #[.slice va (bs.length) (vc), .slice rva (rs.length) (rvc), Ix (gx), Ix (gy)]]) tf150 rfl rfl rfl) ?_
 intro w hw
 obtain ⟨β1, sb, kn, hw1, back⟩ := St.frame_all hw
 refine (stepRY_ok β1 w hw1 _ _ gx gy bs rs (Sl.mono _ _ _ _ _ sb (⟨⟨_, _, rfl, vl, vm, ve⟩⟩ : Sl KBR _ _ bs)) (Sl.mono _ _ _ _ _ sb (⟨⟨_, _, rfl, rvl, rvm, rve⟩⟩ : Sl KRR _ _ rs)) hokS B S hBS).mono ?_
 rintro e w' ⟨p14, c15, p16, c17, p18, c19, rfl, hw'⟩
 refine ⟨_, rfl, _, back _ _ hw', ?_⟩
 clear hw hw1 hw' back kn sb
 refine l_val (v := .tuple #[.agg #[.slice p14 (bs.length) c15, .slice p16 (rs.length) c17, Ix (gx), Ix (gy)], .slice p18 (S.length) c19, .int .i64 (0)]) rfl rfl rfl (e_move) ?_
 refine l_val (v := .agg #[.slice p14 (bs.length) c15, .slice p16 (rs.length) c17, Ix (gx), Ix (gy)]) rfl rfl rfl (e_extract (vs := #[.agg #[.slice p14 (bs.length) c15, .slice p16 (rs.length) c17, Ix (gx), Ix (gy)], .slice p18 (S.length) c19, .int .i64 (0)]) rfl rfl) ?_
 refine l_val (v := .slice p18 (S.length) c19) rfl rfl rfl (e_extract (vs := #[.agg #[.slice p14 (bs.length) c15, .slice p16 (rs.length) c17, Ix (gx), Ix (gy)], .slice p18 (S.length) c19, .int .i64 (0)]) rfl rfl) ?_
 refine l_val (v := .int .i64 (0)) rfl rfl rfl (e_extract (vs := #[.agg #[.slice p14 (bs.length) c15, .slice p16 (rs.length) c17, Ix (gx), Ix (gy)], .slice p18 (S.length) c19, .int .i64 (0)]) rfl rfl) ?_
 refine l_mv rfl rfl rfl (m_alloc tf85) ?_
 rintro _ _ ⟨b20, rfl, rfl⟩
 refine l_mu rfl rfl (m_store 0 tf86 (b := b20) (o := 0) (T := 27) (cs := #[.slice none 0 0, .slice none 0 0, .int .i64 (0), .int .i64 (0)]) (cs' := #[.slice p14 (bs.length) c15, .slice p16 (rs.length) c17, Ix (gx), Ix (gy)]) (v := .agg #[.slice p14 (bs.length) c15, .slice p16 (rs.length) c17, Ix (gx), Ix (gy)]) rfl rfl rfl rfl rfl rfl rfl) ?_
 refine l_val (v := .slice p18 (S.length) c19) rfl rfl rfl (e_assign) ?_
 refine l_val (v := .int .i64 (0)) rfl rfl rfl (e_assign) ?_
 refine l_nil ?_
 refine f_then ?_
 refine c_seq ?_
 refine c_seq ?_
 refine c_region ?_
 refine l_val (v := .int .i64 (0)) rfl rfl rfl (e_move) ?_
 refine l_val (v := .int .i64 (0)) rfl rfl rfl (e_move) ?_
 refine l_val (v := .bool false) rfl rfl rfl (e_neq (a := (0 : Int)) (b := (0 : Int)) rfl rfl) ?_
 refine l_val (v := .bool false) rfl rfl rfl (e_move) ?_
 refine g_val (v := .agg #[.slice p7 (bs.length) c8, .slice p9 (rs.length) c10, Ix (gx), Ix (gy)]) rfl rfl rfl rfl rfl (e_load tf86 (cs := [.slice p7 (bs.length) c8, .slice p9 (rs.length) c10, Ix (gx), Ix (gy)]) rfl (k_pt 4 (cs := #[.slice p7 (bs.length) c8, .slice p9 (rs.length) c10, Ix (gx), Ix (gy)]) (vs := [.slice p7 (bs.length) c8, .slice p9 (rs.length) c10, Ix (gx), Ix (gy)]) rfl rfl) rfl) ?_
 refine g_val (v := .agg #[.slice p14 (bs.length) c15, .slice p16 (rs.length) c17, Ix (gx), Ix (gy)]) rfl rfl rfl rfl rfl (e_load tf86 (cs := [.slice p14 (bs.length) c15, .slice p16 (rs.length) c17, Ix (gx), Ix (gy)]) rfl (k_pt 0 (cs := #[.slice p14 (bs.length) c15, .slice p16 (rs.length) c17, Ix (gx), Ix (gy)]) (vs := [.slice p14 (bs.length) c15, .slice p16 (rs.length) c17, Ix (gx), Ix (gy)]) rfl rfl) rfl) ?_
 refine g_call rfl rfl rfl rfl rfl (cl_value (fst := []) (cap := []) (vs := [.agg #[.slice p7 (bs.length) c8, .slice p9 (rs.length) c10, Ix (gx), Ix (gy)], .agg #[.slice p14 (bs.length) c15, .slice p16 (rs.length) c17, Ix (gx), Ix (gy)]]) (all := [.agg #[.slice p7 (bs.length) c8, .slice p9 (rs.length) c10, Ix (gx), Ix (gy)], .agg #[.slice p14 (bs.length) c15, .slice p16 (rs.length) c17, Ix (gx), Ix (gy)]]) tf144 rfl rfl rfl) ?_
 intro w hw
 obtain ⟨β1, sb, kn, hw1, back⟩ := St.frame_all hw
 refine (eqScene_ok β1 w hw1 _ _ _ _ (gx) (gy) B rs (kn _ (k_flN 5 (F := BodyF) (m := bs.length) (xs := B) rfl (by omega))) (kn _ (k_flN 6 (F := RopeF) (m := rs.length) (xs := rs) rfl rfl)) (kn _ (k_flN 1 (F := BodyF) (m := bs.length) (xs := B) rfl (by omega))) (kn _ (k_flN 2 (F := RopeF) (m := rs.length) (xs := rs) rfl rfl))).mono ?_
 rintro e w' ⟨rfl, hw'⟩
 refine ⟨_, rfl, _, back _ _ hw', ?_⟩
 clear hw hw1 hw' back kn sb
 refine g_val (v := .bool false) rfl rfl rfl rfl rfl (e_not (a := true) rfl) ?_
 refine l_val (v := .bool false) rfl rfl rfl (e_pick_f rfl) ?_
 refine l_val (v := .bool false) rfl rfl rfl (e_move) ?_
 refine g_val (v := .slice p11 (S.length) c12) rfl rfl rfl rfl rfl (e_move) ?_
 refine g_val (v := .slice p18 (S.length) c19) rfl rfl rfl rfl rfl (e_move) ?_
 refine g_call rfl rfl rfl rfl rfl (cl_value (fst := []) (cap := []) (vs := [.slice p11 (S.length) c12, .slice p18 (S.length) c19]) (all := [.slice p11 (S.length) c12, .slice p18 (S.length) c19]) tf151 rfl rfl rfl) ?_
 intro w hw
 obtain ⟨β1, sb, kn, hw1, back⟩ := St.frame_all hw
 refine (eqS_ok β1 w hw1 _ _ S (kn _ (k_flN 7 (F := StopF) (m := S.length) (xs := S) rfl rfl)) (kn _ (k_flN 3 (F := StopF) (m := S.length) (xs := S) rfl rfl))).mono ?_
 rintro e w' ⟨rfl, hw'⟩
 refine ⟨_, rfl, _, back _ _ hw', ?_⟩
 clear hw hw1 hw' back kn sb
 refine g_val (v := .bool false) rfl rfl rfl rfl rfl (e_not (a := true) rfl) ?_
 refine l_val (v := .bool false) rfl rfl rfl (e_pick_f rfl) ?_
 refine l_val (v := .bool false) rfl rfl rfl (e_move) ?_
 refine g_val (v := .agg #[.slice p2 (bs.length) c3, .slice q4 (rs.length) d5, Ix (gx), Ix (gy)]) rfl rfl rfl rfl rfl (e_load tf86 (cs := [.slice p2 (bs.length) c3, .slice q4 (rs.length) d5, Ix (gx), Ix (gy)]) rfl (k_pt 8 (cs := #[.slice p2 (bs.length) c3, .slice q4 (rs.length) d5, Ix (gx), Ix (gy)]) (vs := [.slice p2 (bs.length) c3, .slice q4 (rs.length) d5, Ix (gx), Ix (gy)]) rfl rfl) rfl) ?_
 refine g_val (v := .agg #[.slice va (bs.length) (vc), .slice rva (rs.length) (rvc), Ix (gx), Ix (gy)]) rfl rfl rfl rfl rfl (e_load tf86 (cs := [.slice va (bs.length) (vc), .slice rva (rs.length) (rvc), Ix (gx), Ix (gy)]) rfl (k_pt 11 (cs := #[.slice va (bs.length) (vc), .slice rva (rs.length) (rvc), Ix (gx), Ix (gy)]) (vs := [.slice va (bs.length) (vc), .slice rva (rs.length) (rvc), Ix (gx), Ix (gy)]) rfl rfl) rfl) ?_
 refine g_call rfl rfl rfl rfl rfl (cl_value (fst := []) (cap := []) (vs := [.agg #[.slice p2 (bs.length) c3, .slice q4 (rs.length) d5, Ix (gx), Ix (gy)], .agg #[.slice va (bs.length) (vc), .slice rva (rs.length) (rvc), Ix (gx), Ix (gy)]]) (all := [.agg #[.slice p2 (bs.length) c3, .slice q4 (rs.length) d5, Ix (gx), Ix (gy)], .agg #[.slice va (bs.length) (vc), .slice rva (rs.length) (rvc), Ix (gx), Ix (gy)]]) tf152 rfl rfl rfl) ?_
 intro w hw
 obtain ⟨β1, sb, kn, hw1, back⟩ := St.frame_all hw
 refine (keptS_ok β1 w hw1 _ _ _ _ _ _ gx gy bs rs (by omega) (by omega) (kn _ (k_fl 9 (F := BodyF) rfl)) (kn _ (k_fl 10 (F := RopeF) rfl)) (Sl.mono _ _ _ _ _ sb (⟨⟨_, _, rfl, vl, vm, ve⟩⟩ : Sl KBR _ _ bs)) (Sl.mono _ _ _ _ _ sb (⟨⟨_, _, rfl, rvl, rvm, rve⟩⟩ : Sl KRR _ _ rs))).mono ?_
 rintro e w' ⟨rfl, hw'⟩
 refine ⟨_, rfl, _, back _ _ hw', ?_⟩
 clear hw hw1 hw' back kn sb
 refine g_val (v := .bool false) rfl rfl rfl rfl rfl (e_not (a := true) rfl) ?_
 refine l_val (v := .bool false) rfl rfl rfl (e_pick_f rfl) ?_
 refine l_nil ?_
 refine f_then ?_
 refine c_no rfl ?_
 refine c_skip ?_
 refine f_then ?_
 refine c_seq ?_
 refine c_region ?_
 refine l_val (v := .agg #[.slice p2 (bs.length) c3, .slice q4 (rs.length) d5, Ix (gx), Ix (gy)]) rfl rfl rfl (e_load tf86 (cs := [.slice p2 (bs.length) c3, .slice q4 (rs.length) d5, Ix (gx), Ix (gy)]) rfl (k_pt 8 (cs := #[.slice p2 (bs.length) c3, .slice q4 (rs.length) d5, Ix (gx), Ix (gy)]) (vs := [.slice p2 (bs.length) c3, .slice q4 (rs.length) d5, Ix (gx), Ix (gy)]) rfl rfl) rfl) ?_
 refine l_call rfl rfl rfl (cl_value (fst := []) (cap := []) (vs := [.agg #[.slice p2 (bs.length) c3, .slice q4 (rs.length) d5, Ix (gx), Ix (gy)]]) (all := [.agg #[.slice p2 (bs.length) c3, .slice q4 (rs.length) d5, Ix (gx), Ix (gy)]]) tf153 rfl rfl rfl) ?_
 intro w hw
 replace hw := hw.perm (L' := _ :: _ :: _ :: _ :: _ :: _ :: _ :: _ :: _ :: _ :: _ :: _ :: []) (by exact ((((((((((((perm_front 11 rfl).trans (perm_front 9 rfl)).trans (perm_front 9 rfl)).trans (perm_front 9 rfl)).trans (perm_front 9 rfl)).trans (perm_front 9 rfl)).trans (perm_front 9 rfl)).trans (perm_front 9 rfl)).trans (perm_front 9 rfl)).trans (perm_front 9 rfl)).trans (perm_front 11 rfl)).trans (perm_front 11 rfl)))
 obtain ⟨β1, sb, kn, hw1, back⟩ := St.frame (L := [_, _]) (M := _ :: _ :: _ :: _ :: _ :: _ :: _ :: _ :: _ :: _ :: []) hw
 refine (overS_ok β1 w _ _ _ _ _ _ gx gy _ _ (lentL_len _ _) (lentL_len _ _) (by omega) (by omega) hw1).mono ?_
 rintro e w' ⟨zs21, ts22, rfl, hw'⟩
 refine ⟨_, rfl, _, back _ _ hw', ?_⟩
 clear hw hw1 hw' back kn sb
 refine l_nil ?_
 refine f_then ?_
 refine c_seq ?_
 refine c_region ?_
 refine l_val (v := .agg #[.slice p7 (bs.length) c8, .slice p9 (rs.length) c10, Ix (gx), Ix (gy)]) rfl rfl rfl (e_load tf86 (cs := [.slice p7 (bs.length) c8, .slice p9 (rs.length) c10, Ix (gx), Ix (gy)]) rfl (k_pt 6 (cs := #[.slice p7 (bs.length) c8, .slice p9 (rs.length) c10, Ix (gx), Ix (gy)]) (vs := [.slice p7 (bs.length) c8, .slice p9 (rs.length) c10, Ix (gx), Ix (gy)]) rfl rfl) rfl) ?_
 refine l_val (v := .agg #[.slice p14 (bs.length) c15, .slice p16 (rs.length) c17, Ix (gx), Ix (gy)]) rfl rfl rfl (e_load tf86 (cs := [.slice p14 (bs.length) c15, .slice p16 (rs.length) c17, Ix (gx), Ix (gy)]) rfl (k_pt 2 (cs := #[.slice p14 (bs.length) c15, .slice p16 (rs.length) c17, Ix (gx), Ix (gy)]) (vs := [.slice p14 (bs.length) c15, .slice p16 (rs.length) c17, Ix (gx), Ix (gy)]) rfl rfl) rfl) ?_
 refine l_call rfl rfl rfl (cl_value (fst := []) (cap := []) (vs := [.agg #[.slice p7 (bs.length) c8, .slice p9 (rs.length) c10, Ix (gx), Ix (gy)], .agg #[.slice p14 (bs.length) c15, .slice p16 (rs.length) c17, Ix (gx), Ix (gy)]]) (all := [.agg #[.slice p7 (bs.length) c8, .slice p9 (rs.length) c10, Ix (gx), Ix (gy)], .agg #[.slice p14 (bs.length) c15, .slice p16 (rs.length) c17, Ix (gx), Ix (gy)]]) tf144 rfl rfl rfl) ?_
 intro w hw
 obtain ⟨β1, sb, kn, hw1, back⟩ := St.frame_all hw
 refine (eqScene_ok β1 w hw1 _ _ _ _ (gx) (gy) B rs (kn _ (k_flN 7 (F := BodyF) (m := bs.length) (xs := B) rfl (by omega))) (kn _ (k_flN 8 (F := RopeF) (m := rs.length) (xs := rs) rfl rfl)) (kn _ (k_flN 3 (F := BodyF) (m := bs.length) (xs := B) rfl (by omega))) (kn _ (k_flN 4 (F := RopeF) (m := rs.length) (xs := rs) rfl rfl))).mono ?_
 rintro e w' ⟨rfl, hw'⟩
 refine ⟨_, rfl, _, back _ _ hw', ?_⟩
 clear hw hw1 hw' back kn sb
 refine l_val (v := .bool true) rfl rfl rfl (e_assign) ?_
 refine l_nil ?_
 refine f_then ?_
 refine c_ret ?_
 refine ret1 Tryd.results13 (v := .bool true) rfl ?_
 intro w hw
 exact ⟨rfl, st_mask [false, false, false, false, false, false, false, false, false, false, false, false] rfl hw⟩
set_option maxHeartbeats 4000000 in
theorem stepsN_ok (β : Base) (w : World) (hw : St β [] w) (v rv : Value) (gx gy : Int) (bs : List KB) (rs : List KR) (hs : Sl KBR β.heap v bs) (hr : Sl KRR β.heap rv rs) (hgx : -9223372036854775808 ≤ gx ∧ gx ≤ 9223372036854775807) (hgy : -9223372036854775808 ≤ gy ∧ gy ≤ 9223372036854775807) (hG : GR β) (hbn : bs.length ≤ 10) (hrn : rs.length ≤ 6) (hokS : ¬ okS bs rs gx gy) : Calls Tryd.prog 13 #[.agg #[v, rv, Ix gx, Ix gy]] w fun r w' => r = .returned (.bool true) ∧ St β [] w' := by
 obtain ⟨va, vc, rfl, vl, vm, ve⟩ := hs.get
 obtain ⟨rva, rvc, rfl, rvl, rvm, rve⟩ := hr.get
 refine enter (n := 50) Tryd.func13 rfl Tryd.ntmps13 rfl ?_ hw
 refine c_seq ?_
 refine c_region ?_
 refine l_mv rfl rfl rfl (m_box (v := .agg #[.slice va (bs.length) (vc), .slice rva (rs.length) (rvc), Ix (gx), Ix (gy)]) rfl) ?_
 rintro _ _ ⟨b1, rfl, rfl⟩
 refine l_val (v := .bool false) rfl rfl rfl (e_assign) ?_
 refine l_nil ?_
 refine f_then ?_
 refine c_seq ?_
 refine c_region ?_
 refine l_val (v := .agg #[.slice va (bs.length) (vc), .slice rva (rs.length) (rvc), Ix (gx), Ix (gy)]) rfl rfl rfl (e_load tf86 (cs := [.slice va (bs.length) (vc), .slice rva (rs.length) (rvc), Ix (gx), Ix (gy)]) rfl (k_pt 0 (cs := #[.slice va (bs.length) (vc), .slice rva (rs.length) (rvc), Ix (gx), Ix (gy)]) (vs := [.slice va (bs.length) (vc), .slice rva (rs.length) (rvc), Ix (gx), Ix (gy)]) rfl rfl) rfl) ?_
 refine l_call rfl rfl rfl (cl_value (fst := []) (cap := []) (vs := [.agg #[.slice va (bs.length) (vc), .slice rva (rs.length) (rvc), Ix (gx), Ix (gy)]]) (all := [.agg #[.slice va (bs.length) (vc), .slice rva (rs.length) (rvc), Ix (gx), Ix (gy)]]) tf149 rfl rfl rfl) ?_
 intro w hw
 obtain ⟨β1, sb, kn, hw1, back⟩ := St.frame_all hw
 refine (lentS_ok β1 w hw1 _ _ gx gy bs rs (Sl.mono _ _ _ _ _ sb (⟨⟨_, _, rfl, vl, vm, ve⟩⟩ : Sl KBR _ _ bs)) (Sl.mono _ _ _ _ _ sb (⟨⟨_, _, rfl, rvl, rvm, rve⟩⟩ : Sl KRR _ _ rs)) (by omega) (by omega)).mono ?_
 rintro e w' ⟨p2, c3, q4, d5, rfl, hw'⟩
 refine ⟨_, rfl, _, back _ _ hw', ?_⟩
 clear hw hw1 hw' back kn sb
 refine l_mv rfl rfl rfl (m_alloc tf85) ?_
 rintro _ _ ⟨b6, rfl, rfl⟩
 refine l_mu rfl rfl (m_store 0 tf86 (b := b6) (o := 0) (T := 27) (cs := #[.slice none 0 0, .slice none 0 0, .int .i64 (0), .int .i64 (0)]) (cs' := #[.slice p2 (bs.length) c3, .slice q4 (rs.length) d5, Ix (gx), Ix (gy)]) (v := .agg #[.slice p2 (bs.length) c3, .slice q4 (rs.length) d5, Ix (gx), Ix (gy)]) rfl rfl rfl rfl rfl rfl rfl) ?_
 refine l_nil ?_
 refine f_then ?_
 refine c_seq ?_
 refine c_region ?_
 refine l_val (v := .agg #[.slice p2 (bs.length) c3, .slice q4 (rs.length) d5, Ix (gx), Ix (gy)]) rfl rfl rfl (e_load tf86 (cs := [.slice p2 (bs.length) c3, .slice q4 (rs.length) d5, Ix (gx), Ix (gy)]) rfl (k_pt 0 (cs := #[.slice p2 (bs.length) c3, .slice q4 (rs.length) d5, Ix (gx), Ix (gy)]) (vs := [.slice p2 (bs.length) c3, .slice q4 (rs.length) d5, Ix (gx), Ix (gy)]) rfl rfl) rfl) ?_
 refine l_call rfl rfl rfl (cl_value (fst := []) (cap := []) (vs := [.agg #[.slice p2 (bs.length) c3, .slice q4 (rs.length) d5, Ix (gx), Ix (gy)]]) (all := [.agg #[.slice p2 (bs.length) c3, .slice q4 (rs.length) d5, Ix (gx), Ix (gy)]]) tf104 rfl rfl rfl) ?_
 intro w hw
 obtain ⟨β1, sb, kn, hw1, back⟩ := St.frame_all hw
 refine (stepN_ok β1 w hw1 _ _ gx gy bs rs (kn _ (k_flPre 1 (F := BodyF) (xs := bs) rfl rfl)) (kn _ (k_flPre 2 (F := RopeF) (xs := rs) rfl rfl)) hgx hgy (GR.mono sb hG) hokS).mono ?_
 rintro e w' ⟨rfl, hw'⟩
 refine ⟨_, rfl, _, back _ _ hw', ?_⟩
 clear hw hw1 hw' back kn sb
 refine l_val (v := .tuple #[.agg #[.slice none 0 0, .slice none 0 0, .int .i64 (0), .int .i64 (0)], .slice none 0 0, .int .i64 (2)]) rfl rfl rfl (e_move) ?_
 refine l_val (v := .agg #[.slice none 0 0, .slice none 0 0, .int .i64 (0), .int .i64 (0)]) rfl rfl rfl (e_extract (vs := #[.agg #[.slice none 0 0, .slice none 0 0, .int .i64 (0), .int .i64 (0)], .slice none 0 0, .int .i64 (2)]) rfl rfl) ?_
 refine l_val (v := .slice none 0 0) rfl rfl rfl (e_extract (vs := #[.agg #[.slice none 0 0, .slice none 0 0, .int .i64 (0), .int .i64 (0)], .slice none 0 0, .int .i64 (2)]) rfl rfl) ?_
 refine l_val (v := .int .i64 (2)) rfl rfl rfl (e_extract (vs := #[.agg #[.slice none 0 0, .slice none 0 0, .int .i64 (0), .int .i64 (0)], .slice none 0 0, .int .i64 (2)]) rfl rfl) ?_
 refine l_mv rfl rfl rfl (m_alloc tf85) ?_
 rintro _ _ ⟨b7, rfl, rfl⟩
 refine l_mu rfl rfl (m_store 0 tf86 (b := b7) (o := 0) (T := 27) (cs := #[.slice none 0 0, .slice none 0 0, .int .i64 (0), .int .i64 (0)]) (cs' := #[.slice none 0 0, .slice none 0 0, .int .i64 (0), .int .i64 (0)]) (v := .agg #[.slice none 0 0, .slice none 0 0, .int .i64 (0), .int .i64 (0)]) rfl rfl rfl rfl rfl rfl rfl) ?_
 refine l_val (v := .slice none 0 0) rfl rfl rfl (e_assign) ?_
 refine l_val (v := .int .i64 (2)) rfl rfl rfl (e_assign) ?_
 refine l_nil ?_
 refine f_then ?_
 refine c_seq ?_
 refine c_region ?_
 refine l_val (v := .agg #[.slice va (bs.length) (vc), .slice rva (rs.length) (rvc), Ix (gx), Ix (gy)]) rfl rfl rfl (e_load tf86 (cs := [.slice va (bs.length) (vc), .slice rva (rs.length) (rvc), Ix (gx), Ix (gy)]) rfl (k_pt 4 (cs := #[.slice va (bs.length) (vc), .slice rva (rs.length) (rvc), Ix (gx), Ix (gy)]) (vs := [.slice va (bs.length) (vc), .slice rva (rs.length) (rvc), Ix (gx), Ix (gy)]) rfl rfl) rfl) ?_
 refine l_call rfl rfl rfl (cl_value (fst := []) (cap := []) (vs := [.agg #[.slice va (bs.length) (vc), .slice rva (rs.length) (rvc), Ix (gx), Ix (gy)]]) (all := [.agg #[.slice va (bs.length) (vc), .slice rva (rs.length) (rvc), Ix (gx), Ix (gy)]]) tf150 rfl rfl rfl) ?_
 intro w hw
 obtain ⟨β1, sb, kn, hw1, back⟩ := St.frame_all hw
 refine (stepRN_ok β1 w hw1 _ _ gx gy bs rs (Sl.mono _ _ _ _ _ sb (⟨⟨_, _, rfl, vl, vm, ve⟩⟩ : Sl KBR _ _ bs)) (Sl.mono _ _ _ _ _ sb (⟨⟨_, _, rfl, rvl, rvm, rve⟩⟩ : Sl KRR _ _ rs)) hokS).mono ?_
 rintro e w' ⟨rfl, hw'⟩
 refine ⟨_, rfl, _, back _ _ hw', ?_⟩
 clear hw hw1 hw' back kn sb
 refine l_val (v := .tuple #[.agg #[.slice none 0 0, .slice none 0 0, .int .i64 (0), .int .i64 (0)], .slice none 0 0, .int .i64 (2)]) rfl rfl rfl (e_move) ?_
 refine l_val (v := .agg #[.slice none 0 0, .slice none 0 0, .int .i64 (0), .int .i64 (0)]) rfl rfl rfl (e_extract (vs := #[.agg #[.slice none 0 0, .slice none 0 0, .int .i64 (0), .int .i64 (0)], .slice none 0 0, .int .i64 (2)]) rfl rfl) ?_
 refine l_val (v := .slice none 0 0) rfl rfl rfl (e_extract (vs := #[.agg #[.slice none 0 0, .slice none 0 0, .int .i64 (0), .int .i64 (0)], .slice none 0 0, .int .i64 (2)]) rfl rfl) ?_
 refine l_val (v := .int .i64 (2)) rfl rfl rfl (e_extract (vs := #[.agg #[.slice none 0 0, .slice none 0 0, .int .i64 (0), .int .i64 (0)], .slice none 0 0, .int .i64 (2)]) rfl rfl) ?_
 refine l_mv rfl rfl rfl (m_alloc tf85) ?_
 rintro _ _ ⟨b8, rfl, rfl⟩
 refine l_mu rfl rfl (m_store 0 tf86 (b := b8) (o := 0) (T := 27) (cs := #[.slice none 0 0, .slice none 0 0, .int .i64 (0), .int .i64 (0)]) (cs' := #[.slice none 0 0, .slice none 0 0, .int .i64 (0), .int .i64 (0)]) (v := .agg #[.slice none 0 0, .slice none 0 0, .int .i64 (0), .int .i64 (0)]) rfl rfl rfl rfl rfl rfl rfl) ?_
 refine l_val (v := .slice none 0 0) rfl rfl rfl (e_assign) ?_
 refine l_val (v := .int .i64 (2)) rfl rfl rfl (e_assign) ?_
 refine l_nil ?_
 refine f_then ?_
 refine c_seq ?_
 refine c_seq ?_
 refine c_region ?_
 refine l_val (v := .int .i64 (2)) rfl rfl rfl (e_move) ?_
 refine l_val (v := .int .i64 (2)) rfl rfl rfl (e_move) ?_
 refine l_val (v := .bool false) rfl rfl rfl (e_neq (a := (2 : Int)) (b := (2 : Int)) rfl rfl) ?_
 refine l_val (v := .bool false) rfl rfl rfl (e_move) ?_
 refine g_val (v := .agg #[.slice none 0 0, .slice none 0 0, .int .i64 (0), .int .i64 (0)]) rfl rfl rfl rfl rfl (e_load tf86 (cs := [.slice none 0 0, .slice none 0 0, .int .i64 (0), .int .i64 (0)]) rfl (k_pt 1 (cs := #[.slice none 0 0, .slice none 0 0, .int .i64 (0), .int .i64 (0)]) (vs := [.slice none 0 0, .slice none 0 0, .int .i64 (0), .int .i64 (0)]) rfl rfl) rfl) ?_
 refine g_val (v := .agg #[.slice none 0 0, .slice none 0 0, .int .i64 (0), .int .i64 (0)]) rfl rfl rfl rfl rfl (e_load tf86 (cs := [.slice none 0 0, .slice none 0 0, .int .i64 (0), .int .i64 (0)]) rfl (k_pt 0 (cs := #[.slice none 0 0, .slice none 0 0, .int .i64 (0), .int .i64 (0)]) (vs := [.slice none 0 0, .slice none 0 0, .int .i64 (0), .int .i64 (0)]) rfl rfl) rfl) ?_
 refine g_call rfl rfl rfl rfl rfl (cl_value (fst := []) (cap := []) (vs := [.agg #[.slice none 0 0, .slice none 0 0, .int .i64 (0), .int .i64 (0)], .agg #[.slice none 0 0, .slice none 0 0, .int .i64 (0), .int .i64 (0)]]) (all := [.agg #[.slice none 0 0, .slice none 0 0, .int .i64 (0), .int .i64 (0)], .agg #[.slice none 0 0, .slice none 0 0, .int .i64 (0), .int .i64 (0)]]) tf144 rfl rfl rfl) ?_
 intro w hw
 obtain ⟨β1, sb, kn, hw1, back⟩ := St.frame_all hw
 refine (eqScene_ok β1 w hw1 _ _ _ _ (0 : Int) (0 : Int) [] [] (Sl.nil _ _) (Sl.nil _ _) (Sl.nil _ _) (Sl.nil _ _)).mono ?_
 rintro e w' ⟨rfl, hw'⟩
 refine ⟨_, rfl, _, back _ _ hw', ?_⟩
 clear hw hw1 hw' back kn sb
 refine g_val (v := .bool false) rfl rfl rfl rfl rfl (e_not (a := true) rfl) ?_
 refine l_val (v := .bool false) rfl rfl rfl (e_pick_f rfl) ?_
 refine l_val (v := .bool false) rfl rfl rfl (e_move) ?_
 refine g_val (v := .slice none 0 0) rfl rfl rfl rfl rfl (e_move) ?_
 refine g_val (v := .slice none 0 0) rfl rfl rfl rfl rfl (e_move) ?_
 refine g_call rfl rfl rfl rfl rfl (cl_value (fst := []) (cap := []) (vs := [.slice none 0 0, .slice none 0 0]) (all := [.slice none 0 0, .slice none 0 0]) tf151 rfl rfl rfl) ?_
 intro w hw
 obtain ⟨β1, sb, kn, hw1, back⟩ := St.frame_all hw
 refine (eqS_ok β1 w hw1 _ _ [] (Sl.nil _ _) (Sl.nil _ _)).mono ?_
 rintro e w' ⟨rfl, hw'⟩
 refine ⟨_, rfl, _, back _ _ hw', ?_⟩
 clear hw hw1 hw' back kn sb
 refine g_val (v := .bool false) rfl rfl rfl rfl rfl (e_not (a := true) rfl) ?_
 refine l_val (v := .bool false) rfl rfl rfl (e_pick_f rfl) ?_
 refine l_val (v := .bool false) rfl rfl rfl (e_move) ?_
 refine g_val (v := .agg #[.slice p2 (bs.length) c3, .slice q4 (rs.length) d5, Ix (gx), Ix (gy)]) rfl rfl rfl rfl rfl (e_load tf86 (cs := [.slice p2 (bs.length) c3, .slice q4 (rs.length) d5, Ix (gx), Ix (gy)]) rfl (k_pt 2 (cs := #[.slice p2 (bs.length) c3, .slice q4 (rs.length) d5, Ix (gx), Ix (gy)]) (vs := [.slice p2 (bs.length) c3, .slice q4 (rs.length) d5, Ix (gx), Ix (gy)]) rfl rfl) rfl) ?_
 refine g_val (v := .agg #[.slice va (bs.length) (vc), .slice rva (rs.length) (rvc), Ix (gx), Ix (gy)]) rfl rfl rfl rfl rfl (e_load tf86 (cs := [.slice va (bs.length) (vc), .slice rva (rs.length) (rvc), Ix (gx), Ix (gy)]) rfl (k_pt 5 (cs := #[.slice va (bs.length) (vc), .slice rva (rs.length) (rvc), Ix (gx), Ix (gy)]) (vs := [.slice va (bs.length) (vc), .slice rva (rs.length) (rvc), Ix (gx), Ix (gy)]) rfl rfl) rfl) ?_
 refine g_call rfl rfl rfl rfl rfl (cl_value (fst := []) (cap := []) (vs := [.agg #[.slice p2 (bs.length) c3, .slice q4 (rs.length) d5, Ix (gx), Ix (gy)], .agg #[.slice va (bs.length) (vc), .slice rva (rs.length) (rvc), Ix (gx), Ix (gy)]]) (all := [.agg #[.slice p2 (bs.length) c3, .slice q4 (rs.length) d5, Ix (gx), Ix (gy)], .agg #[.slice va (bs.length) (vc), .slice rva (rs.length) (rvc), Ix (gx), Ix (gy)]]) tf152 rfl rfl rfl) ?_
 intro w hw
 obtain ⟨β1, sb, kn, hw1, back⟩ := St.frame_all hw
 refine (keptS_ok β1 w hw1 _ _ _ _ _ _ gx gy bs rs (by omega) (by omega) (kn _ (k_fl 3 (F := BodyF) rfl)) (kn _ (k_fl 4 (F := RopeF) rfl)) (Sl.mono _ _ _ _ _ sb (⟨⟨_, _, rfl, vl, vm, ve⟩⟩ : Sl KBR _ _ bs)) (Sl.mono _ _ _ _ _ sb (⟨⟨_, _, rfl, rvl, rvm, rve⟩⟩ : Sl KRR _ _ rs))).mono ?_
 rintro e w' ⟨rfl, hw'⟩
 refine ⟨_, rfl, _, back _ _ hw', ?_⟩
 clear hw hw1 hw' back kn sb
 refine g_val (v := .bool false) rfl rfl rfl rfl rfl (e_not (a := true) rfl) ?_
 refine l_val (v := .bool false) rfl rfl rfl (e_pick_f rfl) ?_
 refine l_nil ?_
 refine f_then ?_
 refine c_no rfl ?_
 refine c_skip ?_
 refine f_then ?_
 refine c_seq ?_
 refine c_region ?_
 refine l_val (v := .agg #[.slice p2 (bs.length) c3, .slice q4 (rs.length) d5, Ix (gx), Ix (gy)]) rfl rfl rfl (e_load tf86 (cs := [.slice p2 (bs.length) c3, .slice q4 (rs.length) d5, Ix (gx), Ix (gy)]) rfl (k_pt 2 (cs := #[.slice p2 (bs.length) c3, .slice q4 (rs.length) d5, Ix (gx), Ix (gy)]) (vs := [.slice p2 (bs.length) c3, .slice q4 (rs.length) d5, Ix (gx), Ix (gy)]) rfl rfl) rfl) ?_
 refine l_call rfl rfl rfl (cl_value (fst := []) (cap := []) (vs := [.agg #[.slice p2 (bs.length) c3, .slice q4 (rs.length) d5, Ix (gx), Ix (gy)]]) (all := [.agg #[.slice p2 (bs.length) c3, .slice q4 (rs.length) d5, Ix (gx), Ix (gy)]]) tf153 rfl rfl rfl) ?_
 intro w hw
 replace hw := hw.perm (L' := _ :: _ :: _ :: _ :: _ :: _ :: []) (by exact ((((((perm_front 5 rfl).trans (perm_front 3 rfl)).trans (perm_front 3 rfl)).trans (perm_front 3 rfl)).trans (perm_front 5 rfl)).trans (perm_front 5 rfl)))
 obtain ⟨β1, sb, kn, hw1, back⟩ := St.frame (L := [_, _]) (M := _ :: _ :: _ :: _ :: []) hw
 refine (overS_ok β1 w _ _ _ _ _ _ gx gy _ _ (lentL_len _ _) (lentL_len _ _) (by omega) (by omega) hw1).mono ?_
 rintro e w' ⟨zs9, ts10, rfl, hw'⟩
 refine ⟨_, rfl, _, back _ _ hw', ?_⟩
 clear hw hw1 hw' back kn sb
 refine l_nil ?_
 refine f_then ?_
 refine c_seq ?_
 refine c_region ?_
 refine l_val (v := .agg #[.slice none 0 0, .slice none 0 0, .int .i64 (0), .int .i64 (0)]) rfl rfl rfl (e_load tf86 (cs := [.slice none 0 0, .slice none 0 0, .int .i64 (0), .int .i64 (0)]) rfl (k_pt 3 (cs := #[.slice none 0 0, .slice none 0 0, .int .i64 (0), .int .i64 (0)]) (vs := [.slice none 0 0, .slice none 0 0, .int .i64 (0), .int .i64 (0)]) rfl rfl) rfl) ?_
 refine l_val (v := .agg #[.slice none 0 0, .slice none 0 0, .int .i64 (0), .int .i64 (0)]) rfl rfl rfl (e_load tf86 (cs := [.slice none 0 0, .slice none 0 0, .int .i64 (0), .int .i64 (0)]) rfl (k_pt 2 (cs := #[.slice none 0 0, .slice none 0 0, .int .i64 (0), .int .i64 (0)]) (vs := [.slice none 0 0, .slice none 0 0, .int .i64 (0), .int .i64 (0)]) rfl rfl) rfl) ?_
 refine l_call rfl rfl rfl (cl_value (fst := []) (cap := []) (vs := [.agg #[.slice none 0 0, .slice none 0 0, .int .i64 (0), .int .i64 (0)], .agg #[.slice none 0 0, .slice none 0 0, .int .i64 (0), .int .i64 (0)]]) (all := [.agg #[.slice none 0 0, .slice none 0 0, .int .i64 (0), .int .i64 (0)], .agg #[.slice none 0 0, .slice none 0 0, .int .i64 (0), .int .i64 (0)]]) tf144 rfl rfl rfl) ?_
 intro w hw
 obtain ⟨β1, sb, kn, hw1, back⟩ := St.frame_all hw
 refine (eqScene_ok β1 w hw1 _ _ _ _ (0 : Int) (0 : Int) [] [] (Sl.nil _ _) (Sl.nil _ _) (Sl.nil _ _) (Sl.nil _ _)).mono ?_
 rintro e w' ⟨rfl, hw'⟩
 refine ⟨_, rfl, _, back _ _ hw', ?_⟩
 clear hw hw1 hw' back kn sb
 refine l_val (v := .bool true) rfl rfl rfl (e_assign) ?_
 refine l_nil ?_
 refine f_then ?_
 refine c_ret ?_
 refine ret1 Tryd.results13 (v := .bool true) rfl ?_
 intro w hw
 exact ⟨rfl, st_mask [false, false, false, false, false, false] rfl hw⟩
theorem steps_ok (β : Base) (w : World) (hw : St β [] w) (v rv : Value) (gx gy : Int) (bs : List KB) (rs : List KR) (hs : Sl KBR β.heap v bs) (hr : Sl KRR β.heap rv rs) (hgx : -9223372036854775808 ≤ gx ∧ gx ≤ 9223372036854775807) (hgy : -9223372036854775808 ≤ gy ∧ gy ≤ 9223372036854775807) (hG : GR β) (hbn : bs.length ≤ 10) (hrn : rs.length ≤ 6) : Calls Tryd.prog 13 #[.agg #[v, rv, Ix gx, Ix gy]] w fun r w' => r = .returned (.bool true) ∧ St β [] w' := by
 by_cases h : okS bs rs gx gy
 ·exact stepsY_ok β w hw v rv gx gy bs rs hs hr hgx hgy hG hbn hrn h
 ·exact stepsN_ok β w hw v rv gx gy bs rs hs hr hgx hgy hG hbn hrn h
end Go.Proofs
