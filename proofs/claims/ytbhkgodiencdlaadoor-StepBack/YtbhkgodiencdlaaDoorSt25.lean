/-
 StepBack, walked. Printed by a program of my own.
-/
import Derived.Test.YtbhkgodiencdlaaDoorSt11
import Derived.Test.YtbhkgodiencdlaaDoorSt24
import Derived.Test.YtbhkgodiencdlaaDoorStBackL
import Derived.Test.YtbhkgodiencdlaaDoorSlC
namespace Go.Proofs
open Go Go.Sl Go.Stp
theorem el_same {α : Type} {xs : List α} {k : Nat} {a b : α} (h1 : xs[k]? = some a) (h2 : xs[k]? = some b) : a = b := some_eq h1 h2
theorem tg145 : lay Tryd.prog 10000 31 = some [.int .i64, .int .i64, .int .i64, .int .i64, .int .i64, .int .i64, .int .i64, .bool, .bool] := by kernel_rfl
theorem tg146 : isAggT Tryd.prog 31 = true := by kernel_rfl
theorem tg147 : Tryd.prog.eqGuardType Tryd.prog.depth 31 = false := by kernel_rfl
theorem tg148 : lay Tryd.prog 10000 35 = some [.int .i64, .int .i64, .int .i64] := by kernel_rfl
theorem tg149 : isAggT Tryd.prog 35 = true := by kernel_rfl
theorem tg150 : Tryd.prog.eqGuardType Tryd.prog.depth 35 = false := by kernel_rfl
theorem tg151 : lay Tryd.prog 10000 73 = some [.int .u8, .int .i64, .int .i64, .int .i64, .int .i64] := by kernel_rfl
theorem tg152 : isAggT Tryd.prog 73 = true := by kernel_rfl
theorem tg153 : Tryd.prog.eqGuardType Tryd.prog.depth 73 = false := by kernel_rfl
theorem tg154 : cfB Tryd.prog 20 = true := by kernel_rfl
theorem tg155 : cfB Tryd.prog 59 = true := by kernel_rfl
theorem tg156 : cfB Tryd.prog 64 = true := by kernel_rfl
theorem tg157 : cfB Tryd.prog 14 = true := by kernel_rfl
theorem tg158 : cfB Tryd.prog 21 = true := by kernel_rfl
theorem tg159 : (Tryd.prog.info? 66).bind (·.zero) = some (.agg #[.int .i64 (0), .int .i64 (0), .int .i64 (0), .int .i64 (0)]) := by kernel_rfl
theorem tg160 : stB Tryd.prog 73 [(0, 1), (1, 4)] = true := by kernel_rfl
theorem tg161 : (Tryd.prog.info? 73).bind (·.zero) = some (.agg #[.int .u8 (0), .int .i64 (0), .int .i64 (0), .int .i64 (0), .int .i64 (0)]) := by kernel_rfl
theorem tg162 : cfB Tryd.prog 31 = true := by kernel_rfl
theorem tg163 : stB Tryd.prog 76 [(0, 1), (1, 1)] = true := by kernel_rfl
theorem tg164 : Tryd.prog.underlying 55 = some (.int .i16) := by kernel_rfl
theorem tg165 : cfB Tryd.prog 32 = true := by kernel_rfl
theorem tg166 : cfB Tryd.prog 33 = true := by kernel_rfl
theorem tg167 : cfB Tryd.prog 35 = true := by kernel_rfl
theorem tg168 : tyB Tryd.prog 66 true 4 = true := by kernel_rfl
theorem tg169 : lay Tryd.prog 10000 66 = some [.int .i64, .int .i64, .int .i64, .int .i64] := by kernel_rfl
theorem tg170 : isAggT Tryd.prog 66 = true := by kernel_rfl
theorem tg171 : Tryd.prog.eqGuardType Tryd.prog.depth 66 = false := by kernel_rfl
theorem tg172 : cfB Tryd.prog 36 = true := by kernel_rfl
set_option maxHeartbeats 4000000 in
theorem eqB_ok (β : Base) (w : World) (hw : St β [] w) (v u : Value) (xs : List KB) (hs : Sl KBR β.heap v xs) (hu : Sl KBR β.heap u xs) : Calls Tryd.prog 20 #[v, u] w fun r w' => r = .returned (.bool true) ∧ St β [] w' := by
 obtain ⟨va, vc, rfl, vl, vm, ve⟩ := hs.get
 obtain ⟨ua, uc, rfl, ul, um, ue⟩ := hu.get
 refine enter (n := 26) Tryd.func20 rfl Tryd.ntmps20 rfl ?_ hw
 refine csr ?_
 refine l_val (v := .bool false) rfl rfl rfl e_assign ?_
 refine lnf ?_
 refine cs2 ?_
 refine c_region ?_
 refine lv (v := sB va xs (vc)) e_move ?_
 refine lv (v := Nx (xs.length)) (e_len (a := va) (n := xs.length) (c := vc) rfl tf40) ?_
 refine lv (v := sB ua xs (uc)) e_move ?_
 refine lv (v := Nx (xs.length)) (e_len (a := ua) (n := xs.length) (c := uc) rfl tf40) ?_
 refine lv (e_neq (a := ((xs.length : Nat) : Int)) (b := ((xs.length : Nat) : Int)) rfl rfl) ?_
 refine lnf ?_
 refine c_if (((xs.length : Nat) : Int) ≠ ((xs.length : Nat) : Int)) rfl (fun hc1 => ?_) (fun hc1 => ?_)
 ·exact absurd hc1 (by omega)
 refine csk ?_
 refine cs2 ?_
 refine c_region ?_
 refine l_val (v := .int .i64 (0)) rfl rfl rfl e_assign ?_
 refine lnf ?_
 refine c_block ?_
 refine c_loop (fun (k : Nat) (f : Fm) (L : List Res) => (f 0 = sB va xs (vc) ∧ f 1 = sB ua xs (uc) ∧ f 5 = Nx (k)) ∧ L = [] ∧ (k ≤ xs.length)) (fun (k : Nat) => xs.length - k) 0 ?_ ?_
 ·exact ⟨⟨rfl, rfl, rfl⟩, rfl, (by omega)⟩
 rintro k f0 L0 ⟨⟨hs0, hs1, hs5⟩, hL, hk⟩
 subst L0
 refine rebase (d := 0) hs0 ?_
 refine rebase (d := 1) hs1 ?_
 refine rebase (d := 5) hs5 ?_
 clear hs0 hs1 hs5
 refine cs2 ?_
 refine c_region ?_
 refine lv (v := Nx (k)) e_move ?_
 refine lv (v := sB va xs (vc)) e_move ?_
 refine lv (v := Nx (xs.length)) (e_len (a := va) (n := xs.length) (c := vc) rfl tf40) ?_
 refine lv (e_lss (a := ((k : Nat) : Int)) (b := ((xs.length : Nat) : Int)) rfl rfl) ?_
 refine lnf ?_
 refine c_if (((k : Nat) : Int) < ((xs.length : Nat) : Int)) rfl (fun hc2 => ?_) (fun hc2 => ?_)
 ·refine csk ?_
  refine c_seq ?_
  refine c_block ?_
  refine c_seq ?_
  refine c_quiet (by kernel_rfl) (by kernel_rfl) ?_
  refine q_val (v := sB va xs (vc)) rfl rfl rfl e_move ?_
  refine q_val (v := Nx (k)) rfl rfl rfl e_move ?_
  obtain ⟨x3, hx4⟩ : ∃ x_, (xs)[k]? = some x_ := ⟨_, List.getElem?_eq_getElem (by omega)⟩
  obtain ⟨ha5, cs6, hc7, rfl⟩ := ve _ _ hx4
  refine q_val (v := .pointer (some ((ba va).add (k * 9)))) rfl rfl rfl (e_indexAddr (k := k) (len := xs.length) (cap := vc) (a := va) rfl rfl tf43 (by omega) ha5) ?_
  refine q_val (v := .agg (bC x3)) rfl rfl rfl (e_load tf22 rfl (kB hc7) rfl) ?_
  refine q_val (v := sB ua xs (uc)) rfl rfl rfl e_move ?_
  refine q_val (v := Nx (k)) rfl rfl rfl e_move ?_
  obtain ⟨x9, hx10⟩ : ∃ x_, (xs)[k]? = some x_ := ⟨_, List.getElem?_eq_getElem (by omega)⟩
  obtain ⟨ha11, cs12, hc13, rfl⟩ := ue _ _ hx10
  refine q_val (v := .pointer (some ((ba ua).add (k * 9)))) rfl rfl rfl (e_indexAddr (k := k) (len := xs.length) (cap := uc) (a := ua) rfl rfl tf43 (by omega) ha11) ?_
  refine q_val (v := .agg (bC x9)) rfl rfl rfl (e_load tf22 rfl (kB hc13) rfl) ?_
  refine q_val (v := .bool (decide (¬ (x3 = x9)))) rfl rfl rfl (e_neq_t (xs := (bodyE x3)) (ys := (bodyE x9)) tg145 tg146 tg147 rfl rfl rfl rfl (not_congr body_eq)) ?_
  refine q_nil ?_
  refine f_then ?_
  refine c_if (¬ (x3 = x9)) rfl (fun hc15 => ?_) (fun hc15 => ?_)
  ·exact absurd hc15 (Decidable.not_not.2 (el_same hx4 hx10))
  refine c_skip ?_
  refine f_block ?_
  refine f_then ?_
  refine c_region ?_
  refine lv (v := Nx (k)) e_move ?_
  refine lv (v := Nx (k + 1)) (e_add (a := ((k : Nat) : Int)) (b := (1 : Int)) rfl rfl (i64n (by omega) (by omega))) ?_
  refine lv (v := Nx (k + 1)) e_assign ?_
  refine l_nil ?_
  exact f_cut ⟨k + 1, ⟨⟨rfl, rfl, rfl⟩, rfl, (by omega)⟩, (show xs.length - (k + 1) < xs.length - k from by omega)⟩
 refine c_exit ?_
 refine f_then_exit ?_
 refine f_then_exit ?_
 refine f_exit ?_
 refine ftc ?_
 refine lv (v := .bool true) e_assign ?_
 refine lnf ?_
 refine c_ret ?_
 refine ret1 Tryd.results20 (v := .bool true) rfl ?_
 intro w hw
 exact ⟨rfl, st_mask [] rfl hw⟩
set_option maxHeartbeats 4000000 in
theorem eqR_ok (β : Base) (w : World) (hw : St β [] w) (v u : Value) (xs : List KR) (hs : Sl KRR β.heap v xs) (hu : Sl KRR β.heap u xs) : Calls Tryd.prog 59 #[v, u] w fun r w' => r = .returned (.bool true) ∧ St β [] w' := by
 obtain ⟨va, vc, rfl, vl, vm, ve⟩ := hs.get
 obtain ⟨ua, uc, rfl, ul, um, ue⟩ := hu.get
 refine enter (n := 26) Tryd.func59 rfl Tryd.ntmps59 rfl ?_ hw
 refine csr ?_
 refine l_val (v := .bool false) rfl rfl rfl e_assign ?_
 refine lnf ?_
 refine cs2 ?_
 refine c_region ?_
 refine lv (v := sB va xs (vc)) e_move ?_
 refine lv (v := Nx (xs.length)) (e_len (a := va) (n := xs.length) (c := vc) rfl tf45) ?_
 refine lv (v := sB ua xs (uc)) e_move ?_
 refine lv (v := Nx (xs.length)) (e_len (a := ua) (n := xs.length) (c := uc) rfl tf45) ?_
 refine lv (e_neq (a := ((xs.length : Nat) : Int)) (b := ((xs.length : Nat) : Int)) rfl rfl) ?_
 refine lnf ?_
 refine c_if (((xs.length : Nat) : Int) ≠ ((xs.length : Nat) : Int)) rfl (fun hc1 => ?_) (fun hc1 => ?_)
 ·exact absurd hc1 (by omega)
 refine csk ?_
 refine cs2 ?_
 refine c_region ?_
 refine l_val (v := .int .i64 (0)) rfl rfl rfl e_assign ?_
 refine lnf ?_
 refine c_block ?_
 refine c_loop (fun (k : Nat) (f : Fm) (L : List Res) => (f 0 = sB va xs (vc) ∧ f 1 = sB ua xs (uc) ∧ f 5 = Nx (k)) ∧ L = [] ∧ (k ≤ xs.length)) (fun (k : Nat) => xs.length - k) 0 ?_ ?_
 ·exact ⟨⟨rfl, rfl, rfl⟩, rfl, (by omega)⟩
 rintro k f0 L0 ⟨⟨hs0, hs1, hs5⟩, hL, hk⟩
 subst L0
 refine rebase (d := 0) hs0 ?_
 refine rebase (d := 1) hs1 ?_
 refine rebase (d := 5) hs5 ?_
 clear hs0 hs1 hs5
 refine cs2 ?_
 refine c_region ?_
 refine lv (v := Nx (k)) e_move ?_
 refine lv (v := sB va xs (vc)) e_move ?_
 refine lv (v := Nx (xs.length)) (e_len (a := va) (n := xs.length) (c := vc) rfl tf45) ?_
 refine lv (e_lss (a := ((k : Nat) : Int)) (b := ((xs.length : Nat) : Int)) rfl rfl) ?_
 refine lnf ?_
 refine c_if (((k : Nat) : Int) < ((xs.length : Nat) : Int)) rfl (fun hc2 => ?_) (fun hc2 => ?_)
 ·refine csk ?_
  refine c_seq ?_
  refine c_block ?_
  refine c_seq ?_
  refine c_quiet (by kernel_rfl) (by kernel_rfl) ?_
  refine q_val (v := sB va xs (vc)) rfl rfl rfl e_move ?_
  refine q_val (v := Nx (k)) rfl rfl rfl e_move ?_
  obtain ⟨x3, hx4⟩ : ∃ x_, (xs)[k]? = some x_ := ⟨_, List.getElem?_eq_getElem (by omega)⟩
  obtain ⟨ha5, cs6, hc7, rfl⟩ := ve _ _ hx4
  refine q_val (v := .pointer (some ((ba va).add (k * 3)))) rfl rfl rfl (e_indexAddr (k := k) (len := xs.length) (cap := vc) (a := va) rfl rfl tf46 (by omega) ha5) ?_
  refine q_val (v := .agg #[Ix (x3.a), Ix (x3.b), Ix (x3.len)]) rfl rfl rfl (e_load tf47 rfl (kB hc7) rfl) ?_
  refine q_val (v := sB ua xs (uc)) rfl rfl rfl e_move ?_
  refine q_val (v := Nx (k)) rfl rfl rfl e_move ?_
  obtain ⟨x9, hx10⟩ : ∃ x_, (xs)[k]? = some x_ := ⟨_, List.getElem?_eq_getElem (by omega)⟩
  obtain ⟨ha11, cs12, hc13, rfl⟩ := ue _ _ hx10
  refine q_val (v := .pointer (some ((ba ua).add (k * 3)))) rfl rfl rfl (e_indexAddr (k := k) (len := xs.length) (cap := uc) (a := ua) rfl rfl tf46 (by omega) ha11) ?_
  refine q_val (v := .agg #[Ix (x9.a), Ix (x9.b), Ix (x9.len)]) rfl rfl rfl (e_load tf47 rfl (kB hc13) rfl) ?_
  refine q_val (v := .bool (decide (¬ (x3 = x9)))) rfl rfl rfl (e_neq_t (xs := [Ix (x3.a), Ix (x3.b), Ix (x3.len)]) (ys := [Ix (x9.a), Ix (x9.b), Ix (x9.len)]) tg148 tg149 tg150 rfl rfl rfl rfl (not_congr rope_eq)) ?_
  refine q_nil ?_
  refine f_then ?_
  refine c_if (¬ (x3 = x9)) rfl (fun hc15 => ?_) (fun hc15 => ?_)
  ·exact absurd hc15 (Decidable.not_not.2 (el_same hx4 hx10))
  refine c_skip ?_
  refine f_block ?_
  refine f_then ?_
  refine c_region ?_
  refine lv (v := Nx (k)) e_move ?_
  refine lv (v := Nx (k + 1)) (e_add (a := ((k : Nat) : Int)) (b := (1 : Int)) rfl rfl (i64n (by omega) (by omega))) ?_
  refine lv (v := Nx (k + 1)) e_assign ?_
  refine l_nil ?_
  exact f_cut ⟨k + 1, ⟨⟨rfl, rfl, rfl⟩, rfl, (by omega)⟩, (show xs.length - (k + 1) < xs.length - k from by omega)⟩
 refine c_exit ?_
 refine f_then_exit ?_
 refine f_then_exit ?_
 refine f_exit ?_
 refine ftc ?_
 refine lv (v := .bool true) e_assign ?_
 refine lnf ?_
 refine c_ret ?_
 refine ret1 Tryd.results59 (v := .bool true) rfl ?_
 intro w hw
 exact ⟨rfl, st_mask [] rfl hw⟩
set_option maxHeartbeats 4000000 in
theorem eqS_ok (β : Base) (w : World) (hw : St β [] w) (v u : Value) (xs : List KS) (hs : Sl StopR β.heap v xs) (hu : Sl StopR β.heap u xs) : Calls Tryd.prog 35 #[v, u] w fun r w' => r = .returned (.bool true) ∧ St β [] w' := by
 obtain ⟨va, vc, rfl, vl, vm, ve⟩ := hs.get
 obtain ⟨ua, uc, rfl, ul, um, ue⟩ := hu.get
 refine enter (n := 26) Tryd.func35 rfl Tryd.ntmps35 rfl ?_ hw
 refine csr ?_
 refine l_val (v := .bool false) rfl rfl rfl e_assign ?_
 refine lnf ?_
 refine cs2 ?_
 refine c_region ?_
 refine lv (v := sB va xs (vc)) e_move ?_
 refine lv (v := Nx (xs.length)) (e_len (a := va) (n := xs.length) (c := vc) rfl tf105) ?_
 refine lv (v := sB ua xs (uc)) e_move ?_
 refine lv (v := Nx (xs.length)) (e_len (a := ua) (n := xs.length) (c := uc) rfl tf105) ?_
 refine lv (e_neq (a := ((xs.length : Nat) : Int)) (b := ((xs.length : Nat) : Int)) rfl rfl) ?_
 refine lnf ?_
 refine c_if (((xs.length : Nat) : Int) ≠ ((xs.length : Nat) : Int)) rfl (fun hc1 => ?_) (fun hc1 => ?_)
 ·exact absurd hc1 (by omega)
 refine csk ?_
 refine cs2 ?_
 refine c_region ?_
 refine l_val (v := .int .i64 (0)) rfl rfl rfl e_assign ?_
 refine lnf ?_
 refine c_block ?_
 refine c_loop (fun (k : Nat) (f : Fm) (L : List Res) => (f 0 = sB va xs (vc) ∧ f 1 = sB ua xs (uc) ∧ f 5 = Nx (k)) ∧ L = [] ∧ (k ≤ xs.length)) (fun (k : Nat) => xs.length - k) 0 ?_ ?_
 ·exact ⟨⟨rfl, rfl, rfl⟩, rfl, (by omega)⟩
 rintro k f0 L0 ⟨⟨hs0, hs1, hs5⟩, hL, hk⟩
 subst L0
 refine rebase (d := 0) hs0 ?_
 refine rebase (d := 1) hs1 ?_
 refine rebase (d := 5) hs5 ?_
 clear hs0 hs1 hs5
 refine cs2 ?_
 refine c_region ?_
 refine lv (v := Nx (k)) e_move ?_
 refine lv (v := sB va xs (vc)) e_move ?_
 refine lv (v := Nx (xs.length)) (e_len (a := va) (n := xs.length) (c := vc) rfl tf105) ?_
 refine lv (e_lss (a := ((k : Nat) : Int)) (b := ((xs.length : Nat) : Int)) rfl rfl) ?_
 refine lnf ?_
 refine c_if (((k : Nat) : Int) < ((xs.length : Nat) : Int)) rfl (fun hc2 => ?_) (fun hc2 => ?_)
 ·refine csk ?_
  refine c_seq ?_
  refine c_block ?_
  refine c_seq ?_
  refine c_quiet (by kernel_rfl) (by kernel_rfl) ?_
  refine q_val (v := sB va xs (vc)) rfl rfl rfl e_move ?_
  refine q_val (v := Nx (k)) rfl rfl rfl e_move ?_
  obtain ⟨x3, hx4⟩ : ∃ x_, (xs)[k]? = some x_ := ⟨_, List.getElem?_eq_getElem (by omega)⟩
  obtain ⟨ha5, cs6, hc7, rfl⟩ := ve _ _ hx4
  refine q_val (v := .pointer (some ((ba va).add (k * 3)))) rfl rfl rfl (e_indexAddr (k := k) (len := xs.length) (cap := vc) (a := va) rfl rfl tf100 (by omega) ha5) ?_
  refine q_val (v := .agg #[Ix (x3.id), Bx (x3.along), Ix (x3.by_)]) rfl rfl rfl (e_load tf106 rfl (kB hc7) rfl) ?_
  refine q_val (v := sB ua xs (uc)) rfl rfl rfl e_move ?_
  refine q_val (v := Nx (k)) rfl rfl rfl e_move ?_
  obtain ⟨x9, hx10⟩ : ∃ x_, (xs)[k]? = some x_ := ⟨_, List.getElem?_eq_getElem (by omega)⟩
  obtain ⟨ha11, cs12, hc13, rfl⟩ := ue _ _ hx10
  refine q_val (v := .pointer (some ((ba ua).add (k * 3)))) rfl rfl rfl (e_indexAddr (k := k) (len := xs.length) (cap := uc) (a := ua) rfl rfl tf100 (by omega) ha11) ?_
  refine q_val (v := .agg #[Ix (x9.id), Bx (x9.along), Ix (x9.by_)]) rfl rfl rfl (e_load tf106 rfl (kB hc13) rfl) ?_
  refine q_val (v := .bool (decide (¬ (x3 = x9)))) rfl rfl rfl (e_neq_t (xs := [Ix (x3.id), Bx (x3.along), Ix (x3.by_)]) (ys := [Ix (x9.id), Bx (x9.along), Ix (x9.by_)]) tf111 tf112 tf113 rfl rfl rfl rfl (not_congr (stop_eq (x := x3) (y := x9)))) ?_
  refine q_nil ?_
  refine f_then ?_
  refine c_if (¬ (x3 = x9)) rfl (fun hc15 => ?_) (fun hc15 => ?_)
  ·exact absurd hc15 (Decidable.not_not.2 (el_same hx4 hx10))
  refine c_skip ?_
  refine f_block ?_
  refine f_then ?_
  refine c_region ?_
  refine lv (v := Nx (k)) e_move ?_
  refine lv (v := Nx (k + 1)) (e_add (a := ((k : Nat) : Int)) (b := (1 : Int)) rfl rfl (i64n (by omega) (by omega))) ?_
  refine lv (v := Nx (k + 1)) e_assign ?_
  refine l_nil ?_
  exact f_cut ⟨k + 1, ⟨⟨rfl, rfl, rfl⟩, rfl, (by omega)⟩, (show xs.length - (k + 1) < xs.length - k from by omega)⟩
 refine c_exit ?_
 refine f_then_exit ?_
 refine f_then_exit ?_
 refine f_exit ?_
 refine ftc ?_
 refine lv (v := .bool true) e_assign ?_
 refine lnf ?_
 refine c_ret ?_
 refine ret1 Tryd.results35 (v := .bool true) rfl ?_
 intro w hw
 exact ⟨rfl, st_mask [] rfl hw⟩
set_option maxHeartbeats 4000000 in
theorem eqC_ok (β : Base) (w : World) (hw : St β [] w) (v u : Value) (xs : List KComp) (hs : Sl CompR β.heap v xs) (hu : Sl CompR β.heap u xs) : Calls Tryd.prog 64 #[v, u] w fun r w' => r = .returned (.bool true) ∧ St β [] w' := by
 obtain ⟨va, vc, rfl, vl, vm, ve⟩ := hs.get
 obtain ⟨ua, uc, rfl, ul, um, ue⟩ := hu.get
 refine enter (n := 26) Tryd.func64 rfl Tryd.ntmps64 rfl ?_ hw
 refine csr ?_
 refine l_val (v := .bool false) rfl rfl rfl e_assign ?_
 refine lnf ?_
 refine cs2 ?_
 refine c_region ?_
 refine lv (v := sB va xs (vc)) e_move ?_
 refine lv (v := Nx (xs.length)) (e_len (a := va) (n := xs.length) (c := vc) rfl tg114) ?_
 refine lv (v := sB ua xs (uc)) e_move ?_
 refine lv (v := Nx (xs.length)) (e_len (a := ua) (n := xs.length) (c := uc) rfl tg114) ?_
 refine lv (e_neq (a := ((xs.length : Nat) : Int)) (b := ((xs.length : Nat) : Int)) rfl rfl) ?_
 refine lnf ?_
 refine c_if (((xs.length : Nat) : Int) ≠ ((xs.length : Nat) : Int)) rfl (fun hc1 => ?_) (fun hc1 => ?_)
 ·exact absurd hc1 (by omega)
 refine csk ?_
 refine cs2 ?_
 refine c_region ?_
 refine l_val (v := .int .i64 (0)) rfl rfl rfl e_assign ?_
 refine lnf ?_
 refine c_block ?_
 refine c_loop (fun (k : Nat) (f : Fm) (L : List Res) => (f 0 = sB va xs (vc) ∧ f 1 = sB ua xs (uc) ∧ f 5 = Nx (k)) ∧ L = [] ∧ (k ≤ xs.length)) (fun (k : Nat) => xs.length - k) 0 ?_ ?_
 ·exact ⟨⟨rfl, rfl, rfl⟩, rfl, (by omega)⟩
 rintro k f0 L0 ⟨⟨hs0, hs1, hs5⟩, hL, hk⟩
 subst L0
 refine rebase (d := 0) hs0 ?_
 refine rebase (d := 1) hs1 ?_
 refine rebase (d := 5) hs5 ?_
 clear hs0 hs1 hs5
 refine cs2 ?_
 refine c_region ?_
 refine lv (v := Nx (k)) e_move ?_
 refine lv (v := sB va xs (vc)) e_move ?_
 refine lv (v := Nx (xs.length)) (e_len (a := va) (n := xs.length) (c := vc) rfl tg114) ?_
 refine lv (e_lss (a := ((k : Nat) : Int)) (b := ((xs.length : Nat) : Int)) rfl rfl) ?_
 refine lnf ?_
 refine c_if (((k : Nat) : Int) < ((xs.length : Nat) : Int)) rfl (fun hc2 => ?_) (fun hc2 => ?_)
 ·refine csk ?_
  refine c_seq ?_
  refine c_block ?_
  refine c_seq ?_
  refine c_quiet (by kernel_rfl) (by kernel_rfl) ?_
  refine q_val (v := sB va xs (vc)) rfl rfl rfl e_move ?_
  refine q_val (v := Nx (k)) rfl rfl rfl e_move ?_
  obtain ⟨x3, hx4⟩ : ∃ x_, (xs)[k]? = some x_ := ⟨_, List.getElem?_eq_getElem (by omega)⟩
  obtain ⟨ha5, cs6, hc7, rfl⟩ := ve _ _ hx4
  refine q_val (v := .pointer (some ((ba va).add (k * 5)))) rfl rfl rfl (e_indexAddr (k := k) (len := xs.length) (cap := vc) (a := va) rfl rfl tg115 (by omega) ha5) ?_
  refine q_val (v := .agg #[Bx (x3.kind), Ix (x3.v0), Ix (x3.v1), Ix (x3.v2), Ix (x3.v3)]) rfl rfl rfl (e_load tg116 rfl (kB hc7) rfl) ?_
  refine q_val (v := sB ua xs (uc)) rfl rfl rfl e_move ?_
  refine q_val (v := Nx (k)) rfl rfl rfl e_move ?_
  obtain ⟨x9, hx10⟩ : ∃ x_, (xs)[k]? = some x_ := ⟨_, List.getElem?_eq_getElem (by omega)⟩
  obtain ⟨ha11, cs12, hc13, rfl⟩ := ue _ _ hx10
  refine q_val (v := .pointer (some ((ba ua).add (k * 5)))) rfl rfl rfl (e_indexAddr (k := k) (len := xs.length) (cap := uc) (a := ua) rfl rfl tg115 (by omega) ha11) ?_
  refine q_val (v := .agg #[Bx (x9.kind), Ix (x9.v0), Ix (x9.v1), Ix (x9.v2), Ix (x9.v3)]) rfl rfl rfl (e_load tg116 rfl (kB hc13) rfl) ?_
  refine q_val (v := .bool (decide (¬ (x3 = x9)))) rfl rfl rfl (e_neq_t (xs := [Bx (x3.kind), Ix (x3.v0), Ix (x3.v1), Ix (x3.v2), Ix (x3.v3)]) (ys := [Bx (x9.kind), Ix (x9.v0), Ix (x9.v1), Ix (x9.v2), Ix (x9.v3)]) tg151 tg152 tg153 rfl rfl rfl rfl (not_congr (comp_eq (x := x3) (y := x9)))) ?_
  refine q_nil ?_
  refine f_then ?_
  refine c_if (¬ (x3 = x9)) rfl (fun hc15 => ?_) (fun hc15 => ?_)
  ·exact absurd hc15 (Decidable.not_not.2 (el_same hx4 hx10))
  refine c_skip ?_
  refine f_block ?_
  refine f_then ?_
  refine c_region ?_
  refine lv (v := Nx (k)) e_move ?_
  refine lv (v := Nx (k + 1)) (e_add (a := ((k : Nat) : Int)) (b := (1 : Int)) rfl rfl (i64n (by omega) (by omega))) ?_
  refine lv (v := Nx (k + 1)) e_assign ?_
  refine l_nil ?_
  exact f_cut ⟨k + 1, ⟨⟨rfl, rfl, rfl⟩, rfl, (by omega)⟩, (show xs.length - (k + 1) < xs.length - k from by omega)⟩
 refine c_exit ?_
 refine f_then_exit ?_
 refine f_then_exit ?_
 refine f_exit ?_
 refine ftc ?_
 refine lv (v := .bool true) e_assign ?_
 refine lnf ?_
 refine c_ret ?_
 refine ret1 Tryd.results64 (v := .bool true) rfl ?_
 intro w hw
 exact ⟨rfl, st_mask [] rfl hw⟩
theorem eqScene_ok (β : Base) (w : World) (hw : St β [] w) (v rv u ru : Value) (gx gy : Int) (bs : List KB) (rs : List KR) (hs : Sl KBR β.heap v bs) (hr : Sl KRR β.heap rv rs) (hu : Sl KBR β.heap u bs) (hq : Sl KRR β.heap ru rs) : Calls Tryd.prog 33 #[.agg #[v, rv, Ix gx, Ix gy], .agg #[u, ru, Ix gx, Ix gy]] w fun r w' => r = .returned (.bool true) ∧ St β [] w' := by
 obtain ⟨va, vc, rfl, vl, vm, ve⟩ := hs.get
 obtain ⟨rva, rvc, rfl, rvl, rvm, rve⟩ := hr.get
 obtain ⟨ua, uc, rfl, ul, um, ue⟩ := hu.get
 obtain ⟨rua, ruc, rfl, rul, rum, rue⟩ := hq.get
 refine enter (n := 24) Tryd.func33 rfl Tryd.ntmps33 rfl ?_ hw
 refine csr ?_
 refine l_mv rfl rfl rfl (m_box (v := .agg #[sB va bs (vc), sB rva rs (rvc), Ix (gx), Ix (gy)]) rfl) ?_
 rintro _ _ ⟨b1, rfl, rfl⟩
 refine l_mv rfl rfl rfl (m_box (v := .agg #[sB ua bs (uc), sB rua rs (ruc), Ix (gx), Ix (gy)]) rfl) ?_
 rintro _ _ ⟨b2, rfl, rfl⟩
 refine lv (v := .bool false) e_assign ?_
 refine lnc ?_
 refine lv (v := pp b1 0) (e_fieldPt rfl tf49) ?_
 refine lv (v := sB va bs (vc)) (e_load1 tf50 rfl (k_pt 1 rfl rfl)) ?_
 refine lv (v := pp b2 0) (e_fieldPt rfl tf49) ?_
 refine lv (v := sB ua bs (uc)) (e_load1 tf50 rfl (k_pt 0 rfl rfl)) ?_
 refine lcf (cl0 (vs := [sB va bs (vc), sB ua bs (uc)]) tg154 rfl rfl) rfl fun w β1 sb kn hw1 back => (eqB_ok β1 w hw1 _ _ bs (Sl.mono _ _ _ _ _ sb (⟨⟨_, _, rfl, vl, vm, ve⟩⟩ : Sl KBR _ _ bs)) (Sl.mono _ _ _ _ _ sb (⟨⟨_, _, rfl, ul, um, ue⟩⟩ : Sl KBR _ _ bs))).mono ?_
 rintro e w' ⟨rfl, hw'⟩
 refine ⟨_, rfl, _, back _ _ hw', ?_⟩
 clear hw1 hw' back kn sb
 refine lv (v := .bool true) e_move ?_
 refine g_val (v := pp b1 1) rfl rfl rfl rfl rfl (e_fieldPt rfl tf55) ?_
 refine g_val (v := sB rva rs (rvc)) rfl rfl rfl rfl rfl (e_load1 tf56 rfl (k_pt 1 rfl rfl)) ?_
 refine g_val (v := pp b2 1) rfl rfl rfl rfl rfl (e_fieldPt rfl tf55) ?_
 refine g_val (v := sB rua rs (ruc)) rfl rfl rfl rfl rfl (e_load1 tf56 rfl (k_pt 0 rfl rfl)) ?_
 refine g_call rfl rfl rfl rfl rfl (cl0 (vs := [sB rva rs (rvc), sB rua rs (ruc)]) tg155 rfl rfl) ?_
 intro w hw
 obtain ⟨β1, sb, kn, hw1, back⟩ := St.frame_all hw
 refine (eqR_ok β1 w hw1 _ _ rs (Sl.mono _ _ _ _ _ sb (⟨⟨_, _, rfl, rvl, rvm, rve⟩⟩ : Sl KRR _ _ rs)) (Sl.mono _ _ _ _ _ sb (⟨⟨_, _, rfl, rul, rum, rue⟩⟩ : Sl KRR _ _ rs))).mono ?_
 rintro e w' ⟨rfl, hw'⟩
 refine ⟨_, rfl, _, back _ _ hw', ?_⟩
 clear hw hw1 hw' back kn sb
 refine lv (v := .bool true) (e_pick_t rfl) ?_
 refine lv (v := .bool true) e_move ?_
 refine g_val (v := pp b1 2) rfl rfl rfl rfl rfl (e_fieldPt rfl tf57) ?_
 refine g_val (v := .agg #[Ix (gx), Ix (gy)]) rfl rfl rfl rfl rfl (e_load tf15 rfl (k_pt 1 rfl rfl) rfl) ?_
 refine g_val (v := pp b2 2) rfl rfl rfl rfl rfl (e_fieldPt rfl tf57) ?_
 refine g_val (v := .agg #[Ix (gx), Ix (gy)]) rfl rfl rfl rfl rfl (e_load tf15 rfl (k_pt 0 rfl rfl) rfl) ?_
 refine g_val (v := .bool (decide ((gx) = (gx) ∧ (gy) = (gy)))) rfl rfl rfl rfl rfl (e_eql_t (xs := [Ix (gx), Ix (gy)]) (ys := [Ix (gx), Ix (gy)]) tf18 tf19 tf20 rfl rfl rfl rfl vec_eq) ?_
 refine lv (v := .bool (decide ((gx) = (gx) ∧ (gy) = (gy)))) (e_pick_t rfl) ?_
 refine lv (v := .bool (decide ((gx) = (gx) ∧ (gy) = (gy)))) e_assign ?_
 refine lnf ?_
 refine c_ret ?_
 refine ret1 Tryd.results33 (v := .bool (decide ((gx) = (gx) ∧ (gy) = (gy)))) rfl ?_
 intro w hw
 exact ⟨by first | rfl | simp, st_mask [false, false] rfl hw⟩
theorem eqEnt_ok (β : Base) (w : World) (hw : St β [] w) (v u : Value) (i j : Int) (cs ds : List KComp) (hs : Sl CompR β.heap v cs) (hu : Sl CompR β.heap u ds) (e1 : i = j) (e2 : cs = ds) : Calls Tryd.prog 36 #[.agg #[Ix i, v], .agg #[Ix j, u]] w fun r w' => r = .returned (.bool true) ∧ St β [] w' := by
 subst e1
 subst e2
 obtain ⟨va, vc, rfl, vl, vm, ve⟩ := hs.get
 obtain ⟨ua, uc, rfl, ul, um, ue⟩ := hu.get
 refine enter (n := 17) Tryd.func36 rfl Tryd.ntmps36 rfl ?_ hw
 refine csr ?_
 refine l_mv rfl rfl rfl (m_box (v := .agg #[Ix (i), sB va cs (vc)]) rfl) ?_
 rintro _ _ ⟨b1, rfl, rfl⟩
 refine l_mv rfl rfl rfl (m_box (v := .agg #[Ix (i), sB ua cs (uc)]) rfl) ?_
 rintro _ _ ⟨b2, rfl, rfl⟩
 refine lv (v := .bool false) e_assign ?_
 refine lnc ?_
 refine lv (v := pp b1 0) (e_fieldPt rfl tg124) ?_
 refine lv (v := Ix (i)) (e_load1 tf2 rfl (k_pt 1 rfl rfl)) ?_
 refine lv (v := pp b2 0) (e_fieldPt rfl tg124) ?_
 refine lv (v := Ix (i)) (e_load1 tf2 rfl (k_pt 0 rfl rfl)) ?_
 refine lv (e_eql (a := (i)) (b := (i)) rfl rfl) ?_
 refine lv (v := .bool (decide ((i) = (i)))) e_move ?_
 refine l_split (s := 10) (p := (i) = (i)) rfl (fun h => ?_) (fun h => ?_)
 rotate_left; exact absurd rfl h
 refine g_val (v := pp b1 1) rfl rfl rfl rfl rfl (e_fieldPt rfl tg118) ?_
 refine g_val (v := sB va cs (vc)) rfl rfl rfl rfl rfl (e_load1 tg119 rfl (k_pt 1 rfl rfl)) ?_
 refine g_val (v := pp b2 1) rfl rfl rfl rfl rfl (e_fieldPt rfl tg118) ?_
 refine g_val (v := sB ua cs (uc)) rfl rfl rfl rfl rfl (e_load1 tg119 rfl (k_pt 0 rfl rfl)) ?_
 refine g_call rfl rfl rfl rfl rfl (cl0 (vs := [sB va cs (vc), sB ua cs (uc)]) tg156 rfl rfl) ?_
 intro w hw
 obtain ⟨β1, sb, kn, hw1, back⟩ := St.frame_all hw
 refine (eqC_ok β1 w hw1 _ _ cs (Sl.mono _ _ _ _ _ sb (⟨⟨_, _, rfl, vl, vm, ve⟩⟩ : Sl CompR _ _ cs)) (Sl.mono _ _ _ _ _ sb (⟨⟨_, _, rfl, ul, um, ue⟩⟩ : Sl CompR _ _ cs))).mono ?_
 rintro e w' ⟨rfl, hw'⟩
 refine ⟨_, rfl, _, back _ _ hw', ?_⟩
 clear hw hw1 hw' back kn sb
 refine lv (v := .bool true) (e_pick_t rfl) ?_
 refine lv (v := .bool true) e_assign ?_
 refine lnf ?_
 refine c_ret ?_
 refine ret1 Tryd.results36 (v := .bool true) rfl ?_
 intro w hw
 exact ⟨by first | rfl | simp, st_mask [false, false] rfl hw⟩
theorem worldBe_ok (β : Base) (w : World) (hw : St β [] w) (tick : Int) (v rv : Value) (gx gy : Int) (es : List KEnt) (rs : List KR) (hs : Sl EntR β.heap v es) (hr : Sl KRR β.heap rv rs) (hn : es.length ≤ 65536) (hrn : rs.length ≤ 65536) (bs : List KB) (e1 : bodiesOf es = bs) (e2 : ropesOf bs rs = rs) : Calls Tryd.prog 34 #[.agg #[Ix tick, v], rv, .agg #[Ix gx, Ix gy]] w fun r w' => ∃ p c p2 c2, r = .returned (.agg #[sB p bs c, sB p2 rs c2, Ix gx, Ix gy]) ∧ St β [rowF BodyF 31 p c bs, rowF RopeF 35 p2 c2 rs] w' := by
 have h := worldB_ok β w hw tick v rv gx gy es rs hs hr hn hrn
 rw [e1, e2] at h
 exact h
theorem worldYe_ok (β : Base) (w : World) (hw : St β [] w) (tick : Int) (v rv : Value) (gx gy : Int) (es : List KEnt) (rs : List KR) (hs : Sl EntR β.heap v es) (hr : Sl KRR β.heap rv rs) (hn : es.length ≤ 65536) (hrn : rs.length ≤ 65536) (hcl : ∀ e ∈ es, e.comps.length ≤ 65536) (hgx : -9223372036854775808 ≤ gx ∧ gx ≤ 9223372036854775807) (hgy : -9223372036854775808 ≤ gy ∧ gy ≤ 9223372036854775807) (hG : GR β) (bs T : List KB) (S : List KS) (e1 : bodiesOf es = bs) (e2 : ropesOf bs rs = rs) (hokS : okS bs rs gx gy) (hTS : stepsTo rs gx gy bs bs.length = (T, S)) : Calls Tryd.prog 32 #[.agg #[Ix tick, v], rv, .agg #[Ix gx, Ix gy]] w fun r w' => ∃ p c sp sc, r = .returned (.tuple #[.agg #[Ix tick, sB p es c], sB sp S sc, .int .i64 (0)]) ∧ St β [entsR p c (es.map (backE T)), rowF StopF 45 sp sc S] w' := by
 exact worldY_ok β w hw tick v rv gx gy es rs hs hr hn hrn hcl hgx hgy hG (by rw [e1, e2]; exact hokS) T S (by rw [e1, e2]; exact hTS)
theorem num_ok (β : Base) (w : World) (hw : St β [] w) (b : Bool) : Calls Tryd.prog 31 #[.bool b] w fun r w' => r = .returned (Ix (numB b)) ∧ St β [] w' := by
 refine enter (n := 4) Tryd.func31 rfl Tryd.ntmps31 rfl ?_ hw
 refine csr ?_
 refine l_val (v := .int .i64 (0)) rfl rfl rfl e_assign ?_
 refine lnf ?_
 refine cs2 ?_
 refine c_region ?_
 refine lv (v := .bool (b)) e_move ?_
 refine lnf ?_
 refine c_ifb (b) rfl (fun hc1 => ?_) (fun hc1 => ?_)
 ·refine csr ?_
  refine l_val (v := .int .i64 (1)) rfl rfl rfl e_assign ?_
  refine lnf ?_
  refine c_ret ?_
  refine f_then_ret ?_
  refine ret1 Tryd.results31 (v := .int .i64 (1)) rfl ?_
  intro w hw
  exact ⟨by rw [hc1]; rfl, st_mask [] rfl hw⟩
 refine csk ?_
 refine csr ?_
 refine l_val (v := .int .i64 (0)) rfl rfl rfl e_assign ?_
 refine lnf ?_
 refine c_ret ?_
 refine ret1 Tryd.results31 (v := .int .i64 (0)) rfl ?_
 intro w hw
 exact ⟨by rw [hc1]; rfl, st_mask [] rfl hw⟩
set_option maxHeartbeats 4000000 in
theorem back8_ok (β : Base) (w : World) (hw : St β [] w) (v u : Value) (fs : List KF) (us : List UInt8) (hs : Sl FormR β.heap v fs) (hu : Sl U8R β.heap u us) (gx gy : Int) (hgx8 : -128 ≤ gx ∧ gx ≤ 127) (hgy8 : -128 ≤ gy ∧ gy ≤ 127) (x : Int) (hx16 : -32768 ≤ x ∧ x ≤ 32767) (y : Int) (hy16 : -32768 ≤ y ∧ y ≤ 32767) (vx : Int) (hvx16 : -32768 ≤ vx ∧ vx ≤ 32767) (vy : Int) (hvy16 : -32768 ≤ vy ∧ vy ≤ 32767) (hG : GR β) : Calls Tryd.prog 10 #[v, u, .int .i8 gx, .int .i8 gy, .int .i16 x, .int .i16 y, .int .i16 vx, .int .i16 vy] w fun r w' => r = .returned (.bool true) ∧ St β [] w' := by
 refine enter (n := 285) Tryd.func10 rfl Tryd.ntmps10 rfl ?_ hw
 refine csr ?_
 refine l_val (v := .bool false) rfl rfl rfl e_assign ?_
 refine lnf ?_
 refine cs2 ?_
 refine c_region ?_
 refine l_call rfl rfl rfl (cl0 (vs := []) tg157 rfl rfl) ?_
 intro w hw
 obtain ⟨β1, sb, kn, hw1, back⟩ := St.frame_all hw
 have hG1 := GR.mono sb hG
 refine (awake_ok β1 w hw1 hG1).mono ?_
 rintro e w' ⟨rfl, hw'⟩
 refine ⟨_, rfl, _, back _ _ hw', ?_⟩
 clear hw hw1 hw' back kn sb
 refine lv (v := .bool false) (e_not (a := true) rfl) ?_
 refine lnf ?_
 refine c_no rfl ?_
 refine csk ?_
 refine csr ?_
 refine lv (v := v) e_move ?_
 refine lv (v := u) e_move ?_
 refine lv (v := .int .i8 (gx)) e_move ?_
 refine lv (v := .int .i8 (gy)) e_move ?_
 refine lcf (cl0 (vs := [v, u, .int .i8 (gx), .int .i8 (gy)]) tg158 rfl rfl) rfl fun w β1 sb kn hw1 back => (made8_ok β1 w hw1 _ _ fs us (Sl.mono _ _ _ _ _ sb hs) (Sl.mono _ _ _ _ _ sb hu) gx gy hgx8 hgy8).mono ?_
 rintro e w' ⟨bs, R, p1, c2, p3, c4, rfl, hmP, hbl, hRu, hw'⟩
 refine ⟨_, rfl, _, back _ _ hw', ?_⟩
 clear hw1 hw' back kn sb
 refine l_mv rfl rfl rfl (m_alloc tf85) ?_
 rintro _ _ ⟨b5, rfl, rfl⟩
 refine lu (m_store 0 tf86 (cs' := #[sB p1 bs c2, sB p3 R c4, Ix (Int.tmod gx 32), Ix (Int.tmod gy 32)]) rfl rfl rfl rfl rfl rfl rfl) ?_
 refine lnf ?_
 refine c_seq ?_
 have hgX := tmod_bd gx
 have hgY := tmod_bd gy
 obtain ⟨gX, hgx1⟩ : ∃ z, z = Int.tmod gx 32 := ⟨_, rfl⟩
 obtain ⟨gY, hgy1⟩ : ∃ z, z = Int.tmod gy 32 := ⟨_, rfl⟩
 rw [← hgx1] at hgX hmP
 rw [← hgy1] at hgY hmP
 rw [← hgx1, ← hgy1]
 have hokS := hmP.ok
 have hb16 := hmP.few
 have hr6 := hmP.ropes
 refine c_region ?_
 refine lv (v := .agg #[.int .i64 (5), .slice none 0 0]) (e_build tg136 tg138 (vs := [(0, .int .i64 (5))]) (cells := #[.int .i64 (5), .slice none 0 0]) rfl rfl) ?_
 refine l_mv rfl rfl rfl (m_alloc tg136) ?_
 rintro _ _ ⟨b6, rfl, rfl⟩
 refine lu (m_store 0 tg139 (cs' := #[.int .i64 (5), .slice none 0 0]) rfl rfl rfl rfl rfl rfl rfl) ?_
 refine lnc ?_
 refine lv (v := .func (.func 31) #[] #[]) e_assign ?_
 refine lnc ?_
 refine lv (v := .agg #[.int .i64 (7), .int .i64 (0), .int .i64 (0), .int .i64 (0)]) (e_build_a tg159 tg126 (vs := [(0, .int .i64 (7))]) (cells := #[.int .i64 (7), .int .i64 (0), .int .i64 (0), .int .i64 (0)]) rfl rfl) ?_
 refine lv (v := .agg #[.int .u8 (8), .int .i64 (7), .int .i64 (0), .int .i64 (0), .int .i64 (0)]) (e_build tg161 tg160 (vs := [(0, .int .u8 (8)), (1, .agg #[.int .i64 (7), .int .i64 (0), .int .i64 (0), .int .i64 (0)])]) (cells := #[.int .u8 (8), .int .i64 (7), .int .i64 (0), .int .i64 (0), .int .i64 (0)]) rfl rfl) ?_
 refine l_mv rfl rfl rfl (m_alloc tg161) ?_
 rintro _ _ ⟨b7, rfl, rfl⟩
 refine lu (m_store 0 tg116 (cs' := #[.int .u8 (8), .int .i64 (7), .int .i64 (0), .int .i64 (0), .int .i64 (0)]) rfl rfl rfl rfl rfl rfl rfl) ?_
 refine lnf ?_
 refine cs2 ?_
 refine c_emp (r := rowF HdF 76 none 0 []) (row_nil _ _ _) ?_
 refine c_emp (r := goodR [] []) good_nil ?_
 refine c_region ?_
 refine lv (v := pp b5 0) (e_fieldPt rfl tf49) ?_
 refine lv (v := sB p1 bs c2) (e_load1 tf50 rfl (k_pt 4 rfl rfl)) ?_
 refine lv (v := Nx (bs.length)) (e_len (a := p1) (n := bs.length) (c := c2) rfl tf40) ?_
 refine lv (v := .int .i64 (0)) e_move ?_
 refine lnf ?_
 refine c_block ?_
 refine c_mask [true, true, true, true, true, true, true] rfl ?_
 refine c_loop (fun (x_ : Nat × List KHd × Option Addr × Nat) (f : Fm) (L : List Res) => match x_ with | (k, hd, p, c) => (f 4 = .int .i16 (x) ∧ f 5 = .int .i16 (y) ∧ f 6 = .int .i16 (vx) ∧ f 7 = .int .i16 (vy) ∧ f 17 = pp b5 0 ∧ f 18 = pp b6 0 ∧ f 19 = .func (.func 31) #[] #[] ∧ f 20 = pp b7 0 ∧ f 47 = sB p1 bs c2 ∧ f 48 = Nx (bs.length) ∧ f 49 = Nx (k)) ∧ L = [goodR hd ((bs.take k).map entB), rowF HdF 76 p c hd, pt b7 (.cells #[.int .u8 (8), .int .i64 (7), .int .i64 (0), .int .i64 (0), .int .i64 (0)] 73), pt b6 (.cells #[.int .i64 (5), sB p hd c] 70), pt b5 (.cells #[sB p1 bs c2, sB p3 R c4, Ix (gX), Ix (gY)] 27), rowF BodyF 31 p1 c2 bs, rowF RopeF 35 p3 c4 R] ∧ (k ≤ bs.length ∧ hd.length = k)) (fun (x_ : Nat × List KHd × Option Addr × Nat) => match x_ with | (k, hd, p, c) => bs.length - k) (0, [], none, 0) ?_ ?_
 ·exact ⟨⟨rfl, rfl, rfl, rfl, rfl, rfl, rfl, rfl, rfl, rfl, rfl⟩, rfl, ⟨by omega, rfl⟩⟩
 rintro ⟨k, hd, p, c⟩ f0 L0 ⟨⟨hs4, hs5, hs6, hs7, hs17, hs18, hs19, hs20, hs47, hs48, hs49⟩, hL, ⟨hk, hdl⟩⟩
 subst L0
 refine rebase (d := 4) hs4 ?_
 refine rebase (d := 5) hs5 ?_
 refine rebase (d := 6) hs6 ?_
 refine rebase (d := 7) hs7 ?_
 refine rebase (d := 17) hs17 ?_
 refine rebase (d := 18) hs18 ?_
 refine rebase (d := 19) hs19 ?_
 refine rebase (d := 20) hs20 ?_
 refine rebase (d := 47) hs47 ?_
 refine rebase (d := 48) hs48 ?_
 refine rebase (d := 49) hs49 ?_
 clear hs4 hs5 hs6 hs7 hs17 hs18 hs19 hs20 hs47 hs48 hs49
 refine csr ?_
 refine lv (e_lss (a := ((k : Nat) : Int)) (b := ((bs.length : Nat) : Int)) rfl rfl) ?_
 refine lnf ?_
 refine c_seq ?_
 refine c_if (((k : Nat) : Int) < ((bs.length : Nat) : Int)) rfl (fun hc8 => ?_) (fun hc8 => ?_)
 ·refine csk ?_
  refine c_seq ?_
  refine c_block ?_
  refine csr ?_
  refine lv (v := .pointer (some ((ba p1).add (k * 9)))) (e_indexFlN 5 (F := BodyF) (j := k) (m := bs.length) (xs := bs) rfl rfl rfl tf43 (by omega) rfl) ?_
  obtain ⟨x9, hx10⟩ : ∃ x_, bs[k]? = some x_ := ⟨_, List.getElem?_eq_getElem (by omega)⟩
  refine lv (v := .agg (bC x9)) (e_load tf22 rfl (k_flAt 5 (F := BodyF) rfl hx10) rfl) ?_
  refine l_mv rfl rfl rfl (m_alloc tf58) ?_
  rintro _ _ ⟨b11, rfl, rfl⟩
  refine lu (m_store 0 tf22 (cs' := (bC x9)) rfl rfl rfl rfl rfl rfl rfl) ?_
  refine lnf ?_
  refine c_seq ?_
  refine c_any [⟨[], [], [0], [53], fun f => f 53 = pp b11 0⟩, ⟨[0], [0], [], [54], fun f => f 54 = Ix (x9.id)⟩, ⟨[], [], [0], [55], fun f => f 55 = pp b11 1⟩, ⟨[2], [2], [], [56], fun f => f 56 = pp b11 1⟩, ⟨[2, 3], [3], [], [57], fun f => f 57 = Ix (x9.x)⟩, ⟨[], [], [0], [58], fun f => f 58 = pp b11 1⟩, ⟨[5], [5], [], [59], fun f => f 59 = pp b11 2⟩, ⟨[5, 6], [6], [], [60], fun f => f 60 = Ix (x9.y)⟩, ⟨[2, 3, 4, 5, 6, 7], [4, 7], [], [61], fun f => f 61 = .agg #[Ix (x9.x), Ix (x9.y), .int .i64 (0), .int .i64 (0)]⟩, ⟨[2, 3, 4, 5, 6, 7, 8], [8], [], [62], fun f => f 62 = .agg #[.int .u8 (1), Ix (x9.x), Ix (x9.y), .int .i64 (0), .int .i64 (0)]⟩, ⟨[], [], [0], [63], fun f => f 63 = pp b11 3⟩, ⟨[10], [10], [], [64], fun f => f 64 = pp b11 3⟩, ⟨[10, 11], [11], [], [65], fun f => f 65 = Ix (x9.vx)⟩, ⟨[], [], [0], [66], fun f => f 66 = pp b11 3⟩, ⟨[13], [13], [], [67], fun f => f 67 = pp b11 4⟩, ⟨[13, 14], [14], [], [68], fun f => f 68 = Ix (x9.vy)⟩, ⟨[10, 11, 12, 13, 14, 15], [12, 15], [], [69], fun f => f 69 = .agg #[Ix (x9.vx), Ix (x9.vy), .int .i64 (0), .int .i64 (0)]⟩, ⟨[10, 11, 12, 13, 14, 15, 16], [16], [], [70], fun f => f 70 = .agg #[.int .u8 (2), Ix (x9.vx), Ix (x9.vy), .int .i64 (0), .int .i64 (0)]⟩, ⟨[], [], [0], [71], fun f => f 71 = pp b11 5⟩, ⟨[18], [18], [], [72], fun f => f 72 = Ix (x9.w)⟩, ⟨[], [], [0], [73], fun f => f 73 = pp b11 6⟩, ⟨[20], [20], [], [74], fun f => f 74 = Ix (x9.h)⟩, ⟨[], [], [1], [75], fun f => f 75 = .func (.func 31) #[] #[]⟩, ⟨[], [], [0], [76], fun f => f 76 = pp b11 7⟩, ⟨[23], [23], [], [77], fun f => f 77 = .bool (x9.round)⟩, ⟨[22, 23, 24], [22, 24], [], [78], fun f => f 78 = Ix (numB x9.round)⟩, ⟨[], [], [1], [79], fun f => f 79 = .func (.func 31) #[] #[]⟩, ⟨[], [], [0], [80], fun f => f 80 = pp b11 8⟩, ⟨[27], [27], [], [81], fun f => f 81 = .bool (x9.fixed)⟩, ⟨[22, 23, 24, 25, 26, 27, 28], [26, 28], [], [82], fun f => f 82 = Ix (numB x9.fixed)⟩, ⟨[18, 19, 20, 21, 22, 23, 24, 25, 26, 27, 28, 29], [19, 21, 25, 29], [], [83], fun f => f 83 = .agg #[Ix (x9.w), Ix (x9.h), Ix (numB x9.round), Ix (numB x9.fixed)]⟩, ⟨[18, 19, 20, 21, 22, 23, 24, 25, 26, 27, 28, 29, 30], [30], [], [84], fun f => f 84 = .agg #[.int .u8 (3), Ix (x9.w), Ix (x9.h), Ix (numB x9.round), Ix (numB x9.fixed)]⟩, ⟨[], [], [2], [85], fun f => f 85 = .agg #[.int .u8 (8), .int .i64 (7), .int .i64 (0), .int .i64 (0), .int .i64 (0)]⟩, ⟨[2, 3, 4, 5, 6, 7, 8, 9, 10, 11, 12, 13, 14, 15, 16, 17, 18, 19, 20, 21, 22, 23, 24, 25, 26, 27, 28, 29, 30, 31, 32], [9, 17, 31, 32], [], [86], fun f => f 86 = .slice (some ⟨(blk (f 86)), 0, none⟩) 4 4⟩, ⟨(List.range 34), [1, 33], [], [86, 87], fun f => f 87 = .agg #[Ix (x9.id), .slice (some ⟨(blk (f 86)), 0, none⟩) 4 4]⟩, ⟨[], [], [], [23], fun f => f 23 = .pointer (some ⟨(blk (f 23)), 0, none⟩)⟩, ⟨(List.range 36), [35, 34], [], [], fun _ => True⟩] [⟨none, none, [1, 4, 7, 12, 15, 19, 21, 24, 28], [], fun _ => pt b11 (.cells (bC x9) 31)⟩, ⟨none, none, [], [], fun _ => goodR hd ((bs.take k).map entB)⟩, ⟨none, none, [], [], fun _ => rowF HdF 76 p c hd⟩, ⟨none, none, [32], [], fun _ => pt b7 (.cells #[.int .u8 (8), .int .i64 (7), .int .i64 (0), .int .i64 (0), .int .i64 (0)] 73)⟩, ⟨none, none, [], [], fun _ => pt b6 (.cells #[.int .i64 (5), sB p hd c] 70)⟩, ⟨none, none, [], [], fun _ => pt b5 (.cells #[sB p1 bs c2, sB p3 R c4, Ix (gX), Ix (gY)] 27)⟩, ⟨none, none, [], [], fun _ => rowF BodyF 31 p1 c2 bs⟩, ⟨none, none, [], [], fun _ => rowF RopeF 35 p3 c4 R⟩, ⟨(some 33), none, [], [86], fun f => pt (blk (f 86)) (.cells #[.int .u8 (1), Ix (x9.x), Ix (x9.y), .int .i64 (0), .int .i64 (0), .int .u8 (2), Ix (x9.vx), Ix (x9.vy), .int .i64 (0), .int .i64 (0), .int .u8 (3), Ix (x9.w), Ix (x9.h), Ix (numB x9.round), Ix (numB x9.fixed), .int .u8 (8), .int .i64 (7), .int .i64 (0), .int .i64 (0), .int .i64 (0)] 73)⟩, ⟨(some 35), (some 36), [36], [23], fun f => pt (blk (f 23)) (.cells #[.int .i64 (0), .slice none 0 0] 76)⟩, ⟨(some 36), none, [], [23, 86], fun f => pt (blk (f 23)) (.cells #[Ix (x9.id), .slice (some ⟨(blk (f 86)), 0, none⟩) 4 4] 76)⟩] [(22, pp b11 0), (19, .func (.func 31) #[] #[]), (20, pp b7 0), (4, .int .i16 (x)), (5, .int .i16 (y)), (6, .int .i16 (vx)), (7, .int .i16 (vy)), (17, pp b5 0), (18, pp b6 0), (47, sB p1 bs c2), (48, Nx (bs.length)), (49, Nx (k))] [3, 4, 5, 6, 7, 8, 1, 2, 9, 10, 11] [] (by kernel_rfl) (by kernel_rfl) (by kernel_rfl) (by kernel_rfl) rfl ⟨rfl, rfl, rfl, rfl, rfl, rfl, rfl, rfl, rfl, rfl, rfl, rfl, trivial⟩ ⟨?_, ?_, ?_, ?_, ?_, ?_, ?_, ?_, ?_, ?_, ?_, ?_, ?_, ?_, ?_, ?_, ?_, ?_, ?_, ?_, ?_, ?_, ?_, ?_, ?_, ?_, ?_, ?_, ?_, ?_, ?_, ?_, ?_, ?_, ?_, ?_, ?_, trivial⟩ ?_
  ·rintro f M - ⟨i0, -⟩
   exact ob0 (up_cons (d := 22) rfl i0) rfl (e_fieldPt rfl tf3) (.refl _)
  ·rintro f M ⟨k0, -⟩ -
   exact obv (L' := pt b11 (.cells (bC x9) 31) :: M) (up_cons (d := 53) rfl k0) rfl (e_load1 tf2 rfl (k_pt 0 rfl rfl)) (perm_front 0 rfl) (by rfl)
  ·rintro f M - ⟨i0, -⟩
   exact ob0 (up_cons (d := 22) rfl i0) rfl (e_fieldPt rfl tf6) (.refl _)
  ·rintro f M ⟨k0, -⟩ -
   exact ob0 (up_cons (d := 55) rfl k0) rfl (e_fieldPt rfl tf7) (.refl _)
  ·rintro f M ⟨k0, -⟩ -
   exact obv (L' := pt b11 (.cells (bC x9) 31) :: M) (up_cons (d := 56) rfl k0) rfl (e_load1 tf2 rfl (k_pt 0 rfl rfl)) (perm_front 0 rfl) (by rfl)
  ·rintro f M - ⟨i0, -⟩
   exact ob0 (up_cons (d := 22) rfl i0) rfl (e_fieldPt rfl tf6) (.refl _)
  ·rintro f M ⟨k0, -⟩ -
   exact ob0 (up_cons (d := 58) rfl k0) rfl (e_fieldPt rfl tf8) (.refl _)
  ·rintro f M ⟨k0, -⟩ -
   exact obv (L' := pt b11 (.cells (bC x9) 31) :: M) (up_cons (d := 59) rfl k0) rfl (e_load1 tf2 rfl (k_pt 0 rfl rfl)) (perm_front 0 rfl) (by rfl)
  ·rintro f M ⟨k0, k1, -⟩ -
   exact ob0 (up_cons (d := 60) (up_cons (d := 57) rfl k0) k1) rfl (e_build_a tg159 tg126 (vs := [(0, Ix (x9.x)), (1, Ix (x9.y))]) (cells := #[Ix (x9.x), Ix (x9.y), .int .i64 (0), .int .i64 (0)]) rfl rfl) (.refl _)
  ·rintro f M ⟨k0, -⟩ -
   exact ob0 (up_cons (d := 61) rfl k0) rfl (e_build tg161 tg160 (vs := [(0, .int .u8 (1)), (1, .agg #[Ix (x9.x), Ix (x9.y), .int .i64 (0), .int .i64 (0)])]) (cells := #[.int .u8 (1), Ix (x9.x), Ix (x9.y), .int .i64 (0), .int .i64 (0)]) rfl rfl) (.refl _)
  ·rintro f M - ⟨i0, -⟩
   exact ob0 (up_cons (d := 22) rfl i0) rfl (e_fieldPt rfl tf9) (.refl _)
  ·rintro f M ⟨k0, -⟩ -
   exact ob0 (up_cons (d := 63) rfl k0) rfl (e_fieldPt rfl tf7) (.refl _)
  ·rintro f M ⟨k0, -⟩ -
   exact obv (L' := pt b11 (.cells (bC x9) 31) :: M) (up_cons (d := 64) rfl k0) rfl (e_load1 tf2 rfl (k_pt 0 rfl rfl)) (perm_front 0 rfl) (by rfl)
  ·rintro f M - ⟨i0, -⟩
   exact ob0 (up_cons (d := 22) rfl i0) rfl (e_fieldPt rfl tf9) (.refl _)
  ·rintro f M ⟨k0, -⟩ -
   exact ob0 (up_cons (d := 66) rfl k0) rfl (e_fieldPt rfl tf8) (.refl _)
  ·rintro f M ⟨k0, -⟩ -
   exact obv (L' := pt b11 (.cells (bC x9) 31) :: M) (up_cons (d := 67) rfl k0) rfl (e_load1 tf2 rfl (k_pt 0 rfl rfl)) (perm_front 0 rfl) (by rfl)
  ·rintro f M ⟨k0, k1, -⟩ -
   exact ob0 (up_cons (d := 68) (up_cons (d := 65) rfl k0) k1) rfl (e_build_a tg159 tg126 (vs := [(0, Ix (x9.vx)), (1, Ix (x9.vy))]) (cells := #[Ix (x9.vx), Ix (x9.vy), .int .i64 (0), .int .i64 (0)]) rfl rfl) (.refl _)
  ·rintro f M ⟨k0, -⟩ -
   exact ob0 (up_cons (d := 69) rfl k0) rfl (e_build tg161 tg160 (vs := [(0, .int .u8 (2)), (1, .agg #[Ix (x9.vx), Ix (x9.vy), .int .i64 (0), .int .i64 (0)])]) (cells := #[.int .u8 (2), Ix (x9.vx), Ix (x9.vy), .int .i64 (0), .int .i64 (0)]) rfl rfl) (.refl _)
  ·rintro f M - ⟨i0, -⟩
   exact ob0 (up_cons (d := 22) rfl i0) rfl (e_fieldPt rfl tf10) (.refl _)
  ·rintro f M ⟨k0, -⟩ -
   exact obv (L' := pt b11 (.cells (bC x9) 31) :: M) (up_cons (d := 71) rfl k0) rfl (e_load1 tf2 rfl (k_pt 0 rfl rfl)) (perm_front 0 rfl) (by rfl)
  ·rintro f M - ⟨i0, -⟩
   exact ob0 (up_cons (d := 22) rfl i0) rfl (e_fieldPt rfl tf11) (.refl _)
  ·rintro f M ⟨k0, -⟩ -
   exact obv (L' := pt b11 (.cells (bC x9) 31) :: M) (up_cons (d := 73) rfl k0) rfl (e_load1 tf2 rfl (k_pt 0 rfl rfl)) (perm_front 0 rfl) (by rfl)
  ·rintro f M - ⟨i0, -⟩
   exact ob0 (up_cons (d := 19) rfl i0) rfl e_move (.refl _)
  ·rintro f M - ⟨i0, -⟩
   exact ob0 (up_cons (d := 22) rfl i0) rfl (e_fieldPt rfl tf12) (.refl _)
  ·rintro f M ⟨k0, -⟩ -
   exact obv (L' := pt b11 (.cells (bC x9) 31) :: M) (up_cons (d := 76) rfl k0) rfl (e_load1 tf13 rfl (k_pt 0 rfl rfl)) (perm_front 0 rfl) (by rfl)
  ·rintro f M ⟨k0, k1, -⟩ -
   refine ob_start (L' := M) (by rfl) (up_cons (d := 77) (up_cons (d := 75) rfl k0) k1) ?_
   refine lcf (cl0 (vs := [.bool (x9.round)]) tg162 rfl rfl) rfl fun w β1 sb kn hw1 back => (num_ok β1 w hw1 x9.round).mono ?_
   rintro e w' ⟨rfl, hw'⟩
   refine ⟨_, rfl, _, back _ _ hw', ?_⟩
   clear hw1 hw' back kn sb
   refine l_nil ?_
   exact f_owes_d (up_cons (d := 77) (up_cons (d := 75) rfl k0) k1) rfl (List.Perm.refl _)
  ·rintro f M - ⟨i0, -⟩
   exact ob0 (up_cons (d := 19) rfl i0) rfl e_move (.refl _)
  ·rintro f M - ⟨i0, -⟩
   exact ob0 (up_cons (d := 22) rfl i0) rfl (e_fieldPt rfl tf14) (.refl _)
  ·rintro f M ⟨k0, -⟩ -
   exact obv (L' := pt b11 (.cells (bC x9) 31) :: M) (up_cons (d := 80) rfl k0) rfl (e_load1 tf13 rfl (k_pt 0 rfl rfl)) (perm_front 0 rfl) (by rfl)
  ·rintro f M ⟨k0, k1, -⟩ -
   refine ob_start (L' := M) (by rfl) (up_cons (d := 81) (up_cons (d := 79) rfl k0) k1) ?_
   refine lcf (cl0 (vs := [.bool (x9.fixed)]) tg162 rfl rfl) rfl fun w β1 sb kn hw1 back => (num_ok β1 w hw1 x9.fixed).mono ?_
   rintro e w' ⟨rfl, hw'⟩
   refine ⟨_, rfl, _, back _ _ hw', ?_⟩
   clear hw1 hw' back kn sb
   refine l_nil ?_
   exact f_owes_d (up_cons (d := 81) (up_cons (d := 79) rfl k0) k1) rfl (List.Perm.refl _)
  ·rintro f M ⟨k0, k1, k2, k3, -⟩ -
   exact ob0 (up_cons (d := 82) (up_cons (d := 78) (up_cons (d := 74) (up_cons (d := 72) rfl k0) k1) k2) k3) rfl (e_build_a tg159 tg126 (vs := [(0, Ix (x9.w)), (1, Ix (x9.h)), (2, Ix (numB x9.round)), (3, Ix (numB x9.fixed))]) (cells := #[Ix (x9.w), Ix (x9.h), Ix (numB x9.round), Ix (numB x9.fixed)]) rfl rfl) (.refl _)
  ·rintro f M ⟨k0, -⟩ -
   exact ob0 (up_cons (d := 83) rfl k0) rfl (e_build tg161 tg160 (vs := [(0, .int .u8 (3)), (1, .agg #[Ix (x9.w), Ix (x9.h), Ix (numB x9.round), Ix (numB x9.fixed)])]) (cells := #[.int .u8 (3), Ix (x9.w), Ix (x9.h), Ix (numB x9.round), Ix (numB x9.fixed)]) rfl rfl) (.refl _)
  ·rintro f M - ⟨i0, -⟩
   exact obv (L' := pt b7 (.cells #[.int .u8 (8), .int .i64 (7), .int .i64 (0), .int .i64 (0), .int .i64 (0)] 73) :: M) (up_cons (d := 20) rfl i0) rfl (e_load tg116 rfl (k_pt 0 rfl rfl) rfl) (perm_front 0 rfl) (by rfl)
  ·rintro f M ⟨k0, k1, k2, k3, -⟩ -
   refine ob_start (L' := M) (by rfl) (up_cons (d := 85) (up_cons (d := 84) (up_cons (d := 70) (up_cons (d := 62) rfl k0) k1) k2) k3) ?_
   refine l_mv rfl rfl rfl (m_slices tg115 tg161 (cells := #[.int .u8 (1), Ix (x9.x), Ix (x9.y), .int .i64 (0), .int .i64 (0), .int .u8 (2), Ix (x9.vx), Ix (x9.vy), .int .i64 (0), .int .i64 (0), .int .u8 (3), Ix (x9.w), Ix (x9.h), Ix (numB x9.round), Ix (numB x9.fixed), .int .u8 (8), .int .i64 (7), .int .i64 (0), .int .i64 (0), .int .i64 (0)]) rfl rfl rfl (by kernel_rfl)) ?_
   rintro _ _ ⟨b13, rfl, rfl⟩
   refine l_nil ?_
   exact f_owes_d (up_cons (d := 85) (up_cons (d := 84) (up_cons (d := 70) (up_cons (d := 62) rfl k0) k1) k2) k3) rfl (perm_front 0 rfl)
  ·rintro f M ⟨k0, k1, -⟩ -
   have hs86 : f 86 = .slice (some ⟨(blk (f 86)), 0, none⟩) 4 4 := k1
   exact ob0 (up_cons (up_cons (d := 54) rfl k0) hs86) rfl (e_build tg132 tg163 (vs := [(0, Ix (x9.id)), (1, .slice (some ⟨(blk (f 86)), 0, none⟩) 4 4)]) (cells := #[Ix (x9.id), .slice (some ⟨(blk (f 86)), 0, none⟩) 4 4]) rfl rfl) (.refl _)
  ·rintro f M - -
   refine ob_start (L' := M) (by rfl) rfl ?_
   refine l_mv rfl rfl rfl (m_alloc tg132) ?_
   rintro _ _ ⟨b15, rfl, rfl⟩
   refine l_nil ?_
   exact f_owes_d rfl rfl (perm_front 0 rfl)
  ·rintro f M ⟨k0, k1, -⟩ -
   have hs23 : f 23 = .pointer (some ⟨(blk (f 23)), 0, none⟩) := k0
   have hs87 : f 87 = .agg #[Ix (x9.id), .slice (some ⟨(blk (f 86)), 0, none⟩) 4 4] := k1
   refine ob_start (L' := pt (blk (f 23)) (.cells #[.int .i64 (0), .slice none 0 0] 76) :: M) (by rfl) (up_cons (up_cons rfl hs23) hs87) ?_
   refine lu (m_store 0 tg121 (cs' := #[Ix (x9.id), .slice (some ⟨(blk (f 86)), 0, none⟩) 4 4]) rfl rfl rfl rfl rfl rfl rfl) ?_
   refine l_nil ?_
   exact f_owes_n (up_cons (up_cons rfl hs23) hs87) trivial (perm_front 0 rfl)
  rintro fa16 ⟨-, -, -, -, -, -, -, -, -, -, -, -, -, -, -, -, -, -, -, -, -, -, -, -, -, -, -, -, -, -, -, -, -, -, -, k35, -, -⟩ ⟨j0, j1, j2, j3, j4, j5, j6, j7, j8, j9, j10, -⟩
  refine f_re (L' := [pt b11 (.cells (bC x9) 31), goodR hd ((bs.take k).map entB), rowF HdF 76 p c hd, pt b7 (.cells #[.int .u8 (8), .int .i64 (7), .int .i64 (0), .int .i64 (0), .int .i64 (0)] 73), pt b6 (.cells #[.int .i64 (5), sB p hd c] 70), pt b5 (.cells #[sB p1 bs c2, sB p3 R c4, Ix (gX), Ix (gY)] 27), rowF BodyF 31 p1 c2 bs, rowF RopeF 35 p3 c4 R, pt (blk (fa16 86)) (.cells #[.int .u8 (1), Ix (x9.x), Ix (x9.y), .int .i64 (0), .int .i64 (0), .int .u8 (2), Ix (x9.vx), Ix (x9.vy), .int .i64 (0), .int .i64 (0), .int .u8 (3), Ix (x9.w), Ix (x9.h), Ix (numB x9.round), Ix (numB x9.fixed), .int .u8 (8), .int .i64 (7), .int .i64 (0), .int .i64 (0), .int .i64 (0)] 73), pt (blk (fa16 23)) (.cells #[Ix (x9.id), .slice (some ⟨(blk (fa16 86)), 0, none⟩) 4 4] 76)]) (by rfl) ?_
  refine f_rebase (d := 4) j0 ?_
  refine f_rebase (d := 5) j1 ?_
  refine f_rebase (d := 6) j2 ?_
  refine f_rebase (d := 7) j3 ?_
  refine f_rebase (d := 17) j4 ?_
  refine f_rebase (d := 18) j5 ?_
  refine f_rebase (d := 19) j6 ?_
  refine f_rebase (d := 20) j7 ?_
  refine f_rebase (d := 23) k35 ?_
  refine f_rebase (d := 47) j8 ?_
  refine f_rebase (d := 48) j9 ?_
  refine f_rebase (d := 49) j10 ?_
  refine f_then ?_
  refine c_region ?_
  refine lv (v := pp b6 1) (e_fieldPt rfl tg128) ?_
  refine lv (v := sB p hd c) (e_load1 tg129 rfl (k_pt 4 rfl rfl)) ?_
  refine lv (v := .agg #[Ix (x9.id), .slice (some ⟨(blk (fa16 86)), 0, none⟩) 4 4]) (e_load tg121 rfl (k_pt 9 rfl rfl) rfl) ?_
  refine l_mv rfl rfl rfl (m_slices tg131 tg132 (cells := #[Ix (x9.id), .slice (some ⟨(blk (fa16 86)), 0, none⟩) 4 4]) rfl rfl rfl rfl) ?_
  rintro _ _ ⟨b17, rfl, rfl⟩
  refine l_mv rfl rfl rfl (m_appendFlN (F := HdF) 3 tg131 tg141 (p := p) (m := hd.length) (xs := hd) (ys := [(⟨(x9.id), (some ⟨(blk (fa16 86)), 0, none⟩), 4, 4⟩ : KHd)]) (ao := (some ⟨b17, 0, none⟩)) (k := 1) (c := 1) rfl rfl rfl rfl rfl (k_ptFl (z := (⟨(x9.id), (some ⟨(blk (fa16 86)), 0, none⟩), 4, 4⟩ : KHd)) 0 rfl rfl) (by first | omega | simp only [List.length_nil, List.length_cons, List.length_append, List.length_set]; omega) (by first | omega | simp only [List.length_nil, List.length_cons, List.length_append, List.length_set]; omega)) ?_
  rintro _ _ ⟨rp18, rc19, rfl, rfl⟩
  refine lv (v := pp b6 1) (e_fieldPt rfl tg128) ?_
  refine lu (m_store 5 tg129 (cs' := #[.int .i64 (5), sB rp18 (hd ++ [(⟨(x9.id), (some ⟨(blk (fa16 86)), 0, none⟩), 4, 4⟩ : KHd)]) rc19]) rfl rfl rfl rfl rfl rfl rfl) ?_
  refine l_nil ?_
  refine f_block ?_
  refine f_then ?_
  refine c_region ?_
  refine lv (v := Nx (k + 1)) (e_add (a := ((k : Nat) : Int)) (b := (1 : Int)) rfl rfl (i64n (by omega) (by omega))) ?_
  refine lv (v := Nx (k + 1)) e_move ?_
  refine l_nil ?_
  refine f_conseq 9 (r' := rowF CompF 73 (some ⟨(blk (fa16 86)), 0, none⟩) 4 [(⟨1, x9.x, x9.y, 0, 0⟩ : KComp), (⟨2, x9.vx, x9.vy, 0, 0⟩ : KComp), (⟨3, x9.w, x9.h, numB x9.round, numB x9.fixed⟩ : KComp), (⟨8, 7, 0, 0, 0⟩ : KComp)]) rfl (pt_rowF (F := CompF) (xs := [(⟨1, x9.x, x9.y, 0, 0⟩ : KComp), (⟨2, x9.vx, x9.vy, 0, 0⟩ : KComp), (⟨3, x9.w, x9.h, numB x9.round, numB x9.fixed⟩ : KComp), (⟨8, 7, 0, 0, 0⟩ : KComp)]) rfl (by simp)) ?_
  refine f_pi [9, 2, 0, 1, 3, 4, 5, 6, 7, 8, 10] 11 rfl (by kernel_rfl) ?_
  refine f_merge (L := [rowF CompF 73 (some ⟨(blk (fa16 86)), 0, none⟩) 4 [(⟨1, x9.x, x9.y, 0, 0⟩ : KComp), (⟨2, x9.vx, x9.vy, 0, 0⟩ : KComp), (⟨3, x9.w, x9.h, numB x9.round, numB x9.fixed⟩ : KComp), (⟨8, 7, 0, 0, 0⟩ : KComp)], goodR hd ((bs.take k).map entB)]) (M := [pt b17 (.cells #[Ix (x9.id), .slice (some ⟨(blk (fa16 86)), 0, none⟩) 4 4] 76), pt b11 (.cells (bC x9) 31), rowF HdF 76 rp18 rc19 (hd ++ [(⟨(x9.id), (some ⟨(blk (fa16 86)), 0, none⟩), 4, 4⟩ : KHd)]), pt b7 (.cells #[.int .u8 (8), .int .i64 (7), .int .i64 (0), .int .i64 (0), .int .i64 (0)] 73), pt b6 (.cells #[.int .i64 (5), sB rp18 (hd ++ [(⟨(x9.id), (some ⟨(blk (fa16 86)), 0, none⟩), 4, 4⟩ : KHd)]) rc19] 70), pt b5 (.cells #[sB p1 bs c2, sB p3 R c4, Ix (gX), Ix (gY)] 27), rowF BodyF 31 p1 c2 bs, rowF RopeF 35 p3 c4 R, pt (blk (fa16 23)) (.cells #[Ix (x9.id), .slice (some ⟨(blk (fa16 86)), 0, none⟩) 4 4] 76)]) (r := goodR (hd ++ [(⟨(x9.id), (some ⟨(blk (fa16 86)), 0, none⟩), 4, 4⟩ : KHd)]) ((bs.take (k + 1)).map entB)) (by rw [ent_next hx10]; exact good_merge rfl) ?_
  refine f_mask (L' := [goodR (hd ++ [(⟨(x9.id), (some ⟨(blk (fa16 86)), 0, none⟩), 4, 4⟩ : KHd)]) ((bs.take (k + 1)).map entB), rowF HdF 76 rp18 rc19 (hd ++ [(⟨(x9.id), (some ⟨(blk (fa16 86)), 0, none⟩), 4, 4⟩ : KHd)]), pt b7 (.cells #[.int .u8 (8), .int .i64 (7), .int .i64 (0), .int .i64 (0), .int .i64 (0)] 73), pt b6 (.cells #[.int .i64 (5), sB rp18 (hd ++ [(⟨(x9.id), (some ⟨(blk (fa16 86)), 0, none⟩), 4, 4⟩ : KHd)]) rc19] 70), pt b5 (.cells #[sB p1 bs c2, sB p3 R c4, Ix (gX), Ix (gY)] 27), rowF BodyF 31 p1 c2 bs, rowF RopeF 35 p3 c4 R]) [true, false, false, true, true, true, true, true, true, false] rfl ?_
  exact f_cut ⟨(k + 1, (hd ++ [(⟨(x9.id), (some ⟨(blk (fa16 86)), 0, none⟩), 4, 4⟩ : KHd)]), rp18, rc19), ⟨⟨rfl, rfl, rfl, rfl, rfl, rfl, rfl, rfl, rfl, rfl, rfl⟩, rfl, ⟨by omega, by rw [List.length_append]; simp only [sB, rB, List.length_cons, List.length_nil]; omega⟩⟩, (show bs.length - (k + 1) < bs.length - k from by omega)⟩
 refine c_exit ?_
 refine f_then_exit ?_
 refine f_then_exit ?_
 refine f_exit ?_
 refine ftc ?_
 refine lv (v := .int .i16 (x)) e_move ?_
 refine lv (v := Ix (x)) (e_conv (a := (x)) rfl ⟨_, tg164⟩ tf41 (i64w (by omega))) ?_
 refine lv (v := .int .i16 (y)) e_move ?_
 refine lv (v := Ix (y)) (e_conv (a := (y)) rfl ⟨_, tg164⟩ tf41 (i64w (by omega))) ?_
 refine lv (v := .agg #[Ix (x), Ix (y), .int .i64 (0), .int .i64 (0)]) (e_build_a tg159 tg126 (vs := [(0, Ix (x)), (1, Ix (y))]) (cells := #[Ix (x), Ix (y), .int .i64 (0), .int .i64 (0)]) rfl rfl) ?_
 refine lv (v := .agg #[.int .u8 (1), Ix (x), Ix (y), .int .i64 (0), .int .i64 (0)]) (e_build tg161 tg160 (vs := [(0, .int .u8 (1)), (1, .agg #[Ix (x), Ix (y), .int .i64 (0), .int .i64 (0)])]) (cells := #[.int .u8 (1), Ix (x), Ix (y), .int .i64 (0), .int .i64 (0)]) rfl rfl) ?_
 refine lv (v := .int .i16 (vx)) e_move ?_
 refine lv (v := Ix (vx)) (e_conv (a := (vx)) rfl ⟨_, tg164⟩ tf41 (i64w (by omega))) ?_
 refine lv (v := .int .i16 (vy)) e_move ?_
 refine lv (v := Ix (vy)) (e_conv (a := (vy)) rfl ⟨_, tg164⟩ tf41 (i64w (by omega))) ?_
 refine lv (v := .agg #[Ix (vx), Ix (vy), .int .i64 (0), .int .i64 (0)]) (e_build_a tg159 tg126 (vs := [(0, Ix (vx)), (1, Ix (vy))]) (cells := #[Ix (vx), Ix (vy), .int .i64 (0), .int .i64 (0)]) rfl rfl) ?_
 refine lv (v := .agg #[.int .u8 (2), Ix (vx), Ix (vy), .int .i64 (0), .int .i64 (0)]) (e_build tg161 tg160 (vs := [(0, .int .u8 (2)), (1, .agg #[Ix (vx), Ix (vy), .int .i64 (0), .int .i64 (0)])]) (cells := #[.int .u8 (2), Ix (vx), Ix (vy), .int .i64 (0), .int .i64 (0)]) rfl rfl) ?_
 refine lv (v := .agg #[.int .u8 (8), .int .i64 (7), .int .i64 (0), .int .i64 (0), .int .i64 (0)]) (e_load tg116 rfl (k_pt 2 rfl rfl) rfl) ?_
 refine l_mv rfl rfl rfl (m_slices tg115 tg161 (cells := #[.int .u8 (1), Ix (x), Ix (y), .int .i64 (0), .int .i64 (0), .int .u8 (2), Ix (vx), Ix (vy), .int .i64 (0), .int .i64 (0), .int .u8 (8), .int .i64 (7), .int .i64 (0), .int .i64 (0), .int .i64 (0)]) rfl rfl rfl (by kernel_rfl)) ?_
 rintro _ _ ⟨b20, rfl, rfl⟩
 refine lv (v := .agg #[.int .i64 (100), .slice (some ⟨b20, 0, none⟩) 3 3]) (e_build tg132 tg163 (vs := [(0, .int .i64 (100)), (1, .slice (some ⟨b20, 0, none⟩) 3 3)]) (cells := #[.int .i64 (100), .slice (some ⟨b20, 0, none⟩) 3 3]) rfl rfl) ?_
 refine l_mv rfl rfl rfl (m_alloc tg132) ?_
 rintro _ _ ⟨b21, rfl, rfl⟩
 refine lu (m_store 0 tg121 (cs' := #[.int .i64 (100), .slice (some ⟨b20, 0, none⟩) 3 3]) rfl rfl rfl rfl rfl rfl rfl) ?_
 refine lnc ?_
 refine lv (v := pp b6 1) (e_fieldPt rfl tg128) ?_
 refine lv (v := sB p hd c) (e_load1 tg129 rfl (k_pt 5 rfl rfl)) ?_
 refine lv (v := .agg #[.int .i64 (100), .slice (some ⟨b20, 0, none⟩) 3 3]) (e_load tg121 rfl (k_pt 0 rfl rfl) rfl) ?_
 refine lv (v := .int .i16 (x)) e_move ?_
 refine lv (v := Ix (x)) (e_conv (a := (x)) rfl ⟨_, tg164⟩ tf41 (i64w (by omega))) ?_
 refine lv (v := .int .i16 (y)) e_move ?_
 refine lv (v := Ix (y)) (e_conv (a := (y)) rfl ⟨_, tg164⟩ tf41 (i64w (by omega))) ?_
 refine lv (v := .agg #[Ix (x), Ix (y), .int .i64 (0), .int .i64 (0)]) (e_build_a tg159 tg126 (vs := [(0, Ix (x)), (1, Ix (y))]) (cells := #[Ix (x), Ix (y), .int .i64 (0), .int .i64 (0)]) rfl rfl) ?_
 refine lv (v := .agg #[.int .u8 (1), Ix (x), Ix (y), .int .i64 (0), .int .i64 (0)]) (e_build tg161 tg160 (vs := [(0, .int .u8 (1)), (1, .agg #[Ix (x), Ix (y), .int .i64 (0), .int .i64 (0)])]) (cells := #[.int .u8 (1), Ix (x), Ix (y), .int .i64 (0), .int .i64 (0)]) rfl rfl) ?_
 refine lv (v := .agg #[.int .u8 (8), .int .i64 (7), .int .i64 (0), .int .i64 (0), .int .i64 (0)]) (e_load tg116 rfl (k_pt 4 rfl rfl) rfl) ?_
 refine l_mv rfl rfl rfl (m_slices tg115 tg161 (cells := #[.int .u8 (1), Ix (x), Ix (y), .int .i64 (0), .int .i64 (0), .int .u8 (8), .int .i64 (7), .int .i64 (0), .int .i64 (0), .int .i64 (0)]) rfl rfl rfl (by kernel_rfl)) ?_
 rintro _ _ ⟨b22, rfl, rfl⟩
 refine lv (v := .agg #[.int .i64 (101), .slice (some ⟨b22, 0, none⟩) 2 2]) (e_build tg132 tg163 (vs := [(0, .int .i64 (101)), (1, .slice (some ⟨b22, 0, none⟩) 2 2)]) (cells := #[.int .i64 (101), .slice (some ⟨b22, 0, none⟩) 2 2]) rfl rfl) ?_
 refine l_mv rfl rfl rfl (m_slices tg131 tg132 (cells := #[.int .i64 (100), .slice (some ⟨b20, 0, none⟩) 3 3, .int .i64 (101), .slice (some ⟨b22, 0, none⟩) 2 2]) rfl rfl rfl rfl) ?_
 rintro _ _ ⟨b23, rfl, rfl⟩
 refine l_mv rfl rfl rfl (m_appendFlN (F := HdF) 5 tg131 tg141 (p := p) (m := hd.length) (xs := hd) (ys := [(⟨(100 : Int), (some ⟨b20, 0, none⟩), 3, 3⟩ : KHd), (⟨(101 : Int), (some ⟨b22, 0, none⟩), 2, 2⟩ : KHd)]) (ao := (some ⟨b23, 0, none⟩)) (k := 2) (c := 2) rfl rfl rfl rfl rfl (Knows.imp (k_ptFls (F := HdF) 0 (m := 2) (xs := [(⟨(100 : Int), (some ⟨b20, 0, none⟩), 3, 3⟩ : KHd), (⟨(101 : Int), (some ⟨b22, 0, none⟩), 2, 2⟩ : KHd)]) rfl rfl rfl (by simp)) fun _ h => (Sl.parts h).2.2.2) (by first | omega | simp only [List.length_nil, List.length_cons, List.length_append, List.length_set]; omega) (by first | omega | simp only [List.length_nil, List.length_cons, List.length_append, List.length_set]; omega)) ?_
 rintro _ _ ⟨rp24, rc25, rfl, rfl⟩
 refine lv (v := pp b6 1) (e_fieldPt rfl tg128) ?_
 refine lu (m_store 7 tg129 (cs' := #[.int .i64 (5), sB rp24 (hd ++ [(⟨(100 : Int), (some ⟨b20, 0, none⟩), 3, 3⟩ : KHd), (⟨(101 : Int), (some ⟨b22, 0, none⟩), 2, 2⟩ : KHd)]) rc25]) rfl rfl rfl rfl rfl rfl rfl) ?_
 refine lnf ?_
 refine c_seq ?_
 have hkb : k = bs.length := by omega
 subst hkb
 refine c_re (L' := [pt b23 (.cells #[.int .i64 (100), .slice (some ⟨b20, 0, none⟩) 3 3, .int .i64 (101), .slice (some ⟨b22, 0, none⟩) 2 2] 76), pt b22 (.cells #[.int .u8 (1), Ix (x), Ix (y), .int .i64 (0), .int .i64 (0), .int .u8 (8), .int .i64 (7), .int .i64 (0), .int .i64 (0), .int .i64 (0)] 73), pt b21 (.cells #[.int .i64 (100), .slice (some ⟨b20, 0, none⟩) 3 3] 76), pt b20 (.cells #[.int .u8 (1), Ix (x), Ix (y), .int .i64 (0), .int .i64 (0), .int .u8 (2), Ix (vx), Ix (vy), .int .i64 (0), .int .i64 (0), .int .u8 (8), .int .i64 (7), .int .i64 (0), .int .i64 (0), .int .i64 (0)] 73), goodR hd (bs.map entB), rowF HdF 76 rp24 rc25 (hd ++ [(⟨(100 : Int), (some ⟨b20, 0, none⟩), 3, 3⟩ : KHd), (⟨(101 : Int), (some ⟨b22, 0, none⟩), 2, 2⟩ : KHd)]), pt b7 (.cells #[.int .u8 (8), .int .i64 (7), .int .i64 (0), .int .i64 (0), .int .i64 (0)] 73), pt b6 (.cells #[.int .i64 (5), sB rp24 (hd ++ [(⟨(100 : Int), (some ⟨b20, 0, none⟩), 3, 3⟩ : KHd), (⟨(101 : Int), (some ⟨b22, 0, none⟩), 2, 2⟩ : KHd)]) rc25] 70), pt b5 (.cells #[sB p1 bs c2, sB p3 R c4, Ix (gX), Ix (gY)] 27), rowF BodyF 31 p1 c2 bs, rowF RopeF 35 p3 c4 R]) (by rw [List.take_length]; rfl) ?_
 refine c_conseq 3 (r' := rowF CompF 73 (some ⟨b20, 0, none⟩) 3 [(⟨1, x, y, 0, 0⟩ : KComp), (⟨2, vx, vy, 0, 0⟩ : KComp), (⟨8, 7, 0, 0, 0⟩ : KComp)]) rfl (pt_rowF (F := CompF) (xs := [(⟨1, x, y, 0, 0⟩ : KComp), (⟨2, vx, vy, 0, 0⟩ : KComp), (⟨8, 7, 0, 0, 0⟩ : KComp)]) rfl (by simp)) ?_
 refine c_pi [3, 4, 0, 1, 2, 5, 6, 7, 8, 9, 10] 11 rfl (by kernel_rfl) ?_
 refine c_merge (L := [rowF CompF 73 (some ⟨b20, 0, none⟩) 3 [(⟨1, x, y, 0, 0⟩ : KComp), (⟨2, vx, vy, 0, 0⟩ : KComp), (⟨8, 7, 0, 0, 0⟩ : KComp)], goodR hd (bs.map entB)]) (M := [pt b23 (.cells #[.int .i64 (100), .slice (some ⟨b20, 0, none⟩) 3 3, .int .i64 (101), .slice (some ⟨b22, 0, none⟩) 2 2] 76), pt b22 (.cells #[.int .u8 (1), Ix (x), Ix (y), .int .i64 (0), .int .i64 (0), .int .u8 (8), .int .i64 (7), .int .i64 (0), .int .i64 (0), .int .i64 (0)] 73), pt b21 (.cells #[.int .i64 (100), .slice (some ⟨b20, 0, none⟩) 3 3] 76), rowF HdF 76 rp24 rc25 (hd ++ [(⟨(100 : Int), (some ⟨b20, 0, none⟩), 3, 3⟩ : KHd), (⟨(101 : Int), (some ⟨b22, 0, none⟩), 2, 2⟩ : KHd)]), pt b7 (.cells #[.int .u8 (8), .int .i64 (7), .int .i64 (0), .int .i64 (0), .int .i64 (0)] 73), pt b6 (.cells #[.int .i64 (5), sB rp24 (hd ++ [(⟨(100 : Int), (some ⟨b20, 0, none⟩), 3, 3⟩ : KHd), (⟨(101 : Int), (some ⟨b22, 0, none⟩), 2, 2⟩ : KHd)]) rc25] 70), pt b5 (.cells #[sB p1 bs c2, sB p3 R c4, Ix (gX), Ix (gY)] 27), rowF BodyF 31 p1 c2 bs, rowF RopeF 35 p3 c4 R]) (r := goodR (hd ++ [(⟨(100 : Int), (some ⟨b20, 0, none⟩), 3, 3⟩ : KHd)]) ((bs.map entB) ++ [ghostE x y vx vy])) (good_merge rfl) ?_
 refine c_conseq 2 (r' := rowF CompF 73 (some ⟨b22, 0, none⟩) 2 [(⟨1, x, y, 0, 0⟩ : KComp), (⟨8, 7, 0, 0, 0⟩ : KComp)]) rfl (pt_rowF (F := CompF) (xs := [(⟨1, x, y, 0, 0⟩ : KComp), (⟨8, 7, 0, 0, 0⟩ : KComp)]) rfl (by simp)) ?_
 refine c_pi [2, 0, 1, 3, 4, 5, 6, 7, 8, 9] 10 rfl (by kernel_rfl) ?_
 refine c_merge (L := [rowF CompF 73 (some ⟨b22, 0, none⟩) 2 [(⟨1, x, y, 0, 0⟩ : KComp), (⟨8, 7, 0, 0, 0⟩ : KComp)], goodR (hd ++ [(⟨(100 : Int), (some ⟨b20, 0, none⟩), 3, 3⟩ : KHd)]) ((bs.map entB) ++ [ghostE x y vx vy])]) (M := [pt b23 (.cells #[.int .i64 (100), .slice (some ⟨b20, 0, none⟩) 3 3, .int .i64 (101), .slice (some ⟨b22, 0, none⟩) 2 2] 76), pt b21 (.cells #[.int .i64 (100), .slice (some ⟨b20, 0, none⟩) 3 3] 76), rowF HdF 76 rp24 rc25 (hd ++ [(⟨(100 : Int), (some ⟨b20, 0, none⟩), 3, 3⟩ : KHd), (⟨(101 : Int), (some ⟨b22, 0, none⟩), 2, 2⟩ : KHd)]), pt b7 (.cells #[.int .u8 (8), .int .i64 (7), .int .i64 (0), .int .i64 (0), .int .i64 (0)] 73), pt b6 (.cells #[.int .i64 (5), sB rp24 (hd ++ [(⟨(100 : Int), (some ⟨b20, 0, none⟩), 3, 3⟩ : KHd), (⟨(101 : Int), (some ⟨b22, 0, none⟩), 2, 2⟩ : KHd)]) rc25] 70), pt b5 (.cells #[sB p1 bs c2, sB p3 R c4, Ix (gX), Ix (gY)] 27), rowF BodyF 31 p1 c2 bs, rowF RopeF 35 p3 c4 R]) (r := goodR ((hd ++ [(⟨(100 : Int), (some ⟨b20, 0, none⟩), 3, 3⟩ : KHd)]) ++ [(⟨(101 : Int), (some ⟨b22, 0, none⟩), 2, 2⟩ : KHd)]) (((bs.map entB) ++ [ghostE x y vx vy]) ++ [restE x y])) (good_merge rfl) ?_
 obtain ⟨ws, hws⟩ : ∃ z, z = worldE bs x y vx vy := ⟨_, rfl⟩
 obtain ⟨HD, hHD⟩ : ∃ z, z = (hd ++ [(⟨(100 : Int), (some ⟨b20, 0, none⟩), 3, 3⟩ : KHd), (⟨(101 : Int), (some ⟨b22, 0, none⟩), 2, 2⟩ : KHd)]) := ⟨_, rfl⟩
 have hwz : (((bs.map entB) ++ [ghostE x y vx vy]) ++ [restE x y]) = ws := by rw [hws]; unfold worldE; simp
 have hhz : ((hd ++ [(⟨(100 : Int), (some ⟨b20, 0, none⟩), 3, 3⟩ : KHd)]) ++ [(⟨(101 : Int), (some ⟨b22, 0, none⟩), 2, 2⟩ : KHd)]) = HD := by rw [hHD]; simp
 have hgat : HD[bs.length]? = some (⟨(100 : Int), (some ⟨b20, 0, none⟩), 3, 3⟩ : KHd) := by rw [hHD, List.getElem?_append_right (by omega), hdl]; simp
 obtain ⟨T, S, hTS⟩ : ∃ T S, stepsTo R gX gY bs bs.length = (T, S) := ⟨_, _, rfl⟩
 have hP := back_law hokS hTS hws hx16 hy16 hvx16 hvy16
 have hrw := ropes_world hokS
 have hrT : ropesOf T R = R := ropes_world (gx := gX) (gy := gY) (by have h := okS_step hokS bs.length; rw [hTS] at h; exact h)
 have hTl : T.length = bs.length := by have h := (step_keeps (rs := R) (gx := gX) (gy := gY) hokS.2.2.2.1 bs.length).1.len; rw [hTS] at h; exact h
 have hHl : HD.length = ws.length := by rw [hHD, hP.wlen]; simp [hdl]
 refine c_re (L' := [goodR HD ws, pt b23 (.cells #[.int .i64 (100), .slice (some ⟨b20, 0, none⟩) 3 3, .int .i64 (101), .slice (some ⟨b22, 0, none⟩) 2 2] 76), pt b21 (.cells #[.int .i64 (100), .slice (some ⟨b20, 0, none⟩) 3 3] 76), rowF HdF 76 rp24 rc25 HD, pt b7 (.cells #[.int .u8 (8), .int .i64 (7), .int .i64 (0), .int .i64 (0), .int .i64 (0)] 73), pt b6 (.cells #[.int .i64 (5), sB rp24 ws rc25] 70), pt b5 (.cells #[sB p1 bs c2, sB p3 R c4, Ix (gX), Ix (gY)] 27), rowF BodyF 31 p1 c2 bs, rowF RopeF 35 p3 c4 R]) (by first | rw [hwz, hhz, ← hHD, hHl] | (unfold sB; rw [hwz, hhz, ← hHD, hHl] <;> rfl)) ?_
 refine c_pi [1, 2, 4, 5, 6, 7, 8, 3, 0] 9 rfl (by kernel_rfl) ?_
 refine c_freeze2 (M := [pt b23 (.cells #[.int .i64 (100), .slice (some ⟨b20, 0, none⟩) 3 3, .int .i64 (101), .slice (some ⟨b22, 0, none⟩) 2 2] 76), pt b21 (.cells #[.int .i64 (100), .slice (some ⟨b20, 0, none⟩) 3 3] 76), pt b7 (.cells #[.int .u8 (8), .int .i64 (7), .int .i64 (0), .int .i64 (0), .int .i64 (0)] 73), pt b6 (.cells #[.int .i64 (5), sB rp24 ws rc25] 70), pt b5 (.cells #[sB p1 bs c2, sB p3 R c4, Ix (gX), Ix (gY)] 27), rowF BodyF 31 p1 c2 bs, rowF RopeF 35 p3 c4 R]) (K := [rowF HdF 76 rp24 rc25 HD, goodR HD ws]) rfl (fun βf ext1 kn1 bk1 => ?_)
 have hG := GR.mono ext1.sub hG
 have hHs := kn1 _ (k_fl 0 (F := HdF) rfl)
 have hGd := kn1 _ (k_good 1 rfl)
 have hW : Sl EntR βf.heap (sB rp24 ws rc25) ws := ents_of_good hHs hGd
 have hGc : Sl CompR βf.heap (.slice (some ⟨b20, 0, none⟩) 3 3) (ghostE x y vx vy).comps := (hGd.2 bs.length _ (ghostE x y vx vy) hgat (by rw [hws]; unfold worldE; rw [List.getElem?_append_right (by simp)]; simp)).2
 clear hHs hGd
 obtain ⟨-, hW1, hW2, hWe⟩ := Sl.parts hW
 obtain ⟨-, -, -, hGe⟩ := Sl.parts hGc
 have hgl : (ghostE x y vx vy).comps.length = 3 := rfl
 have hwl := hP.wlen
 refine c_region ?_
 refine lv (v := .agg #[sB p1 bs c2, sB p3 R c4, Ix (gX), Ix (gY)]) (e_load tf86 rfl (k_pt 4 rfl rfl) rfl) ?_
 refine lcf (cl0 (vs := [.agg #[sB p1 bs c2, sB p3 R c4, Ix (gX), Ix (gY)]]) tf104 rfl rfl) rfl fun w β1 sb kn hw1 back => (stepY_ok β1 w hw1 _ _ gX gY bs R (kn _ (k_flN 5 (F := BodyF) (m := bs.length) (xs := bs) rfl rfl)) (kn _ (k_flN 6 (F := RopeF) (m := R.length) (xs := R) rfl rfl)) (by omega) (by omega) (GR.mono sb hG) hokS T S hTS).mono ?_
 rintro e w' ⟨p26, c27, p28, c29, p30, c31, rfl, hw'⟩
 refine ⟨_, rfl, _, back _ _ hw', ?_⟩
 clear hw1 hw' back kn sb
 refine lv (v := .tuple #[.agg #[sB p26 bs c27, sB p28 R c29, Ix (gX), Ix (gY)], sB p30 S c31, .int .i64 (0)]) e_move ?_
 refine lv (v := .agg #[sB p26 bs c27, sB p28 R c29, Ix (gX), Ix (gY)]) (e_extract (vs := #[.agg #[sB p26 bs c27, sB p28 R c29, Ix (gX), Ix (gY)], sB p30 S c31, .int .i64 (0)]) rfl rfl) ?_
 refine lv (v := sB p30 S c31) (e_extract (vs := #[.agg #[sB p26 bs c27, sB p28 R c29, Ix (gX), Ix (gY)], sB p30 S c31, .int .i64 (0)]) rfl rfl) ?_
 refine lv (v := .int .i64 (0)) (e_extract (vs := #[.agg #[sB p26 bs c27, sB p28 R c29, Ix (gX), Ix (gY)], sB p30 S c31, .int .i64 (0)]) rfl rfl) ?_
 refine l_mv rfl rfl rfl (m_alloc tf85) ?_
 rintro _ _ ⟨b32, rfl, rfl⟩
 refine lu (m_store 0 tf86 (cs' := #[sB p26 bs c27, sB p28 R c29, Ix (gX), Ix (gY)]) rfl rfl rfl rfl rfl rfl rfl) ?_
 refine lv (v := sB p30 S c31) e_assign ?_
 refine lv (v := .int .i64 (0)) e_assign ?_
 refine lnc ?_
 refine lv (v := .agg #[.int .i64 (5), sB rp24 ws (rc25)]) (e_load tg139 rfl (k_pt 7 rfl rfl) rfl) ?_
 refine lv (v := pp b5 1) (e_fieldPt rfl tf55) ?_
 refine lv (v := sB p3 R c4) (e_load1 tf56 rfl (k_pt 8 rfl rfl)) ?_
 refine lv (v := pp b5 2) (e_fieldPt rfl tf57) ?_
 refine lv (v := .agg #[Ix (gX), Ix (gY)]) (e_load tf15 rfl (k_pt 8 rfl rfl) rfl) ?_
 refine lcf (cl0 (vs := [.agg #[.int .i64 (5), sB rp24 ws (rc25)], sB p3 R c4, .agg #[Ix (gX), Ix (gY)]]) tg165 rfl rfl) rfl fun w β1 sb kn hw1 back => (worldYe_ok β1 w hw1 _ _ _ gX gY ws R (Sl.mono _ _ _ _ _ sb hW) (kn _ (k_flN 10 (F := RopeF) (m := R.length) (xs := R) rfl rfl)) (by omega) (by omega) hP.small (by omega) (by omega) (GR.mono sb hG) bs T S hP.wbodies hrw hokS hTS).mono ?_
 rintro e w' ⟨p33, c34, p35, c36, rfl, hw'⟩
 refine ⟨_, rfl, _, back _ _ hw', ?_⟩
 clear hw1 hw' back kn sb
 refine lv (v := .tuple #[.agg #[.int .i64 (5), sB p33 ws c34], sB p35 S c36, .int .i64 (0)]) e_move ?_
 refine lv (v := .agg #[.int .i64 (5), sB p33 ws c34]) (e_extract (vs := #[.agg #[.int .i64 (5), sB p33 ws c34], sB p35 S c36, .int .i64 (0)]) rfl rfl) ?_
 refine lv (v := sB p35 S c36) (e_extract (vs := #[.agg #[.int .i64 (5), sB p33 ws c34], sB p35 S c36, .int .i64 (0)]) rfl rfl) ?_
 refine lv (v := .int .i64 (0)) (e_extract (vs := #[.agg #[.int .i64 (5), sB p33 ws c34], sB p35 S c36, .int .i64 (0)]) rfl rfl) ?_
 refine l_mv rfl rfl rfl (m_alloc tg136) ?_
 rintro _ _ ⟨b37, rfl, rfl⟩
 refine lu (m_store 0 tg139 (cs' := #[.int .i64 (5), sB p33 ws c34]) rfl rfl rfl rfl rfl rfl rfl) ?_
 refine lv (v := sB p35 S c36) e_assign ?_
 refine lv (v := .int .i64 (0)) e_assign ?_
 refine lnf ?_
 refine cs2 ?_
 obtain ⟨us, hus⟩ : ∃ z, z = ws.map (backE T) := ⟨_, rfl⟩
 rw [← hus] at hP
 have hul := hP.len
 refine c_pi [0, 2, 3, 4, 5, 6, 7, 8, 9, 10, 11, 12, 13, 1] 14 rfl (by kernel_rfl) ?_
 refine c_re (L' := [pt b37 (.cells #[.int .i64 (5), sB p33 us c34] 70), rowF StopF 45 p35 c36 S, pt b32 (.cells #[sB p26 bs c27, sB p28 R c29, Ix (gX), Ix (gY)] 27), rowF BodyF 31 p26 c27 T, rowF RopeF 35 p28 c29 R, rowF StopF 45 p30 c31 S, pt b23 (.cells #[.int .i64 (100), .slice (some ⟨b20, 0, none⟩) (3) (3), .int .i64 (101), .slice (some ⟨b22, 0, none⟩) 2 2] 76), pt b21 (.cells #[.int .i64 (100), .slice (some ⟨b20, 0, none⟩) (3) (3)] 76), pt b7 (.cells #[.int .u8 (8), .int .i64 (7), .int .i64 (0), .int .i64 (0), .int .i64 (0)] 73), pt b6 (.cells #[.int .i64 (5), sB rp24 ws (rc25)] 70), pt b5 (.cells #[sB p1 bs c2, sB p3 R c4, Ix (gX), Ix (gY)] 27), rowF BodyF 31 p1 c2 bs, rowF RopeF 35 p3 c4 R, entsR p33 c34 us]) (by first | rw [hus, List.length_map] | (unfold sB; rw [hus, List.length_map] <;> rfl)) ?_
 refine c_freeze2 (M := [pt b37 (.cells #[.int .i64 (5), sB p33 us c34] 70), rowF StopF 45 p35 c36 S, pt b32 (.cells #[sB p26 bs c27, sB p28 R c29, Ix (gX), Ix (gY)] 27), rowF BodyF 31 p26 c27 T, rowF RopeF 35 p28 c29 R, rowF StopF 45 p30 c31 S, pt b23 (.cells #[.int .i64 (100), .slice (some ⟨b20, 0, none⟩) (3) (3), .int .i64 (101), .slice (some ⟨b22, 0, none⟩) 2 2] 76), pt b21 (.cells #[.int .i64 (100), .slice (some ⟨b20, 0, none⟩) (3) (3)] 76), pt b7 (.cells #[.int .u8 (8), .int .i64 (7), .int .i64 (0), .int .i64 (0), .int .i64 (0)] 73), pt b6 (.cells #[.int .i64 (5), sB rp24 ws (rc25)] 70), pt b5 (.cells #[sB p1 bs c2, sB p3 R c4, Ix (gX), Ix (gY)] 27), rowF BodyF 31 p1 c2 bs, rowF RopeF 35 p3 c4 R]) (K := [entsR p33 c34 us]) rfl (fun βg ext2 kn2 bk2 => ?_)
 have hG := GR.mono ext2.sub hG
 have hW := Sl.mono _ _ _ _ _ ext2.sub hW
 have hGc := Sl.mono _ _ _ _ _ ext2.sub hGc
 obtain ⟨-, hW1, hW2, hWe⟩ := Sl.parts hW
 obtain ⟨-, -, -, hGe⟩ := Sl.parts hGc
 have hU := kn2 _ (k_ents 0 rfl)
 obtain ⟨-, hU1, hU2, hUe⟩ := Sl.parts hU
 refine c_any [⟨[], [], [0], [141], fun f => f 141 = .int .i64 (0)⟩, ⟨[], [], [1], [142], fun f => f 142 = .int .i64 (0)⟩, ⟨[0, 1], [0, 1], [], [143], fun f => f 143 = .int .i64 (0)⟩, ⟨[0, 1, 2], [2], [], [144], fun f => f 144 = .bool false⟩, ⟨[0, 1, 2, 3], [3], [], [145], fun f => f 145 = .bool false⟩, ⟨[0, 1, 2, 3, 4], [4], [2], [146], fun f => f 146 = .agg #[.int .i64 (5), sB rp24 ws (rc25)]⟩, ⟨[0, 1, 2, 3, 4], [4], [3], [147], fun f => f 147 = pp b5 1⟩, ⟨[0, 1, 2, 3, 4, 6], [6, 4], [], [148], fun f => f 148 = sB p3 R c4⟩, ⟨[0, 1, 2, 3, 4], [4], [3], [149], fun f => f 149 = pp b5 2⟩, ⟨[0, 1, 2, 3, 4, 8], [8, 4], [], [150], fun f => f 150 = .agg #[Ix (gX), Ix (gY)]⟩, ⟨(List.range 10), [5, 7, 9, 4], [], [151], fun f => f 151 = .agg #[sB (sla (prt 0 (f 151))) bs (slc (prt 0 (f 151))), sB (sla (prt 1 (f 151))) R (slc (prt 1 (f 151))), Ix (gX), Ix (gY)]⟩, ⟨[0, 1, 2, 3, 4], [4], [3], [152], fun f => f 152 = .agg #[sB p1 bs c2, sB p3 R c4, Ix (gX), Ix (gY)]⟩, ⟨(List.range 12), [10, 11, 4], [], [153], fun f => f 153 = .bool true⟩, ⟨(List.range 13), [12, 4], [], [154], fun f => f 154 = .bool false⟩, ⟨(List.range 14), [4, 13], [], [155], fun f => f 155 = .bool false⟩, ⟨(List.range 15), [14], [], [156], fun f => f 156 = .bool false⟩, ⟨(List.range 16), [15], [4], [157], fun f => f 157 = sB p30 S c31⟩, ⟨(List.range 16), [15], [5], [158], fun f => f 158 = sB p35 S c36⟩, ⟨(List.range 18), [16, 17, 15], [], [159], fun f => f 159 = .bool true⟩, ⟨(List.range 19), [18, 15], [], [160], fun f => f 160 = .bool false⟩, ⟨(List.range 20), [15, 19], [], [161], fun f => f 161 = .bool false⟩, ⟨(List.range 21), [20], [], [162], fun f => f 162 = .bool false⟩, ⟨(List.range 22), [21], [6], [163], fun f => f 163 = .agg #[.int .i64 (5), sB p33 us (c34)]⟩, ⟨(List.range 22), [21], [3], [164], fun f => f 164 = pp b5 1⟩, ⟨[0, 1, 2, 3, 4, 5, 6, 7, 8, 9, 10, 11, 12, 13, 14, 15, 16, 17, 18, 19, 20, 21, 23], [23, 21], [], [165], fun f => f 165 = sB p3 R c4⟩, ⟨(List.range 22), [21], [3], [166], fun f => f 166 = pp b5 2⟩, ⟨[0, 1, 2, 3, 4, 5, 6, 7, 8, 9, 10, 11, 12, 13, 14, 15, 16, 17, 18, 19, 20, 21, 25], [25, 21], [], [167], fun f => f 167 = .agg #[Ix (gX), Ix (gY)]⟩, ⟨(List.range 27), [22, 24, 26, 21], [], [168], fun f => f 168 = .agg #[sB (sla (prt 0 (f 168))) T (slc (prt 0 (f 168))), sB (sla (prt 1 (f 168))) R (slc (prt 1 (f 168))), Ix (gX), Ix (gY)]⟩, ⟨(List.range 22), [21], [7], [169], fun f => f 169 = .agg #[sB p26 bs c27, sB p28 R c29, Ix (gX), Ix (gY)]⟩, ⟨(List.range 29), [27, 28, 21], [], [170], fun f => f 170 = .bool true⟩, ⟨(List.range 30), [29, 21], [], [171], fun f => f 171 = .bool false⟩, ⟨(List.range 31), [21, 30], [], [172], fun f => f 172 = .bool false⟩] [⟨none, none, [22], [], fun _ => pt b37 (.cells #[.int .i64 (5), sB p33 us (c34)] 70)⟩, ⟨none, none, [18], [], fun _ => rowF StopF 45 p35 c36 S⟩, ⟨none, none, [28], [], fun _ => pt b32 (.cells #[sB p26 bs c27, sB p28 R c29, Ix (gX), Ix (gY)] 27)⟩, ⟨none, none, [29], [], fun _ => rowF BodyF 31 p26 c27 T⟩, ⟨none, none, [29], [], fun _ => rowF RopeF 35 p28 c29 R⟩, ⟨none, none, [18], [], fun _ => rowF StopF 45 p30 c31 S⟩, ⟨none, none, [], [], fun _ => pt b23 (.cells #[.int .i64 (100), .slice (some ⟨b20, 0, none⟩) (3) (3), .int .i64 (101), .slice (some ⟨b22, 0, none⟩) 2 2] 76)⟩, ⟨none, none, [], [], fun _ => pt b21 (.cells #[.int .i64 (100), .slice (some ⟨b20, 0, none⟩) (3) (3)] 76)⟩, ⟨none, none, [], [], fun _ => pt b7 (.cells #[.int .u8 (8), .int .i64 (7), .int .i64 (0), .int .i64 (0), .int .i64 (0)] 73)⟩, ⟨none, none, [5], [], fun _ => pt b6 (.cells #[.int .i64 (5), sB rp24 ws (rc25)] 70)⟩, ⟨none, none, [7, 9, 11, 24, 26], [], fun _ => pt b5 (.cells #[sB p1 bs c2, sB p3 R c4, Ix (gX), Ix (gY)] 27)⟩, ⟨none, none, [12], [], fun _ => rowF BodyF 31 p1 c2 bs⟩, ⟨none, none, [10, 12, 27], [], fun _ => rowF RopeF 35 p3 c4 R⟩, ⟨(some 10), none, [12], [151], fun f => rowF BodyF 31 (sla (prt 0 (f 151))) (slc (prt 0 (f 151))) bs⟩, ⟨(some 10), none, [12], [151], fun f => rowF RopeF 35 (sla (prt 1 (f 151))) (slc (prt 1 (f 151))) R⟩, ⟨(some 27), none, [29], [168], fun f => rowF BodyF 31 (sla (prt 0 (f 168))) (slc (prt 0 (f 168))) T⟩, ⟨(some 27), none, [29], [168], fun f => rowF RopeF 35 (sla (prt 1 (f 168))) (slc (prt 1 (f 168))) R⟩] [(27, .int .i64 (0)), (30, .int .i64 (0)), (18, pp b6 0), (17, pp b5 0), (26, sB p30 S c31), (29, sB p35 S c36), (28, pp b37 0), (25, pp b32 0), (4, .int .i16 (x)), (5, .int .i16 (y)), (6, .int .i16 (vx)), (7, .int .i16 (vy)), (20, pp b7 0), (24, pp b21 0)] [8, 9, 10, 11, 3, 2, 12, 13, 6] [] (by kernel_rfl) (by kernel_rfl) (by kernel_rfl) (by kernel_rfl) rfl ⟨rfl, rfl, rfl, rfl, rfl, rfl, rfl, rfl, rfl, rfl, rfl, rfl, rfl, rfl, trivial⟩ ⟨?_, ?_, ?_, ?_, ?_, ?_, ?_, ?_, ?_, ?_, ?_, ?_, ?_, ?_, ?_, ?_, ?_, ?_, ?_, ?_, ?_, ?_, ?_, ?_, ?_, ?_, ?_, ?_, ?_, ?_, ?_, ?_, trivial⟩ ?_
 ·rintro f M - ⟨i0, -⟩
  exact ob0 (up_cons (d := 27) rfl i0) rfl e_move (.refl _)
 ·rintro f M - ⟨i0, -⟩
  exact ob0 (up_cons (d := 30) rfl i0) rfl e_move (.refl _)
 ·rintro f M ⟨k0, k1, -⟩ -
  exact ob0 (up_cons (d := 142) (up_cons (d := 141) rfl k0) k1) rfl (e_add (a := (0 : Int)) (b := (0 : Int)) rfl rfl (by decide)) (.refl _)
 ·rintro f M ⟨k0, -⟩ -
  exact ob0 (up_cons (d := 143) rfl k0) rfl (e_neq (a := (0 : Int)) (b := (0 : Int)) rfl rfl) (.refl _)
 ·rintro f M ⟨k0, -⟩ -
  exact ob0 (up_cons (d := 144) rfl k0) rfl e_move (.refl _)
 ·rintro f M ⟨k0, -⟩ ⟨i0, -⟩
  exact obg (L' := pt b6 (.cells #[.int .i64 (5), sB rp24 ws (rc25)] 70) :: M) (v := .agg #[.int .i64 (5), sB rp24 ws (rc25)]) (up_cons (d := 145) (up_cons (d := 18) rfl i0) k0) (e_load tg139 rfl (k_pt 0 rfl rfl) rfl) rfl rfl rfl rfl (perm_front 0 rfl) (by rfl)
 ·rintro f M ⟨k0, -⟩ ⟨i0, -⟩
  exact obg (L' := M) (v := pp b5 1) (up_cons (d := 145) (up_cons (d := 17) rfl i0) k0) (e_fieldPt rfl tf55) rfl rfl rfl rfl (.refl _) (by rfl)
 ·rintro f M ⟨k0, k1, -⟩ -
  exact obg (L' := pt b5 (.cells #[sB p1 bs c2, sB p3 R c4, Ix (gX), Ix (gY)] 27) :: M) (v := sB p3 R c4) (up_cons (d := 145) (up_cons (d := 147) rfl k0) k1) (e_load1 tf56 rfl (k_pt 0 rfl rfl)) rfl rfl rfl rfl (perm_front 0 rfl) (by rfl)
 ·rintro f M ⟨k0, -⟩ ⟨i0, -⟩
  exact obg (L' := M) (v := pp b5 2) (up_cons (d := 145) (up_cons (d := 17) rfl i0) k0) (e_fieldPt rfl tf57) rfl rfl rfl rfl (.refl _) (by rfl)
 ·rintro f M ⟨k0, k1, -⟩ -
  exact obg (L' := pt b5 (.cells #[sB p1 bs c2, sB p3 R c4, Ix (gX), Ix (gY)] 27) :: M) (v := .agg #[Ix (gX), Ix (gY)]) (up_cons (d := 145) (up_cons (d := 149) rfl k0) k1) (e_load tf15 rfl (k_pt 0 rfl rfl) rfl) rfl rfl rfl rfl (perm_front 0 rfl) (by rfl)
 ·rintro f M ⟨k0, k1, k2, k3, -⟩ -
  refine ob_start (L' := rowF RopeF 35 p3 c4 R :: M) (by rfl) (up_cons (d := 145) (up_cons (d := 150) (up_cons (d := 148) (up_cons (d := 146) rfl k0) k1) k2) k3) ?_
  refine g_call rfl rfl rfl rfl rfl (cl0 (vs := [.agg #[.int .i64 (5), sB rp24 ws (rc25)], sB p3 R c4, .agg #[Ix (gX), Ix (gY)]]) tg143 rfl rfl) ?_
  intro w hw
  obtain ⟨β1, sb, kn, hw1, back⟩ := St.frame_all hw
  refine (worldBe_ok β1 w hw1 _ _ _ gX gY ws R (Sl.mono _ _ _ _ _ sb hW) (kn _ (k_flN 0 (F := RopeF) (m := R.length) (xs := R) rfl rfl)) (by omega) (by omega) bs hP.wbodies hrw).mono ?_
  rintro e w' ⟨p42, c43, p44, c45, rfl, hw'⟩
  refine ⟨_, rfl, _, back _ _ hw', ?_⟩
  clear hw hw1 hw' back kn sb
  refine l_nil ?_
  exact f_owes_d (up_cons (d := 145) (up_cons (d := 150) (up_cons (d := 148) (up_cons (d := 146) rfl k0) k1) k2) k3) rfl (((perm_front 1 rfl).trans (perm_front 1 rfl)).trans (perm_front 2 rfl))
 ·rintro f M ⟨k0, -⟩ ⟨i0, -⟩
  exact obg (L' := pt b5 (.cells #[sB p1 bs c2, sB p3 R c4, Ix (gX), Ix (gY)] 27) :: M) (v := .agg #[sB p1 bs c2, sB p3 R c4, Ix (gX), Ix (gY)]) (up_cons (d := 145) (up_cons (d := 17) rfl i0) k0) (e_load tf86 rfl (k_pt 0 rfl rfl) rfl) rfl rfl rfl rfl (perm_front 0 rfl) (by rfl)
 ·rintro f M ⟨k0, k1, k2, -⟩ -
  have hs151 : f 151 = .agg #[sB (sla (prt 0 (f 151))) bs (slc (prt 0 (f 151))), sB (sla (prt 1 (f 151))) R (slc (prt 1 (f 151))), Ix (gX), Ix (gY)] := k0
  refine ob_start (L' := rowF BodyF 31 p1 c2 bs :: rowF RopeF 35 p3 c4 R :: rowF BodyF 31 (sla (prt 0 (f 151))) (slc (prt 0 (f 151))) bs :: rowF RopeF 35 (sla (prt 1 (f 151))) (slc (prt 1 (f 151))) R :: M) (by rfl) (up_cons (d := 145) (up_cons (d := 152) (up_cons rfl hs151) k1) k2) ?_
  refine g_call rfl rfl rfl rfl rfl (cl0 (vs := [.agg #[sB (sla (prt 0 (f 151))) bs (slc (prt 0 (f 151))), sB (sla (prt 1 (f 151))) R (slc (prt 1 (f 151))), Ix (gX), Ix (gY)], .agg #[sB p1 bs c2, sB p3 R c4, Ix (gX), Ix (gY)]]) tg166 rfl rfl) ?_
  intro w hw
  obtain ⟨β1, sb, kn, hw1, back⟩ := St.frame_all hw
  refine (eqScene_ok β1 w hw1 _ _ _ _ (gX) (gY) bs R (kn _ (k_flN 2 (F := BodyF) (m := bs.length) (xs := bs) rfl rfl)) (kn _ (k_flN 3 (F := RopeF) (m := R.length) (xs := R) rfl rfl)) (kn _ (k_flN 0 (F := BodyF) (m := bs.length) (xs := bs) rfl rfl)) (kn _ (k_flN 1 (F := RopeF) (m := R.length) (xs := R) rfl rfl))).mono ?_
  rintro e w' ⟨rfl, hw'⟩
  refine ⟨_, rfl, _, back _ _ hw', ?_⟩
  clear hw hw1 hw' back kn sb
  refine l_nil ?_
  exact f_owes_d (up_cons (d := 145) (up_cons (d := 152) (up_cons rfl hs151) k1) k2) rfl ((((perm_front 3 rfl).trans (perm_front 3 rfl)).trans (perm_front 3 rfl)).trans (perm_front 3 rfl))
 ·rintro f M ⟨k0, k1, -⟩ -
  exact obg (L' := M) (v := .bool false) (up_cons (d := 145) (up_cons (d := 153) rfl k0) k1) (e_not (a := true) rfl) rfl rfl rfl rfl (.refl _) (by rfl)
 ·rintro f M ⟨k0, k1, -⟩ -
  exact ob0 (up_cons (d := 154) (up_cons (d := 145) rfl k0) k1) rfl (e_pick_f rfl) (.refl _)
 ·rintro f M ⟨k0, -⟩ -
  exact ob0 (up_cons (d := 155) rfl k0) rfl e_move (.refl _)
 ·rintro f M ⟨k0, -⟩ ⟨i0, -⟩
  exact obg (L' := M) (v := sB p30 S c31) (up_cons (d := 156) (up_cons (d := 26) rfl i0) k0) e_move rfl rfl rfl rfl (.refl _) (by rfl)
 ·rintro f M ⟨k0, -⟩ ⟨i0, -⟩
  exact obg (L' := M) (v := sB p35 S c36) (up_cons (d := 156) (up_cons (d := 29) rfl i0) k0) e_move rfl rfl rfl rfl (.refl _) (by rfl)
 ·rintro f M ⟨k0, k1, k2, -⟩ -
  refine ob_start (L' := rowF StopF 45 p35 c36 S :: rowF StopF 45 p30 c31 S :: M) (by rfl) (up_cons (d := 156) (up_cons (d := 158) (up_cons (d := 157) rfl k0) k1) k2) ?_
  refine g_call rfl rfl rfl rfl rfl (cl0 (vs := [sB p30 S c31, sB p35 S c36]) tg167 rfl rfl) ?_
  intro w hw
  obtain ⟨β1, sb, kn, hw1, back⟩ := St.frame_all hw
  refine (eqS_ok β1 w hw1 _ _ S (kn _ (k_flN 1 (F := StopF) (m := S.length) (xs := S) rfl rfl)) (kn _ (k_flN 0 (F := StopF) (m := S.length) (xs := S) rfl rfl))).mono ?_
  rintro e w' ⟨rfl, hw'⟩
  refine ⟨_, rfl, _, back _ _ hw', ?_⟩
  clear hw hw1 hw' back kn sb
  refine l_nil ?_
  exact f_owes_d (up_cons (d := 156) (up_cons (d := 158) (up_cons (d := 157) rfl k0) k1) k2) rfl ((perm_front 1 rfl).trans (perm_front 1 rfl))
 ·rintro f M ⟨k0, k1, -⟩ -
  exact obg (L' := M) (v := .bool false) (up_cons (d := 156) (up_cons (d := 159) rfl k0) k1) (e_not (a := true) rfl) rfl rfl rfl rfl (.refl _) (by rfl)
 ·rintro f M ⟨k0, k1, -⟩ -
  exact ob0 (up_cons (d := 160) (up_cons (d := 156) rfl k0) k1) rfl (e_pick_f rfl) (.refl _)
 ·rintro f M ⟨k0, -⟩ -
  exact ob0 (up_cons (d := 161) rfl k0) rfl e_move (.refl _)
 ·rintro f M ⟨k0, -⟩ ⟨i0, -⟩
  exact obg (L' := pt b37 (.cells #[.int .i64 (5), sB p33 us (c34)] 70) :: M) (v := .agg #[.int .i64 (5), sB p33 us (c34)]) (up_cons (d := 162) (up_cons (d := 28) rfl i0) k0) (e_load tg139 rfl (k_pt 0 rfl rfl) rfl) rfl rfl rfl rfl (perm_front 0 rfl) (by rfl)
 ·rintro f M ⟨k0, -⟩ ⟨i0, -⟩
  exact obg (L' := M) (v := pp b5 1) (up_cons (d := 162) (up_cons (d := 17) rfl i0) k0) (e_fieldPt rfl tf55) rfl rfl rfl rfl (.refl _) (by rfl)
 ·rintro f M ⟨k0, k1, -⟩ -
  exact obg (L' := pt b5 (.cells #[sB p1 bs c2, sB p3 R c4, Ix (gX), Ix (gY)] 27) :: M) (v := sB p3 R c4) (up_cons (d := 162) (up_cons (d := 164) rfl k0) k1) (e_load1 tf56 rfl (k_pt 0 rfl rfl)) rfl rfl rfl rfl (perm_front 0 rfl) (by rfl)
 ·rintro f M ⟨k0, -⟩ ⟨i0, -⟩
  exact obg (L' := M) (v := pp b5 2) (up_cons (d := 162) (up_cons (d := 17) rfl i0) k0) (e_fieldPt rfl tf57) rfl rfl rfl rfl (.refl _) (by rfl)
 ·rintro f M ⟨k0, k1, -⟩ -
  exact obg (L' := pt b5 (.cells #[sB p1 bs c2, sB p3 R c4, Ix (gX), Ix (gY)] 27) :: M) (v := .agg #[Ix (gX), Ix (gY)]) (up_cons (d := 162) (up_cons (d := 166) rfl k0) k1) (e_load tf15 rfl (k_pt 0 rfl rfl) rfl) rfl rfl rfl rfl (perm_front 0 rfl) (by rfl)
 ·rintro f M ⟨k0, k1, k2, k3, -⟩ -
  refine ob_start (L' := rowF RopeF 35 p3 c4 R :: M) (by rfl) (up_cons (d := 162) (up_cons (d := 167) (up_cons (d := 165) (up_cons (d := 163) rfl k0) k1) k2) k3) ?_
  refine g_call rfl rfl rfl rfl rfl (cl0 (vs := [.agg #[.int .i64 (5), sB p33 us (c34)], sB p3 R c4, .agg #[Ix (gX), Ix (gY)]]) tg143 rfl rfl) ?_
  intro w hw
  obtain ⟨β1, sb, kn, hw1, back⟩ := St.frame_all hw
  refine (worldBe_ok β1 w hw1 _ _ _ gX gY us R (Sl.mono _ _ _ _ _ sb hU) (kn _ (k_flN 0 (F := RopeF) (m := R.length) (xs := R) rfl rfl)) (by omega) (by omega) T hP.bodies hrT).mono ?_
  rintro e w' ⟨p50, c51, p52, c53, rfl, hw'⟩
  refine ⟨_, rfl, _, back _ _ hw', ?_⟩
  clear hw hw1 hw' back kn sb
  refine l_nil ?_
  exact f_owes_d (up_cons (d := 162) (up_cons (d := 167) (up_cons (d := 165) (up_cons (d := 163) rfl k0) k1) k2) k3) rfl (((perm_front 1 rfl).trans (perm_front 1 rfl)).trans (perm_front 2 rfl))
 ·rintro f M ⟨k0, -⟩ ⟨i0, -⟩
  exact obg (L' := pt b32 (.cells #[sB p26 bs c27, sB p28 R c29, Ix (gX), Ix (gY)] 27) :: M) (v := .agg #[sB p26 bs c27, sB p28 R c29, Ix (gX), Ix (gY)]) (up_cons (d := 162) (up_cons (d := 25) rfl i0) k0) (e_load tf86 rfl (k_pt 0 rfl rfl) rfl) rfl rfl rfl rfl (perm_front 0 rfl) (by rfl)
 ·rintro f M ⟨k0, k1, k2, -⟩ -
  have hs168 : f 168 = .agg #[sB (sla (prt 0 (f 168))) T (slc (prt 0 (f 168))), sB (sla (prt 1 (f 168))) R (slc (prt 1 (f 168))), Ix (gX), Ix (gY)] := k0
  refine ob_start (L' := rowF BodyF 31 p26 c27 T :: rowF RopeF 35 p28 c29 R :: rowF BodyF 31 (sla (prt 0 (f 168))) (slc (prt 0 (f 168))) T :: rowF RopeF 35 (sla (prt 1 (f 168))) (slc (prt 1 (f 168))) R :: M) (by rfl) (up_cons (d := 162) (up_cons (d := 169) (up_cons rfl hs168) k1) k2) ?_
  refine g_call rfl rfl rfl rfl rfl (cl0 (vs := [.agg #[sB (sla (prt 0 (f 168))) T (slc (prt 0 (f 168))), sB (sla (prt 1 (f 168))) R (slc (prt 1 (f 168))), Ix (gX), Ix (gY)], .agg #[sB p26 bs c27, sB p28 R c29, Ix (gX), Ix (gY)]]) tg166 rfl rfl) ?_
  intro w hw
  obtain ⟨β1, sb, kn, hw1, back⟩ := St.frame_all hw
  refine (eqScene_ok β1 w hw1 _ _ _ _ (gX) (gY) T R (kn _ (k_flN 2 (F := BodyF) (m := T.length) (xs := T) rfl rfl)) (kn _ (k_flN 3 (F := RopeF) (m := R.length) (xs := R) rfl rfl)) (kn _ (k_flN 0 (F := BodyF) (m := bs.length) (xs := T) rfl (by omega))) (kn _ (k_flN 1 (F := RopeF) (m := R.length) (xs := R) rfl rfl))).mono ?_
  rintro e w' ⟨rfl, hw'⟩
  refine ⟨_, rfl, _, back _ _ hw', ?_⟩
  clear hw hw1 hw' back kn sb
  refine l_nil ?_
  exact f_owes_d (up_cons (d := 162) (up_cons (d := 169) (up_cons rfl hs168) k1) k2) rfl ((((perm_front 3 rfl).trans (perm_front 3 rfl)).trans (perm_front 3 rfl)).trans (perm_front 3 rfl))
 ·rintro f M ⟨k0, k1, -⟩ -
  exact obg (L' := M) (v := .bool false) (up_cons (d := 162) (up_cons (d := 170) rfl k0) k1) (e_not (a := true) rfl) rfl rfl rfl rfl (.refl _) (by rfl)
 ·rintro f M ⟨k0, k1, -⟩ -
  exact ob0 (up_cons (d := 171) (up_cons (d := 162) rfl k0) k1) rfl (e_pick_f rfl) (.refl _)
 rintro fa54 ⟨-, -, -, -, -, -, -, -, -, -, -, -, -, -, -, -, -, -, -, -, -, -, -, -, -, -, -, -, -, -, -, k31, -⟩ ⟨j0, j1, j2, j3, j4, j5, j6, j7, j8, -⟩
 refine f_re (L' := [pt b37 (.cells #[.int .i64 (5), sB p33 us (c34)] 70), rowF StopF 45 p35 c36 S, pt b32 (.cells #[sB p26 bs c27, sB p28 R c29, Ix (gX), Ix (gY)] 27), rowF BodyF 31 p26 c27 T, rowF RopeF 35 p28 c29 R, rowF StopF 45 p30 c31 S, pt b23 (.cells #[.int .i64 (100), .slice (some ⟨b20, 0, none⟩) (3) (3), .int .i64 (101), .slice (some ⟨b22, 0, none⟩) 2 2] 76), pt b21 (.cells #[.int .i64 (100), .slice (some ⟨b20, 0, none⟩) (3) (3)] 76), pt b7 (.cells #[.int .u8 (8), .int .i64 (7), .int .i64 (0), .int .i64 (0), .int .i64 (0)] 73), pt b6 (.cells #[.int .i64 (5), sB rp24 ws (rc25)] 70), pt b5 (.cells #[sB p1 bs c2, sB p3 R c4, Ix (gX), Ix (gY)] 27), rowF BodyF 31 p1 c2 bs, rowF RopeF 35 p3 c4 R, rowF BodyF 31 (sla (prt 0 (fa54 151))) (slc (prt 0 (fa54 151))) bs, rowF RopeF 35 (sla (prt 1 (fa54 151))) (slc (prt 1 (fa54 151))) R, rowF BodyF 31 (sla (prt 0 (fa54 168))) (slc (prt 0 (fa54 168))) T, rowF RopeF 35 (sla (prt 1 (fa54 168))) (slc (prt 1 (fa54 168))) R]) (by rfl) ?_
 refine f_rebase (d := 4) j0 ?_
 refine f_rebase (d := 5) j1 ?_
 refine f_rebase (d := 6) j2 ?_
 refine f_rebase (d := 7) j3 ?_
 refine f_rebase (d := 17) j4 ?_
 refine f_rebase (d := 18) j5 ?_
 refine f_rebase (d := 20) j6 ?_
 refine f_rebase (d := 24) j7 ?_
 refine f_rebase (d := 28) j8 ?_
 refine f_rebase (d := 172) k31 ?_
 refine f_then ?_
 refine c_no rfl ?_
 refine csk ?_
 refine cs2 ?_
 refine c_region ?_
 refine lv (v := pp b37 1) (e_fieldPt rfl tg128) ?_
 refine lv (v := sB p33 us (c34)) (e_load1 tg129 rfl (k_pt 0 rfl rfl)) ?_
 refine lv (v := Nx (us.length)) (e_len (a := p33) (n := us.length) (c := c34) rfl tg130) ?_
 refine lv (v := pp b6 1) (e_fieldPt rfl tg128) ?_
 refine lv (v := sB rp24 ws (rc25)) (e_load1 tg129 rfl (k_pt 9 rfl rfl)) ?_
 refine lv (v := Nx (ws.length)) (e_len (a := rp24) (n := ws.length) (c := rc25) rfl tg130) ?_
 refine lv (e_neq (a := ((us.length : Nat) : Int)) (b := ((ws.length : Nat) : Int)) rfl rfl) ?_
 refine lv (v := .bool (decide (((us.length : Nat) : Int) ≠ ((ws.length : Nat) : Int)))) e_move ?_
 refine l_split (s := 180) (p := ((us.length : Nat) : Int) ≠ ((ws.length : Nat) : Int)) rfl (fun h => ?_) (fun h => ?_)
 exact absurd h (by omega)
 refine g_val (v := pp b37 0) rfl rfl rfl rfl rfl (e_fieldPt rfl tg137) ?_
 refine g_val (v := .int .i64 (5)) rfl rfl rfl rfl rfl (e_load1 tf2 rfl (k_pt 0 rfl rfl)) ?_
 refine g_val (v := .bool false) rfl rfl rfl rfl rfl (e_neq (a := (5 : Int)) (b := (5 : Int)) rfl rfl) ?_
 refine lv (v := .bool false) (e_pick_f rfl) ?_
 refine lnf ?_
 refine c_no rfl ?_
 refine csk ?_
 refine cs2 ?_
 refine c_region ?_
 refine lv (v := pp b37 1) (e_fieldPt rfl tg128) ?_
 refine lv (v := sB p33 us (c34)) (e_load1 tg129 rfl (k_pt 0 rfl rfl)) ?_
 refine lv (v := Nx (us.length)) (e_len (a := p33) (n := us.length) (c := c34) rfl tg130) ?_
 refine lv (v := .int .i64 (0)) e_move ?_
 refine lnf ?_
 refine c_block ?_
 refine c_mask [true, true, true, true, true, true, true, true, true, true, true, true, true, true, true, true, true] rfl ?_
 refine c_loop (fun (i : Nat) (f : Fm) (L : List Res) => (f 4 = .int .i16 (x) ∧ f 5 = .int .i16 (y) ∧ f 6 = .int .i16 (vx) ∧ f 7 = .int .i16 (vy) ∧ f 17 = pp b5 0 ∧ f 18 = pp b6 0 ∧ f 20 = pp b7 0 ∧ f 24 = pp b21 0 ∧ f 28 = pp b37 0 ∧ f 186 = sB p33 us (c34) ∧ f 187 = Nx (us.length) ∧ f 188 = Nx (i)) ∧ L = [pt b37 (.cells #[.int .i64 (5), sB p33 us (c34)] 70), rowF StopF 45 p35 c36 S, pt b32 (.cells #[sB p26 bs c27, sB p28 R c29, Ix (gX), Ix (gY)] 27), rowF BodyF 31 p26 c27 T, rowF RopeF 35 p28 c29 R, rowF StopF 45 p30 c31 S, pt b23 (.cells #[.int .i64 (100), .slice (some ⟨b20, 0, none⟩) (3) (3), .int .i64 (101), .slice (some ⟨b22, 0, none⟩) 2 2] 76), pt b21 (.cells #[.int .i64 (100), .slice (some ⟨b20, 0, none⟩) (3) (3)] 76), pt b7 (.cells #[.int .u8 (8), .int .i64 (7), .int .i64 (0), .int .i64 (0), .int .i64 (0)] 73), pt b6 (.cells #[.int .i64 (5), sB rp24 ws (rc25)] 70), pt b5 (.cells #[sB p1 bs c2, sB p3 R c4, Ix (gX), Ix (gY)] 27), rowF BodyF 31 p1 c2 bs, rowF RopeF 35 p3 c4 R, rowF BodyF 31 (sla (prt 0 (fa54 151))) (slc (prt 0 (fa54 151))) bs, rowF RopeF 35 (sla (prt 1 (fa54 151))) (slc (prt 1 (fa54 151))) R, rowF BodyF 31 (sla (prt 0 (fa54 168))) (slc (prt 0 (fa54 168))) T, rowF RopeF 35 (sla (prt 1 (fa54 168))) (slc (prt 1 (fa54 168))) R] ∧ (i ≤ us.length)) (fun (i : Nat) => us.length - i) 0 ?_ ?_
 ·exact ⟨⟨rfl, rfl, rfl, rfl, rfl, rfl, rfl, rfl, rfl, rfl, rfl, rfl⟩, rfl, (by omega)⟩
 rintro i f0 L0 ⟨⟨hs4, hs5, hs6, hs7, hs17, hs18, hs20, hs24, hs28, hs186, hs187, hs188⟩, hL, hi⟩
 subst L0
 refine rebase (d := 4) hs4 ?_
 refine rebase (d := 5) hs5 ?_
 refine rebase (d := 6) hs6 ?_
 refine rebase (d := 7) hs7 ?_
 refine rebase (d := 17) hs17 ?_
 refine rebase (d := 18) hs18 ?_
 refine rebase (d := 20) hs20 ?_
 refine rebase (d := 24) hs24 ?_
 refine rebase (d := 28) hs28 ?_
 refine rebase (d := 186) hs186 ?_
 refine rebase (d := 187) hs187 ?_
 refine rebase (d := 188) hs188 ?_
 clear hs4 hs5 hs6 hs7 hs17 hs18 hs20 hs24 hs28 hs186 hs187 hs188
 refine csr ?_
 refine lv (e_lss (a := ((i : Nat) : Int)) (b := ((us.length : Nat) : Int)) rfl rfl) ?_
 refine lnf ?_
 refine c_seq ?_
 refine c_if (((i : Nat) : Int) < ((us.length : Nat) : Int)) rfl (fun hc55 => ?_) (fun hc55 => ?_)
 ·refine csk ?_
  refine c_seq ?_
  refine c_block ?_
  refine csr ?_
  refine lv (v := Nx (i)) e_move ?_
  obtain ⟨x56, hx57⟩ : ∃ x_, (us)[i]? = some x_ := ⟨_, List.getElem?_eq_getElem (by omega)⟩
  obtain ⟨ha58, cs59, hc60, hr61⟩ := hUe _ _ hx57
  obtain ⟨v62, rfl, hv63⟩ := hr61
  obtain ⟨v62a, v62c, rfl, v62l, v62m, v62e⟩ := hv63.get
  refine lv (v := .pointer (some ((ba p33).add (i * 2)))) (e_indexAddr (k := i) (len := us.length) (cap := c34) (a := p33) rfl rfl tg131 (by omega) ha58) ?_
  refine lv (v := .agg #[Ix (x56.id), sB v62a x56.comps (v62c)]) (e_load tg121 rfl (kB hc60) rfl) ?_
  refine l_mv rfl rfl rfl (m_alloc tg132) ?_
  rintro _ _ ⟨b64, rfl, rfl⟩
  refine lv (v := Nx (i)) e_assign ?_
  refine lu (m_store 0 tg121 (cs' := #[Ix (x56.id), sB v62a x56.comps (v62c)]) rfl rfl rfl rfl rfl rfl rfl) ?_
  refine lnf ?_
  refine c_seq ?_
  obtain ⟨d, hd_⟩ : ∃ x_, ws[i]? = some x_ := ⟨_, List.getElem?_eq_getElem (by omega)⟩
  obtain ⟨q1, q2, q3, q4⟩ := hP.each i x56 d hx57 hd_
  refine c_region ?_
  refine lv (v := pp b64 1) (e_fieldPt rfl tg118) ?_
  refine lv (v := sB v62a x56.comps (v62c)) (e_load1 tg119 rfl (k_pt 0 rfl rfl)) ?_
  refine lv (v := pp b64 1) (e_fieldPt rfl tg118) ?_
  refine lv (v := sB v62a x56.comps (v62c)) (e_load1 tg119 rfl (k_pt 0 rfl rfl)) ?_
  refine lv (v := Nx (x56.comps.length)) (e_len (a := v62a) (n := x56.comps.length) (c := v62c) rfl tg114) ?_
  refine lv (v := Nx (x56.comps.length - 1)) (ev_eq (congrArg (Value.int .i64) (by omega)) (e_sub (a := ((x56.comps.length : Nat) : Int)) (b := (1 : Int)) rfl rfl (i64w (by omega)))) ?_
  obtain ⟨zs65, hz66⟩ : ∃ zs, zs = (x56.comps.drop (x56.comps.length - 1)) := ⟨_, rfl⟩
  have zl67 : zs65.length = (x56.comps).length - (x56.comps.length - 1) := by rw [hz66]; simp; try omega
  have ze68 := (Elems.drop (cap := v62c) (x56.comps.length - 1) (by first | omega | (simp; omega)) v62e)
  rw [← hz66] at ze68
  refine lv (v := .slice (adv v62a v62c (x56.comps.length - 1) 5) (zs65.length) ((v62c - (x56.comps.length - 1)))) (ev_eq (by rw [show zs65.length = x56.comps.length - (x56.comps.length - 1) by omega]) (e_slice_lo (a := v62a) (len := x56.comps.length) (cap := v62c) (l := x56.comps.length - 1) tg115 rfl rfl (by omega))) ?_
  refine lv (v := sB (adv v62a v62c (x56.comps.length - 1) 5) zs65 ((v62c - (x56.comps.length - 1)))) e_assign ?_
  refine lnf ?_
  refine c_seq ?_
  refine c_quiet (by kernel_rfl) (by kernel_rfl) ?_
  refine q_val (v := pp b64 0) rfl rfl rfl (e_fieldPt rfl tg124) ?_
  refine q_val (v := Ix (x56.id)) rfl rfl rfl (e_load1 tf2 rfl (k_pt 0 rfl rfl)) ?_
  refine q_val (v := pp b6 1) rfl rfl rfl (e_fieldPt rfl tg128) ?_
  refine q_val (v := sB rp24 ws (rc25)) rfl rfl rfl (e_load1 tg129 rfl (k_pt 10 rfl rfl)) ?_
  refine q_val (v := Nx (i)) rfl rfl rfl e_move ?_
  obtain ⟨x69, hx70⟩ : ∃ x_, (ws)[i]? = some x_ := ⟨_, List.getElem?_eq_getElem (by omega)⟩
  obtain ⟨ha71, cs72, hc73, hr74⟩ := hWe _ _ hx70
  obtain ⟨v75, rfl, hv76⟩ := hr74
  obtain ⟨v75a, v75c, rfl, v75l, v75m, v75e⟩ := hv76.get
  refine q_val (v := .pointer (some ((ba rp24).add (i * 2)))) rfl rfl rfl (e_indexAddr (k := i) (len := ws.length) (cap := rc25) (a := rp24) rfl rfl tg131 (by omega) ha71) ?_
  refine q_val (v := .pointer (some (((ba rp24).add (i * 2) : Addr).add 0))) rfl rfl rfl (e_fieldAddr (a := (ba rp24).add (i * 2)) rfl tg124) ?_
  refine q_val (v := Ix (x69.id)) rfl rfl rfl (e_load1 tf2 rfl (Knows.imp (kB hc73) (fun _ h => Cs.sub (vs := [Ix (x69.id)]) 0 h rfl))) ?_
  refine q_val rfl rfl rfl (e_neq (a := (x56.id)) (b := (x69.id)) rfl rfl) ?_
  refine q_val (v := .bool (decide ((x56.id) ≠ (x69.id)))) rfl rfl rfl e_move ?_
  refine q_split (s := 209) (p := (x56.id) ≠ (x69.id)) rfl (fun h => ?_) (fun h => ?_)
  exact absurd h (by have e_ := some_eq hd_ hx70; subst e_; omega)
  refine qg_val (v := pp b64 1) rfl rfl rfl rfl rfl (e_fieldPt rfl tg118) ?_
  refine qg_val (v := sB v62a x56.comps (v62c)) rfl rfl rfl rfl rfl (e_load1 tg119 rfl (k_pt 0 rfl rfl)) ?_
  refine qg_val (v := Nx (x56.comps.length)) rfl rfl rfl rfl rfl (e_len (a := v62a) (n := x56.comps.length) (c := v62c) rfl tg114) ?_
  refine qg_val (v := pp b6 1) rfl rfl rfl rfl rfl (e_fieldPt rfl tg128) ?_
  refine qg_val (v := sB rp24 ws (rc25)) rfl rfl rfl rfl rfl (e_load1 tg129 rfl (k_pt 10 rfl rfl)) ?_
  refine qg_val (v := Nx (i)) rfl rfl rfl rfl rfl e_move ?_
  refine qg_val (v := .pointer (some ((ba rp24).add (i * 2)))) rfl rfl rfl rfl rfl (e_indexAddr (k := i) (len := ws.length) (cap := rc25) (a := rp24) rfl rfl tg131 (by omega) ha71) ?_
  refine qg_val (v := .pointer (some (((ba rp24).add (i * 2) : Addr).add 1))) rfl rfl rfl rfl rfl (e_fieldAddr (a := (ba rp24).add (i * 2)) rfl tg118) ?_
  refine qg_val (v := sB v75a x69.comps (v75c)) rfl rfl rfl rfl rfl (e_load1 tg119 rfl (Knows.imp (kB hc73) (fun _ h => Cs.sub (vs := [sB v75a x69.comps (v75c)]) 1 h rfl))) ?_
  refine qg_val (v := Nx (x69.comps.length)) rfl rfl rfl rfl rfl (e_len (a := v75a) (n := x69.comps.length) (c := v75c) rfl tg114) ?_
  refine qg_val rfl rfl rfl rfl rfl (e_neq (a := ((x56.comps.length : Nat) : Int)) (b := ((x69.comps.length : Nat) : Int)) rfl rfl) ?_
  refine q_val (v := .bool (decide (((x56.comps.length : Nat) : Int) ≠ ((x69.comps.length : Nat) : Int)))) rfl rfl rfl (e_pick_f rfl) ?_
  refine q_val (v := .bool (decide (((x56.comps.length : Nat) : Int) ≠ ((x69.comps.length : Nat) : Int)))) rfl rfl rfl e_move ?_
  refine q_split (s := 222) (p := ((x56.comps.length : Nat) : Int) ≠ ((x69.comps.length : Nat) : Int)) rfl (fun h => ?_) (fun h => ?_)
  exact absurd h (by have e_ := some_eq hd_ hx70; subst e_; omega)
  refine qg_val (v := sB (adv v62a v62c (x56.comps.length - 1) 5) zs65 ((v62c - (x56.comps.length - 1)))) rfl rfl rfl rfl rfl e_move ?_
  obtain ⟨x77, hx78⟩ : ∃ x_, (zs65)[0]? = some x_ := ⟨_, List.getElem?_eq_getElem (by omega)⟩
  obtain ⟨ha79, cs80, hc81, rfl⟩ := ze68 _ _ hx78
  refine qg_val (v := .pointer (some ((ba (adv v62a v62c (x56.comps.length - 1) 5)).add (0 * 5)))) rfl rfl rfl rfl rfl (e_indexAddr (k := 0) (len := zs65.length) (cap := (v62c - (x56.comps.length - 1))) (a := (adv v62a v62c (x56.comps.length - 1) 5)) rfl rfl tg115 (by omega) ha79) ?_
  refine qg_val (v := .agg #[Bx (x77.kind), Ix (x77.v0), Ix (x77.v1), Ix (x77.v2), Ix (x77.v3)]) rfl rfl rfl rfl rfl (e_load tg116 rfl (kB hc81) rfl) ?_
  refine qg_val (v := .agg #[.int .u8 (8), .int .i64 (7), .int .i64 (0), .int .i64 (0), .int .i64 (0)]) rfl rfl rfl rfl rfl (e_load tg116 rfl (k_pt 9 rfl rfl) rfl) ?_
  refine qg_val (v := .bool (decide (¬ (x77 = (⟨8, 7, 0, 0, 0⟩ : KComp))))) rfl rfl rfl rfl rfl (e_neq_t (xs := [Bx (x77.kind), Ix (x77.v0), Ix (x77.v1), Ix (x77.v2), Ix (x77.v3)]) (ys := [.int .u8 (8), .int .i64 (7), .int .i64 (0), .int .i64 (0), .int .i64 (0)]) tg151 tg152 tg153 rfl rfl rfl rfl (not_congr (comp_eq (x := x77) (y := (⟨8, 7, 0, 0, 0⟩ : KComp))))) ?_
  refine q_val (v := .bool (decide (¬ (x77 = (⟨8, 7, 0, 0, 0⟩ : KComp))))) rfl rfl rfl (e_pick_f rfl) ?_
  refine q_nil ?_
  refine f_then ?_
  refine c_if (¬ (x77 = (⟨8, 7, 0, 0, 0⟩ : KComp))) rfl (fun hc83 => ?_) (fun hc83 => ?_)
  ·exact absurd hc83 (fun h => h (some_eq (by rw [hz66] at hx78; exact hx78) q4))
  refine c_skip ?_
  refine f_block ?_
  refine f_then ?_
  refine c_region ?_
  refine lv (v := Nx (i + 1)) (e_add (a := ((i : Nat) : Int)) (b := (1 : Int)) rfl rfl (i64n (by omega) (by omega))) ?_
  refine lv (v := Nx (i + 1)) e_move ?_
  refine l_nil ?_
  refine f_mask (L' := [pt b37 (.cells #[.int .i64 (5), sB p33 us (c34)] 70), rowF StopF 45 p35 c36 S, pt b32 (.cells #[sB p26 bs c27, sB p28 R c29, Ix (gX), Ix (gY)] 27), rowF BodyF 31 p26 c27 T, rowF RopeF 35 p28 c29 R, rowF StopF 45 p30 c31 S, pt b23 (.cells #[.int .i64 (100), .slice (some ⟨b20, 0, none⟩) (3) (3), .int .i64 (101), .slice (some ⟨b22, 0, none⟩) 2 2] 76), pt b21 (.cells #[.int .i64 (100), .slice (some ⟨b20, 0, none⟩) (3) (3)] 76), pt b7 (.cells #[.int .u8 (8), .int .i64 (7), .int .i64 (0), .int .i64 (0), .int .i64 (0)] 73), pt b6 (.cells #[.int .i64 (5), sB rp24 ws (rc25)] 70), pt b5 (.cells #[sB p1 bs c2, sB p3 R c4, Ix (gX), Ix (gY)] 27), rowF BodyF 31 p1 c2 bs, rowF RopeF 35 p3 c4 R, rowF BodyF 31 (sla (prt 0 (fa54 151))) (slc (prt 0 (fa54 151))) bs, rowF RopeF 35 (sla (prt 1 (fa54 151))) (slc (prt 1 (fa54 151))) R, rowF BodyF 31 (sla (prt 0 (fa54 168))) (slc (prt 0 (fa54 168))) T, rowF RopeF 35 (sla (prt 1 (fa54 168))) (slc (prt 1 (fa54 168))) R]) [false, true, true, true, true, true, true, true, true, true, true, true, true, true, true, true, true, true] rfl ?_
  exact f_cut ⟨i + 1, ⟨⟨rfl, rfl, rfl, rfl, rfl, rfl, rfl, rfl, rfl, rfl, rfl, rfl⟩, rfl, (by omega)⟩, (show us.length - (i + 1) < us.length - i from by omega)⟩
 refine c_exit ?_
 refine f_then_exit ?_
 refine f_then_exit ?_
 refine f_exit ?_
 refine ftc ?_
 refine lv (v := pp b5 0) (e_fieldPt rfl tf49) ?_
 refine lv (v := sB p1 bs c2) (e_load1 tf50 rfl (k_pt 10 rfl rfl)) ?_
 refine lv (v := Nx (bs.length)) (e_len (a := p1) (n := bs.length) (c := c2) rfl tf40) ?_
 refine lv (v := Nx (bs.length)) e_assign ?_
 refine lnf ?_
 refine c_seq ?_
 obtain ⟨x84, hx85⟩ : ∃ x_, (us)[bs.length]? = some x_ := ⟨_, List.getElem?_eq_getElem (by omega)⟩
 obtain ⟨ha86, cs87, hc88, hr89⟩ := hUe _ _ hx85
 obtain ⟨v90, rfl, hv91⟩ := hr89
 obtain ⟨v90a, v90c, rfl, v90l, v90m, v90e⟩ := hv91.get
 have hegl : x84.comps.length = 3 := by rw [some_eq hx85 hP.ghost]; rfl
 refine c_region ?_
 refine lv (v := pp b37 1) (e_fieldPt rfl tg128) ?_
 refine lv (v := sB p33 us (c34)) (e_load1 tg129 rfl (k_pt 0 rfl rfl)) ?_
 refine lv (v := Nx (bs.length)) e_move ?_
 refine lv (v := .pointer (some ((ba p33).add (bs.length * 2)))) (e_indexAddr (k := bs.length) (len := us.length) (cap := c34) (a := p33) rfl rfl tg131 (by omega) ha86) ?_
 refine lv (v := .pointer (some (((ba p33).add (bs.length * 2) : Addr).add 1))) (e_fieldAddr (a := (ba p33).add (bs.length * 2)) rfl tg118) ?_
 refine lv (v := sB v90a x84.comps (v90c)) (e_load1 tg119 rfl (Knows.imp (kB hc88) (fun _ h => Cs.sub (vs := [sB v90a x84.comps (v90c)]) 1 h rfl))) ?_
 obtain ⟨x92, hx93⟩ : ∃ x_, (x84.comps)[0]? = some x_ := ⟨_, List.getElem?_eq_getElem (by omega)⟩
 obtain ⟨ha94, cs95, hc96, rfl⟩ := v90e _ _ hx93
 refine lv (v := .pointer (some ((ba v90a).add (0 * 5)))) (e_indexAddr (k := 0) (len := x84.comps.length) (cap := v90c) (a := v90a) rfl rfl tg115 (by omega) ha94) ?_
 refine lv (v := .pointer (some (((ba v90a).add (0 * 5) : Addr).add 1))) (e_fieldAddr (a := (ba v90a).add (0 * 5)) rfl tg125) ?_
 refine lv (v := .agg #[Ix (x92.v0), Ix (x92.v1), Ix (x92.v2), Ix (x92.v3)]) (e_load tg168 rfl (Knows.imp (kB hc96) (fun _ h => Cs.sub (vs := [Ix (x92.v0), Ix (x92.v1), Ix (x92.v2), Ix (x92.v3)]) 1 h rfl)) rfl) ?_
 refine l_mv rfl rfl rfl (m_alloc tg159) ?_
 rintro _ _ ⟨b98, rfl, rfl⟩
 refine lu (m_store 0 tg168 (cs' := #[Ix (x92.v0), Ix (x92.v1), Ix (x92.v2), Ix (x92.v3)]) rfl rfl rfl rfl rfl rfl rfl) ?_
 refine lnf ?_
 refine c_seq ?_
 have hge := some_eq hx85 hP.ghost
 have hgcs : x84.comps = [⟨1, x + vx, y + vy, 0, 0⟩, ⟨2, vx, vy, 0, 0⟩, lifeC] := by rw [hge]
 have hc0 : x92 = ⟨1, x + vx, y + vy, 0, 0⟩ := at_eq hgcs hx93 rfl
 have hgl3 : x84.comps.length = 3 := by rw [hgcs]; rfl
 refine c_quiet (by kernel_rfl) (by kernel_rfl) ?_
 refine q_val (v := .agg #[Ix (x92.v0), Ix (x92.v1), Ix (x92.v2), Ix (x92.v3)]) rfl rfl rfl (e_load tg168 rfl (k_pt 0 rfl rfl) rfl) ?_
 refine q_val (v := .int .i16 (x)) rfl rfl rfl e_move ?_
 refine q_val (v := Ix (x)) rfl rfl rfl (e_conv (a := (x)) rfl ⟨_, tg164⟩ tf41 (i64w (by omega))) ?_
 refine q_val (v := .int .i16 (vx)) rfl rfl rfl e_move ?_
 refine q_val (v := Ix (vx)) rfl rfl rfl (e_conv (a := (vx)) rfl ⟨_, tg164⟩ tf41 (i64w (by omega))) ?_
 refine q_val (v := Ix ((x) + (vx))) rfl rfl rfl (e_add (a := (x)) (b := (vx)) rfl rfl (i64w (by omega))) ?_
 refine q_val (v := .int .i16 (y)) rfl rfl rfl e_move ?_
 refine q_val (v := Ix (y)) rfl rfl rfl (e_conv (a := (y)) rfl ⟨_, tg164⟩ tf41 (i64w (by omega))) ?_
 refine q_val (v := .int .i16 (vy)) rfl rfl rfl e_move ?_
 refine q_val (v := Ix (vy)) rfl rfl rfl (e_conv (a := (vy)) rfl ⟨_, tg164⟩ tf41 (i64w (by omega))) ?_
 refine q_val (v := Ix ((y) + (vy))) rfl rfl rfl (e_add (a := (y)) (b := (vy)) rfl rfl (i64w (by omega))) ?_
 refine q_val (v := .agg #[Ix ((x) + (vx)), Ix ((y) + (vy)), .int .i64 (0), .int .i64 (0)]) rfl rfl rfl (e_build_a tg159 tg126 (vs := [(0, Ix ((x) + (vx))), (1, Ix ((y) + (vy)))]) (cells := #[Ix ((x) + (vx)), Ix ((y) + (vy)), .int .i64 (0), .int .i64 (0)]) rfl rfl) ?_
 refine q_val (v := .bool (decide ((x92.v0) = ((x) + (vx)) ∧ (x92.v1) = ((y) + (vy)) ∧ (x92.v2) = (0 : Int) ∧ (x92.v3) = (0 : Int)))) rfl rfl rfl (e_eql_t (xs := [Ix (x92.v0), Ix (x92.v1), Ix (x92.v2), Ix (x92.v3)]) (ys := [Ix ((x) + (vx)), Ix ((y) + (vy)), .int .i64 (0), .int .i64 (0)]) tg169 tg170 tg171 rfl rfl rfl rfl arr4_eq) ?_
 refine q_val (v := .bool (decide ((x92.v0) = ((x) + (vx)) ∧ (x92.v1) = ((y) + (vy)) ∧ (x92.v2) = (0 : Int) ∧ (x92.v3) = (0 : Int)))) rfl rfl rfl e_move ?_
 refine q_split (s := 255) (p := (x92.v0) = ((x) + (vx)) ∧ (x92.v1) = ((y) + (vy)) ∧ (x92.v2) = (0 : Int) ∧ (x92.v3) = (0 : Int)) rfl (fun h => ?_) (fun h => ?_)
 rotate_left; exact absurd (by rw [hc0]; exact ⟨rfl, rfl, rfl, rfl⟩) h
 refine qg_val (v := pp b37 1) rfl rfl rfl rfl rfl (e_fieldPt rfl tg128) ?_
 refine qg_val (v := sB p33 us (c34)) rfl rfl rfl rfl rfl (e_load1 tg129 rfl (k_pt 1 rfl rfl)) ?_
 refine qg_val (v := Nx (bs.length)) rfl rfl rfl rfl rfl e_move ?_
 refine qg_val (v := .pointer (some ((ba p33).add (bs.length * 2)))) rfl rfl rfl rfl rfl (e_indexAddr (k := bs.length) (len := us.length) (cap := c34) (a := p33) rfl rfl tg131 (by omega) ha86) ?_
 refine qg_val (v := .pointer (some (((ba p33).add (bs.length * 2) : Addr).add 1))) rfl rfl rfl rfl rfl (e_fieldAddr (a := (ba p33).add (bs.length * 2)) rfl tg118) ?_
 refine qg_val (v := sB v90a x84.comps (v90c)) rfl rfl rfl rfl rfl (e_load1 tg119 rfl (Knows.imp (kB hc88) (fun _ h => Cs.sub (vs := [sB v90a x84.comps (v90c)]) 1 h rfl))) ?_
 obtain ⟨x99, hx100⟩ : ∃ x_, (x84.comps)[1]? = some x_ := ⟨_, List.getElem?_eq_getElem (by omega)⟩
 obtain ⟨ha101, cs102, hc103, rfl⟩ := v90e _ _ hx100
 refine qg_val (v := .pointer (some ((ba v90a).add (1 * 5)))) rfl rfl rfl rfl rfl (e_indexAddr (k := 1) (len := x84.comps.length) (cap := v90c) (a := v90a) rfl rfl tg115 (by omega) ha101) ?_
 refine qg_val (v := .agg #[Bx (x99.kind), Ix (x99.v0), Ix (x99.v1), Ix (x99.v2), Ix (x99.v3)]) rfl rfl rfl rfl rfl (e_load tg116 rfl (kB hc103) rfl) ?_
 refine qg_val (v := pp b21 1) rfl rfl rfl rfl rfl (e_fieldPt rfl tg118) ?_
 refine qg_val (v := .slice (some ⟨b20, 0, none⟩) (3) (3)) rfl rfl rfl rfl rfl (e_load1 tg119 rfl (k_pt 8 rfl rfl)) ?_
 obtain ⟨x105, hx106⟩ : ∃ x_, ((ghostE x y vx vy).comps)[1]? = some x_ := ⟨_, List.getElem?_eq_getElem (by omega)⟩
 obtain ⟨ha107, cs108, hc109, rfl⟩ := hGe _ _ hx106
 refine qg_val (v := .pointer (some ((ba (some ⟨b20, 0, none⟩)).add (1 * 5)))) rfl rfl rfl rfl rfl (e_indexAddr (k := 1) (len := 3) (cap := 3) (a := (some ⟨b20, 0, none⟩)) rfl rfl tg115 (by omega) ha107) ?_
 refine qg_val (v := .agg #[Bx (x105.kind), Ix (x105.v0), Ix (x105.v1), Ix (x105.v2), Ix (x105.v3)]) rfl rfl rfl rfl rfl (e_load tg116 rfl (kB hc109) rfl) ?_
 refine qg_val (v := .bool (decide (x99 = x105))) rfl rfl rfl rfl rfl (e_eql_t (xs := [Bx (x99.kind), Ix (x99.v0), Ix (x99.v1), Ix (x99.v2), Ix (x99.v3)]) (ys := [Bx (x105.kind), Ix (x105.v0), Ix (x105.v1), Ix (x105.v2), Ix (x105.v3)]) tg151 tg152 tg153 rfl rfl rfl rfl (comp_eq (x := x99) (y := x105))) ?_
 refine q_val (v := .bool (decide (x99 = x105))) rfl rfl rfl (e_pick_t rfl) ?_
 refine q_val (v := .bool (decide (x99 = x105))) rfl rfl rfl e_move ?_
 refine q_split (s := 270) (p := x99 = x105) rfl (fun h => ?_) (fun h => ?_)
 rotate_left; exact absurd ((at_eq hgcs hx100 rfl).trans (at_eq (rfl : (ghostE x y vx vy).comps = _) hx106 rfl).symm) h
 refine qg_val (v := pp b37 1) rfl rfl rfl rfl rfl (e_fieldPt rfl tg128) ?_
 refine qg_val (v := sB p33 us (c34)) rfl rfl rfl rfl rfl (e_load1 tg129 rfl (k_pt 1 rfl rfl)) ?_
 refine qg_val (v := Nx (bs.length)) rfl rfl rfl rfl rfl e_move ?_
 refine qg_val (v := Nx (bs.length + 1)) rfl rfl rfl rfl rfl (e_add (a := ((bs.length : Nat) : Int)) (b := (1 : Int)) rfl rfl (i64n (by omega) (by omega))) ?_
 obtain ⟨x111, hx112⟩ : ∃ x_, (us)[bs.length + 1]? = some x_ := ⟨_, List.getElem?_eq_getElem (by omega)⟩
 obtain ⟨ha113, cs114, hc115, hr116⟩ := hUe _ _ hx112
 obtain ⟨v117, rfl, hv118⟩ := hr116
 obtain ⟨v117a, v117c, rfl, v117l, v117m, v117e⟩ := hv118.get
 refine qg_val (v := .pointer (some ((ba p33).add ((bs.length + 1) * 2)))) rfl rfl rfl rfl rfl (e_indexAddr (k := bs.length + 1) (len := us.length) (cap := c34) (a := p33) rfl rfl tg131 (by omega) ha113) ?_
 refine qg_val (v := .agg #[Ix (x111.id), sB v117a x111.comps (v117c)]) rfl rfl rfl rfl rfl (e_load tg121 rfl (kB hc115) rfl) ?_
 refine qg_val (v := pp b6 1) rfl rfl rfl rfl rfl (e_fieldPt rfl tg128) ?_
 refine qg_val (v := sB rp24 ws (rc25)) rfl rfl rfl rfl rfl (e_load1 tg129 rfl (k_pt 10 rfl rfl)) ?_
 refine qg_val (v := Nx (bs.length)) rfl rfl rfl rfl rfl e_move ?_
 refine qg_val (v := Nx (bs.length + 1)) rfl rfl rfl rfl rfl (e_add (a := ((bs.length : Nat) : Int)) (b := (1 : Int)) rfl rfl (i64n (by omega) (by omega))) ?_
 obtain ⟨x119, hx120⟩ : ∃ x_, (ws)[bs.length + 1]? = some x_ := ⟨_, List.getElem?_eq_getElem (by omega)⟩
 obtain ⟨ha121, cs122, hc123, hr124⟩ := hWe _ _ hx120
 obtain ⟨v125, rfl, hv126⟩ := hr124
 obtain ⟨v125a, v125c, rfl, v125l, v125m, v125e⟩ := hv126.get
 refine qg_val (v := .pointer (some ((ba rp24).add ((bs.length + 1) * 2)))) rfl rfl rfl rfl rfl (e_indexAddr (k := bs.length + 1) (len := ws.length) (cap := rc25) (a := rp24) rfl rfl tg131 (by omega) ha121) ?_
 refine qg_val (v := .agg #[Ix (x119.id), sB v125a x119.comps (v125c)]) rfl rfl rfl rfl rfl (e_load tg121 rfl (kB hc123) rfl) ?_
 refine qg_call (v := .bool true) rfl rfl rfl rfl rfl (cl0 (vs := [.agg #[Ix (x111.id), sB v117a x111.comps (v117c)], .agg #[Ix (x119.id), sB v125a x119.comps (v125c)]]) tg172 rfl rfl) (fun w hw => ?_) ?_
 ·obtain ⟨β1, sb, kn, hw1, back⟩ := St.frame_all hw
  exact (eqEnt_ok β1 w hw1 _ _ _ _ x111.comps x119.comps (Sl.mono _ _ _ _ _ sb (⟨⟨_, _, rfl, v117l, v117m, v117e⟩⟩ : Sl CompR _ _ x111.comps)) (Sl.mono _ _ _ _ _ sb (⟨⟨_, _, rfl, v125l, v125m, v125e⟩⟩ : Sl CompR _ _ x119.comps)) (congrArg KEnt.id ((some_eq hx112 hP.rest.1).trans (some_eq hx120 hP.rest.2).symm)) (congrArg KEnt.comps ((some_eq hx112 hP.rest.1).trans (some_eq hx120 hP.rest.2).symm))).mono (fun e w' ⟨he, hw'⟩ => ⟨he, st_mask [true, true, true, true, true, true, true, true, true, true, true, true, true, true, true, true, true, true] rfl (back _ _ hw')⟩)
 refine q_val (v := .bool true) rfl rfl rfl (e_pick_t rfl) ?_
 refine q_val (v := .bool true) rfl rfl rfl e_assign ?_
 refine q_nil ?_
 refine ftr ?_
 refine ret1 Tryd.results10 (v := .bool true) rfl ?_
 intro w hw
 exact ⟨rfl, st_mask [false, false, false, false, false, false, false, false, false, false, false, false, false, false, false, false, false, false, false, false, false] rfl (bk1 _ _ (bk2 _ _ hw))⟩
end Go.Proofs
