/-
 What Bodies makes of a world: walked. Printed by a program of my own.
-/
import Derived.Test.YtdkibofhppgbjaaGreatDoorSt9
import Derived.Test.YtdkibofhppgbjaaGreatDoorStWorld
namespace Go.Proofs
open Go Go.Sl Go.Stp
theorem body_ret_none {id : Int} {cm : List KComp} (h : bodyOf id cm = none) : Ending.returned (.tuple #[.agg (bC zeroB), .bool false]) = .returned (.tuple #[.agg (bC (bodyD id cm)), .bool (bodyOf id cm).isSome]) := by unfold bodyD; rw [h]; rfl
theorem body_ret_some {id : Int} {cm : List KComp} {b : KB} (h : bodyOf id cm = some b) : Ending.returned (.tuple #[.agg (bC b), .bool true]) = .returned (.tuple #[.agg (bC (bodyD id cm)), .bool (bodyOf id cm).isSome]) := by unfold bodyD; rw [h]; rfl
theorem uc114 : Tryz.prog.underlying 57 = some (.slice 120) := by kernel_rfl
theorem uc115 : slB Tryz.prog 57 120 5 = true := by kernel_rfl
theorem uc116 : tyB Tryz.prog 120 true 5 = true := by kernel_rfl
theorem uc117 : fldB Tryz.prog 120 0 0 1 false = true := by kernel_rfl
theorem uc118 : fldB Tryz.prog 59 1 1 1 false = true := by kernel_rfl
theorem uc119 : tyB Tryz.prog 57 false 1 = true := by kernel_rfl
theorem uc120 : cfB Tryz.prog 111 = true := by kernel_rfl
theorem uc121 : tyB Tryz.prog 59 true 2 = true := by kernel_rfl
theorem uc122 : cfB Tryz.prog 65 = true := by kernel_rfl
theorem uc123 : Tryz.prog.underlying 121 = some (.pointer (Tryz.prog.pointee 121)) := by kernel_rfl
theorem uc124 : fldB Tryz.prog 59 0 0 1 false = true := by kernel_rfl
theorem uc125 : fldB Tryz.prog 120 1 1 4 true = true := by kernel_rfl
theorem uc126 : arB Tryz.prog 118 4 3 1 = true := by kernel_rfl
theorem uc127 : cfB Tryz.prog 62 = true := by kernel_rfl
theorem uc128 : fldB Tryz.prog 24 1 1 1 false = true := by kernel_rfl
theorem uc129 : tyB Tryz.prog 22 false 1 = true := by kernel_rfl
theorem uc130 : Tryz.prog.underlying 22 = some (.slice 59) := by kernel_rfl
theorem uc131 : slB Tryz.prog 22 59 2 = true := by kernel_rfl
theorem uc132 : (Tryz.prog.info? 59).bind (·.zero) = some (.agg #[.int .i64 (0), .slice none 0 0]) := by kernel_rfl
theorem uc133 : cfB Tryz.prog 60 = true := by kernel_rfl
theorem uc134 : cfB Tryz.prog 61 = true := by kernel_rfl
set_option maxHeartbeats 4000000 in
theorem indexC_ok (β : Base) (w : World) (hw : St β [] w) (v fn : Value) (xs : List KComp) (hs : Sl CompR β.heap v xs) (p : KComp → Bool) (hfn : FnV Tryz.prog β fn (fun z : KComp => [.agg #[Bx (z.kind), Ix (z.v0), Ix (z.v1), Ix (z.v2), Ix (z.v3)]]) (· ∈ xs) (fun z => .bool (p z))) : Calls Tryz.prog 111 #[v, fn] w fun r w' => r = .returned (Ix (idxI p xs)) ∧ St β [] w' := by
 obtain ⟨va, vc, rfl, vl, vm, ve⟩ := hs.get
 obtain ⟨gg, fst, cap, rfl, hcf, hf⟩ := hfn
 refine enter (n := 19) Tryz.func111 rfl Tryz.ntmps111 rfl ?_ hw
 refine c_seq ?_
 refine c_region ?_
 refine l_val (v := .int .i64 (0)) rfl rfl rfl (e_assign) ?_
 refine l_nil ?_
 refine f_then ?_
 refine c_seq ?_
 refine c_seq ?_
 refine c_region ?_
 refine l_val (v := .slice va (xs.length) (vc)) rfl rfl rfl (e_move) ?_
 refine l_val (v := Nx (xs.length)) rfl rfl rfl (e_len (a := va) (n := xs.length) (c := vc) rfl uc114) ?_
 refine l_val (v := .int .i64 (0)) rfl rfl rfl (e_move) ?_
 refine l_nil ?_
 refine f_then ?_
 refine c_block ?_
 refine c_loop (fun (k : Nat) (f : Fm) (L : List Res) => (f 0 = .slice va (xs.length) (vc) ∧ f 1 = .func (.func gg) fst.toArray cap.toArray ∧ f 7 = Nx (xs.length) ∧ f 8 = Nx (k)) ∧ L = [] ∧ (k ≤ xs.length ∧ ∀ y ∈ xs.take k, p y = false)) (fun (k : Nat) => xs.length - k) 0 ?_ ?_
 ·exact ⟨⟨rfl, rfl, rfl, rfl⟩, rfl, ⟨by omega, fun y hy => by simp at hy⟩⟩
 rintro k f0 L0 ⟨⟨hs0, hs1, hs7, hs8⟩, hL, ⟨hk, hp⟩⟩
 subst L0
 refine rebase (d := 0) hs0 ?_
 refine rebase (d := 1) hs1 ?_
 refine rebase (d := 7) hs7 ?_
 refine rebase (d := 8) hs8 ?_
 clear hs0 hs1 hs7 hs8
 refine c_seq ?_
 refine c_region ?_
 refine l_val (v := .bool (decide (((k : Nat) : Int) < ((xs.length : Nat) : Int)))) rfl rfl rfl (e_lss (a := ((k : Nat) : Int)) (b := ((xs.length : Nat) : Int)) rfl rfl) ?_
 refine l_nil ?_
 refine f_then ?_
 refine c_seq ?_
 refine c_if (((k : Nat) : Int) < ((xs.length : Nat) : Int)) rfl (fun hc1 => ?_) (fun hc1 => ?_)
 ·
  refine c_skip ?_
  refine f_then ?_
  refine c_seq ?_
  refine c_block ?_
  refine c_seq ?_
  refine c_region ?_
  refine l_val (v := Nx (k)) rfl rfl rfl (e_move) ?_
  refine l_val (v := Nx (k)) rfl rfl rfl (e_assign) ?_
  refine l_nil ?_
  refine f_then ?_
  refine c_seq ?_
  refine c_region ?_
  refine l_val (v := .func (.func gg) fst.toArray cap.toArray) rfl rfl rfl (e_move) ?_
  refine l_val (v := .slice va (xs.length) (vc)) rfl rfl rfl (e_move) ?_
  refine l_val (v := Nx (k)) rfl rfl rfl (e_move) ?_
  obtain ⟨x2, hx2⟩ : ∃ x_, (xs)[k]? = some x_ := ⟨_, List.getElem?_eq_getElem (by omega)⟩
  obtain ⟨ha4, cs5, hc6, rfl⟩ := ve _ _ hx2
  refine l_val (v := .pointer (some ((ba va).add (k * 5)))) rfl rfl rfl (e_indexAddr (k := k) (len := xs.length) (cap := vc) (a := va) rfl rfl uc115 (by omega) ha4) ?_
  refine l_val (v := .agg #[Bx (x2.kind), Ix (x2.v0), Ix (x2.v1), Ix (x2.v2), Ix (x2.v3)]) rfl rfl rfl (e_load uc116 (cs := [Bx (x2.kind), Ix (x2.v0), Ix (x2.v1), Ix (x2.v2), Ix (x2.v3)]) rfl (Knows.of_base (Cs.mono _ _) hc6) rfl) ?_
  refine l_call rfl rfl rfl (cl_value (fst := fst) (cap := cap) (vs := [.agg #[Bx (x2.kind), Ix (x2.v0), Ix (x2.v1), Ix (x2.v2), Ix (x2.v3)]]) (all := fst ++ [.agg #[Bx (x2.kind), Ix (x2.v0), Ix (x2.v1), Ix (x2.v2), Ix (x2.v3)]] ++ cap) hcf rfl rfl rfl) ?_
  intro w hw
  obtain ⟨β1, sb, kn, hw1, back⟩ := St.frame_all hw
  refine (hf β1 sb x2 (List.mem_of_getElem? hx2) w hw1).mono ?_
  rintro e w' ⟨rfl, hw'⟩
  refine ⟨_, rfl, _, back _ _ hw', ?_⟩
  clear hw hw1 hw' back kn sb
  refine l_nil ?_
  refine f_then ?_
  refine c_ifb (p x2) rfl (fun hc8 => ?_) (fun hc8 => ?_)
  ·
   refine c_seq ?_
   refine c_region ?_
   refine l_val (v := Nx (k)) rfl rfl rfl (e_move) ?_
   refine l_val (v := Nx (k)) rfl rfl rfl (e_assign) ?_
   refine l_nil ?_
   refine f_then ?_
   refine c_ret ?_
   refine f_block_ret ?_
   refine f_then_ret ?_
   refine f_then_ret ?_
   refine f_block_ret ?_
   refine f_then_ret ?_
   refine ret1 Tryz.results111 (v := Nx (k)) rfl ?_
   intro w hw
   exact ⟨congrArg (fun z : Int => Ending.returned (Ix z)) (idx_found hx2 hc8 hp).symm, st_mask [] rfl hw⟩
  ·
   refine c_skip ?_
   refine f_block ?_
   refine f_then ?_
   refine c_region ?_
   refine l_val (v := Nx (k + 1)) rfl rfl rfl (e_add (a := ((k : Nat) : Int)) (b := (1 : Int)) rfl rfl (i64n (by omega) (by omega))) ?_
   refine l_val (v := Nx (k + 1)) rfl rfl rfl (e_move) ?_
   refine l_nil ?_
   exact f_cut ⟨k + 1, ⟨⟨rfl, rfl, rfl, rfl⟩, rfl, ⟨by omega, idx_next hx2 hc8 hp⟩⟩, (show xs.length - (k + 1) < xs.length - k from by omega)⟩
 ·
  refine c_exit ?_
  refine f_then_exit ?_
  refine f_then_exit ?_
  refine f_exit ?_
  refine f_then ?_
  refine c_seq ?_
  refine c_region ?_
  refine l_val (v := .int .i64 (-1)) rfl rfl rfl (e_assign) ?_
  refine l_nil ?_
  refine f_then ?_
  refine c_ret ?_
  refine ret1 Tryz.results111 (v := .int .i64 (-1)) rfl ?_
  intro w hw
  exact ⟨congrArg (fun z : Int => Ending.returned (Ix z)) (idx_none (by omega) hp).symm, st_mask [] rfl hw⟩
theorem first1_fn (β : Base) (c : Nat) (kd : UInt8) (hc : Cs β.heap ⟨c, 0, none⟩ [Bx kd]) : FnV Tryz.prog β (.func (.func 112) #[] #[.pointer (some ⟨c, 0, none⟩)]) (fun z : KComp => [.agg #[Bx (z.kind), Ix (z.v0), Ix (z.v1), Ix (z.v2), Ix (z.v3)]]) (fun _ => True) (fun z => .bool (decide (z.kind = kd))) := by
 refine ⟨112, [], [.pointer (some (⟨c, 0, none⟩))], rfl, by kernel_rfl, fun β₁ sb0 z_ hz_ w hw => ?_⟩
 have hc1 := Cs.mono _ _ _ _ sb0 hc
 obtain ⟨z, hz⟩ : ∃ z, z = z_ := ⟨_, rfl⟩
 subst hz
 refine enter (n := 8) Tryz.func112 rfl Tryz.ntmps112 rfl ?_ hw
 refine c_seq ?_
 refine c_region ?_
 refine l_mv rfl rfl rfl (m_box (v := .agg #[Bx (z.kind), Ix (z.v0), Ix (z.v1), Ix (z.v2), Ix (z.v3)]) rfl) ?_
 rintro _ _ ⟨b1, rfl, rfl⟩
 refine l_val (v := .bool false) rfl rfl rfl (e_assign) ?_
 refine l_nil ?_
 refine f_then ?_
 refine c_seq ?_
 refine c_region ?_
 refine l_val (v := .pointer (some ⟨b1, 0, none⟩)) rfl rfl rfl (e_fieldPt (b := b1) (o := 0) rfl uc117) ?_
 refine l_val (v := Bx (z.kind)) rfl rfl rfl (e_load1 tf97 (v := Bx (z.kind)) rfl (k_pt 0 (cs := #[Bx (z.kind), Ix (z.v0), Ix (z.v1), Ix (z.v2), Ix (z.v3)]) (vs := [Bx (z.kind)]) rfl rfl)) ?_
 refine l_val (v := Bx (kd)) rfl rfl rfl (e_load1 tf97 (v := Bx (kd)) rfl (Knows.of_base (Cs.mono _ _) hc1)) ?_
 refine l_val (v := .bool (decide (((z.kind).toNat : Int) = ((kd).toNat : Int)))) rfl rfl rfl (e_eql (a := ((z.kind).toNat : Int)) (b := ((kd).toNat : Int)) rfl rfl) ?_
 refine l_val (v := .bool (decide (((z.kind).toNat : Int) = ((kd).toNat : Int)))) rfl rfl rfl (e_assign) ?_
 refine l_nil ?_
 refine f_then ?_
 refine c_ret ?_
 refine ret1 Tryz.results112 (v := .bool (decide (((z.kind).toNat : Int) = ((kd).toNat : Int)))) rfl ?_
 intro w hw
 exact ⟨congrArg (fun b : Bool => Ending.returned (.bool b)) (decide_eq_decide.2 ⟨fun h => (UInt8.toNat_inj.1 (by omega)), fun h => by rw [h]⟩), st_mask [false] rfl hw⟩
theorem first_ok (β : Base) (w : World) (hw : St β [] w) (id : Int) (va : Option Addr) (vc : Nat) (cm : List KComp) (hs : Sl CompR β.heap (.slice va cm.length vc) cm) (kd : UInt8) : Calls Tryz.prog 65 #[.agg #[Ix id, .slice va cm.length vc], Bx kd] w fun r w' => r = .returned (.pointer (optP va cm kd)) ∧ St β [] w' := by
 obtain ⟨-, vl, vm, ve⟩ := Sl.parts hs
 refine enter (n := 16) Tryz.func65 rfl Tryz.ntmps65 rfl ?_ hw
 refine c_seq ?_
 refine c_region ?_
 refine l_mv rfl rfl rfl (m_box (v := .agg #[Ix (id), .slice va (cm.length) (vc)]) rfl) ?_
 rintro _ _ ⟨b1, rfl, rfl⟩
 refine l_mv rfl rfl rfl (m_box (v := Bx (kd)) rfl) ?_
 rintro _ _ ⟨b2, rfl, rfl⟩
 refine l_val (v := .pointer none) rfl rfl rfl (e_assign) ?_
 refine l_nil ?_
 refine f_then ?_
 refine c_seq ?_
 refine c_region ?_
 refine l_val (v := .pointer (some ⟨b1, 1, none⟩)) rfl rfl rfl (e_fieldPt (b := b1) (o := 0) rfl uc118) ?_
 refine l_val (v := .slice va (cm.length) (vc)) rfl rfl rfl (e_load1 uc119 (v := .slice va (cm.length) (vc)) rfl (k_pt 1 (cs := #[Ix (id), .slice va (cm.length) (vc)]) (vs := [.slice va (cm.length) (vc)]) rfl rfl)) ?_
 refine l_val (v := .func (.func 112) #[] #[.pointer (some ⟨b2, 0, none⟩)]) rfl rfl rfl (e_func (u := []) (v := [.pointer (some ⟨b2, 0, none⟩)]) rfl rfl) ?_
 refine l_call rfl rfl rfl (cl_value (fst := []) (cap := []) (vs := [.slice va (cm.length) (vc), .func (.func 112) #[] #[.pointer (some ⟨b2, 0, none⟩)]]) (all := [.slice va (cm.length) (vc), .func (.func 112) #[] #[.pointer (some ⟨b2, 0, none⟩)]]) uc120 rfl rfl rfl) ?_
 intro w hw
 obtain ⟨β1, sb, kn, hw1, back⟩ := St.frame_all hw
 refine (indexC_ok β1 w hw1 _ _ cm (Sl.mono _ _ _ _ _ sb hs) (fun c => decide (c.kind = kd)) (fnv_all (first1_fn β1 b2 kd (kn _ (k_pt 0 (o := 0) (cs := #[Bx (kd)]) (vs := [Bx (kd)]) rfl rfl))))).mono ?_
 rintro e w' ⟨rfl, hw'⟩
 refine ⟨_, rfl, _, back _ _ hw', ?_⟩
 clear hw hw1 hw' back kn sb
 refine l_val (v := Ix (idxI (fun c : KComp => decide (c.kind = kd)) cm)) rfl rfl rfl (e_assign) ?_
 refine l_nil ?_
 refine f_then ?_
 refine c_seq ?_
 refine c_seq ?_
 rcases idxI_cases (fun c : KComp => decide (c.kind = kd)) cm with ⟨hn, hf⟩ | ⟨i, hi, hf, hl⟩
 ·
  refine c_region ?_
  refine l_val (v := Ix (idxI (fun c : KComp => decide (c.kind = kd)) cm)) rfl rfl rfl (e_move) ?_
  refine l_val (v := .bool (decide ((idxI (fun c : KComp => decide (c.kind = kd)) cm) < (0 : Int)))) rfl rfl rfl (e_lss (a := (idxI (fun c : KComp => decide (c.kind = kd)) cm)) (b := (0 : Int)) rfl rfl) ?_
  refine l_nil ?_
  refine f_then ?_
  refine c_if ((idxI (fun c : KComp => decide (c.kind = kd)) cm) < (0 : Int)) rfl (fun hc3 => ?_) (fun hc3 => ?_)
  ·
   refine c_seq ?_
   refine c_region ?_
   refine l_val (v := .pointer none) rfl rfl rfl (e_assign) ?_
   refine l_nil ?_
   refine f_then ?_
   refine c_ret ?_
   refine f_then_ret ?_
   refine ret1 Tryz.results65 (v := .pointer none) rfl ?_
   intro w hw
   exact ⟨by rw [show optP va cm kd = none from by unfold optP idxC; rw [hf]; rfl], st_mask [false, false] rfl hw⟩
  ·
   exact absurd hn hc3
 ·
  rw [hi]
  refine c_region ?_
  refine l_val (v := Nx (i)) rfl rfl rfl (e_move) ?_
  refine l_val (v := .bool (decide (((i : Nat) : Int) < (0 : Int)))) rfl rfl rfl (e_lss (a := ((i : Nat) : Int)) (b := (0 : Int)) rfl rfl) ?_
  refine l_nil ?_
  refine f_then ?_
  refine c_if (((i : Nat) : Int) < (0 : Int)) rfl (fun hc4 => ?_) (fun hc4 => ?_)
  ·
   exact absurd hc4 (by omega)
  ·
   refine c_skip ?_
   refine f_then ?_
   refine c_seq ?_
   refine c_region ?_
   refine l_val (v := .pointer (some ⟨b1, 1, none⟩)) rfl rfl rfl (e_fieldPt (b := b1) (o := 0) rfl uc118) ?_
   refine l_val (v := .slice va (cm.length) (vc)) rfl rfl rfl (e_load1 uc119 (v := .slice va (cm.length) (vc)) rfl (k_pt 1 (cs := #[Ix (id), .slice va (cm.length) (vc)]) (vs := [.slice va (cm.length) (vc)]) rfl rfl)) ?_
   refine l_val (v := Nx (i)) rfl rfl rfl (e_move) ?_
   obtain ⟨x5, hx6⟩ : ∃ x_, (cm)[i]? = some x_ := ⟨_, List.getElem?_eq_getElem (by omega)⟩
   obtain ⟨ha7, cs8, hc9, rfl⟩ := ve _ _ hx6
   refine l_val (v := .pointer (some ((ba va).add (i * 5)))) rfl rfl rfl (e_indexAddr (k := i) (len := cm.length) (cap := vc) (a := va) rfl rfl uc115 (by omega) ha7) ?_
   refine l_val (v := .pointer (some ((ba va).add (i * 5)))) rfl rfl rfl (e_assign) ?_
   refine l_nil ?_
   refine f_then ?_
   refine c_ret ?_
   refine ret1 Tryz.results65 (v := .pointer (some ((ba va).add (i * 5)))) rfl ?_
   intro w hw
   exact ⟨by rw [show optP va cm kd = some ((ba va).add (i * 5)) from by unfold optP idxC; rw [hf]; rfl], st_mask [false, false] rfl hw⟩
set_option maxHeartbeats 4000000 in
theorem body_ok (β : Base) (w : World) (hw : St β [] w) (id : Int) (va : Option Addr) (vc : Nat) (cm : List KComp) (hs : Sl CompR β.heap (.slice va cm.length vc) cm) : Calls Tryz.prog 60 #[.agg #[Ix id, .slice va cm.length vc]] w fun r w' => r = .returned (.tuple #[.agg (bC (bodyD id cm)), .bool (bodyOf id cm).isSome]) ∧ St β [] w' := by
 obtain ⟨-, vl, vm, ve⟩ := Sl.parts hs
 refine enter (n := 77) Tryz.func60 rfl Tryz.ntmps60 rfl ?_ hw
 refine c_seq ?_
 refine c_region ?_
 refine l_mv rfl rfl rfl (m_box (v := .agg #[Ix (id), .slice va (cm.length) (vc)]) rfl) ?_
 rintro _ _ ⟨b1, rfl, rfl⟩
 refine l_mv rfl rfl rfl (m_alloc tf58) ?_
 rintro _ _ ⟨b2, rfl, rfl⟩
 refine l_val (v := .bool false) rfl rfl rfl (e_assign) ?_
 refine l_nil ?_
 refine f_then ?_
 refine c_seq ?_
 refine c_quiet (by kernel_rfl) (by kernel_rfl) ?_
 refine q_val (v := .agg #[Ix (id), .slice va (cm.length) (vc)]) rfl rfl rfl (e_load uc121 (cs := [Ix (id), .slice va (cm.length) (vc)]) rfl (k_pt 1 (cs := #[Ix (id), .slice va (cm.length) (vc)]) (vs := [Ix (id), .slice va (cm.length) (vc)]) rfl rfl) rfl) ?_
 refine q_call (v := .pointer (optP va cm 1)) rfl rfl rfl (cl_value (fst := []) (cap := []) (vs := [.agg #[Ix (id), .slice va (cm.length) (vc)], .int .u8 (1)]) (all := [.agg #[Ix (id), .slice va (cm.length) (vc)], .int .u8 (1)]) uc122 rfl rfl rfl) (fun w hw => ?_) ?_
 ·obtain ⟨β1, sb, kn, hw1, back⟩ := St.frame_all hw
  exact (first_ok β1 w hw1 (id) va vc cm (Sl.mono _ _ _ _ _ sb hs) 1).mono (fun e w' ⟨he, hw'⟩ => ⟨he, st_mask [true, true] rfl (back _ _ hw')⟩)
 refine q_val (v := .agg #[Ix (id), .slice va (cm.length) (vc)]) rfl rfl rfl (e_load uc121 (cs := [Ix (id), .slice va (cm.length) (vc)]) rfl (k_pt 1 (cs := #[Ix (id), .slice va (cm.length) (vc)]) (vs := [Ix (id), .slice va (cm.length) (vc)]) rfl rfl) rfl) ?_
 refine q_call (v := .pointer (optP va cm 3)) rfl rfl rfl (cl_value (fst := []) (cap := []) (vs := [.agg #[Ix (id), .slice va (cm.length) (vc)], .int .u8 (3)]) (all := [.agg #[Ix (id), .slice va (cm.length) (vc)], .int .u8 (3)]) uc122 rfl rfl rfl) (fun w hw => ?_) ?_
 ·obtain ⟨β1, sb, kn, hw1, back⟩ := St.frame_all hw
  exact (first_ok β1 w hw1 (id) va vc cm (Sl.mono _ _ _ _ _ sb hs) 3).mono (fun e w' ⟨he, hw'⟩ => ⟨he, st_mask [true, true] rfl (back _ _ hw')⟩)
 refine q_val (v := .agg #[Ix (id), .slice va (cm.length) (vc)]) rfl rfl rfl (e_load uc121 (cs := [Ix (id), .slice va (cm.length) (vc)]) rfl (k_pt 1 (cs := #[Ix (id), .slice va (cm.length) (vc)]) (vs := [Ix (id), .slice va (cm.length) (vc)]) rfl rfl) rfl) ?_
 refine q_call (v := .pointer (optP va cm 2)) rfl rfl rfl (cl_value (fst := []) (cap := []) (vs := [.agg #[Ix (id), .slice va (cm.length) (vc)], .int .u8 (2)]) (all := [.agg #[Ix (id), .slice va (cm.length) (vc)], .int .u8 (2)]) uc122 rfl rfl rfl) (fun w hw => ?_) ?_
 ·obtain ⟨β1, sb, kn, hw1, back⟩ := St.frame_all hw
  exact (first_ok β1 w hw1 (id) va vc cm (Sl.mono _ _ _ _ _ sb hs) 2).mono (fun e w' ⟨he, hw'⟩ => ⟨he, st_mask [true, true] rfl (back _ _ hw')⟩)
 refine q_val (v := .pointer (optP va cm 1)) rfl rfl rfl (e_assign) ?_
 refine q_val (v := .pointer (optP va cm 3)) rfl rfl rfl (e_assign) ?_
 refine q_val (v := .pointer (optP va cm 2)) rfl rfl rfl (e_assign) ?_
 refine q_nil ?_
 refine f_then ?_
 refine c_seq ?_
 refine c_seq ?_
 refine c_region ?_
 refine l_val (v := .pointer (optP va cm 1)) rfl rfl rfl (e_move) ?_
 refine l_val (v := .bool ((optP va cm 1).isNone)) rfl rfl rfl (e_eql_pnil (p := optP va cm 1) rfl rfl uc123) ?_
 refine l_val (v := .bool ((optP va cm 1).isNone)) rfl rfl rfl (e_move) ?_
 refine l_splitb (s := 16) (b := (optP va cm 1).isNone) rfl (fun hg3 => ?_) (fun hg3 => ?_)
 ·
  obtain ⟨-, hp1, hf1⟩ := optP_none hg3
  refine l_skip rfl rfl rfl rfl rfl rfl ?_
  refine l_skip rfl rfl rfl rfl rfl rfl ?_
  refine l_val (v := .bool true) rfl rfl rfl (e_pick_t rfl) ?_
  refine l_nil ?_
  refine f_then ?_
  refine c_yes rfl ?_
  refine c_seq ?_
  refine c_region ?_
  refine l_val (v := .agg #[.int .i64 (0), .int .i64 (0), .int .i64 (0), .int .i64 (0), .int .i64 (0), .int .i64 (0), .int .i64 (0), .bool false, .bool false]) rfl rfl rfl (e_build tf58 tf102 (vs := []) (cells := #[.int .i64 (0), .int .i64 (0), .int .i64 (0), .int .i64 (0), .int .i64 (0), .int .i64 (0), .int .i64 (0), .bool false, .bool false]) rfl (by kernel_rfl)) ?_
  refine l_mu rfl rfl (m_store 0 tf22 (b := b2) (o := 0) (T := 52) (cs := #[.int .i64 (0), .int .i64 (0), .int .i64 (0), .int .i64 (0), .int .i64 (0), .int .i64 (0), .int .i64 (0), .bool false, .bool false]) (cs' := #[.int .i64 (0), .int .i64 (0), .int .i64 (0), .int .i64 (0), .int .i64 (0), .int .i64 (0), .int .i64 (0), .bool false, .bool false]) (v := .agg #[.int .i64 (0), .int .i64 (0), .int .i64 (0), .int .i64 (0), .int .i64 (0), .int .i64 (0), .int .i64 (0), .bool false, .bool false]) rfl rfl rfl rfl rfl rfl rfl) ?_
  refine l_val (v := .bool false) rfl rfl rfl (e_assign) ?_
  refine l_nil ?_
  refine f_then ?_
  refine c_ret ?_
  refine f_then_ret ?_
  refine retG (l := [.cell 2 52, .tmp 3]) (m := [.agg #[.int .i64 (0), .int .i64 (0), .int .i64 (0), .int .i64 (0), .int .i64 (0), .int .i64 (0), .int .i64 (0), .bool false, .bool false], .bool false]) (v := .tuple #[.agg #[.int .i64 (0), .int .i64 (0), .int .i64 (0), .int .i64 (0), .int .i64 (0), .int .i64 (0), .int .i64 (0), .bool false, .bool false], .bool false]) Tryz.results60 ⟨rd_cell tf22 (cs := [.int .i64 (0), .int .i64 (0), .int .i64 (0), .int .i64 (0), .int .i64 (0), .int .i64 (0), .int .i64 (0), .bool false, .bool false]) rfl (k_pt 0 (cs := #[.int .i64 (0), .int .i64 (0), .int .i64 (0), .int .i64 (0), .int .i64 (0), .int .i64 (0), .int .i64 (0), .bool false, .bool false]) (vs := [.int .i64 (0), .int .i64 (0), .int .i64 (0), .int .i64 (0), .int .i64 (0), .int .i64 (0), .int .i64 (0), .bool false, .bool false]) rfl rfl) rfl, rd_tmp (v := .bool false) rfl, trivial⟩ rfl ?_
  intro w hw
  exact ⟨body_ret_none (body_no1 hf1), st_mask [false, false] rfl hw⟩
 ·
  obtain ⟨i1, c1, hi1, hk1, hx1, hp1, hf1⟩ := optP_some hg3
  obtain ⟨ha1, cs1, hc1, rfl⟩ := ve _ _ hi1
  rw [hp1]
  refine g_val (v := .pointer (optP va cm 3)) rfl rfl rfl rfl rfl (e_move) ?_
  refine g_val (v := .bool ((optP va cm 3).isNone)) rfl rfl rfl rfl rfl (e_eql_pnil (p := optP va cm 3) rfl rfl uc123) ?_
  refine l_val (v := .bool ((optP va cm 3).isNone)) rfl rfl rfl (e_pick_f rfl) ?_
  refine l_nil ?_
  refine f_then ?_
  refine c_ifb ((optP va cm 3).isNone) rfl (fun hc4 => ?_) (fun hc4 => ?_)
  ·
   obtain ⟨-, hp3, hf3⟩ := optP_none hc4
   refine c_seq ?_
   refine c_region ?_
   refine l_val (v := .agg #[.int .i64 (0), .int .i64 (0), .int .i64 (0), .int .i64 (0), .int .i64 (0), .int .i64 (0), .int .i64 (0), .bool false, .bool false]) rfl rfl rfl (e_build tf58 tf102 (vs := []) (cells := #[.int .i64 (0), .int .i64 (0), .int .i64 (0), .int .i64 (0), .int .i64 (0), .int .i64 (0), .int .i64 (0), .bool false, .bool false]) rfl (by kernel_rfl)) ?_
   refine l_mu rfl rfl (m_store 0 tf22 (b := b2) (o := 0) (T := 52) (cs := #[.int .i64 (0), .int .i64 (0), .int .i64 (0), .int .i64 (0), .int .i64 (0), .int .i64 (0), .int .i64 (0), .bool false, .bool false]) (cs' := #[.int .i64 (0), .int .i64 (0), .int .i64 (0), .int .i64 (0), .int .i64 (0), .int .i64 (0), .int .i64 (0), .bool false, .bool false]) (v := .agg #[.int .i64 (0), .int .i64 (0), .int .i64 (0), .int .i64 (0), .int .i64 (0), .int .i64 (0), .int .i64 (0), .bool false, .bool false]) rfl rfl rfl rfl rfl rfl rfl) ?_
   refine l_val (v := .bool false) rfl rfl rfl (e_assign) ?_
   refine l_nil ?_
   refine f_then ?_
   refine c_ret ?_
   refine f_then_ret ?_
   refine retG (l := [.cell 2 52, .tmp 3]) (m := [.agg #[.int .i64 (0), .int .i64 (0), .int .i64 (0), .int .i64 (0), .int .i64 (0), .int .i64 (0), .int .i64 (0), .bool false, .bool false], .bool false]) (v := .tuple #[.agg #[.int .i64 (0), .int .i64 (0), .int .i64 (0), .int .i64 (0), .int .i64 (0), .int .i64 (0), .int .i64 (0), .bool false, .bool false], .bool false]) Tryz.results60 ⟨rd_cell tf22 (cs := [.int .i64 (0), .int .i64 (0), .int .i64 (0), .int .i64 (0), .int .i64 (0), .int .i64 (0), .int .i64 (0), .bool false, .bool false]) rfl (k_pt 0 (cs := #[.int .i64 (0), .int .i64 (0), .int .i64 (0), .int .i64 (0), .int .i64 (0), .int .i64 (0), .int .i64 (0), .bool false, .bool false]) (vs := [.int .i64 (0), .int .i64 (0), .int .i64 (0), .int .i64 (0), .int .i64 (0), .int .i64 (0), .int .i64 (0), .bool false, .bool false]) rfl rfl) rfl, rd_tmp (v := .bool false) rfl, trivial⟩ rfl ?_
   intro w hw
   exact ⟨body_ret_none (body_no3 hf3), st_mask [false, false] rfl hw⟩
  ·
   obtain ⟨i3, c3, hi3, hk3, hx3, hp3, hf3⟩ := optP_some hc4
   obtain ⟨ha3, cs3, hc3, rfl⟩ := ve _ _ hi3
   rw [hp3]
   refine c_skip ?_
   refine f_then ?_
   refine c_seq ?_
   rcases Decidable.em (c3.v3 = 1) with hfx | hfx
   ·
    refine c_any [⟨[], [], [0], [21], fun f => f 21 = .pointer (some ⟨b1, 0, none⟩)⟩, ⟨[0], [0], [], [22], fun f => f 22 = Ix (id)⟩, ⟨[], [], [1], [23], fun f => f 23 = .pointer (some ((ba va).add (i1 * 5)))⟩, ⟨[2], [2], [], [24], fun f => f 24 = .pointer (some ((ba va).add (i1 * 5)))⟩, ⟨[2, 3], [3], [], [25], fun f => f 25 = .pointer (some (((ba va).add (i1 * 5) : Addr).add 1))⟩, ⟨[2, 3, 4], [4], [], [26], fun f => f 26 = .pointer (some ((((ba va).add (i1 * 5) : Addr).add 1 : Addr).add (0 * 1)))⟩, ⟨[2, 3, 4, 5], [5], [], [27], fun f => f 27 = Ix (c1.v0)⟩, ⟨[], [], [1], [28], fun f => f 28 = .pointer (some ((ba va).add (i1 * 5)))⟩, ⟨[7], [7], [], [29], fun f => f 29 = .pointer (some ((ba va).add (i1 * 5)))⟩, ⟨[7, 8], [8], [], [30], fun f => f 30 = .pointer (some (((ba va).add (i1 * 5) : Addr).add 1))⟩, ⟨[7, 8, 9], [9], [], [31], fun f => f 31 = .pointer (some ((((ba va).add (i1 * 5) : Addr).add 1 : Addr).add (1 * 1)))⟩, ⟨[7, 8, 9, 10], [10], [], [32], fun f => f 32 = Ix (c1.v1)⟩, ⟨[2, 3, 4, 5, 6, 7, 8, 9, 10, 11], [6, 11], [], [33], fun f => f 33 = .agg #[Ix (c1.v0), Ix (c1.v1)]⟩, ⟨[], [], [2], [34], fun f => f 34 = .pointer (some ((ba va).add (i3 * 5)))⟩, ⟨[13], [13], [], [35], fun f => f 35 = .pointer (some ((ba va).add (i3 * 5)))⟩, ⟨[13, 14], [14], [], [36], fun f => f 36 = .pointer (some (((ba va).add (i3 * 5) : Addr).add 1))⟩, ⟨[13, 14, 15], [15], [], [37], fun f => f 37 = .pointer (some ((((ba va).add (i3 * 5) : Addr).add 1 : Addr).add (0 * 1)))⟩, ⟨[13, 14, 15, 16], [16], [], [38], fun f => f 38 = Ix (c3.v0)⟩, ⟨[], [], [2], [39], fun f => f 39 = .pointer (some ((ba va).add (i3 * 5)))⟩, ⟨[18], [18], [], [40], fun f => f 40 = .pointer (some ((ba va).add (i3 * 5)))⟩, ⟨[18, 19], [19], [], [41], fun f => f 41 = .pointer (some (((ba va).add (i3 * 5) : Addr).add 1))⟩, ⟨[18, 19, 20], [20], [], [42], fun f => f 42 = .pointer (some ((((ba va).add (i3 * 5) : Addr).add 1 : Addr).add (1 * 1)))⟩, ⟨[18, 19, 20, 21], [21], [], [43], fun f => f 43 = Ix (c3.v1)⟩, ⟨[], [], [2], [44], fun f => f 44 = .pointer (some ((ba va).add (i3 * 5)))⟩, ⟨[23], [23], [], [45], fun f => f 45 = .pointer (some ((ba va).add (i3 * 5)))⟩, ⟨[23, 24], [24], [], [46], fun f => f 46 = .pointer (some (((ba va).add (i3 * 5) : Addr).add 1))⟩, ⟨[23, 24, 25], [25], [], [47], fun f => f 47 = .pointer (some ((((ba va).add (i3 * 5) : Addr).add 1 : Addr).add (2 * 1)))⟩, ⟨[23, 24, 25, 26], [26], [], [48], fun f => f 48 = Ix (c3.v2)⟩, ⟨[23, 24, 25, 26, 27], [27], [], [49], fun f => f 49 = .bool (decide ((c3.v2) = (1 : Int)))⟩, ⟨[], [], [2], [50], fun f => f 50 = .pointer (some ((ba va).add (i3 * 5)))⟩, ⟨[29], [29], [], [51], fun f => f 51 = .pointer (some ((ba va).add (i3 * 5)))⟩, ⟨[29, 30], [30], [], [52], fun f => f 52 = .pointer (some (((ba va).add (i3 * 5) : Addr).add 1))⟩, ⟨[29, 30, 31], [31], [], [53], fun f => f 53 = .pointer (some ((((ba va).add (i3 * 5) : Addr).add 1 : Addr).add (3 * 1)))⟩, ⟨[29, 30, 31, 32], [32], [], [54], fun f => f 54 = Ix (c3.v3)⟩, ⟨[29, 30, 31, 32, 33], [33], [], [55], fun f => f 55 = .bool true⟩, ⟨[29, 30, 31, 32, 33, 34], [34], [], [56], fun f => f 56 = .bool true⟩, ⟨[29, 30, 31, 32, 33, 34, 35], [35], [3], [57], fun f => f 57 = undef⟩, ⟨[29, 30, 31, 32, 33, 34, 35, 36], [36, 35], [], [58], fun f => f 58 = undef⟩, ⟨[29, 30, 31, 32, 33, 34, 35, 36, 37], [35, 37], [], [59], fun f => f 59 = .bool true⟩, ⟨[0, 1, 2, 3, 4, 5, 6, 7, 8, 9, 10, 11, 12, 13, 14, 15, 16, 17, 18, 19, 20, 21, 22, 23, 24, 25, 26, 27, 28, 29, 30, 31, 32, 33, 34, 35, 36, 37, 38], [1, 12, 17, 22, 28, 38], [], [60], fun f => f 60 = .agg #[Ix (id), Ix (c1.v0), Ix (c1.v1), .int .i64 (0), .int .i64 (0), Ix (c3.v0), Ix (c3.v1), .bool (decide ((c3.v2) = (1 : Int))), .bool true]⟩, ⟨[], [], [], [7], fun f => f 7 = .pointer (some ⟨(blk (f 7)), 0, none⟩)⟩, ⟨[0, 1, 2, 3, 4, 5, 6, 7, 8, 9, 10, 11, 12, 13, 14, 15, 16, 17, 18, 19, 20, 21, 22, 23, 24, 25, 26, 27, 28, 29, 30, 31, 32, 33, 34, 35, 36, 37, 38, 39, 40], [40, 39], [], [], fun _ => True⟩] [⟨none, none, [], [], fun _ => pt b2 (.cells #[.int .i64 (0), .int .i64 (0), .int .i64 (0), .int .i64 (0), .int .i64 (0), .int .i64 (0), .int .i64 (0), .bool false, .bool false] 52)⟩, ⟨none, none, [1], [], fun _ => pt b1 (.cells #[Ix (id), .slice va (cm.length) (vc)] 59)⟩, ⟨(some 40), (some 41), [41], [7], fun f => pt (blk (f 7)) (.cells #[.int .i64 (0), .int .i64 (0), .int .i64 (0), .int .i64 (0), .int .i64 (0), .int .i64 (0), .int .i64 (0), .bool false, .bool false] 52)⟩, ⟨(some 41), none, [], [7], fun f => pt (blk (f 7)) (.cells #[Ix (id), Ix (c1.v0), Ix (c1.v1), .int .i64 (0), .int .i64 (0), Ix (c3.v0), Ix (c3.v1), .bool (decide ((c3.v2) = (1 : Int))), .bool true] 52)⟩] [(1, .pointer (some ⟨b1, 0, none⟩)), (4, .pointer (some ((ba va).add (i1 * 5)))), (5, .pointer (some ((ba va).add (i3 * 5)))), (6, .pointer (optP va cm 2)), (2, .pointer (some ⟨b2, 0, none⟩))] [4, 3] [] (by kernel_rfl) (by kernel_rfl) (by kernel_rfl) (by kernel_rfl) rfl ⟨rfl, rfl, rfl, rfl, rfl, trivial⟩ ⟨?_, ?_, ?_, ?_, ?_, ?_, ?_, ?_, ?_, ?_, ?_, ?_, ?_, ?_, ?_, ?_, ?_, ?_, ?_, ?_, ?_, ?_, ?_, ?_, ?_, ?_, ?_, ?_, ?_, ?_, ?_, ?_, ?_, ?_, ?_, ?_, ?_, ?_, ?_, ?_, ?_, ?_, trivial⟩ ?_
    ·rintro f M - ⟨i0, -⟩
     have hs1 : f 1 = .pointer (some ⟨b1, 0, none⟩) := i0
     refine ob_start (L' := M) (by rfl) (up_cons rfl hs1) ?_
     refine l_val (v := .pointer (some ⟨b1, 0, none⟩)) rfl rfl rfl (e_fieldPt (b := b1) (o := 0) rfl uc124) ?_
     refine l_nil ?_
     exact f_owes_d (up_cons rfl hs1) rfl (List.Perm.refl _)
    ·rintro f M ⟨k0, -⟩ -
     have hs21 : f 21 = .pointer (some ⟨b1, 0, none⟩) := k0
     refine ob_start (L' := pt b1 (.cells #[Ix (id), .slice va (cm.length) (vc)] 59) :: M) (by rfl) (up_cons rfl hs21) ?_
     refine l_val (v := Ix (id)) rfl rfl rfl (e_load1 tf2 (v := Ix (id)) rfl (k_pt 0 (cs := #[Ix (id), .slice va (cm.length) (vc)]) (vs := [Ix (id)]) rfl rfl)) ?_
     refine l_nil ?_
     exact f_owes_d (up_cons rfl hs21) rfl (perm_front 0 rfl)
    ·rintro f M - ⟨i0, -⟩
     have hs4 : f 4 = .pointer (some ((ba va).add (i1 * 5))) := i0
     refine ob_start (L' := M) (by rfl) (up_cons rfl hs4) ?_
     refine l_val (v := .pointer (some ((ba va).add (i1 * 5)))) rfl rfl rfl (e_move) ?_
     refine l_nil ?_
     exact f_owes_d (up_cons rfl hs4) rfl (List.Perm.refl _)
    ·rintro f M ⟨k0, -⟩ -
     have hs23 : f 23 = .pointer (some ((ba va).add (i1 * 5))) := k0
     refine ob_start (L' := M) (by rfl) (up_cons rfl hs23) ?_
     refine l_val (v := .pointer (some ((ba va).add (i1 * 5)))) rfl rfl rfl (e_nil (a := (ba va).add (i1 * 5)) rfl) ?_
     refine l_nil ?_
     exact f_owes_d (up_cons rfl hs23) rfl (List.Perm.refl _)
    ·rintro f M ⟨k0, -⟩ -
     have hs24 : f 24 = .pointer (some ((ba va).add (i1 * 5))) := k0
     refine ob_start (L' := M) (by rfl) (up_cons rfl hs24) ?_
     refine l_val (v := .pointer (some (((ba va).add (i1 * 5) : Addr).add 1))) rfl rfl rfl (e_fieldAddr (a := (ba va).add (i1 * 5)) rfl uc125) ?_
     refine l_nil ?_
     exact f_owes_d (up_cons rfl hs24) rfl (List.Perm.refl _)
    ·rintro f M ⟨k0, -⟩ -
     have hs25 : f 25 = .pointer (some (((ba va).add (i1 * 5) : Addr).add 1)) := k0
     refine ob_start (L' := M) (by rfl) (up_cons rfl hs25) ?_
     refine l_val (v := .pointer (some ((((ba va).add (i1 * 5) : Addr).add 1 : Addr).add (0 * 1)))) rfl rfl rfl (e_indexArr (a := ((ba va).add (i1 * 5) : Addr).add 1) (k := 0) rfl rfl uc126 (by decide)) ?_
     refine l_nil ?_
     exact f_owes_d (up_cons rfl hs25) rfl (List.Perm.refl _)
    ·rintro f M ⟨k0, -⟩ -
     have hs26 : f 26 = .pointer (some ((((ba va).add (i1 * 5) : Addr).add 1 : Addr).add (0 * 1))) := k0
     refine ob_start (L' := M) (by rfl) (up_cons rfl hs26) ?_
     refine l_val (v := Ix (c1.v0)) rfl rfl rfl (e_load1 tf2 (v := Ix (c1.v0)) rfl (Knows.imp (Knows.imp (Knows.of_base (Cs.mono _ _) hc1) (fun _ h => Cs.sub (vs := [Ix (c1.v0), Ix (c1.v1), Ix (c1.v2), Ix (c1.v3)]) 1 h rfl)) (fun _ h => Cs.sub (vs := [Ix (c1.v0)]) (0 * 1) h rfl))) ?_
     refine l_nil ?_
     exact f_owes_d (up_cons rfl hs26) rfl (List.Perm.refl _)
    ·rintro f M - ⟨i0, -⟩
     have hs4 : f 4 = .pointer (some ((ba va).add (i1 * 5))) := i0
     refine ob_start (L' := M) (by rfl) (up_cons rfl hs4) ?_
     refine l_val (v := .pointer (some ((ba va).add (i1 * 5)))) rfl rfl rfl (e_move) ?_
     refine l_nil ?_
     exact f_owes_d (up_cons rfl hs4) rfl (List.Perm.refl _)
    ·rintro f M ⟨k0, -⟩ -
     have hs28 : f 28 = .pointer (some ((ba va).add (i1 * 5))) := k0
     refine ob_start (L' := M) (by rfl) (up_cons rfl hs28) ?_
     refine l_val (v := .pointer (some ((ba va).add (i1 * 5)))) rfl rfl rfl (e_nil (a := (ba va).add (i1 * 5)) rfl) ?_
     refine l_nil ?_
     exact f_owes_d (up_cons rfl hs28) rfl (List.Perm.refl _)
    ·rintro f M ⟨k0, -⟩ -
     have hs29 : f 29 = .pointer (some ((ba va).add (i1 * 5))) := k0
     refine ob_start (L' := M) (by rfl) (up_cons rfl hs29) ?_
     refine l_val (v := .pointer (some (((ba va).add (i1 * 5) : Addr).add 1))) rfl rfl rfl (e_fieldAddr (a := (ba va).add (i1 * 5)) rfl uc125) ?_
     refine l_nil ?_
     exact f_owes_d (up_cons rfl hs29) rfl (List.Perm.refl _)
    ·rintro f M ⟨k0, -⟩ -
     have hs30 : f 30 = .pointer (some (((ba va).add (i1 * 5) : Addr).add 1)) := k0
     refine ob_start (L' := M) (by rfl) (up_cons rfl hs30) ?_
     refine l_val (v := .pointer (some ((((ba va).add (i1 * 5) : Addr).add 1 : Addr).add (1 * 1)))) rfl rfl rfl (e_indexArr (a := ((ba va).add (i1 * 5) : Addr).add 1) (k := 1) rfl rfl uc126 (by decide)) ?_
     refine l_nil ?_
     exact f_owes_d (up_cons rfl hs30) rfl (List.Perm.refl _)
    ·rintro f M ⟨k0, -⟩ -
     have hs31 : f 31 = .pointer (some ((((ba va).add (i1 * 5) : Addr).add 1 : Addr).add (1 * 1))) := k0
     refine ob_start (L' := M) (by rfl) (up_cons rfl hs31) ?_
     refine l_val (v := Ix (c1.v1)) rfl rfl rfl (e_load1 tf2 (v := Ix (c1.v1)) rfl (Knows.imp (Knows.imp (Knows.of_base (Cs.mono _ _) hc1) (fun _ h => Cs.sub (vs := [Ix (c1.v0), Ix (c1.v1), Ix (c1.v2), Ix (c1.v3)]) 1 h rfl)) (fun _ h => Cs.sub (vs := [Ix (c1.v1)]) (1 * 1) h rfl))) ?_
     refine l_nil ?_
     exact f_owes_d (up_cons rfl hs31) rfl (List.Perm.refl _)
    ·rintro f M ⟨k0, k1, -⟩ -
     have hs27 : f 27 = Ix (c1.v0) := k0
     have hs32 : f 32 = Ix (c1.v1) := k1
     refine ob_start (L' := M) (by rfl) (up_cons (up_cons rfl hs27) hs32) ?_
     refine l_val (v := .agg #[Ix (c1.v0), Ix (c1.v1)]) rfl rfl rfl (e_build tf17 tf16 (vs := [(0, Ix (c1.v0)), (1, Ix (c1.v1))]) (cells := #[Ix (c1.v0), Ix (c1.v1)]) rfl rfl) ?_
     refine l_nil ?_
     exact f_owes_d (up_cons (up_cons rfl hs27) hs32) rfl (List.Perm.refl _)
    ·rintro f M - ⟨i0, -⟩
     have hs5 : f 5 = .pointer (some ((ba va).add (i3 * 5))) := i0
     refine ob_start (L' := M) (by rfl) (up_cons rfl hs5) ?_
     refine l_val (v := .pointer (some ((ba va).add (i3 * 5)))) rfl rfl rfl (e_move) ?_
     refine l_nil ?_
     exact f_owes_d (up_cons rfl hs5) rfl (List.Perm.refl _)
    ·rintro f M ⟨k0, -⟩ -
     have hs34 : f 34 = .pointer (some ((ba va).add (i3 * 5))) := k0
     refine ob_start (L' := M) (by rfl) (up_cons rfl hs34) ?_
     refine l_val (v := .pointer (some ((ba va).add (i3 * 5)))) rfl rfl rfl (e_nil (a := (ba va).add (i3 * 5)) rfl) ?_
     refine l_nil ?_
     exact f_owes_d (up_cons rfl hs34) rfl (List.Perm.refl _)
    ·rintro f M ⟨k0, -⟩ -
     have hs35 : f 35 = .pointer (some ((ba va).add (i3 * 5))) := k0
     refine ob_start (L' := M) (by rfl) (up_cons rfl hs35) ?_
     refine l_val (v := .pointer (some (((ba va).add (i3 * 5) : Addr).add 1))) rfl rfl rfl (e_fieldAddr (a := (ba va).add (i3 * 5)) rfl uc125) ?_
     refine l_nil ?_
     exact f_owes_d (up_cons rfl hs35) rfl (List.Perm.refl _)
    ·rintro f M ⟨k0, -⟩ -
     have hs36 : f 36 = .pointer (some (((ba va).add (i3 * 5) : Addr).add 1)) := k0
     refine ob_start (L' := M) (by rfl) (up_cons rfl hs36) ?_
     refine l_val (v := .pointer (some ((((ba va).add (i3 * 5) : Addr).add 1 : Addr).add (0 * 1)))) rfl rfl rfl (e_indexArr (a := ((ba va).add (i3 * 5) : Addr).add 1) (k := 0) rfl rfl uc126 (by decide)) ?_
     refine l_nil ?_
     exact f_owes_d (up_cons rfl hs36) rfl (List.Perm.refl _)
    ·rintro f M ⟨k0, -⟩ -
     have hs37 : f 37 = .pointer (some ((((ba va).add (i3 * 5) : Addr).add 1 : Addr).add (0 * 1))) := k0
     refine ob_start (L' := M) (by rfl) (up_cons rfl hs37) ?_
     refine l_val (v := Ix (c3.v0)) rfl rfl rfl (e_load1 tf2 (v := Ix (c3.v0)) rfl (Knows.imp (Knows.imp (Knows.of_base (Cs.mono _ _) hc3) (fun _ h => Cs.sub (vs := [Ix (c3.v0), Ix (c3.v1), Ix (c3.v2), Ix (c3.v3)]) 1 h rfl)) (fun _ h => Cs.sub (vs := [Ix (c3.v0)]) (0 * 1) h rfl))) ?_
     refine l_nil ?_
     exact f_owes_d (up_cons rfl hs37) rfl (List.Perm.refl _)
    ·rintro f M - ⟨i0, -⟩
     have hs5 : f 5 = .pointer (some ((ba va).add (i3 * 5))) := i0
     refine ob_start (L' := M) (by rfl) (up_cons rfl hs5) ?_
     refine l_val (v := .pointer (some ((ba va).add (i3 * 5)))) rfl rfl rfl (e_move) ?_
     refine l_nil ?_
     exact f_owes_d (up_cons rfl hs5) rfl (List.Perm.refl _)
    ·rintro f M ⟨k0, -⟩ -
     have hs39 : f 39 = .pointer (some ((ba va).add (i3 * 5))) := k0
     refine ob_start (L' := M) (by rfl) (up_cons rfl hs39) ?_
     refine l_val (v := .pointer (some ((ba va).add (i3 * 5)))) rfl rfl rfl (e_nil (a := (ba va).add (i3 * 5)) rfl) ?_
     refine l_nil ?_
     exact f_owes_d (up_cons rfl hs39) rfl (List.Perm.refl _)
    ·rintro f M ⟨k0, -⟩ -
     have hs40 : f 40 = .pointer (some ((ba va).add (i3 * 5))) := k0
     refine ob_start (L' := M) (by rfl) (up_cons rfl hs40) ?_
     refine l_val (v := .pointer (some (((ba va).add (i3 * 5) : Addr).add 1))) rfl rfl rfl (e_fieldAddr (a := (ba va).add (i3 * 5)) rfl uc125) ?_
     refine l_nil ?_
     exact f_owes_d (up_cons rfl hs40) rfl (List.Perm.refl _)
    ·rintro f M ⟨k0, -⟩ -
     have hs41 : f 41 = .pointer (some (((ba va).add (i3 * 5) : Addr).add 1)) := k0
     refine ob_start (L' := M) (by rfl) (up_cons rfl hs41) ?_
     refine l_val (v := .pointer (some ((((ba va).add (i3 * 5) : Addr).add 1 : Addr).add (1 * 1)))) rfl rfl rfl (e_indexArr (a := ((ba va).add (i3 * 5) : Addr).add 1) (k := 1) rfl rfl uc126 (by decide)) ?_
     refine l_nil ?_
     exact f_owes_d (up_cons rfl hs41) rfl (List.Perm.refl _)
    ·rintro f M ⟨k0, -⟩ -
     have hs42 : f 42 = .pointer (some ((((ba va).add (i3 * 5) : Addr).add 1 : Addr).add (1 * 1))) := k0
     refine ob_start (L' := M) (by rfl) (up_cons rfl hs42) ?_
     refine l_val (v := Ix (c3.v1)) rfl rfl rfl (e_load1 tf2 (v := Ix (c3.v1)) rfl (Knows.imp (Knows.imp (Knows.of_base (Cs.mono _ _) hc3) (fun _ h => Cs.sub (vs := [Ix (c3.v0), Ix (c3.v1), Ix (c3.v2), Ix (c3.v3)]) 1 h rfl)) (fun _ h => Cs.sub (vs := [Ix (c3.v1)]) (1 * 1) h rfl))) ?_
     refine l_nil ?_
     exact f_owes_d (up_cons rfl hs42) rfl (List.Perm.refl _)
    ·rintro f M - ⟨i0, -⟩
     have hs5 : f 5 = .pointer (some ((ba va).add (i3 * 5))) := i0
     refine ob_start (L' := M) (by rfl) (up_cons rfl hs5) ?_
     refine l_val (v := .pointer (some ((ba va).add (i3 * 5)))) rfl rfl rfl (e_move) ?_
     refine l_nil ?_
     exact f_owes_d (up_cons rfl hs5) rfl (List.Perm.refl _)
    ·rintro f M ⟨k0, -⟩ -
     have hs44 : f 44 = .pointer (some ((ba va).add (i3 * 5))) := k0
     refine ob_start (L' := M) (by rfl) (up_cons rfl hs44) ?_
     refine l_val (v := .pointer (some ((ba va).add (i3 * 5)))) rfl rfl rfl (e_nil (a := (ba va).add (i3 * 5)) rfl) ?_
     refine l_nil ?_
     exact f_owes_d (up_cons rfl hs44) rfl (List.Perm.refl _)
    ·rintro f M ⟨k0, -⟩ -
     have hs45 : f 45 = .pointer (some ((ba va).add (i3 * 5))) := k0
     refine ob_start (L' := M) (by rfl) (up_cons rfl hs45) ?_
     refine l_val (v := .pointer (some (((ba va).add (i3 * 5) : Addr).add 1))) rfl rfl rfl (e_fieldAddr (a := (ba va).add (i3 * 5)) rfl uc125) ?_
     refine l_nil ?_
     exact f_owes_d (up_cons rfl hs45) rfl (List.Perm.refl _)
    ·rintro f M ⟨k0, -⟩ -
     have hs46 : f 46 = .pointer (some (((ba va).add (i3 * 5) : Addr).add 1)) := k0
     refine ob_start (L' := M) (by rfl) (up_cons rfl hs46) ?_
     refine l_val (v := .pointer (some ((((ba va).add (i3 * 5) : Addr).add 1 : Addr).add (2 * 1)))) rfl rfl rfl (e_indexArr (a := ((ba va).add (i3 * 5) : Addr).add 1) (k := 2) rfl rfl uc126 (by decide)) ?_
     refine l_nil ?_
     exact f_owes_d (up_cons rfl hs46) rfl (List.Perm.refl _)
    ·rintro f M ⟨k0, -⟩ -
     have hs47 : f 47 = .pointer (some ((((ba va).add (i3 * 5) : Addr).add 1 : Addr).add (2 * 1))) := k0
     refine ob_start (L' := M) (by rfl) (up_cons rfl hs47) ?_
     refine l_val (v := Ix (c3.v2)) rfl rfl rfl (e_load1 tf2 (v := Ix (c3.v2)) rfl (Knows.imp (Knows.imp (Knows.of_base (Cs.mono _ _) hc3) (fun _ h => Cs.sub (vs := [Ix (c3.v0), Ix (c3.v1), Ix (c3.v2), Ix (c3.v3)]) 1 h rfl)) (fun _ h => Cs.sub (vs := [Ix (c3.v2)]) (2 * 1) h rfl))) ?_
     refine l_nil ?_
     exact f_owes_d (up_cons rfl hs47) rfl (List.Perm.refl _)
    ·rintro f M ⟨k0, -⟩ -
     have hs48 : f 48 = Ix (c3.v2) := k0
     refine ob_start (L' := M) (by rfl) (up_cons rfl hs48) ?_
     refine l_val (v := .bool (decide ((c3.v2) = (1 : Int)))) rfl rfl rfl (e_eql (a := (c3.v2)) (b := (1 : Int)) rfl rfl) ?_
     refine l_nil ?_
     exact f_owes_d (up_cons rfl hs48) rfl (List.Perm.refl _)
    ·rintro f M - ⟨i0, -⟩
     have hs5 : f 5 = .pointer (some ((ba va).add (i3 * 5))) := i0
     refine ob_start (L' := M) (by rfl) (up_cons rfl hs5) ?_
     refine l_val (v := .pointer (some ((ba va).add (i3 * 5)))) rfl rfl rfl (e_move) ?_
     refine l_nil ?_
     exact f_owes_d (up_cons rfl hs5) rfl (List.Perm.refl _)
    ·rintro f M ⟨k0, -⟩ -
     have hs50 : f 50 = .pointer (some ((ba va).add (i3 * 5))) := k0
     refine ob_start (L' := M) (by rfl) (up_cons rfl hs50) ?_
     refine l_val (v := .pointer (some ((ba va).add (i3 * 5)))) rfl rfl rfl (e_nil (a := (ba va).add (i3 * 5)) rfl) ?_
     refine l_nil ?_
     exact f_owes_d (up_cons rfl hs50) rfl (List.Perm.refl _)
    ·rintro f M ⟨k0, -⟩ -
     have hs51 : f 51 = .pointer (some ((ba va).add (i3 * 5))) := k0
     refine ob_start (L' := M) (by rfl) (up_cons rfl hs51) ?_
     refine l_val (v := .pointer (some (((ba va).add (i3 * 5) : Addr).add 1))) rfl rfl rfl (e_fieldAddr (a := (ba va).add (i3 * 5)) rfl uc125) ?_
     refine l_nil ?_
     exact f_owes_d (up_cons rfl hs51) rfl (List.Perm.refl _)
    ·rintro f M ⟨k0, -⟩ -
     have hs52 : f 52 = .pointer (some (((ba va).add (i3 * 5) : Addr).add 1)) := k0
     refine ob_start (L' := M) (by rfl) (up_cons rfl hs52) ?_
     refine l_val (v := .pointer (some ((((ba va).add (i3 * 5) : Addr).add 1 : Addr).add (3 * 1)))) rfl rfl rfl (e_indexArr (a := ((ba va).add (i3 * 5) : Addr).add 1) (k := 3) rfl rfl uc126 (by decide)) ?_
     refine l_nil ?_
     exact f_owes_d (up_cons rfl hs52) rfl (List.Perm.refl _)
    ·rintro f M ⟨k0, -⟩ -
     have hs53 : f 53 = .pointer (some ((((ba va).add (i3 * 5) : Addr).add 1 : Addr).add (3 * 1))) := k0
     refine ob_start (L' := M) (by rfl) (up_cons rfl hs53) ?_
     refine l_val (v := Ix (c3.v3)) rfl rfl rfl (e_load1 tf2 (v := Ix (c3.v3)) rfl (Knows.imp (Knows.imp (Knows.of_base (Cs.mono _ _) hc3) (fun _ h => Cs.sub (vs := [Ix (c3.v0), Ix (c3.v1), Ix (c3.v2), Ix (c3.v3)]) 1 h rfl)) (fun _ h => Cs.sub (vs := [Ix (c3.v3)]) (3 * 1) h rfl))) ?_
     refine l_nil ?_
     exact f_owes_d (up_cons rfl hs53) rfl (List.Perm.refl _)
    ·rintro f M ⟨k0, -⟩ -
     have hs54 : f 54 = Ix (c3.v3) := k0
     refine ob_start (L' := M) (by rfl) (up_cons rfl hs54) ?_
     refine l_val (v := .bool true) rfl rfl rfl ((ev_t hfx (e_eql (a := (c3.v3)) (b := (1 : Int)) rfl rfl))) ?_
     refine l_nil ?_
     exact f_owes_d (up_cons rfl hs54) rfl (List.Perm.refl _)
    ·rintro f M ⟨k0, -⟩ -
     have hs55 : f 55 = .bool true := k0
     refine ob_start (L' := M) (by rfl) (up_cons rfl hs55) ?_
     refine l_val (v := .bool true) rfl rfl rfl (e_move) ?_
     refine l_nil ?_
     exact f_owes_d (up_cons rfl hs55) rfl (List.Perm.refl _)
    ·rintro f M ⟨k0, -⟩ ⟨i0, -⟩
     have hs6 : f 6 = .pointer (optP va cm 2) := i0
     have hs56 : f 56 = .bool true := k0
     refine ob_start (L' := M) (by rfl) (up_cons (up_cons rfl hs6) hs56) ?_
     refine l_skip rfl rfl rfl rfl rfl rfl ?_
     refine l_nil ?_
     exact f_owes_d (up_cons (up_cons rfl hs6) hs56) rfl (List.Perm.refl _)
    ·rintro f M ⟨k0, k1, -⟩ -
     have hs57 : f 57 = undef := k0
     have hs56 : f 56 = .bool true := k1
     refine ob_start (L' := M) (by rfl) (up_cons (up_cons rfl hs57) hs56) ?_
     refine l_skip rfl rfl rfl rfl rfl rfl ?_
     refine l_nil ?_
     exact f_owes_d (up_cons (up_cons rfl hs57) hs56) rfl (List.Perm.refl _)
    ·rintro f M ⟨k0, k1, -⟩ -
     have hs56 : f 56 = .bool true := k0
     have hs58 : f 58 = undef := k1
     refine ob_start (L' := M) (by rfl) (up_cons (up_cons rfl hs56) hs58) ?_
     refine l_val (v := .bool true) rfl rfl rfl (e_pick_t rfl) ?_
     refine l_nil ?_
     exact f_owes_d (up_cons (up_cons rfl hs56) hs58) rfl (List.Perm.refl _)
    ·rintro f M ⟨k0, k1, k2, k3, k4, k5, -⟩ -
     have hs22 : f 22 = Ix (id) := k0
     have hs33 : f 33 = .agg #[Ix (c1.v0), Ix (c1.v1)] := k1
     have hs38 : f 38 = Ix (c3.v0) := k2
     have hs43 : f 43 = Ix (c3.v1) := k3
     have hs49 : f 49 = .bool (decide ((c3.v2) = (1 : Int))) := k4
     have hs59 : f 59 = .bool true := k5
     refine ob_start (L' := M) (by rfl) (up_cons (up_cons (up_cons (up_cons (up_cons (up_cons rfl hs22) hs33) hs38) hs43) hs49) hs59) ?_
     refine l_val (v := .agg #[Ix (id), Ix (c1.v0), Ix (c1.v1), .int .i64 (0), .int .i64 (0), Ix (c3.v0), Ix (c3.v1), .bool (decide ((c3.v2) = (1 : Int))), .bool true]) rfl rfl rfl (e_build tf58 tf102 (vs := [(0, Ix (id)), (1, .agg #[Ix (c1.v0), Ix (c1.v1)]), (3, Ix (c3.v0)), (4, Ix (c3.v1)), (5, .bool (decide ((c3.v2) = (1 : Int)))), (6, .bool true)]) (cells := #[Ix (id), Ix (c1.v0), Ix (c1.v1), .int .i64 (0), .int .i64 (0), Ix (c3.v0), Ix (c3.v1), .bool (decide ((c3.v2) = (1 : Int))), .bool true]) rfl (by kernel_rfl)) ?_
     refine l_nil ?_
     exact f_owes_d (up_cons (up_cons (up_cons (up_cons (up_cons (up_cons rfl hs22) hs33) hs38) hs43) hs49) hs59) rfl (List.Perm.refl _)
    ·rintro f M - -
     refine ob_start (L' := M) (by rfl) rfl ?_
     refine l_mv rfl rfl rfl (m_alloc tf58) ?_
     rintro _ _ ⟨b6, rfl, rfl⟩
     refine l_nil ?_
     exact f_owes_d rfl rfl (perm_front 0 rfl)
    ·rintro f M ⟨k0, k1, -⟩ -
     have hs7 : f 7 = .pointer (some ⟨(blk (f 7)), 0, none⟩) := k0
     have hs60 : f 60 = .agg #[Ix (id), Ix (c1.v0), Ix (c1.v1), .int .i64 (0), .int .i64 (0), Ix (c3.v0), Ix (c3.v1), .bool (decide ((c3.v2) = (1 : Int))), .bool true] := k1
     refine ob_start (L' := pt (blk (f 7)) (.cells #[.int .i64 (0), .int .i64 (0), .int .i64 (0), .int .i64 (0), .int .i64 (0), .int .i64 (0), .int .i64 (0), .bool false, .bool false] 52) :: M) (by rfl) (up_cons (up_cons rfl hs7) hs60) ?_
     refine l_mu rfl rfl (m_store 0 tf22 (b := (blk (f 7))) (o := 0) (T := 52) (cs := #[.int .i64 (0), .int .i64 (0), .int .i64 (0), .int .i64 (0), .int .i64 (0), .int .i64 (0), .int .i64 (0), .bool false, .bool false]) (cs' := #[Ix (id), Ix (c1.v0), Ix (c1.v1), .int .i64 (0), .int .i64 (0), Ix (c3.v0), Ix (c3.v1), .bool (decide ((c3.v2) = (1 : Int))), .bool true]) (v := .agg #[Ix (id), Ix (c1.v0), Ix (c1.v1), .int .i64 (0), .int .i64 (0), Ix (c3.v0), Ix (c3.v1), .bool (decide ((c3.v2) = (1 : Int))), .bool true]) rfl rfl rfl rfl rfl rfl rfl) ?_
     refine l_nil ?_
     exact f_owes_n (up_cons (up_cons rfl hs7) hs60) trivial (perm_front 0 rfl)
    rintro fa7 ⟨-, -, -, -, -, -, -, -, -, -, -, -, -, -, -, -, -, -, -, -, -, -, -, -, -, -, -, -, -, -, -, -, -, -, -, -, -, -, -, -, k40, -, -⟩ ⟨j0, j1, -⟩
    refine f_re (L' := [pt b2 (.cells #[.int .i64 (0), .int .i64 (0), .int .i64 (0), .int .i64 (0), .int .i64 (0), .int .i64 (0), .int .i64 (0), .bool false, .bool false] 52), pt b1 (.cells #[Ix (id), .slice va (cm.length) (vc)] 59), pt (blk (fa7 7)) (.cells #[Ix (id), Ix (c1.v0), Ix (c1.v1), .int .i64 (0), .int .i64 (0), Ix (c3.v0), Ix (c3.v1), .bool (decide ((c3.v2) = (1 : Int))), .bool true] 52)]) (by rfl) ?_
    refine f_rebase (d := 2) (v := .pointer (some ⟨b2, 0, none⟩)) j0 ?_
    refine f_rebase (d := 6) (v := .pointer (optP va cm 2)) j1 ?_
    refine f_rebase (d := 7) (v := .pointer (some ⟨(blk (fa7 7)), 0, none⟩)) k40 ?_
    refine f_then ?_
    refine c_seq ?_
    refine c_seq ?_
    refine c_region ?_
    refine l_val (v := .pointer (some ⟨(blk (fa7 7)), 8, none⟩)) rfl rfl rfl (e_fieldPt (b := (blk (fa7 7))) (o := 0) rfl tf14) ?_
    refine l_val (v := .bool true) rfl rfl rfl (e_load1 tf13 (v := .bool true) rfl (k_pt 2 (cs := #[Ix (id), Ix (c1.v0), Ix (c1.v1), .int .i64 (0), .int .i64 (0), Ix (c3.v0), Ix (c3.v1), .bool (decide ((c3.v2) = (1 : Int))), .bool true]) (vs := [.bool true]) rfl rfl)) ?_
    refine l_val (v := .bool false) rfl rfl rfl (e_not (a := true) rfl) ?_
    refine l_nil ?_
    refine f_then ?_
    refine c_no rfl ?_
    refine c_skip ?_
    refine f_then ?_
    refine c_seq ?_
    refine c_region ?_
    refine l_val (v := .agg #[Ix (id), Ix (c1.v0), Ix (c1.v1), .int .i64 (0), .int .i64 (0), Ix (c3.v0), Ix (c3.v1), .bool (decide ((c3.v2) = (1 : Int))), .bool true]) rfl rfl rfl (e_load tf22 (cs := [Ix (id), Ix (c1.v0), Ix (c1.v1), .int .i64 (0), .int .i64 (0), Ix (c3.v0), Ix (c3.v1), .bool (decide ((c3.v2) = (1 : Int))), .bool true]) rfl (k_pt 2 (cs := #[Ix (id), Ix (c1.v0), Ix (c1.v1), .int .i64 (0), .int .i64 (0), Ix (c3.v0), Ix (c3.v1), .bool (decide ((c3.v2) = (1 : Int))), .bool true]) (vs := [Ix (id), Ix (c1.v0), Ix (c1.v1), .int .i64 (0), .int .i64 (0), Ix (c3.v0), Ix (c3.v1), .bool (decide ((c3.v2) = (1 : Int))), .bool true]) rfl rfl) rfl) ?_
    refine l_mu rfl rfl (m_store 0 tf22 (b := b2) (o := 0) (T := 52) (cs := #[.int .i64 (0), .int .i64 (0), .int .i64 (0), .int .i64 (0), .int .i64 (0), .int .i64 (0), .int .i64 (0), .bool false, .bool false]) (cs' := #[Ix (id), Ix (c1.v0), Ix (c1.v1), .int .i64 (0), .int .i64 (0), Ix (c3.v0), Ix (c3.v1), .bool (decide ((c3.v2) = (1 : Int))), .bool true]) (v := .agg #[Ix (id), Ix (c1.v0), Ix (c1.v1), .int .i64 (0), .int .i64 (0), Ix (c3.v0), Ix (c3.v1), .bool (decide ((c3.v2) = (1 : Int))), .bool true]) rfl rfl rfl rfl rfl rfl rfl) ?_
    refine l_val (v := .bool true) rfl rfl rfl (e_assign) ?_
    refine l_nil ?_
    refine f_then ?_
    refine c_ret ?_
    refine retG (l := [.cell 2 52, .tmp 3]) (m := [.agg #[Ix (id), Ix (c1.v0), Ix (c1.v1), .int .i64 (0), .int .i64 (0), Ix (c3.v0), Ix (c3.v1), .bool (decide ((c3.v2) = (1 : Int))), .bool true], .bool true]) (v := .tuple #[.agg #[Ix (id), Ix (c1.v0), Ix (c1.v1), .int .i64 (0), .int .i64 (0), Ix (c3.v0), Ix (c3.v1), .bool (decide ((c3.v2) = (1 : Int))), .bool true], .bool true]) Tryz.results60 ⟨rd_cell tf22 (cs := [Ix (id), Ix (c1.v0), Ix (c1.v1), .int .i64 (0), .int .i64 (0), Ix (c3.v0), Ix (c3.v1), .bool (decide ((c3.v2) = (1 : Int))), .bool true]) rfl (k_pt 0 (cs := #[Ix (id), Ix (c1.v0), Ix (c1.v1), .int .i64 (0), .int .i64 (0), Ix (c3.v0), Ix (c3.v1), .bool (decide ((c3.v2) = (1 : Int))), .bool true]) (vs := [Ix (id), Ix (c1.v0), Ix (c1.v1), .int .i64 (0), .int .i64 (0), Ix (c3.v0), Ix (c3.v1), .bool (decide ((c3.v2) = (1 : Int))), .bool true]) rfl rfl) rfl, rd_tmp (v := .bool true) rfl, trivial⟩ rfl ?_
    intro w hw
    exact ⟨body_ret_some (body_fix hf1 hf3 (.inl hfx)), st_mask [false, false, false] rfl hw⟩
   ·
    rcases hv : (optP va cm 2).isNone with _ | _
    ·
     obtain ⟨i2, c2, hi2, hk2, hx2, hp2, hf2⟩ := optP_some hv
     obtain ⟨ha2, cs2, hc2, rfl⟩ := ve _ _ hi2
     rw [hp2]
     refine c_any [⟨[], [], [0], [21], fun f => f 21 = .pointer (some ⟨b1, 0, none⟩)⟩, ⟨[0], [0], [], [22], fun f => f 22 = Ix (id)⟩, ⟨[], [], [1], [23], fun f => f 23 = .pointer (some ((ba va).add (i1 * 5)))⟩, ⟨[2], [2], [], [24], fun f => f 24 = .pointer (some ((ba va).add (i1 * 5)))⟩, ⟨[2, 3], [3], [], [25], fun f => f 25 = .pointer (some (((ba va).add (i1 * 5) : Addr).add 1))⟩, ⟨[2, 3, 4], [4], [], [26], fun f => f 26 = .pointer (some ((((ba va).add (i1 * 5) : Addr).add 1 : Addr).add (0 * 1)))⟩, ⟨[2, 3, 4, 5], [5], [], [27], fun f => f 27 = Ix (c1.v0)⟩, ⟨[], [], [1], [28], fun f => f 28 = .pointer (some ((ba va).add (i1 * 5)))⟩, ⟨[7], [7], [], [29], fun f => f 29 = .pointer (some ((ba va).add (i1 * 5)))⟩, ⟨[7, 8], [8], [], [30], fun f => f 30 = .pointer (some (((ba va).add (i1 * 5) : Addr).add 1))⟩, ⟨[7, 8, 9], [9], [], [31], fun f => f 31 = .pointer (some ((((ba va).add (i1 * 5) : Addr).add 1 : Addr).add (1 * 1)))⟩, ⟨[7, 8, 9, 10], [10], [], [32], fun f => f 32 = Ix (c1.v1)⟩, ⟨[2, 3, 4, 5, 6, 7, 8, 9, 10, 11], [6, 11], [], [33], fun f => f 33 = .agg #[Ix (c1.v0), Ix (c1.v1)]⟩, ⟨[], [], [2], [34], fun f => f 34 = .pointer (some ((ba va).add (i3 * 5)))⟩, ⟨[13], [13], [], [35], fun f => f 35 = .pointer (some ((ba va).add (i3 * 5)))⟩, ⟨[13, 14], [14], [], [36], fun f => f 36 = .pointer (some (((ba va).add (i3 * 5) : Addr).add 1))⟩, ⟨[13, 14, 15], [15], [], [37], fun f => f 37 = .pointer (some ((((ba va).add (i3 * 5) : Addr).add 1 : Addr).add (0 * 1)))⟩, ⟨[13, 14, 15, 16], [16], [], [38], fun f => f 38 = Ix (c3.v0)⟩, ⟨[], [], [2], [39], fun f => f 39 = .pointer (some ((ba va).add (i3 * 5)))⟩, ⟨[18], [18], [], [40], fun f => f 40 = .pointer (some ((ba va).add (i3 * 5)))⟩, ⟨[18, 19], [19], [], [41], fun f => f 41 = .pointer (some (((ba va).add (i3 * 5) : Addr).add 1))⟩, ⟨[18, 19, 20], [20], [], [42], fun f => f 42 = .pointer (some ((((ba va).add (i3 * 5) : Addr).add 1 : Addr).add (1 * 1)))⟩, ⟨[18, 19, 20, 21], [21], [], [43], fun f => f 43 = Ix (c3.v1)⟩, ⟨[], [], [2], [44], fun f => f 44 = .pointer (some ((ba va).add (i3 * 5)))⟩, ⟨[23], [23], [], [45], fun f => f 45 = .pointer (some ((ba va).add (i3 * 5)))⟩, ⟨[23, 24], [24], [], [46], fun f => f 46 = .pointer (some (((ba va).add (i3 * 5) : Addr).add 1))⟩, ⟨[23, 24, 25], [25], [], [47], fun f => f 47 = .pointer (some ((((ba va).add (i3 * 5) : Addr).add 1 : Addr).add (2 * 1)))⟩, ⟨[23, 24, 25, 26], [26], [], [48], fun f => f 48 = Ix (c3.v2)⟩, ⟨[23, 24, 25, 26, 27], [27], [], [49], fun f => f 49 = .bool (decide ((c3.v2) = (1 : Int)))⟩, ⟨[], [], [2], [50], fun f => f 50 = .pointer (some ((ba va).add (i3 * 5)))⟩, ⟨[29], [29], [], [51], fun f => f 51 = .pointer (some ((ba va).add (i3 * 5)))⟩, ⟨[29, 30], [30], [], [52], fun f => f 52 = .pointer (some (((ba va).add (i3 * 5) : Addr).add 1))⟩, ⟨[29, 30, 31], [31], [], [53], fun f => f 53 = .pointer (some ((((ba va).add (i3 * 5) : Addr).add 1 : Addr).add (3 * 1)))⟩, ⟨[29, 30, 31, 32], [32], [], [54], fun f => f 54 = Ix (c3.v3)⟩, ⟨[29, 30, 31, 32, 33], [33], [], [55], fun f => f 55 = .bool false⟩, ⟨[29, 30, 31, 32, 33, 34], [34], [], [56], fun f => f 56 = .bool false⟩, ⟨[29, 30, 31, 32, 33, 34, 35], [35], [3], [57], fun f => f 57 = .pointer (some ((ba va).add (i2 * 5)))⟩, ⟨[29, 30, 31, 32, 33, 34, 35, 36], [36, 35], [], [58], fun f => f 58 = .bool false⟩, ⟨[29, 30, 31, 32, 33, 34, 35, 36, 37], [35, 37], [], [59], fun f => f 59 = .bool false⟩, ⟨[0, 1, 2, 3, 4, 5, 6, 7, 8, 9, 10, 11, 12, 13, 14, 15, 16, 17, 18, 19, 20, 21, 22, 23, 24, 25, 26, 27, 28, 29, 30, 31, 32, 33, 34, 35, 36, 37, 38], [1, 12, 17, 22, 28, 38], [], [60], fun f => f 60 = .agg #[Ix (id), Ix (c1.v0), Ix (c1.v1), .int .i64 (0), .int .i64 (0), Ix (c3.v0), Ix (c3.v1), .bool (decide ((c3.v2) = (1 : Int))), .bool false]⟩, ⟨[], [], [], [7], fun f => f 7 = .pointer (some ⟨(blk (f 7)), 0, none⟩)⟩, ⟨[0, 1, 2, 3, 4, 5, 6, 7, 8, 9, 10, 11, 12, 13, 14, 15, 16, 17, 18, 19, 20, 21, 22, 23, 24, 25, 26, 27, 28, 29, 30, 31, 32, 33, 34, 35, 36, 37, 38, 39, 40], [40, 39], [], [], fun _ => True⟩] [⟨none, none, [], [], fun _ => pt b2 (.cells #[.int .i64 (0), .int .i64 (0), .int .i64 (0), .int .i64 (0), .int .i64 (0), .int .i64 (0), .int .i64 (0), .bool false, .bool false] 52)⟩, ⟨none, none, [1], [], fun _ => pt b1 (.cells #[Ix (id), .slice va (cm.length) (vc)] 59)⟩, ⟨(some 40), (some 41), [41], [7], fun f => pt (blk (f 7)) (.cells #[.int .i64 (0), .int .i64 (0), .int .i64 (0), .int .i64 (0), .int .i64 (0), .int .i64 (0), .int .i64 (0), .bool false, .bool false] 52)⟩, ⟨(some 41), none, [], [7], fun f => pt (blk (f 7)) (.cells #[Ix (id), Ix (c1.v0), Ix (c1.v1), .int .i64 (0), .int .i64 (0), Ix (c3.v0), Ix (c3.v1), .bool (decide ((c3.v2) = (1 : Int))), .bool false] 52)⟩] [(1, .pointer (some ⟨b1, 0, none⟩)), (4, .pointer (some ((ba va).add (i1 * 5)))), (5, .pointer (some ((ba va).add (i3 * 5)))), (6, .pointer (some ((ba va).add (i2 * 5)))), (2, .pointer (some ⟨b2, 0, none⟩))] [4, 3] [] (by kernel_rfl) (by kernel_rfl) (by kernel_rfl) (by kernel_rfl) rfl ⟨rfl, rfl, rfl, rfl, rfl, trivial⟩ ⟨?_, ?_, ?_, ?_, ?_, ?_, ?_, ?_, ?_, ?_, ?_, ?_, ?_, ?_, ?_, ?_, ?_, ?_, ?_, ?_, ?_, ?_, ?_, ?_, ?_, ?_, ?_, ?_, ?_, ?_, ?_, ?_, ?_, ?_, ?_, ?_, ?_, ?_, ?_, ?_, ?_, ?_, trivial⟩ ?_
     ·rintro f M - ⟨i0, -⟩
      have hs1 : f 1 = .pointer (some ⟨b1, 0, none⟩) := i0
      refine ob_start (L' := M) (by rfl) (up_cons rfl hs1) ?_
      refine l_val (v := .pointer (some ⟨b1, 0, none⟩)) rfl rfl rfl (e_fieldPt (b := b1) (o := 0) rfl uc124) ?_
      refine l_nil ?_
      exact f_owes_d (up_cons rfl hs1) rfl (List.Perm.refl _)
     ·rintro f M ⟨k0, -⟩ -
      have hs21 : f 21 = .pointer (some ⟨b1, 0, none⟩) := k0
      refine ob_start (L' := pt b1 (.cells #[Ix (id), .slice va (cm.length) (vc)] 59) :: M) (by rfl) (up_cons rfl hs21) ?_
      refine l_val (v := Ix (id)) rfl rfl rfl (e_load1 tf2 (v := Ix (id)) rfl (k_pt 0 (cs := #[Ix (id), .slice va (cm.length) (vc)]) (vs := [Ix (id)]) rfl rfl)) ?_
      refine l_nil ?_
      exact f_owes_d (up_cons rfl hs21) rfl (perm_front 0 rfl)
     ·rintro f M - ⟨i0, -⟩
      have hs4 : f 4 = .pointer (some ((ba va).add (i1 * 5))) := i0
      refine ob_start (L' := M) (by rfl) (up_cons rfl hs4) ?_
      refine l_val (v := .pointer (some ((ba va).add (i1 * 5)))) rfl rfl rfl (e_move) ?_
      refine l_nil ?_
      exact f_owes_d (up_cons rfl hs4) rfl (List.Perm.refl _)
     ·rintro f M ⟨k0, -⟩ -
      have hs23 : f 23 = .pointer (some ((ba va).add (i1 * 5))) := k0
      refine ob_start (L' := M) (by rfl) (up_cons rfl hs23) ?_
      refine l_val (v := .pointer (some ((ba va).add (i1 * 5)))) rfl rfl rfl (e_nil (a := (ba va).add (i1 * 5)) rfl) ?_
      refine l_nil ?_
      exact f_owes_d (up_cons rfl hs23) rfl (List.Perm.refl _)
     ·rintro f M ⟨k0, -⟩ -
      have hs24 : f 24 = .pointer (some ((ba va).add (i1 * 5))) := k0
      refine ob_start (L' := M) (by rfl) (up_cons rfl hs24) ?_
      refine l_val (v := .pointer (some (((ba va).add (i1 * 5) : Addr).add 1))) rfl rfl rfl (e_fieldAddr (a := (ba va).add (i1 * 5)) rfl uc125) ?_
      refine l_nil ?_
      exact f_owes_d (up_cons rfl hs24) rfl (List.Perm.refl _)
     ·rintro f M ⟨k0, -⟩ -
      have hs25 : f 25 = .pointer (some (((ba va).add (i1 * 5) : Addr).add 1)) := k0
      refine ob_start (L' := M) (by rfl) (up_cons rfl hs25) ?_
      refine l_val (v := .pointer (some ((((ba va).add (i1 * 5) : Addr).add 1 : Addr).add (0 * 1)))) rfl rfl rfl (e_indexArr (a := ((ba va).add (i1 * 5) : Addr).add 1) (k := 0) rfl rfl uc126 (by decide)) ?_
      refine l_nil ?_
      exact f_owes_d (up_cons rfl hs25) rfl (List.Perm.refl _)
     ·rintro f M ⟨k0, -⟩ -
      have hs26 : f 26 = .pointer (some ((((ba va).add (i1 * 5) : Addr).add 1 : Addr).add (0 * 1))) := k0
      refine ob_start (L' := M) (by rfl) (up_cons rfl hs26) ?_
      refine l_val (v := Ix (c1.v0)) rfl rfl rfl (e_load1 tf2 (v := Ix (c1.v0)) rfl (Knows.imp (Knows.imp (Knows.of_base (Cs.mono _ _) hc1) (fun _ h => Cs.sub (vs := [Ix (c1.v0), Ix (c1.v1), Ix (c1.v2), Ix (c1.v3)]) 1 h rfl)) (fun _ h => Cs.sub (vs := [Ix (c1.v0)]) (0 * 1) h rfl))) ?_
      refine l_nil ?_
      exact f_owes_d (up_cons rfl hs26) rfl (List.Perm.refl _)
     ·rintro f M - ⟨i0, -⟩
      have hs4 : f 4 = .pointer (some ((ba va).add (i1 * 5))) := i0
      refine ob_start (L' := M) (by rfl) (up_cons rfl hs4) ?_
      refine l_val (v := .pointer (some ((ba va).add (i1 * 5)))) rfl rfl rfl (e_move) ?_
      refine l_nil ?_
      exact f_owes_d (up_cons rfl hs4) rfl (List.Perm.refl _)
     ·rintro f M ⟨k0, -⟩ -
      have hs28 : f 28 = .pointer (some ((ba va).add (i1 * 5))) := k0
      refine ob_start (L' := M) (by rfl) (up_cons rfl hs28) ?_
      refine l_val (v := .pointer (some ((ba va).add (i1 * 5)))) rfl rfl rfl (e_nil (a := (ba va).add (i1 * 5)) rfl) ?_
      refine l_nil ?_
      exact f_owes_d (up_cons rfl hs28) rfl (List.Perm.refl _)
     ·rintro f M ⟨k0, -⟩ -
      have hs29 : f 29 = .pointer (some ((ba va).add (i1 * 5))) := k0
      refine ob_start (L' := M) (by rfl) (up_cons rfl hs29) ?_
      refine l_val (v := .pointer (some (((ba va).add (i1 * 5) : Addr).add 1))) rfl rfl rfl (e_fieldAddr (a := (ba va).add (i1 * 5)) rfl uc125) ?_
      refine l_nil ?_
      exact f_owes_d (up_cons rfl hs29) rfl (List.Perm.refl _)
     ·rintro f M ⟨k0, -⟩ -
      have hs30 : f 30 = .pointer (some (((ba va).add (i1 * 5) : Addr).add 1)) := k0
      refine ob_start (L' := M) (by rfl) (up_cons rfl hs30) ?_
      refine l_val (v := .pointer (some ((((ba va).add (i1 * 5) : Addr).add 1 : Addr).add (1 * 1)))) rfl rfl rfl (e_indexArr (a := ((ba va).add (i1 * 5) : Addr).add 1) (k := 1) rfl rfl uc126 (by decide)) ?_
      refine l_nil ?_
      exact f_owes_d (up_cons rfl hs30) rfl (List.Perm.refl _)
     ·rintro f M ⟨k0, -⟩ -
      have hs31 : f 31 = .pointer (some ((((ba va).add (i1 * 5) : Addr).add 1 : Addr).add (1 * 1))) := k0
      refine ob_start (L' := M) (by rfl) (up_cons rfl hs31) ?_
      refine l_val (v := Ix (c1.v1)) rfl rfl rfl (e_load1 tf2 (v := Ix (c1.v1)) rfl (Knows.imp (Knows.imp (Knows.of_base (Cs.mono _ _) hc1) (fun _ h => Cs.sub (vs := [Ix (c1.v0), Ix (c1.v1), Ix (c1.v2), Ix (c1.v3)]) 1 h rfl)) (fun _ h => Cs.sub (vs := [Ix (c1.v1)]) (1 * 1) h rfl))) ?_
      refine l_nil ?_
      exact f_owes_d (up_cons rfl hs31) rfl (List.Perm.refl _)
     ·rintro f M ⟨k0, k1, -⟩ -
      have hs27 : f 27 = Ix (c1.v0) := k0
      have hs32 : f 32 = Ix (c1.v1) := k1
      refine ob_start (L' := M) (by rfl) (up_cons (up_cons rfl hs27) hs32) ?_
      refine l_val (v := .agg #[Ix (c1.v0), Ix (c1.v1)]) rfl rfl rfl (e_build tf17 tf16 (vs := [(0, Ix (c1.v0)), (1, Ix (c1.v1))]) (cells := #[Ix (c1.v0), Ix (c1.v1)]) rfl rfl) ?_
      refine l_nil ?_
      exact f_owes_d (up_cons (up_cons rfl hs27) hs32) rfl (List.Perm.refl _)
     ·rintro f M - ⟨i0, -⟩
      have hs5 : f 5 = .pointer (some ((ba va).add (i3 * 5))) := i0
      refine ob_start (L' := M) (by rfl) (up_cons rfl hs5) ?_
      refine l_val (v := .pointer (some ((ba va).add (i3 * 5)))) rfl rfl rfl (e_move) ?_
      refine l_nil ?_
      exact f_owes_d (up_cons rfl hs5) rfl (List.Perm.refl _)
     ·rintro f M ⟨k0, -⟩ -
      have hs34 : f 34 = .pointer (some ((ba va).add (i3 * 5))) := k0
      refine ob_start (L' := M) (by rfl) (up_cons rfl hs34) ?_
      refine l_val (v := .pointer (some ((ba va).add (i3 * 5)))) rfl rfl rfl (e_nil (a := (ba va).add (i3 * 5)) rfl) ?_
      refine l_nil ?_
      exact f_owes_d (up_cons rfl hs34) rfl (List.Perm.refl _)
     ·rintro f M ⟨k0, -⟩ -
      have hs35 : f 35 = .pointer (some ((ba va).add (i3 * 5))) := k0
      refine ob_start (L' := M) (by rfl) (up_cons rfl hs35) ?_
      refine l_val (v := .pointer (some (((ba va).add (i3 * 5) : Addr).add 1))) rfl rfl rfl (e_fieldAddr (a := (ba va).add (i3 * 5)) rfl uc125) ?_
      refine l_nil ?_
      exact f_owes_d (up_cons rfl hs35) rfl (List.Perm.refl _)
     ·rintro f M ⟨k0, -⟩ -
      have hs36 : f 36 = .pointer (some (((ba va).add (i3 * 5) : Addr).add 1)) := k0
      refine ob_start (L' := M) (by rfl) (up_cons rfl hs36) ?_
      refine l_val (v := .pointer (some ((((ba va).add (i3 * 5) : Addr).add 1 : Addr).add (0 * 1)))) rfl rfl rfl (e_indexArr (a := ((ba va).add (i3 * 5) : Addr).add 1) (k := 0) rfl rfl uc126 (by decide)) ?_
      refine l_nil ?_
      exact f_owes_d (up_cons rfl hs36) rfl (List.Perm.refl _)
     ·rintro f M ⟨k0, -⟩ -
      have hs37 : f 37 = .pointer (some ((((ba va).add (i3 * 5) : Addr).add 1 : Addr).add (0 * 1))) := k0
      refine ob_start (L' := M) (by rfl) (up_cons rfl hs37) ?_
      refine l_val (v := Ix (c3.v0)) rfl rfl rfl (e_load1 tf2 (v := Ix (c3.v0)) rfl (Knows.imp (Knows.imp (Knows.of_base (Cs.mono _ _) hc3) (fun _ h => Cs.sub (vs := [Ix (c3.v0), Ix (c3.v1), Ix (c3.v2), Ix (c3.v3)]) 1 h rfl)) (fun _ h => Cs.sub (vs := [Ix (c3.v0)]) (0 * 1) h rfl))) ?_
      refine l_nil ?_
      exact f_owes_d (up_cons rfl hs37) rfl (List.Perm.refl _)
     ·rintro f M - ⟨i0, -⟩
      have hs5 : f 5 = .pointer (some ((ba va).add (i3 * 5))) := i0
      refine ob_start (L' := M) (by rfl) (up_cons rfl hs5) ?_
      refine l_val (v := .pointer (some ((ba va).add (i3 * 5)))) rfl rfl rfl (e_move) ?_
      refine l_nil ?_
      exact f_owes_d (up_cons rfl hs5) rfl (List.Perm.refl _)
     ·rintro f M ⟨k0, -⟩ -
      have hs39 : f 39 = .pointer (some ((ba va).add (i3 * 5))) := k0
      refine ob_start (L' := M) (by rfl) (up_cons rfl hs39) ?_
      refine l_val (v := .pointer (some ((ba va).add (i3 * 5)))) rfl rfl rfl (e_nil (a := (ba va).add (i3 * 5)) rfl) ?_
      refine l_nil ?_
      exact f_owes_d (up_cons rfl hs39) rfl (List.Perm.refl _)
     ·rintro f M ⟨k0, -⟩ -
      have hs40 : f 40 = .pointer (some ((ba va).add (i3 * 5))) := k0
      refine ob_start (L' := M) (by rfl) (up_cons rfl hs40) ?_
      refine l_val (v := .pointer (some (((ba va).add (i3 * 5) : Addr).add 1))) rfl rfl rfl (e_fieldAddr (a := (ba va).add (i3 * 5)) rfl uc125) ?_
      refine l_nil ?_
      exact f_owes_d (up_cons rfl hs40) rfl (List.Perm.refl _)
     ·rintro f M ⟨k0, -⟩ -
      have hs41 : f 41 = .pointer (some (((ba va).add (i3 * 5) : Addr).add 1)) := k0
      refine ob_start (L' := M) (by rfl) (up_cons rfl hs41) ?_
      refine l_val (v := .pointer (some ((((ba va).add (i3 * 5) : Addr).add 1 : Addr).add (1 * 1)))) rfl rfl rfl (e_indexArr (a := ((ba va).add (i3 * 5) : Addr).add 1) (k := 1) rfl rfl uc126 (by decide)) ?_
      refine l_nil ?_
      exact f_owes_d (up_cons rfl hs41) rfl (List.Perm.refl _)
     ·rintro f M ⟨k0, -⟩ -
      have hs42 : f 42 = .pointer (some ((((ba va).add (i3 * 5) : Addr).add 1 : Addr).add (1 * 1))) := k0
      refine ob_start (L' := M) (by rfl) (up_cons rfl hs42) ?_
      refine l_val (v := Ix (c3.v1)) rfl rfl rfl (e_load1 tf2 (v := Ix (c3.v1)) rfl (Knows.imp (Knows.imp (Knows.of_base (Cs.mono _ _) hc3) (fun _ h => Cs.sub (vs := [Ix (c3.v0), Ix (c3.v1), Ix (c3.v2), Ix (c3.v3)]) 1 h rfl)) (fun _ h => Cs.sub (vs := [Ix (c3.v1)]) (1 * 1) h rfl))) ?_
      refine l_nil ?_
      exact f_owes_d (up_cons rfl hs42) rfl (List.Perm.refl _)
     ·rintro f M - ⟨i0, -⟩
      have hs5 : f 5 = .pointer (some ((ba va).add (i3 * 5))) := i0
      refine ob_start (L' := M) (by rfl) (up_cons rfl hs5) ?_
      refine l_val (v := .pointer (some ((ba va).add (i3 * 5)))) rfl rfl rfl (e_move) ?_
      refine l_nil ?_
      exact f_owes_d (up_cons rfl hs5) rfl (List.Perm.refl _)
     ·rintro f M ⟨k0, -⟩ -
      have hs44 : f 44 = .pointer (some ((ba va).add (i3 * 5))) := k0
      refine ob_start (L' := M) (by rfl) (up_cons rfl hs44) ?_
      refine l_val (v := .pointer (some ((ba va).add (i3 * 5)))) rfl rfl rfl (e_nil (a := (ba va).add (i3 * 5)) rfl) ?_
      refine l_nil ?_
      exact f_owes_d (up_cons rfl hs44) rfl (List.Perm.refl _)
     ·rintro f M ⟨k0, -⟩ -
      have hs45 : f 45 = .pointer (some ((ba va).add (i3 * 5))) := k0
      refine ob_start (L' := M) (by rfl) (up_cons rfl hs45) ?_
      refine l_val (v := .pointer (some (((ba va).add (i3 * 5) : Addr).add 1))) rfl rfl rfl (e_fieldAddr (a := (ba va).add (i3 * 5)) rfl uc125) ?_
      refine l_nil ?_
      exact f_owes_d (up_cons rfl hs45) rfl (List.Perm.refl _)
     ·rintro f M ⟨k0, -⟩ -
      have hs46 : f 46 = .pointer (some (((ba va).add (i3 * 5) : Addr).add 1)) := k0
      refine ob_start (L' := M) (by rfl) (up_cons rfl hs46) ?_
      refine l_val (v := .pointer (some ((((ba va).add (i3 * 5) : Addr).add 1 : Addr).add (2 * 1)))) rfl rfl rfl (e_indexArr (a := ((ba va).add (i3 * 5) : Addr).add 1) (k := 2) rfl rfl uc126 (by decide)) ?_
      refine l_nil ?_
      exact f_owes_d (up_cons rfl hs46) rfl (List.Perm.refl _)
     ·rintro f M ⟨k0, -⟩ -
      have hs47 : f 47 = .pointer (some ((((ba va).add (i3 * 5) : Addr).add 1 : Addr).add (2 * 1))) := k0
      refine ob_start (L' := M) (by rfl) (up_cons rfl hs47) ?_
      refine l_val (v := Ix (c3.v2)) rfl rfl rfl (e_load1 tf2 (v := Ix (c3.v2)) rfl (Knows.imp (Knows.imp (Knows.of_base (Cs.mono _ _) hc3) (fun _ h => Cs.sub (vs := [Ix (c3.v0), Ix (c3.v1), Ix (c3.v2), Ix (c3.v3)]) 1 h rfl)) (fun _ h => Cs.sub (vs := [Ix (c3.v2)]) (2 * 1) h rfl))) ?_
      refine l_nil ?_
      exact f_owes_d (up_cons rfl hs47) rfl (List.Perm.refl _)
     ·rintro f M ⟨k0, -⟩ -
      have hs48 : f 48 = Ix (c3.v2) := k0
      refine ob_start (L' := M) (by rfl) (up_cons rfl hs48) ?_
      refine l_val (v := .bool (decide ((c3.v2) = (1 : Int)))) rfl rfl rfl (e_eql (a := (c3.v2)) (b := (1 : Int)) rfl rfl) ?_
      refine l_nil ?_
      exact f_owes_d (up_cons rfl hs48) rfl (List.Perm.refl _)
     ·rintro f M - ⟨i0, -⟩
      have hs5 : f 5 = .pointer (some ((ba va).add (i3 * 5))) := i0
      refine ob_start (L' := M) (by rfl) (up_cons rfl hs5) ?_
      refine l_val (v := .pointer (some ((ba va).add (i3 * 5)))) rfl rfl rfl (e_move) ?_
      refine l_nil ?_
      exact f_owes_d (up_cons rfl hs5) rfl (List.Perm.refl _)
     ·rintro f M ⟨k0, -⟩ -
      have hs50 : f 50 = .pointer (some ((ba va).add (i3 * 5))) := k0
      refine ob_start (L' := M) (by rfl) (up_cons rfl hs50) ?_
      refine l_val (v := .pointer (some ((ba va).add (i3 * 5)))) rfl rfl rfl (e_nil (a := (ba va).add (i3 * 5)) rfl) ?_
      refine l_nil ?_
      exact f_owes_d (up_cons rfl hs50) rfl (List.Perm.refl _)
     ·rintro f M ⟨k0, -⟩ -
      have hs51 : f 51 = .pointer (some ((ba va).add (i3 * 5))) := k0
      refine ob_start (L' := M) (by rfl) (up_cons rfl hs51) ?_
      refine l_val (v := .pointer (some (((ba va).add (i3 * 5) : Addr).add 1))) rfl rfl rfl (e_fieldAddr (a := (ba va).add (i3 * 5)) rfl uc125) ?_
      refine l_nil ?_
      exact f_owes_d (up_cons rfl hs51) rfl (List.Perm.refl _)
     ·rintro f M ⟨k0, -⟩ -
      have hs52 : f 52 = .pointer (some (((ba va).add (i3 * 5) : Addr).add 1)) := k0
      refine ob_start (L' := M) (by rfl) (up_cons rfl hs52) ?_
      refine l_val (v := .pointer (some ((((ba va).add (i3 * 5) : Addr).add 1 : Addr).add (3 * 1)))) rfl rfl rfl (e_indexArr (a := ((ba va).add (i3 * 5) : Addr).add 1) (k := 3) rfl rfl uc126 (by decide)) ?_
      refine l_nil ?_
      exact f_owes_d (up_cons rfl hs52) rfl (List.Perm.refl _)
     ·rintro f M ⟨k0, -⟩ -
      have hs53 : f 53 = .pointer (some ((((ba va).add (i3 * 5) : Addr).add 1 : Addr).add (3 * 1))) := k0
      refine ob_start (L' := M) (by rfl) (up_cons rfl hs53) ?_
      refine l_val (v := Ix (c3.v3)) rfl rfl rfl (e_load1 tf2 (v := Ix (c3.v3)) rfl (Knows.imp (Knows.imp (Knows.of_base (Cs.mono _ _) hc3) (fun _ h => Cs.sub (vs := [Ix (c3.v0), Ix (c3.v1), Ix (c3.v2), Ix (c3.v3)]) 1 h rfl)) (fun _ h => Cs.sub (vs := [Ix (c3.v3)]) (3 * 1) h rfl))) ?_
      refine l_nil ?_
      exact f_owes_d (up_cons rfl hs53) rfl (List.Perm.refl _)
     ·rintro f M ⟨k0, -⟩ -
      have hs54 : f 54 = Ix (c3.v3) := k0
      refine ob_start (L' := M) (by rfl) (up_cons rfl hs54) ?_
      refine l_val (v := .bool false) rfl rfl rfl ((ev_f hfx (e_eql (a := (c3.v3)) (b := (1 : Int)) rfl rfl))) ?_
      refine l_nil ?_
      exact f_owes_d (up_cons rfl hs54) rfl (List.Perm.refl _)
     ·rintro f M ⟨k0, -⟩ -
      have hs55 : f 55 = .bool false := k0
      refine ob_start (L' := M) (by rfl) (up_cons rfl hs55) ?_
      refine l_val (v := .bool false) rfl rfl rfl (e_move) ?_
      refine l_nil ?_
      exact f_owes_d (up_cons rfl hs55) rfl (List.Perm.refl _)
     ·rintro f M ⟨k0, -⟩ ⟨i0, -⟩
      have hs6 : f 6 = .pointer (some ((ba va).add (i2 * 5))) := i0
      have hs56 : f 56 = .bool false := k0
      refine ob_start (L' := M) (by rfl) (up_cons (up_cons rfl hs6) hs56) ?_
      refine g_val (v := .pointer (some ((ba va).add (i2 * 5)))) rfl rfl rfl rfl rfl (e_move) ?_
      refine l_nil ?_
      exact f_owes_d (up_cons (up_cons rfl hs6) hs56) rfl (List.Perm.refl _)
     ·rintro f M ⟨k0, k1, -⟩ -
      have hs57 : f 57 = .pointer (some ((ba va).add (i2 * 5))) := k0
      have hs56 : f 56 = .bool false := k1
      refine ob_start (L' := M) (by rfl) (up_cons (up_cons rfl hs57) hs56) ?_
      refine g_val (v := .bool false) rfl rfl rfl rfl rfl (e_eql_pnil (p := some ((ba va).add (i2 * 5))) rfl rfl uc123) ?_
      refine l_nil ?_
      exact f_owes_d (up_cons (up_cons rfl hs57) hs56) rfl (List.Perm.refl _)
     ·rintro f M ⟨k0, k1, -⟩ -
      have hs56 : f 56 = .bool false := k0
      have hs58 : f 58 = .bool false := k1
      refine ob_start (L' := M) (by rfl) (up_cons (up_cons rfl hs56) hs58) ?_
      refine l_val (v := .bool false) rfl rfl rfl (e_pick_f rfl) ?_
      refine l_nil ?_
      exact f_owes_d (up_cons (up_cons rfl hs56) hs58) rfl (List.Perm.refl _)
     ·rintro f M ⟨k0, k1, k2, k3, k4, k5, -⟩ -
      have hs22 : f 22 = Ix (id) := k0
      have hs33 : f 33 = .agg #[Ix (c1.v0), Ix (c1.v1)] := k1
      have hs38 : f 38 = Ix (c3.v0) := k2
      have hs43 : f 43 = Ix (c3.v1) := k3
      have hs49 : f 49 = .bool (decide ((c3.v2) = (1 : Int))) := k4
      have hs59 : f 59 = .bool false := k5
      refine ob_start (L' := M) (by rfl) (up_cons (up_cons (up_cons (up_cons (up_cons (up_cons rfl hs22) hs33) hs38) hs43) hs49) hs59) ?_
      refine l_val (v := .agg #[Ix (id), Ix (c1.v0), Ix (c1.v1), .int .i64 (0), .int .i64 (0), Ix (c3.v0), Ix (c3.v1), .bool (decide ((c3.v2) = (1 : Int))), .bool false]) rfl rfl rfl (e_build tf58 tf102 (vs := [(0, Ix (id)), (1, .agg #[Ix (c1.v0), Ix (c1.v1)]), (3, Ix (c3.v0)), (4, Ix (c3.v1)), (5, .bool (decide ((c3.v2) = (1 : Int)))), (6, .bool false)]) (cells := #[Ix (id), Ix (c1.v0), Ix (c1.v1), .int .i64 (0), .int .i64 (0), Ix (c3.v0), Ix (c3.v1), .bool (decide ((c3.v2) = (1 : Int))), .bool false]) rfl (by kernel_rfl)) ?_
      refine l_nil ?_
      exact f_owes_d (up_cons (up_cons (up_cons (up_cons (up_cons (up_cons rfl hs22) hs33) hs38) hs43) hs49) hs59) rfl (List.Perm.refl _)
     ·rintro f M - -
      refine ob_start (L' := M) (by rfl) rfl ?_
      refine l_mv rfl rfl rfl (m_alloc tf58) ?_
      rintro _ _ ⟨b9, rfl, rfl⟩
      refine l_nil ?_
      exact f_owes_d rfl rfl (perm_front 0 rfl)
     ·rintro f M ⟨k0, k1, -⟩ -
      have hs7 : f 7 = .pointer (some ⟨(blk (f 7)), 0, none⟩) := k0
      have hs60 : f 60 = .agg #[Ix (id), Ix (c1.v0), Ix (c1.v1), .int .i64 (0), .int .i64 (0), Ix (c3.v0), Ix (c3.v1), .bool (decide ((c3.v2) = (1 : Int))), .bool false] := k1
      refine ob_start (L' := pt (blk (f 7)) (.cells #[.int .i64 (0), .int .i64 (0), .int .i64 (0), .int .i64 (0), .int .i64 (0), .int .i64 (0), .int .i64 (0), .bool false, .bool false] 52) :: M) (by rfl) (up_cons (up_cons rfl hs7) hs60) ?_
      refine l_mu rfl rfl (m_store 0 tf22 (b := (blk (f 7))) (o := 0) (T := 52) (cs := #[.int .i64 (0), .int .i64 (0), .int .i64 (0), .int .i64 (0), .int .i64 (0), .int .i64 (0), .int .i64 (0), .bool false, .bool false]) (cs' := #[Ix (id), Ix (c1.v0), Ix (c1.v1), .int .i64 (0), .int .i64 (0), Ix (c3.v0), Ix (c3.v1), .bool (decide ((c3.v2) = (1 : Int))), .bool false]) (v := .agg #[Ix (id), Ix (c1.v0), Ix (c1.v1), .int .i64 (0), .int .i64 (0), Ix (c3.v0), Ix (c3.v1), .bool (decide ((c3.v2) = (1 : Int))), .bool false]) rfl rfl rfl rfl rfl rfl rfl) ?_
      refine l_nil ?_
      exact f_owes_n (up_cons (up_cons rfl hs7) hs60) trivial (perm_front 0 rfl)
     rintro fa10 ⟨-, -, -, -, -, -, -, -, -, -, -, -, -, -, -, -, -, -, -, -, -, -, -, -, -, -, -, -, -, -, -, -, -, -, -, -, -, -, -, -, k40, -, -⟩ ⟨j0, j1, -⟩
     refine f_re (L' := [pt b2 (.cells #[.int .i64 (0), .int .i64 (0), .int .i64 (0), .int .i64 (0), .int .i64 (0), .int .i64 (0), .int .i64 (0), .bool false, .bool false] 52), pt b1 (.cells #[Ix (id), .slice va (cm.length) (vc)] 59), pt (blk (fa10 7)) (.cells #[Ix (id), Ix (c1.v0), Ix (c1.v1), .int .i64 (0), .int .i64 (0), Ix (c3.v0), Ix (c3.v1), .bool (decide ((c3.v2) = (1 : Int))), .bool false] 52)]) (by rfl) ?_
     refine f_rebase (d := 2) (v := .pointer (some ⟨b2, 0, none⟩)) j0 ?_
     refine f_rebase (d := 6) (v := .pointer (some ((ba va).add (i2 * 5)))) j1 ?_
     refine f_rebase (d := 7) (v := .pointer (some ⟨(blk (fa10 7)), 0, none⟩)) k40 ?_
     refine f_then ?_
     refine c_seq ?_
     refine c_seq ?_
     refine c_region ?_
     refine l_val (v := .pointer (some ⟨(blk (fa10 7)), 8, none⟩)) rfl rfl rfl (e_fieldPt (b := (blk (fa10 7))) (o := 0) rfl tf14) ?_
     refine l_val (v := .bool false) rfl rfl rfl (e_load1 tf13 (v := .bool false) rfl (k_pt 2 (cs := #[Ix (id), Ix (c1.v0), Ix (c1.v1), .int .i64 (0), .int .i64 (0), Ix (c3.v0), Ix (c3.v1), .bool (decide ((c3.v2) = (1 : Int))), .bool false]) (vs := [.bool false]) rfl rfl)) ?_
     refine l_val (v := .bool true) rfl rfl rfl (e_not (a := false) rfl) ?_
     refine l_nil ?_
     refine f_then ?_
     refine c_yes rfl ?_
     refine c_any [⟨[], [], [0], [64], fun f => f 64 = .pointer (some ((ba va).add (i2 * 5)))⟩, ⟨[0], [0], [], [65], fun f => f 65 = .pointer (some ((ba va).add (i2 * 5)))⟩, ⟨[0, 1], [1], [], [66], fun f => f 66 = .pointer (some (((ba va).add (i2 * 5) : Addr).add 1))⟩, ⟨[0, 1, 2], [2], [], [67], fun f => f 67 = .pointer (some ((((ba va).add (i2 * 5) : Addr).add 1 : Addr).add (0 * 1)))⟩, ⟨[0, 1, 2, 3], [3], [], [68], fun f => f 68 = Ix (c2.v0)⟩, ⟨[], [], [0], [69], fun f => f 69 = .pointer (some ((ba va).add (i2 * 5)))⟩, ⟨[5], [5], [], [70], fun f => f 70 = .pointer (some ((ba va).add (i2 * 5)))⟩, ⟨[5, 6], [6], [], [71], fun f => f 71 = .pointer (some (((ba va).add (i2 * 5) : Addr).add 1))⟩, ⟨[5, 6, 7], [7], [], [72], fun f => f 72 = .pointer (some ((((ba va).add (i2 * 5) : Addr).add 1 : Addr).add (1 * 1)))⟩, ⟨[5, 6, 7, 8], [8], [], [73], fun f => f 73 = Ix (c2.v1)⟩, ⟨[0, 1, 2, 3, 4, 5, 6, 7, 8, 9], [4, 9], [], [74], fun f => f 74 = .agg #[Ix (c2.v0), Ix (c2.v1)]⟩, ⟨[0, 1, 2, 3, 4, 5, 6, 7, 8, 9, 10], [], [1], [75], fun f => f 75 = .pointer (some ⟨(blk (fa10 7)), 3, none⟩)⟩, ⟨[0, 1, 2, 3, 4, 5, 6, 7, 8, 9, 10, 11], [11, 10], [], [], fun _ => True⟩] [⟨none, none, [], [], fun _ => pt b2 (.cells #[.int .i64 (0), .int .i64 (0), .int .i64 (0), .int .i64 (0), .int .i64 (0), .int .i64 (0), .int .i64 (0), .bool false, .bool false] 52)⟩, ⟨none, none, [], [], fun _ => pt b1 (.cells #[Ix (id), .slice va (cm.length) (vc)] 59)⟩, ⟨none, (some 12), [12], [], fun _ => pt (blk (fa10 7)) (.cells #[Ix (id), Ix (c1.v0), Ix (c1.v1), .int .i64 (0), .int .i64 (0), Ix (c3.v0), Ix (c3.v1), .bool (decide ((c3.v2) = (1 : Int))), .bool false] 52)⟩, ⟨(some 12), none, [], [], fun _ => pt (blk (fa10 7)) (.cells #[Ix (id), Ix (c1.v0), Ix (c1.v1), Ix (c2.v0), Ix (c2.v1), Ix (c3.v0), Ix (c3.v1), .bool (decide ((c3.v2) = (1 : Int))), .bool false] 52)⟩] [(6, .pointer (some ((ba va).add (i2 * 5)))), (7, .pointer (some ⟨(blk (fa10 7)), 0, none⟩)), (2, .pointer (some ⟨b2, 0, none⟩))] [2, 1] [] (by kernel_rfl) (by kernel_rfl) (by kernel_rfl) (by kernel_rfl) rfl ⟨rfl, rfl, rfl, trivial⟩ ⟨?_, ?_, ?_, ?_, ?_, ?_, ?_, ?_, ?_, ?_, ?_, ?_, ?_, trivial⟩ ?_
     ·rintro f M - ⟨i0, -⟩
      have hs6 : f 6 = .pointer (some ((ba va).add (i2 * 5))) := i0
      refine ob_start (L' := M) (by rfl) (up_cons rfl hs6) ?_
      refine l_val (v := .pointer (some ((ba va).add (i2 * 5)))) rfl rfl rfl (e_move) ?_
      refine l_nil ?_
      exact f_owes_d (up_cons rfl hs6) rfl (List.Perm.refl _)
     ·rintro f M ⟨k0, -⟩ -
      have hs64 : f 64 = .pointer (some ((ba va).add (i2 * 5))) := k0
      refine ob_start (L' := M) (by rfl) (up_cons rfl hs64) ?_
      refine l_val (v := .pointer (some ((ba va).add (i2 * 5)))) rfl rfl rfl (e_nil (a := (ba va).add (i2 * 5)) rfl) ?_
      refine l_nil ?_
      exact f_owes_d (up_cons rfl hs64) rfl (List.Perm.refl _)
     ·rintro f M ⟨k0, -⟩ -
      have hs65 : f 65 = .pointer (some ((ba va).add (i2 * 5))) := k0
      refine ob_start (L' := M) (by rfl) (up_cons rfl hs65) ?_
      refine l_val (v := .pointer (some (((ba va).add (i2 * 5) : Addr).add 1))) rfl rfl rfl (e_fieldAddr (a := (ba va).add (i2 * 5)) rfl uc125) ?_
      refine l_nil ?_
      exact f_owes_d (up_cons rfl hs65) rfl (List.Perm.refl _)
     ·rintro f M ⟨k0, -⟩ -
      have hs66 : f 66 = .pointer (some (((ba va).add (i2 * 5) : Addr).add 1)) := k0
      refine ob_start (L' := M) (by rfl) (up_cons rfl hs66) ?_
      refine l_val (v := .pointer (some ((((ba va).add (i2 * 5) : Addr).add 1 : Addr).add (0 * 1)))) rfl rfl rfl (e_indexArr (a := ((ba va).add (i2 * 5) : Addr).add 1) (k := 0) rfl rfl uc126 (by decide)) ?_
      refine l_nil ?_
      exact f_owes_d (up_cons rfl hs66) rfl (List.Perm.refl _)
     ·rintro f M ⟨k0, -⟩ -
      have hs67 : f 67 = .pointer (some ((((ba va).add (i2 * 5) : Addr).add 1 : Addr).add (0 * 1))) := k0
      refine ob_start (L' := M) (by rfl) (up_cons rfl hs67) ?_
      refine l_val (v := Ix (c2.v0)) rfl rfl rfl (e_load1 tf2 (v := Ix (c2.v0)) rfl (Knows.imp (Knows.imp (Knows.of_base (Cs.mono _ _) hc2) (fun _ h => Cs.sub (vs := [Ix (c2.v0), Ix (c2.v1), Ix (c2.v2), Ix (c2.v3)]) 1 h rfl)) (fun _ h => Cs.sub (vs := [Ix (c2.v0)]) (0 * 1) h rfl))) ?_
      refine l_nil ?_
      exact f_owes_d (up_cons rfl hs67) rfl (List.Perm.refl _)
     ·rintro f M - ⟨i0, -⟩
      have hs6 : f 6 = .pointer (some ((ba va).add (i2 * 5))) := i0
      refine ob_start (L' := M) (by rfl) (up_cons rfl hs6) ?_
      refine l_val (v := .pointer (some ((ba va).add (i2 * 5)))) rfl rfl rfl (e_move) ?_
      refine l_nil ?_
      exact f_owes_d (up_cons rfl hs6) rfl (List.Perm.refl _)
     ·rintro f M ⟨k0, -⟩ -
      have hs69 : f 69 = .pointer (some ((ba va).add (i2 * 5))) := k0
      refine ob_start (L' := M) (by rfl) (up_cons rfl hs69) ?_
      refine l_val (v := .pointer (some ((ba va).add (i2 * 5)))) rfl rfl rfl (e_nil (a := (ba va).add (i2 * 5)) rfl) ?_
      refine l_nil ?_
      exact f_owes_d (up_cons rfl hs69) rfl (List.Perm.refl _)
     ·rintro f M ⟨k0, -⟩ -
      have hs70 : f 70 = .pointer (some ((ba va).add (i2 * 5))) := k0
      refine ob_start (L' := M) (by rfl) (up_cons rfl hs70) ?_
      refine l_val (v := .pointer (some (((ba va).add (i2 * 5) : Addr).add 1))) rfl rfl rfl (e_fieldAddr (a := (ba va).add (i2 * 5)) rfl uc125) ?_
      refine l_nil ?_
      exact f_owes_d (up_cons rfl hs70) rfl (List.Perm.refl _)
     ·rintro f M ⟨k0, -⟩ -
      have hs71 : f 71 = .pointer (some (((ba va).add (i2 * 5) : Addr).add 1)) := k0
      refine ob_start (L' := M) (by rfl) (up_cons rfl hs71) ?_
      refine l_val (v := .pointer (some ((((ba va).add (i2 * 5) : Addr).add 1 : Addr).add (1 * 1)))) rfl rfl rfl (e_indexArr (a := ((ba va).add (i2 * 5) : Addr).add 1) (k := 1) rfl rfl uc126 (by decide)) ?_
      refine l_nil ?_
      exact f_owes_d (up_cons rfl hs71) rfl (List.Perm.refl _)
     ·rintro f M ⟨k0, -⟩ -
      have hs72 : f 72 = .pointer (some ((((ba va).add (i2 * 5) : Addr).add 1 : Addr).add (1 * 1))) := k0
      refine ob_start (L' := M) (by rfl) (up_cons rfl hs72) ?_
      refine l_val (v := Ix (c2.v1)) rfl rfl rfl (e_load1 tf2 (v := Ix (c2.v1)) rfl (Knows.imp (Knows.imp (Knows.of_base (Cs.mono _ _) hc2) (fun _ h => Cs.sub (vs := [Ix (c2.v0), Ix (c2.v1), Ix (c2.v2), Ix (c2.v3)]) 1 h rfl)) (fun _ h => Cs.sub (vs := [Ix (c2.v1)]) (1 * 1) h rfl))) ?_
      refine l_nil ?_
      exact f_owes_d (up_cons rfl hs72) rfl (List.Perm.refl _)
     ·rintro f M ⟨k0, k1, -⟩ -
      have hs68 : f 68 = Ix (c2.v0) := k0
      have hs73 : f 73 = Ix (c2.v1) := k1
      refine ob_start (L' := M) (by rfl) (up_cons (up_cons rfl hs68) hs73) ?_
      refine l_val (v := .agg #[Ix (c2.v0), Ix (c2.v1)]) rfl rfl rfl (e_build tf17 tf16 (vs := [(0, Ix (c2.v0)), (1, Ix (c2.v1))]) (cells := #[Ix (c2.v0), Ix (c2.v1)]) rfl rfl) ?_
      refine l_nil ?_
      exact f_owes_d (up_cons (up_cons rfl hs68) hs73) rfl (List.Perm.refl _)
     ·rintro f M - ⟨i0, -⟩
      have hs7 : f 7 = .pointer (some ⟨(blk (fa10 7)), 0, none⟩) := i0
      refine ob_start (L' := M) (by rfl) (up_cons rfl hs7) ?_
      refine l_val (v := .pointer (some ⟨(blk (fa10 7)), 3, none⟩)) rfl rfl rfl (e_fieldPt (b := (blk (fa10 7))) (o := 0) rfl tf9) ?_
      refine l_nil ?_
      exact f_owes_d (up_cons rfl hs7) rfl (List.Perm.refl _)
     ·rintro f M ⟨k0, k1, -⟩ -
      have hs75 : f 75 = .pointer (some ⟨(blk (fa10 7)), 3, none⟩) := k0
      have hs74 : f 74 = .agg #[Ix (c2.v0), Ix (c2.v1)] := k1
      refine ob_start (L' := pt (blk (fa10 7)) (.cells #[Ix (id), Ix (c1.v0), Ix (c1.v1), .int .i64 (0), .int .i64 (0), Ix (c3.v0), Ix (c3.v1), .bool (decide ((c3.v2) = (1 : Int))), .bool false] 52) :: M) (by rfl) (up_cons (up_cons rfl hs75) hs74) ?_
      refine l_mu rfl rfl (m_store 0 tf15 (b := (blk (fa10 7))) (o := 3) (T := 52) (cs := #[Ix (id), Ix (c1.v0), Ix (c1.v1), .int .i64 (0), .int .i64 (0), Ix (c3.v0), Ix (c3.v1), .bool (decide ((c3.v2) = (1 : Int))), .bool false]) (cs' := #[Ix (id), Ix (c1.v0), Ix (c1.v1), Ix (c2.v0), Ix (c2.v1), Ix (c3.v0), Ix (c3.v1), .bool (decide ((c3.v2) = (1 : Int))), .bool false]) (v := .agg #[Ix (c2.v0), Ix (c2.v1)]) rfl rfl rfl rfl rfl rfl rfl) ?_
      refine l_nil ?_
      exact f_owes_n (up_cons (up_cons rfl hs75) hs74) trivial (perm_front 0 rfl)
     rintro fa11 ⟨-, -, -, -, -, -, -, -, -, -, -, -, -, -⟩ ⟨j0, j1, -⟩
     refine f_re (L' := [pt b2 (.cells #[.int .i64 (0), .int .i64 (0), .int .i64 (0), .int .i64 (0), .int .i64 (0), .int .i64 (0), .int .i64 (0), .bool false, .bool false] 52), pt b1 (.cells #[Ix (id), .slice va (cm.length) (vc)] 59), pt (blk (fa10 7)) (.cells #[Ix (id), Ix (c1.v0), Ix (c1.v1), Ix (c2.v0), Ix (c2.v1), Ix (c3.v0), Ix (c3.v1), .bool (decide ((c3.v2) = (1 : Int))), .bool false] 52)]) (by rfl) ?_
     refine f_rebase (d := 2) (v := .pointer (some ⟨b2, 0, none⟩)) j0 ?_
     refine f_rebase (d := 7) (v := .pointer (some ⟨(blk (fa10 7)), 0, none⟩)) j1 ?_
     refine f_then ?_
     refine c_seq ?_
     refine c_region ?_
     refine l_val (v := .agg #[Ix (id), Ix (c1.v0), Ix (c1.v1), Ix (c2.v0), Ix (c2.v1), Ix (c3.v0), Ix (c3.v1), .bool (decide ((c3.v2) = (1 : Int))), .bool false]) rfl rfl rfl (e_load tf22 (cs := [Ix (id), Ix (c1.v0), Ix (c1.v1), Ix (c2.v0), Ix (c2.v1), Ix (c3.v0), Ix (c3.v1), .bool (decide ((c3.v2) = (1 : Int))), .bool false]) rfl (k_pt 2 (cs := #[Ix (id), Ix (c1.v0), Ix (c1.v1), Ix (c2.v0), Ix (c2.v1), Ix (c3.v0), Ix (c3.v1), .bool (decide ((c3.v2) = (1 : Int))), .bool false]) (vs := [Ix (id), Ix (c1.v0), Ix (c1.v1), Ix (c2.v0), Ix (c2.v1), Ix (c3.v0), Ix (c3.v1), .bool (decide ((c3.v2) = (1 : Int))), .bool false]) rfl rfl) rfl) ?_
     refine l_mu rfl rfl (m_store 0 tf22 (b := b2) (o := 0) (T := 52) (cs := #[.int .i64 (0), .int .i64 (0), .int .i64 (0), .int .i64 (0), .int .i64 (0), .int .i64 (0), .int .i64 (0), .bool false, .bool false]) (cs' := #[Ix (id), Ix (c1.v0), Ix (c1.v1), Ix (c2.v0), Ix (c2.v1), Ix (c3.v0), Ix (c3.v1), .bool (decide ((c3.v2) = (1 : Int))), .bool false]) (v := .agg #[Ix (id), Ix (c1.v0), Ix (c1.v1), Ix (c2.v0), Ix (c2.v1), Ix (c3.v0), Ix (c3.v1), .bool (decide ((c3.v2) = (1 : Int))), .bool false]) rfl rfl rfl rfl rfl rfl rfl) ?_
     refine l_val (v := .bool true) rfl rfl rfl (e_assign) ?_
     refine l_nil ?_
     refine f_then ?_
     refine c_ret ?_
     refine retG (l := [.cell 2 52, .tmp 3]) (m := [.agg #[Ix (id), Ix (c1.v0), Ix (c1.v1), Ix (c2.v0), Ix (c2.v1), Ix (c3.v0), Ix (c3.v1), .bool (decide ((c3.v2) = (1 : Int))), .bool false], .bool true]) (v := .tuple #[.agg #[Ix (id), Ix (c1.v0), Ix (c1.v1), Ix (c2.v0), Ix (c2.v1), Ix (c3.v0), Ix (c3.v1), .bool (decide ((c3.v2) = (1 : Int))), .bool false], .bool true]) Tryz.results60 ⟨rd_cell tf22 (cs := [Ix (id), Ix (c1.v0), Ix (c1.v1), Ix (c2.v0), Ix (c2.v1), Ix (c3.v0), Ix (c3.v1), .bool (decide ((c3.v2) = (1 : Int))), .bool false]) rfl (k_pt 0 (cs := #[Ix (id), Ix (c1.v0), Ix (c1.v1), Ix (c2.v0), Ix (c2.v1), Ix (c3.v0), Ix (c3.v1), .bool (decide ((c3.v2) = (1 : Int))), .bool false]) (vs := [Ix (id), Ix (c1.v0), Ix (c1.v1), Ix (c2.v0), Ix (c2.v1), Ix (c3.v0), Ix (c3.v1), .bool (decide ((c3.v2) = (1 : Int))), .bool false]) rfl rfl) rfl, rd_tmp (v := .bool true) rfl, trivial⟩ rfl ?_
     intro w hw
     exact ⟨body_ret_some (body_mov hf1 hf3 hfx hf2), st_mask [false, false, false] rfl hw⟩
    ·
     obtain ⟨-, hp2, hf2⟩ := optP_none hv
     refine c_any [⟨[], [], [0], [21], fun f => f 21 = .pointer (some ⟨b1, 0, none⟩)⟩, ⟨[0], [0], [], [22], fun f => f 22 = Ix (id)⟩, ⟨[], [], [1], [23], fun f => f 23 = .pointer (some ((ba va).add (i1 * 5)))⟩, ⟨[2], [2], [], [24], fun f => f 24 = .pointer (some ((ba va).add (i1 * 5)))⟩, ⟨[2, 3], [3], [], [25], fun f => f 25 = .pointer (some (((ba va).add (i1 * 5) : Addr).add 1))⟩, ⟨[2, 3, 4], [4], [], [26], fun f => f 26 = .pointer (some ((((ba va).add (i1 * 5) : Addr).add 1 : Addr).add (0 * 1)))⟩, ⟨[2, 3, 4, 5], [5], [], [27], fun f => f 27 = Ix (c1.v0)⟩, ⟨[], [], [1], [28], fun f => f 28 = .pointer (some ((ba va).add (i1 * 5)))⟩, ⟨[7], [7], [], [29], fun f => f 29 = .pointer (some ((ba va).add (i1 * 5)))⟩, ⟨[7, 8], [8], [], [30], fun f => f 30 = .pointer (some (((ba va).add (i1 * 5) : Addr).add 1))⟩, ⟨[7, 8, 9], [9], [], [31], fun f => f 31 = .pointer (some ((((ba va).add (i1 * 5) : Addr).add 1 : Addr).add (1 * 1)))⟩, ⟨[7, 8, 9, 10], [10], [], [32], fun f => f 32 = Ix (c1.v1)⟩, ⟨[2, 3, 4, 5, 6, 7, 8, 9, 10, 11], [6, 11], [], [33], fun f => f 33 = .agg #[Ix (c1.v0), Ix (c1.v1)]⟩, ⟨[], [], [2], [34], fun f => f 34 = .pointer (some ((ba va).add (i3 * 5)))⟩, ⟨[13], [13], [], [35], fun f => f 35 = .pointer (some ((ba va).add (i3 * 5)))⟩, ⟨[13, 14], [14], [], [36], fun f => f 36 = .pointer (some (((ba va).add (i3 * 5) : Addr).add 1))⟩, ⟨[13, 14, 15], [15], [], [37], fun f => f 37 = .pointer (some ((((ba va).add (i3 * 5) : Addr).add 1 : Addr).add (0 * 1)))⟩, ⟨[13, 14, 15, 16], [16], [], [38], fun f => f 38 = Ix (c3.v0)⟩, ⟨[], [], [2], [39], fun f => f 39 = .pointer (some ((ba va).add (i3 * 5)))⟩, ⟨[18], [18], [], [40], fun f => f 40 = .pointer (some ((ba va).add (i3 * 5)))⟩, ⟨[18, 19], [19], [], [41], fun f => f 41 = .pointer (some (((ba va).add (i3 * 5) : Addr).add 1))⟩, ⟨[18, 19, 20], [20], [], [42], fun f => f 42 = .pointer (some ((((ba va).add (i3 * 5) : Addr).add 1 : Addr).add (1 * 1)))⟩, ⟨[18, 19, 20, 21], [21], [], [43], fun f => f 43 = Ix (c3.v1)⟩, ⟨[], [], [2], [44], fun f => f 44 = .pointer (some ((ba va).add (i3 * 5)))⟩, ⟨[23], [23], [], [45], fun f => f 45 = .pointer (some ((ba va).add (i3 * 5)))⟩, ⟨[23, 24], [24], [], [46], fun f => f 46 = .pointer (some (((ba va).add (i3 * 5) : Addr).add 1))⟩, ⟨[23, 24, 25], [25], [], [47], fun f => f 47 = .pointer (some ((((ba va).add (i3 * 5) : Addr).add 1 : Addr).add (2 * 1)))⟩, ⟨[23, 24, 25, 26], [26], [], [48], fun f => f 48 = Ix (c3.v2)⟩, ⟨[23, 24, 25, 26, 27], [27], [], [49], fun f => f 49 = .bool (decide ((c3.v2) = (1 : Int)))⟩, ⟨[], [], [2], [50], fun f => f 50 = .pointer (some ((ba va).add (i3 * 5)))⟩, ⟨[29], [29], [], [51], fun f => f 51 = .pointer (some ((ba va).add (i3 * 5)))⟩, ⟨[29, 30], [30], [], [52], fun f => f 52 = .pointer (some (((ba va).add (i3 * 5) : Addr).add 1))⟩, ⟨[29, 30, 31], [31], [], [53], fun f => f 53 = .pointer (some ((((ba va).add (i3 * 5) : Addr).add 1 : Addr).add (3 * 1)))⟩, ⟨[29, 30, 31, 32], [32], [], [54], fun f => f 54 = Ix (c3.v3)⟩, ⟨[29, 30, 31, 32, 33], [33], [], [55], fun f => f 55 = .bool false⟩, ⟨[29, 30, 31, 32, 33, 34], [34], [], [56], fun f => f 56 = .bool false⟩, ⟨[29, 30, 31, 32, 33, 34, 35], [35], [3], [57], fun f => f 57 = .pointer (optP va cm 2)⟩, ⟨[29, 30, 31, 32, 33, 34, 35, 36], [36, 35], [], [58], fun f => f 58 = .bool true⟩, ⟨[29, 30, 31, 32, 33, 34, 35, 36, 37], [35, 37], [], [59], fun f => f 59 = .bool true⟩, ⟨[0, 1, 2, 3, 4, 5, 6, 7, 8, 9, 10, 11, 12, 13, 14, 15, 16, 17, 18, 19, 20, 21, 22, 23, 24, 25, 26, 27, 28, 29, 30, 31, 32, 33, 34, 35, 36, 37, 38], [1, 12, 17, 22, 28, 38], [], [60], fun f => f 60 = .agg #[Ix (id), Ix (c1.v0), Ix (c1.v1), .int .i64 (0), .int .i64 (0), Ix (c3.v0), Ix (c3.v1), .bool (decide ((c3.v2) = (1 : Int))), .bool true]⟩, ⟨[], [], [], [7], fun f => f 7 = .pointer (some ⟨(blk (f 7)), 0, none⟩)⟩, ⟨[0, 1, 2, 3, 4, 5, 6, 7, 8, 9, 10, 11, 12, 13, 14, 15, 16, 17, 18, 19, 20, 21, 22, 23, 24, 25, 26, 27, 28, 29, 30, 31, 32, 33, 34, 35, 36, 37, 38, 39, 40], [40, 39], [], [], fun _ => True⟩] [⟨none, none, [], [], fun _ => pt b2 (.cells #[.int .i64 (0), .int .i64 (0), .int .i64 (0), .int .i64 (0), .int .i64 (0), .int .i64 (0), .int .i64 (0), .bool false, .bool false] 52)⟩, ⟨none, none, [1], [], fun _ => pt b1 (.cells #[Ix (id), .slice va (cm.length) (vc)] 59)⟩, ⟨(some 40), (some 41), [41], [7], fun f => pt (blk (f 7)) (.cells #[.int .i64 (0), .int .i64 (0), .int .i64 (0), .int .i64 (0), .int .i64 (0), .int .i64 (0), .int .i64 (0), .bool false, .bool false] 52)⟩, ⟨(some 41), none, [], [7], fun f => pt (blk (f 7)) (.cells #[Ix (id), Ix (c1.v0), Ix (c1.v1), .int .i64 (0), .int .i64 (0), Ix (c3.v0), Ix (c3.v1), .bool (decide ((c3.v2) = (1 : Int))), .bool true] 52)⟩] [(1, .pointer (some ⟨b1, 0, none⟩)), (4, .pointer (some ((ba va).add (i1 * 5)))), (5, .pointer (some ((ba va).add (i3 * 5)))), (6, .pointer (optP va cm 2)), (2, .pointer (some ⟨b2, 0, none⟩))] [4, 3] [] (by kernel_rfl) (by kernel_rfl) (by kernel_rfl) (by kernel_rfl) rfl ⟨rfl, rfl, rfl, rfl, rfl, trivial⟩ ⟨?_, ?_, ?_, ?_, ?_, ?_, ?_, ?_, ?_, ?_, ?_, ?_, ?_, ?_, ?_, ?_, ?_, ?_, ?_, ?_, ?_, ?_, ?_, ?_, ?_, ?_, ?_, ?_, ?_, ?_, ?_, ?_, ?_, ?_, ?_, ?_, ?_, ?_, ?_, ?_, ?_, ?_, trivial⟩ ?_
     ·rintro f M - ⟨i0, -⟩
      have hs1 : f 1 = .pointer (some ⟨b1, 0, none⟩) := i0
      refine ob_start (L' := M) (by rfl) (up_cons rfl hs1) ?_
      refine l_val (v := .pointer (some ⟨b1, 0, none⟩)) rfl rfl rfl (e_fieldPt (b := b1) (o := 0) rfl uc124) ?_
      refine l_nil ?_
      exact f_owes_d (up_cons rfl hs1) rfl (List.Perm.refl _)
     ·rintro f M ⟨k0, -⟩ -
      have hs21 : f 21 = .pointer (some ⟨b1, 0, none⟩) := k0
      refine ob_start (L' := pt b1 (.cells #[Ix (id), .slice va (cm.length) (vc)] 59) :: M) (by rfl) (up_cons rfl hs21) ?_
      refine l_val (v := Ix (id)) rfl rfl rfl (e_load1 tf2 (v := Ix (id)) rfl (k_pt 0 (cs := #[Ix (id), .slice va (cm.length) (vc)]) (vs := [Ix (id)]) rfl rfl)) ?_
      refine l_nil ?_
      exact f_owes_d (up_cons rfl hs21) rfl (perm_front 0 rfl)
     ·rintro f M - ⟨i0, -⟩
      have hs4 : f 4 = .pointer (some ((ba va).add (i1 * 5))) := i0
      refine ob_start (L' := M) (by rfl) (up_cons rfl hs4) ?_
      refine l_val (v := .pointer (some ((ba va).add (i1 * 5)))) rfl rfl rfl (e_move) ?_
      refine l_nil ?_
      exact f_owes_d (up_cons rfl hs4) rfl (List.Perm.refl _)
     ·rintro f M ⟨k0, -⟩ -
      have hs23 : f 23 = .pointer (some ((ba va).add (i1 * 5))) := k0
      refine ob_start (L' := M) (by rfl) (up_cons rfl hs23) ?_
      refine l_val (v := .pointer (some ((ba va).add (i1 * 5)))) rfl rfl rfl (e_nil (a := (ba va).add (i1 * 5)) rfl) ?_
      refine l_nil ?_
      exact f_owes_d (up_cons rfl hs23) rfl (List.Perm.refl _)
     ·rintro f M ⟨k0, -⟩ -
      have hs24 : f 24 = .pointer (some ((ba va).add (i1 * 5))) := k0
      refine ob_start (L' := M) (by rfl) (up_cons rfl hs24) ?_
      refine l_val (v := .pointer (some (((ba va).add (i1 * 5) : Addr).add 1))) rfl rfl rfl (e_fieldAddr (a := (ba va).add (i1 * 5)) rfl uc125) ?_
      refine l_nil ?_
      exact f_owes_d (up_cons rfl hs24) rfl (List.Perm.refl _)
     ·rintro f M ⟨k0, -⟩ -
      have hs25 : f 25 = .pointer (some (((ba va).add (i1 * 5) : Addr).add 1)) := k0
      refine ob_start (L' := M) (by rfl) (up_cons rfl hs25) ?_
      refine l_val (v := .pointer (some ((((ba va).add (i1 * 5) : Addr).add 1 : Addr).add (0 * 1)))) rfl rfl rfl (e_indexArr (a := ((ba va).add (i1 * 5) : Addr).add 1) (k := 0) rfl rfl uc126 (by decide)) ?_
      refine l_nil ?_
      exact f_owes_d (up_cons rfl hs25) rfl (List.Perm.refl _)
     ·rintro f M ⟨k0, -⟩ -
      have hs26 : f 26 = .pointer (some ((((ba va).add (i1 * 5) : Addr).add 1 : Addr).add (0 * 1))) := k0
      refine ob_start (L' := M) (by rfl) (up_cons rfl hs26) ?_
      refine l_val (v := Ix (c1.v0)) rfl rfl rfl (e_load1 tf2 (v := Ix (c1.v0)) rfl (Knows.imp (Knows.imp (Knows.of_base (Cs.mono _ _) hc1) (fun _ h => Cs.sub (vs := [Ix (c1.v0), Ix (c1.v1), Ix (c1.v2), Ix (c1.v3)]) 1 h rfl)) (fun _ h => Cs.sub (vs := [Ix (c1.v0)]) (0 * 1) h rfl))) ?_
      refine l_nil ?_
      exact f_owes_d (up_cons rfl hs26) rfl (List.Perm.refl _)
     ·rintro f M - ⟨i0, -⟩
      have hs4 : f 4 = .pointer (some ((ba va).add (i1 * 5))) := i0
      refine ob_start (L' := M) (by rfl) (up_cons rfl hs4) ?_
      refine l_val (v := .pointer (some ((ba va).add (i1 * 5)))) rfl rfl rfl (e_move) ?_
      refine l_nil ?_
      exact f_owes_d (up_cons rfl hs4) rfl (List.Perm.refl _)
     ·rintro f M ⟨k0, -⟩ -
      have hs28 : f 28 = .pointer (some ((ba va).add (i1 * 5))) := k0
      refine ob_start (L' := M) (by rfl) (up_cons rfl hs28) ?_
      refine l_val (v := .pointer (some ((ba va).add (i1 * 5)))) rfl rfl rfl (e_nil (a := (ba va).add (i1 * 5)) rfl) ?_
      refine l_nil ?_
      exact f_owes_d (up_cons rfl hs28) rfl (List.Perm.refl _)
     ·rintro f M ⟨k0, -⟩ -
      have hs29 : f 29 = .pointer (some ((ba va).add (i1 * 5))) := k0
      refine ob_start (L' := M) (by rfl) (up_cons rfl hs29) ?_
      refine l_val (v := .pointer (some (((ba va).add (i1 * 5) : Addr).add 1))) rfl rfl rfl (e_fieldAddr (a := (ba va).add (i1 * 5)) rfl uc125) ?_
      refine l_nil ?_
      exact f_owes_d (up_cons rfl hs29) rfl (List.Perm.refl _)
     ·rintro f M ⟨k0, -⟩ -
      have hs30 : f 30 = .pointer (some (((ba va).add (i1 * 5) : Addr).add 1)) := k0
      refine ob_start (L' := M) (by rfl) (up_cons rfl hs30) ?_
      refine l_val (v := .pointer (some ((((ba va).add (i1 * 5) : Addr).add 1 : Addr).add (1 * 1)))) rfl rfl rfl (e_indexArr (a := ((ba va).add (i1 * 5) : Addr).add 1) (k := 1) rfl rfl uc126 (by decide)) ?_
      refine l_nil ?_
      exact f_owes_d (up_cons rfl hs30) rfl (List.Perm.refl _)
     ·rintro f M ⟨k0, -⟩ -
      have hs31 : f 31 = .pointer (some ((((ba va).add (i1 * 5) : Addr).add 1 : Addr).add (1 * 1))) := k0
      refine ob_start (L' := M) (by rfl) (up_cons rfl hs31) ?_
      refine l_val (v := Ix (c1.v1)) rfl rfl rfl (e_load1 tf2 (v := Ix (c1.v1)) rfl (Knows.imp (Knows.imp (Knows.of_base (Cs.mono _ _) hc1) (fun _ h => Cs.sub (vs := [Ix (c1.v0), Ix (c1.v1), Ix (c1.v2), Ix (c1.v3)]) 1 h rfl)) (fun _ h => Cs.sub (vs := [Ix (c1.v1)]) (1 * 1) h rfl))) ?_
      refine l_nil ?_
      exact f_owes_d (up_cons rfl hs31) rfl (List.Perm.refl _)
     ·rintro f M ⟨k0, k1, -⟩ -
      have hs27 : f 27 = Ix (c1.v0) := k0
      have hs32 : f 32 = Ix (c1.v1) := k1
      refine ob_start (L' := M) (by rfl) (up_cons (up_cons rfl hs27) hs32) ?_
      refine l_val (v := .agg #[Ix (c1.v0), Ix (c1.v1)]) rfl rfl rfl (e_build tf17 tf16 (vs := [(0, Ix (c1.v0)), (1, Ix (c1.v1))]) (cells := #[Ix (c1.v0), Ix (c1.v1)]) rfl rfl) ?_
      refine l_nil ?_
      exact f_owes_d (up_cons (up_cons rfl hs27) hs32) rfl (List.Perm.refl _)
     ·rintro f M - ⟨i0, -⟩
      have hs5 : f 5 = .pointer (some ((ba va).add (i3 * 5))) := i0
      refine ob_start (L' := M) (by rfl) (up_cons rfl hs5) ?_
      refine l_val (v := .pointer (some ((ba va).add (i3 * 5)))) rfl rfl rfl (e_move) ?_
      refine l_nil ?_
      exact f_owes_d (up_cons rfl hs5) rfl (List.Perm.refl _)
     ·rintro f M ⟨k0, -⟩ -
      have hs34 : f 34 = .pointer (some ((ba va).add (i3 * 5))) := k0
      refine ob_start (L' := M) (by rfl) (up_cons rfl hs34) ?_
      refine l_val (v := .pointer (some ((ba va).add (i3 * 5)))) rfl rfl rfl (e_nil (a := (ba va).add (i3 * 5)) rfl) ?_
      refine l_nil ?_
      exact f_owes_d (up_cons rfl hs34) rfl (List.Perm.refl _)
     ·rintro f M ⟨k0, -⟩ -
      have hs35 : f 35 = .pointer (some ((ba va).add (i3 * 5))) := k0
      refine ob_start (L' := M) (by rfl) (up_cons rfl hs35) ?_
      refine l_val (v := .pointer (some (((ba va).add (i3 * 5) : Addr).add 1))) rfl rfl rfl (e_fieldAddr (a := (ba va).add (i3 * 5)) rfl uc125) ?_
      refine l_nil ?_
      exact f_owes_d (up_cons rfl hs35) rfl (List.Perm.refl _)
     ·rintro f M ⟨k0, -⟩ -
      have hs36 : f 36 = .pointer (some (((ba va).add (i3 * 5) : Addr).add 1)) := k0
      refine ob_start (L' := M) (by rfl) (up_cons rfl hs36) ?_
      refine l_val (v := .pointer (some ((((ba va).add (i3 * 5) : Addr).add 1 : Addr).add (0 * 1)))) rfl rfl rfl (e_indexArr (a := ((ba va).add (i3 * 5) : Addr).add 1) (k := 0) rfl rfl uc126 (by decide)) ?_
      refine l_nil ?_
      exact f_owes_d (up_cons rfl hs36) rfl (List.Perm.refl _)
     ·rintro f M ⟨k0, -⟩ -
      have hs37 : f 37 = .pointer (some ((((ba va).add (i3 * 5) : Addr).add 1 : Addr).add (0 * 1))) := k0
      refine ob_start (L' := M) (by rfl) (up_cons rfl hs37) ?_
      refine l_val (v := Ix (c3.v0)) rfl rfl rfl (e_load1 tf2 (v := Ix (c3.v0)) rfl (Knows.imp (Knows.imp (Knows.of_base (Cs.mono _ _) hc3) (fun _ h => Cs.sub (vs := [Ix (c3.v0), Ix (c3.v1), Ix (c3.v2), Ix (c3.v3)]) 1 h rfl)) (fun _ h => Cs.sub (vs := [Ix (c3.v0)]) (0 * 1) h rfl))) ?_
      refine l_nil ?_
      exact f_owes_d (up_cons rfl hs37) rfl (List.Perm.refl _)
     ·rintro f M - ⟨i0, -⟩
      have hs5 : f 5 = .pointer (some ((ba va).add (i3 * 5))) := i0
      refine ob_start (L' := M) (by rfl) (up_cons rfl hs5) ?_
      refine l_val (v := .pointer (some ((ba va).add (i3 * 5)))) rfl rfl rfl (e_move) ?_
      refine l_nil ?_
      exact f_owes_d (up_cons rfl hs5) rfl (List.Perm.refl _)
     ·rintro f M ⟨k0, -⟩ -
      have hs39 : f 39 = .pointer (some ((ba va).add (i3 * 5))) := k0
      refine ob_start (L' := M) (by rfl) (up_cons rfl hs39) ?_
      refine l_val (v := .pointer (some ((ba va).add (i3 * 5)))) rfl rfl rfl (e_nil (a := (ba va).add (i3 * 5)) rfl) ?_
      refine l_nil ?_
      exact f_owes_d (up_cons rfl hs39) rfl (List.Perm.refl _)
     ·rintro f M ⟨k0, -⟩ -
      have hs40 : f 40 = .pointer (some ((ba va).add (i3 * 5))) := k0
      refine ob_start (L' := M) (by rfl) (up_cons rfl hs40) ?_
      refine l_val (v := .pointer (some (((ba va).add (i3 * 5) : Addr).add 1))) rfl rfl rfl (e_fieldAddr (a := (ba va).add (i3 * 5)) rfl uc125) ?_
      refine l_nil ?_
      exact f_owes_d (up_cons rfl hs40) rfl (List.Perm.refl _)
     ·rintro f M ⟨k0, -⟩ -
      have hs41 : f 41 = .pointer (some (((ba va).add (i3 * 5) : Addr).add 1)) := k0
      refine ob_start (L' := M) (by rfl) (up_cons rfl hs41) ?_
      refine l_val (v := .pointer (some ((((ba va).add (i3 * 5) : Addr).add 1 : Addr).add (1 * 1)))) rfl rfl rfl (e_indexArr (a := ((ba va).add (i3 * 5) : Addr).add 1) (k := 1) rfl rfl uc126 (by decide)) ?_
      refine l_nil ?_
      exact f_owes_d (up_cons rfl hs41) rfl (List.Perm.refl _)
     ·rintro f M ⟨k0, -⟩ -
      have hs42 : f 42 = .pointer (some ((((ba va).add (i3 * 5) : Addr).add 1 : Addr).add (1 * 1))) := k0
      refine ob_start (L' := M) (by rfl) (up_cons rfl hs42) ?_
      refine l_val (v := Ix (c3.v1)) rfl rfl rfl (e_load1 tf2 (v := Ix (c3.v1)) rfl (Knows.imp (Knows.imp (Knows.of_base (Cs.mono _ _) hc3) (fun _ h => Cs.sub (vs := [Ix (c3.v0), Ix (c3.v1), Ix (c3.v2), Ix (c3.v3)]) 1 h rfl)) (fun _ h => Cs.sub (vs := [Ix (c3.v1)]) (1 * 1) h rfl))) ?_
      refine l_nil ?_
      exact f_owes_d (up_cons rfl hs42) rfl (List.Perm.refl _)
     ·rintro f M - ⟨i0, -⟩
      have hs5 : f 5 = .pointer (some ((ba va).add (i3 * 5))) := i0
      refine ob_start (L' := M) (by rfl) (up_cons rfl hs5) ?_
      refine l_val (v := .pointer (some ((ba va).add (i3 * 5)))) rfl rfl rfl (e_move) ?_
      refine l_nil ?_
      exact f_owes_d (up_cons rfl hs5) rfl (List.Perm.refl _)
     ·rintro f M ⟨k0, -⟩ -
      have hs44 : f 44 = .pointer (some ((ba va).add (i3 * 5))) := k0
      refine ob_start (L' := M) (by rfl) (up_cons rfl hs44) ?_
      refine l_val (v := .pointer (some ((ba va).add (i3 * 5)))) rfl rfl rfl (e_nil (a := (ba va).add (i3 * 5)) rfl) ?_
      refine l_nil ?_
      exact f_owes_d (up_cons rfl hs44) rfl (List.Perm.refl _)
     ·rintro f M ⟨k0, -⟩ -
      have hs45 : f 45 = .pointer (some ((ba va).add (i3 * 5))) := k0
      refine ob_start (L' := M) (by rfl) (up_cons rfl hs45) ?_
      refine l_val (v := .pointer (some (((ba va).add (i3 * 5) : Addr).add 1))) rfl rfl rfl (e_fieldAddr (a := (ba va).add (i3 * 5)) rfl uc125) ?_
      refine l_nil ?_
      exact f_owes_d (up_cons rfl hs45) rfl (List.Perm.refl _)
     ·rintro f M ⟨k0, -⟩ -
      have hs46 : f 46 = .pointer (some (((ba va).add (i3 * 5) : Addr).add 1)) := k0
      refine ob_start (L' := M) (by rfl) (up_cons rfl hs46) ?_
      refine l_val (v := .pointer (some ((((ba va).add (i3 * 5) : Addr).add 1 : Addr).add (2 * 1)))) rfl rfl rfl (e_indexArr (a := ((ba va).add (i3 * 5) : Addr).add 1) (k := 2) rfl rfl uc126 (by decide)) ?_
      refine l_nil ?_
      exact f_owes_d (up_cons rfl hs46) rfl (List.Perm.refl _)
     ·rintro f M ⟨k0, -⟩ -
      have hs47 : f 47 = .pointer (some ((((ba va).add (i3 * 5) : Addr).add 1 : Addr).add (2 * 1))) := k0
      refine ob_start (L' := M) (by rfl) (up_cons rfl hs47) ?_
      refine l_val (v := Ix (c3.v2)) rfl rfl rfl (e_load1 tf2 (v := Ix (c3.v2)) rfl (Knows.imp (Knows.imp (Knows.of_base (Cs.mono _ _) hc3) (fun _ h => Cs.sub (vs := [Ix (c3.v0), Ix (c3.v1), Ix (c3.v2), Ix (c3.v3)]) 1 h rfl)) (fun _ h => Cs.sub (vs := [Ix (c3.v2)]) (2 * 1) h rfl))) ?_
      refine l_nil ?_
      exact f_owes_d (up_cons rfl hs47) rfl (List.Perm.refl _)
     ·rintro f M ⟨k0, -⟩ -
      have hs48 : f 48 = Ix (c3.v2) := k0
      refine ob_start (L' := M) (by rfl) (up_cons rfl hs48) ?_
      refine l_val (v := .bool (decide ((c3.v2) = (1 : Int)))) rfl rfl rfl (e_eql (a := (c3.v2)) (b := (1 : Int)) rfl rfl) ?_
      refine l_nil ?_
      exact f_owes_d (up_cons rfl hs48) rfl (List.Perm.refl _)
     ·rintro f M - ⟨i0, -⟩
      have hs5 : f 5 = .pointer (some ((ba va).add (i3 * 5))) := i0
      refine ob_start (L' := M) (by rfl) (up_cons rfl hs5) ?_
      refine l_val (v := .pointer (some ((ba va).add (i3 * 5)))) rfl rfl rfl (e_move) ?_
      refine l_nil ?_
      exact f_owes_d (up_cons rfl hs5) rfl (List.Perm.refl _)
     ·rintro f M ⟨k0, -⟩ -
      have hs50 : f 50 = .pointer (some ((ba va).add (i3 * 5))) := k0
      refine ob_start (L' := M) (by rfl) (up_cons rfl hs50) ?_
      refine l_val (v := .pointer (some ((ba va).add (i3 * 5)))) rfl rfl rfl (e_nil (a := (ba va).add (i3 * 5)) rfl) ?_
      refine l_nil ?_
      exact f_owes_d (up_cons rfl hs50) rfl (List.Perm.refl _)
     ·rintro f M ⟨k0, -⟩ -
      have hs51 : f 51 = .pointer (some ((ba va).add (i3 * 5))) := k0
      refine ob_start (L' := M) (by rfl) (up_cons rfl hs51) ?_
      refine l_val (v := .pointer (some (((ba va).add (i3 * 5) : Addr).add 1))) rfl rfl rfl (e_fieldAddr (a := (ba va).add (i3 * 5)) rfl uc125) ?_
      refine l_nil ?_
      exact f_owes_d (up_cons rfl hs51) rfl (List.Perm.refl _)
     ·rintro f M ⟨k0, -⟩ -
      have hs52 : f 52 = .pointer (some (((ba va).add (i3 * 5) : Addr).add 1)) := k0
      refine ob_start (L' := M) (by rfl) (up_cons rfl hs52) ?_
      refine l_val (v := .pointer (some ((((ba va).add (i3 * 5) : Addr).add 1 : Addr).add (3 * 1)))) rfl rfl rfl (e_indexArr (a := ((ba va).add (i3 * 5) : Addr).add 1) (k := 3) rfl rfl uc126 (by decide)) ?_
      refine l_nil ?_
      exact f_owes_d (up_cons rfl hs52) rfl (List.Perm.refl _)
     ·rintro f M ⟨k0, -⟩ -
      have hs53 : f 53 = .pointer (some ((((ba va).add (i3 * 5) : Addr).add 1 : Addr).add (3 * 1))) := k0
      refine ob_start (L' := M) (by rfl) (up_cons rfl hs53) ?_
      refine l_val (v := Ix (c3.v3)) rfl rfl rfl (e_load1 tf2 (v := Ix (c3.v3)) rfl (Knows.imp (Knows.imp (Knows.of_base (Cs.mono _ _) hc3) (fun _ h => Cs.sub (vs := [Ix (c3.v0), Ix (c3.v1), Ix (c3.v2), Ix (c3.v3)]) 1 h rfl)) (fun _ h => Cs.sub (vs := [Ix (c3.v3)]) (3 * 1) h rfl))) ?_
      refine l_nil ?_
      exact f_owes_d (up_cons rfl hs53) rfl (List.Perm.refl _)
     ·rintro f M ⟨k0, -⟩ -
      have hs54 : f 54 = Ix (c3.v3) := k0
      refine ob_start (L' := M) (by rfl) (up_cons rfl hs54) ?_
      refine l_val (v := .bool false) rfl rfl rfl ((ev_f hfx (e_eql (a := (c3.v3)) (b := (1 : Int)) rfl rfl))) ?_
      refine l_nil ?_
      exact f_owes_d (up_cons rfl hs54) rfl (List.Perm.refl _)
     ·rintro f M ⟨k0, -⟩ -
      have hs55 : f 55 = .bool false := k0
      refine ob_start (L' := M) (by rfl) (up_cons rfl hs55) ?_
      refine l_val (v := .bool false) rfl rfl rfl (e_move) ?_
      refine l_nil ?_
      exact f_owes_d (up_cons rfl hs55) rfl (List.Perm.refl _)
     ·rintro f M ⟨k0, -⟩ ⟨i0, -⟩
      have hs6 : f 6 = .pointer (optP va cm 2) := i0
      have hs56 : f 56 = .bool false := k0
      refine ob_start (L' := M) (by rfl) (up_cons (up_cons rfl hs6) hs56) ?_
      refine g_val (v := .pointer (optP va cm 2)) rfl rfl rfl rfl rfl (e_move) ?_
      refine l_nil ?_
      exact f_owes_d (up_cons (up_cons rfl hs6) hs56) rfl (List.Perm.refl _)
     ·rintro f M ⟨k0, k1, -⟩ -
      have hs57 : f 57 = .pointer (optP va cm 2) := k0
      have hs56 : f 56 = .bool false := k1
      refine ob_start (L' := M) (by rfl) (up_cons (up_cons rfl hs57) hs56) ?_
      refine g_val (v := .bool true) rfl rfl rfl rfl rfl ((ev_b (c := true) hv (e_eql_pnil (p := optP va cm 2) rfl rfl uc123))) ?_
      refine l_nil ?_
      exact f_owes_d (up_cons (up_cons rfl hs57) hs56) rfl (List.Perm.refl _)
     ·rintro f M ⟨k0, k1, -⟩ -
      have hs56 : f 56 = .bool false := k0
      have hs58 : f 58 = .bool true := k1
      refine ob_start (L' := M) (by rfl) (up_cons (up_cons rfl hs56) hs58) ?_
      refine l_val (v := .bool true) rfl rfl rfl (e_pick_f rfl) ?_
      refine l_nil ?_
      exact f_owes_d (up_cons (up_cons rfl hs56) hs58) rfl (List.Perm.refl _)
     ·rintro f M ⟨k0, k1, k2, k3, k4, k5, -⟩ -
      have hs22 : f 22 = Ix (id) := k0
      have hs33 : f 33 = .agg #[Ix (c1.v0), Ix (c1.v1)] := k1
      have hs38 : f 38 = Ix (c3.v0) := k2
      have hs43 : f 43 = Ix (c3.v1) := k3
      have hs49 : f 49 = .bool (decide ((c3.v2) = (1 : Int))) := k4
      have hs59 : f 59 = .bool true := k5
      refine ob_start (L' := M) (by rfl) (up_cons (up_cons (up_cons (up_cons (up_cons (up_cons rfl hs22) hs33) hs38) hs43) hs49) hs59) ?_
      refine l_val (v := .agg #[Ix (id), Ix (c1.v0), Ix (c1.v1), .int .i64 (0), .int .i64 (0), Ix (c3.v0), Ix (c3.v1), .bool (decide ((c3.v2) = (1 : Int))), .bool true]) rfl rfl rfl (e_build tf58 tf102 (vs := [(0, Ix (id)), (1, .agg #[Ix (c1.v0), Ix (c1.v1)]), (3, Ix (c3.v0)), (4, Ix (c3.v1)), (5, .bool (decide ((c3.v2) = (1 : Int)))), (6, .bool true)]) (cells := #[Ix (id), Ix (c1.v0), Ix (c1.v1), .int .i64 (0), .int .i64 (0), Ix (c3.v0), Ix (c3.v1), .bool (decide ((c3.v2) = (1 : Int))), .bool true]) rfl (by kernel_rfl)) ?_
      refine l_nil ?_
      exact f_owes_d (up_cons (up_cons (up_cons (up_cons (up_cons (up_cons rfl hs22) hs33) hs38) hs43) hs49) hs59) rfl (List.Perm.refl _)
     ·rintro f M - -
      refine ob_start (L' := M) (by rfl) rfl ?_
      refine l_mv rfl rfl rfl (m_alloc tf58) ?_
      rintro _ _ ⟨b13, rfl, rfl⟩
      refine l_nil ?_
      exact f_owes_d rfl rfl (perm_front 0 rfl)
     ·rintro f M ⟨k0, k1, -⟩ -
      have hs7 : f 7 = .pointer (some ⟨(blk (f 7)), 0, none⟩) := k0
      have hs60 : f 60 = .agg #[Ix (id), Ix (c1.v0), Ix (c1.v1), .int .i64 (0), .int .i64 (0), Ix (c3.v0), Ix (c3.v1), .bool (decide ((c3.v2) = (1 : Int))), .bool true] := k1
      refine ob_start (L' := pt (blk (f 7)) (.cells #[.int .i64 (0), .int .i64 (0), .int .i64 (0), .int .i64 (0), .int .i64 (0), .int .i64 (0), .int .i64 (0), .bool false, .bool false] 52) :: M) (by rfl) (up_cons (up_cons rfl hs7) hs60) ?_
      refine l_mu rfl rfl (m_store 0 tf22 (b := (blk (f 7))) (o := 0) (T := 52) (cs := #[.int .i64 (0), .int .i64 (0), .int .i64 (0), .int .i64 (0), .int .i64 (0), .int .i64 (0), .int .i64 (0), .bool false, .bool false]) (cs' := #[Ix (id), Ix (c1.v0), Ix (c1.v1), .int .i64 (0), .int .i64 (0), Ix (c3.v0), Ix (c3.v1), .bool (decide ((c3.v2) = (1 : Int))), .bool true]) (v := .agg #[Ix (id), Ix (c1.v0), Ix (c1.v1), .int .i64 (0), .int .i64 (0), Ix (c3.v0), Ix (c3.v1), .bool (decide ((c3.v2) = (1 : Int))), .bool true]) rfl rfl rfl rfl rfl rfl rfl) ?_
      refine l_nil ?_
      exact f_owes_n (up_cons (up_cons rfl hs7) hs60) trivial (perm_front 0 rfl)
     rintro fa14 ⟨-, -, -, -, -, -, -, -, -, -, -, -, -, -, -, -, -, -, -, -, -, -, -, -, -, -, -, -, -, -, -, -, -, -, -, -, -, -, -, -, k40, -, -⟩ ⟨j0, j1, -⟩
     refine f_re (L' := [pt b2 (.cells #[.int .i64 (0), .int .i64 (0), .int .i64 (0), .int .i64 (0), .int .i64 (0), .int .i64 (0), .int .i64 (0), .bool false, .bool false] 52), pt b1 (.cells #[Ix (id), .slice va (cm.length) (vc)] 59), pt (blk (fa14 7)) (.cells #[Ix (id), Ix (c1.v0), Ix (c1.v1), .int .i64 (0), .int .i64 (0), Ix (c3.v0), Ix (c3.v1), .bool (decide ((c3.v2) = (1 : Int))), .bool true] 52)]) (by rfl) ?_
     refine f_rebase (d := 2) (v := .pointer (some ⟨b2, 0, none⟩)) j0 ?_
     refine f_rebase (d := 6) (v := .pointer (optP va cm 2)) j1 ?_
     refine f_rebase (d := 7) (v := .pointer (some ⟨(blk (fa14 7)), 0, none⟩)) k40 ?_
     refine f_then ?_
     refine c_seq ?_
     refine c_seq ?_
     refine c_region ?_
     refine l_val (v := .pointer (some ⟨(blk (fa14 7)), 8, none⟩)) rfl rfl rfl (e_fieldPt (b := (blk (fa14 7))) (o := 0) rfl tf14) ?_
     refine l_val (v := .bool true) rfl rfl rfl (e_load1 tf13 (v := .bool true) rfl (k_pt 2 (cs := #[Ix (id), Ix (c1.v0), Ix (c1.v1), .int .i64 (0), .int .i64 (0), Ix (c3.v0), Ix (c3.v1), .bool (decide ((c3.v2) = (1 : Int))), .bool true]) (vs := [.bool true]) rfl rfl)) ?_
     refine l_val (v := .bool false) rfl rfl rfl (e_not (a := true) rfl) ?_
     refine l_nil ?_
     refine f_then ?_
     refine c_no rfl ?_
     refine c_skip ?_
     refine f_then ?_
     refine c_seq ?_
     refine c_region ?_
     refine l_val (v := .agg #[Ix (id), Ix (c1.v0), Ix (c1.v1), .int .i64 (0), .int .i64 (0), Ix (c3.v0), Ix (c3.v1), .bool (decide ((c3.v2) = (1 : Int))), .bool true]) rfl rfl rfl (e_load tf22 (cs := [Ix (id), Ix (c1.v0), Ix (c1.v1), .int .i64 (0), .int .i64 (0), Ix (c3.v0), Ix (c3.v1), .bool (decide ((c3.v2) = (1 : Int))), .bool true]) rfl (k_pt 2 (cs := #[Ix (id), Ix (c1.v0), Ix (c1.v1), .int .i64 (0), .int .i64 (0), Ix (c3.v0), Ix (c3.v1), .bool (decide ((c3.v2) = (1 : Int))), .bool true]) (vs := [Ix (id), Ix (c1.v0), Ix (c1.v1), .int .i64 (0), .int .i64 (0), Ix (c3.v0), Ix (c3.v1), .bool (decide ((c3.v2) = (1 : Int))), .bool true]) rfl rfl) rfl) ?_
     refine l_mu rfl rfl (m_store 0 tf22 (b := b2) (o := 0) (T := 52) (cs := #[.int .i64 (0), .int .i64 (0), .int .i64 (0), .int .i64 (0), .int .i64 (0), .int .i64 (0), .int .i64 (0), .bool false, .bool false]) (cs' := #[Ix (id), Ix (c1.v0), Ix (c1.v1), .int .i64 (0), .int .i64 (0), Ix (c3.v0), Ix (c3.v1), .bool (decide ((c3.v2) = (1 : Int))), .bool true]) (v := .agg #[Ix (id), Ix (c1.v0), Ix (c1.v1), .int .i64 (0), .int .i64 (0), Ix (c3.v0), Ix (c3.v1), .bool (decide ((c3.v2) = (1 : Int))), .bool true]) rfl rfl rfl rfl rfl rfl rfl) ?_
     refine l_val (v := .bool true) rfl rfl rfl (e_assign) ?_
     refine l_nil ?_
     refine f_then ?_
     refine c_ret ?_
     refine retG (l := [.cell 2 52, .tmp 3]) (m := [.agg #[Ix (id), Ix (c1.v0), Ix (c1.v1), .int .i64 (0), .int .i64 (0), Ix (c3.v0), Ix (c3.v1), .bool (decide ((c3.v2) = (1 : Int))), .bool true], .bool true]) (v := .tuple #[.agg #[Ix (id), Ix (c1.v0), Ix (c1.v1), .int .i64 (0), .int .i64 (0), Ix (c3.v0), Ix (c3.v1), .bool (decide ((c3.v2) = (1 : Int))), .bool true], .bool true]) Tryz.results60 ⟨rd_cell tf22 (cs := [Ix (id), Ix (c1.v0), Ix (c1.v1), .int .i64 (0), .int .i64 (0), Ix (c3.v0), Ix (c3.v1), .bool (decide ((c3.v2) = (1 : Int))), .bool true]) rfl (k_pt 0 (cs := #[Ix (id), Ix (c1.v0), Ix (c1.v1), .int .i64 (0), .int .i64 (0), Ix (c3.v0), Ix (c3.v1), .bool (decide ((c3.v2) = (1 : Int))), .bool true]) (vs := [Ix (id), Ix (c1.v0), Ix (c1.v1), .int .i64 (0), .int .i64 (0), Ix (c3.v0), Ix (c3.v1), .bool (decide ((c3.v2) = (1 : Int))), .bool true]) rfl rfl) rfl, rd_tmp (v := .bool true) rfl, trivial⟩ rfl ?_
     intro w hw
     exact ⟨body_ret_some (body_fix hf1 hf3 (.inr hf2)), st_mask [false, false, false] rfl hw⟩
theorem has2_fn (β : Base) (c : Nat) (i : Int) (hc : Cs β.heap ⟨c, 0, none⟩ [Ix i]) : FnV Tryz.prog β (.func (.func 63) #[] #[.pointer (some ⟨c, 0, none⟩)]) (fun z : KB => [.agg (bC z)]) (fun _ => True) (fun z => .bool (decide (z.id = i))) := by
 refine ⟨63, [], [.pointer (some (⟨c, 0, none⟩))], rfl, by kernel_rfl, fun β₁ sb0 z_ hz_ w hw => ?_⟩
 have hc1 := Cs.mono _ _ _ _ sb0 hc
 obtain ⟨z, hz⟩ : ∃ z, z = z_ := ⟨_, rfl⟩
 subst hz
 refine enter (n := 8) Tryz.func63 rfl Tryz.ntmps63 rfl ?_ hw
 refine c_seq ?_
 refine c_region ?_
 refine l_mv rfl rfl rfl (m_box (v := .agg (bC z)) rfl) ?_
 rintro _ _ ⟨b1, rfl, rfl⟩
 refine l_val (v := .bool false) rfl rfl rfl (e_assign) ?_
 refine l_nil ?_
 refine f_then ?_
 refine c_seq ?_
 refine c_region ?_
 refine l_val (v := .pointer (some ⟨b1, 0, none⟩)) rfl rfl rfl (e_fieldPt (b := b1) (o := 0) rfl tf3) ?_
 refine l_val (v := Ix (z.id)) rfl rfl rfl (e_load1 tf2 (v := Ix (z.id)) rfl (k_pt 0 (cs := (bC z)) (vs := [Ix (z.id)]) rfl rfl)) ?_
 refine l_val (v := Ix (i)) rfl rfl rfl (e_load1 tf2 (v := Ix (i)) rfl (Knows.of_base (Cs.mono _ _) hc1)) ?_
 refine l_val (v := .bool (decide ((z.id) = (i)))) rfl rfl rfl (e_eql (a := (z.id)) (b := (i)) rfl rfl) ?_
 refine l_val (v := .bool (decide ((z.id) = (i)))) rfl rfl rfl (e_assign) ?_
 refine l_nil ?_
 refine f_then ?_
 refine c_ret ?_
 refine ret1 Tryz.results63 (v := .bool (decide ((z.id) = (i)))) rfl ?_
 intro w hw
 exact ⟨rfl, st_mask [false] rfl hw⟩
theorem containsB_ok (β : Base) (w : World) (hw : St β [] w) (v fn : Value) (xs : List KB) (hs : Sl KBR β.heap v xs) (p : KB → Bool) (hfn : FnV Tryz.prog β fn (fun z : KB => [.agg (bC z)]) (· ∈ xs) (fun z => .bool (p z))) : Calls Tryz.prog 62 #[v, fn] w fun r w' => r = .returned (.bool (xs.any p)) ∧ St β [] w' := by
 refine enter (n := 9) Tryz.func62 rfl Tryz.ntmps62 rfl ?_ hw
 refine c_seq ?_
 refine c_region ?_
 refine l_val (v := .bool false) rfl rfl rfl (e_assign) ?_
 refine l_nil ?_
 refine f_then ?_
 refine c_seq ?_
 refine c_region ?_
 refine l_val (v := v) rfl rfl rfl (e_move) ?_
 refine l_val (v := fn) rfl rfl rfl (e_move) ?_
 refine l_call rfl rfl rfl (cl_value (fst := []) (cap := []) (vs := [v, fn]) (all := [v, fn]) tf78 rfl rfl rfl) ?_
 intro w hw
 obtain ⟨β1, sb, kn, hw1, back⟩ := St.frame_all hw
 refine (indexB_ok β1 w hw1 _ _ xs (Sl.mono _ _ _ _ _ sb hs) p (hfn.mono sb)).mono ?_
 rintro e w' ⟨rfl, hw'⟩
 refine ⟨_, rfl, _, back _ _ hw', ?_⟩
 clear hw hw1 hw' back kn sb
 refine l_val (v := .bool (decide ((0 : Int) ≤ (idxI p xs)))) rfl rfl rfl (e_geq (a := (idxI p xs)) (b := (0 : Int)) rfl rfl) ?_
 refine l_val (v := .bool (decide ((0 : Int) ≤ (idxI p xs)))) rfl rfl rfl (e_assign) ?_
 refine l_nil ?_
 refine f_then ?_
 refine c_ret ?_
 refine ret1 Tryz.results62 (v := .bool (decide ((0 : Int) ≤ (idxI p xs)))) rfl ?_
 intro w hw
 exact ⟨congrArg Ending.returned (congrArg Value.bool (idx_any p xs)), st_mask [] rfl hw⟩
theorem has_ok (β : Base) (w : World) (hw : St β [] w) (c : Nat) (v rv : Value) (gx gy : Int) (bs : List KB) (hc : Cs β.heap ⟨c, 0, none⟩ [v, rv, Ix gx, Ix gy]) (hs : Sl KBR β.heap v bs) (i : Int) : Calls Tryz.prog 61 #[Ix i, .pointer (some ⟨c, 0, none⟩)] w fun r w' => r = .returned (.bool (hasB bs i)) ∧ St β [] w' := by
 refine enter (n := 8) Tryz.func61 rfl Tryz.ntmps61 rfl ?_ hw
 refine c_seq ?_
 refine c_region ?_
 refine l_mv rfl rfl rfl (m_box (v := Ix (i)) rfl) ?_
 rintro _ _ ⟨b1, rfl, rfl⟩
 refine l_val (v := .bool false) rfl rfl rfl (e_assign) ?_
 refine l_nil ?_
 refine f_then ?_
 refine c_seq ?_
 refine c_region ?_
 refine l_val (v := .pointer (some ((⟨c, 0, none⟩ : Addr).add 0))) rfl rfl rfl (e_fieldAddr (a := ⟨c, 0, none⟩) rfl tf49) ?_
 refine l_val (v := v) rfl rfl rfl (e_load1 tf50 (v := v) rfl (Knows.imp (Knows.of_base (Cs.mono _ _) hc) (fun _ h => Cs.sub (vs := [v]) 0 h rfl))) ?_
 refine l_val (v := .func (.func 63) #[] #[.pointer (some ⟨b1, 0, none⟩)]) rfl rfl rfl (e_func (u := []) (v := [.pointer (some ⟨b1, 0, none⟩)]) rfl rfl) ?_
 refine l_call rfl rfl rfl (cl_value (fst := []) (cap := []) (vs := [v, .func (.func 63) #[] #[.pointer (some ⟨b1, 0, none⟩)]]) (all := [v, .func (.func 63) #[] #[.pointer (some ⟨b1, 0, none⟩)]]) uc127 rfl rfl rfl) ?_
 intro w hw
 obtain ⟨β1, sb, kn, hw1, back⟩ := St.frame_all hw
 refine (containsB_ok β1 w hw1 _ _ bs (Sl.mono _ _ _ _ _ sb hs) (fun z => decide (z.id = i)) (fnv_all (has2_fn β1 b1 i (kn _ (k_pt 0 (o := 0) (cs := #[Ix (i)]) (vs := [Ix (i)]) rfl rfl))))).mono ?_
 rintro e w' ⟨rfl, hw'⟩
 refine ⟨_, rfl, _, back _ _ hw', ?_⟩
 clear hw hw1 hw' back kn sb
 refine l_val (v := .bool (hasB bs i)) rfl rfl rfl (e_assign) ?_
 refine l_nil ?_
 refine f_then ?_
 refine c_ret ?_
 refine ret1 Tryz.results61 (v := .bool (hasB bs i)) rfl ?_
 intro w hw
 exact ⟨rfl, st_mask [false] rfl hw⟩
set_option maxHeartbeats 4000000 in
theorem worldB_ok (β : Base) (w : World) (hw : St β [] w) (tick : Int) (v rv : Value) (gx gy : Int) (es : List KEnt) (rs : List KR) (hs : Sl EntR β.heap v es) (hr : Sl KRR β.heap rv rs) (hn : es.length ≤ 65536) (hrn : rs.length ≤ 65536) : Calls Tryz.prog 18 #[.agg #[Ix tick, v], rv, .agg #[Ix gx, Ix gy]] w fun r w' => ∃ p c p2 c2, r = .returned (.agg #[.slice p (bodiesOf es).length c, .slice p2 (ropesOf (bodiesOf es) rs).length c2, Ix gx, Ix gy]) ∧ St β [rowF BodyF 52 p c (bodiesOf es), rowF RopeF 78 p2 c2 (ropesOf (bodiesOf es) rs)] w' := by
 obtain ⟨va, vc, rfl, vl, vm, ve⟩ := hs.get
 obtain ⟨rva, rvc, rfl, rvl, rvm, rve⟩ := hr.get
 refine enter (n := 62) Tryz.func18 rfl Tryz.ntmps18 rfl ?_ hw
 refine c_seq ?_
 refine c_region ?_
 refine l_mv rfl rfl rfl (m_box (v := .agg #[Ix (tick), .slice va (es.length) (vc)]) rfl) ?_
 rintro _ _ ⟨b1, rfl, rfl⟩
 refine l_mv rfl rfl rfl (m_box (v := .agg #[Ix (gx), Ix (gy)]) rfl) ?_
 rintro _ _ ⟨b2, rfl, rfl⟩
 refine l_mv rfl rfl rfl (m_alloc tf85) ?_
 rintro _ _ ⟨b3, rfl, rfl⟩
 refine l_nil ?_
 refine f_then ?_
 refine c_seq ?_
 refine c_region ?_
 refine l_val (v := .agg #[Ix (gx), Ix (gy)]) rfl rfl rfl (e_load tf15 (cs := [Ix (gx), Ix (gy)]) rfl (k_pt 1 (cs := #[Ix (gx), Ix (gy)]) (vs := [Ix (gx), Ix (gy)]) rfl rfl) rfl) ?_
 refine l_val (v := .agg #[.slice none 0 0, .slice none 0 0, Ix (gx), Ix (gy)]) rfl rfl rfl (e_build tf85 tf88 (vs := [(2, .agg #[Ix (gx), Ix (gy)])]) (cells := #[.slice none 0 0, .slice none 0 0, Ix (gx), Ix (gy)]) rfl rfl) ?_
 refine l_mv rfl rfl rfl (m_alloc tf85) ?_
 rintro _ _ ⟨b4, rfl, rfl⟩
 refine l_mu rfl rfl (m_store 0 tf86 (b := b4) (o := 0) (T := 30) (cs := #[.slice none 0 0, .slice none 0 0, .int .i64 (0), .int .i64 (0)]) (cs' := #[.slice none 0 0, .slice none 0 0, Ix (gx), Ix (gy)]) (v := .agg #[.slice none 0 0, .slice none 0 0, Ix (gx), Ix (gy)]) rfl rfl rfl rfl rfl rfl rfl) ?_
 refine l_nil ?_
 refine f_then ?_
 refine c_seq ?_
 refine c_seq ?_
 refine c_emp (r := rowF BodyF 52 none 0 []) (row_nil _ _ _) ?_
 refine c_region ?_
 refine l_val (v := .pointer (some ⟨b1, 1, none⟩)) rfl rfl rfl (e_fieldPt (b := b1) (o := 0) rfl uc128) ?_
 refine l_val (v := .slice va (es.length) (vc)) rfl rfl rfl (e_load1 uc129 (v := .slice va (es.length) (vc)) rfl (k_pt 4 (cs := #[Ix (tick), .slice va (es.length) (vc)]) (vs := [.slice va (es.length) (vc)]) rfl rfl)) ?_
 refine l_val (v := Nx (es.length)) rfl rfl rfl (e_len (a := va) (n := es.length) (c := vc) rfl uc130) ?_
 refine l_val (v := .int .i64 (0)) rfl rfl rfl (e_move) ?_
 refine l_nil ?_
 refine f_then ?_
 refine c_block ?_
 refine c_mask [true, true, true, true, true] rfl ?_
 refine c_loop (fun (x_ : Nat × List KB × Option Addr × Nat) (f : Fm) (L : List Res) => match x_ with | (k, out, p, c) => (f 1 = .slice rva (rs.length) (rvc) ∧ f 6 = .pointer (some ⟨b3, 0, none⟩) ∧ f 7 = .pointer (some ⟨b4, 0, none⟩) ∧ f 18 = .slice va (es.length) (vc) ∧ f 19 = Nx (es.length) ∧ f 20 = Nx (k)) ∧ L = [rowF BodyF 52 p c out, pt b4 (.cells #[.slice p (out.length) c, .slice none 0 0, Ix (gx), Ix (gy)] 30), pt b3 (.cells #[.slice none 0 0, .slice none 0 0, .int .i64 (0), .int .i64 (0)] 30), pt b2 (.cells #[Ix (gx), Ix (gy)] 28), pt b1 (.cells #[Ix (tick), .slice va (es.length) (vc)] 24)] ∧ (k ≤ es.length ∧ out = bodiesOf (es.take k))) (fun (x_ : Nat × List KB × Option Addr × Nat) => match x_ with | (k, out, p, c) => es.length - k) (0, [], none, 0) ?_ ?_
 ·exact ⟨⟨rfl, rfl, rfl, rfl, rfl, rfl⟩, rfl, ⟨by omega, rfl⟩⟩
 rintro ⟨k, out, p, c⟩ f0 L0 ⟨⟨hs1, hs6, hs7, hs18, hs19, hs20⟩, hL, ⟨hk, ho⟩⟩
 subst L0
 refine rebase (d := 1) hs1 ?_
 refine rebase (d := 6) hs6 ?_
 refine rebase (d := 7) hs7 ?_
 refine rebase (d := 18) hs18 ?_
 refine rebase (d := 19) hs19 ?_
 refine rebase (d := 20) hs20 ?_
 clear hs1 hs6 hs7 hs18 hs19 hs20
 have hol := bodies_le es k
 rw [← ho] at hol
 refine c_seq ?_
 refine c_region ?_
 refine l_val (v := .bool (decide (((k : Nat) : Int) < ((es.length : Nat) : Int)))) rfl rfl rfl (e_lss (a := ((k : Nat) : Int)) (b := ((es.length : Nat) : Int)) rfl rfl) ?_
 refine l_nil ?_
 refine f_then ?_
 refine c_seq ?_
 refine c_if (((k : Nat) : Int) < ((es.length : Nat) : Int)) rfl (fun hc5 => ?_) (fun hc5 => ?_)
 ·
  refine c_skip ?_
  refine f_then ?_
  refine c_seq ?_
  refine c_block ?_
  refine c_seq ?_
  refine c_region ?_
  obtain ⟨x6, hx7⟩ : ∃ x_, (es)[k]? = some x_ := ⟨_, List.getElem?_eq_getElem (by omega)⟩
  obtain ⟨ha8, cs9, hc10, hr11⟩ := ve _ _ hx7
  obtain ⟨v12, rfl, hv13⟩ := hr11
  obtain ⟨v12a, v12c, rfl, v12l, v12m, v12e⟩ := hv13.get
  refine l_val (v := .pointer (some ((ba va).add (k * 2)))) rfl rfl rfl (e_indexAddr (k := k) (len := es.length) (cap := vc) (a := va) rfl rfl uc131 (by omega) ha8) ?_
  refine l_val (v := .agg #[Ix (x6.id), .slice v12a (x6.comps.length) (v12c)]) rfl rfl rfl (e_load uc121 (cs := [Ix (x6.id), .slice v12a (x6.comps.length) (v12c)]) rfl (Knows.of_base (Cs.mono _ _) hc10) rfl) ?_
  refine l_mv rfl rfl rfl (m_alloc uc132) ?_
  rintro _ _ ⟨b14, rfl, rfl⟩
  refine l_mu rfl rfl (m_store 0 uc121 (b := b14) (o := 0) (T := 59) (cs := #[.int .i64 (0), .slice none 0 0]) (cs' := #[Ix (x6.id), .slice v12a (x6.comps.length) (v12c)]) (v := .agg #[Ix (x6.id), .slice v12a (x6.comps.length) (v12c)]) rfl rfl rfl rfl rfl rfl rfl) ?_
  refine l_nil ?_
  refine f_then ?_
  refine c_seq ?_
  refine c_region ?_
  refine l_val (v := .agg #[Ix (x6.id), .slice v12a (x6.comps.length) (v12c)]) rfl rfl rfl (e_load uc121 (cs := [Ix (x6.id), .slice v12a (x6.comps.length) (v12c)]) rfl (k_pt 0 (cs := #[Ix (x6.id), .slice v12a (x6.comps.length) (v12c)]) (vs := [Ix (x6.id), .slice v12a (x6.comps.length) (v12c)]) rfl rfl) rfl) ?_
  refine l_call rfl rfl rfl (cl_value (fst := []) (cap := []) (vs := [.agg #[Ix (x6.id), .slice v12a (x6.comps.length) (v12c)]]) (all := [.agg #[Ix (x6.id), .slice v12a (x6.comps.length) (v12c)]]) uc133 rfl rfl rfl) ?_
  intro w hw
  obtain ⟨β1, sb, kn, hw1, back⟩ := St.frame_all hw
  refine (body_ok β1 w hw1 (x6.id) v12a v12c x6.comps (Sl.mono _ _ _ _ _ sb (⟨⟨_, _, rfl, v12l, v12m, v12e⟩⟩ : Sl CompR _ _ x6.comps))).mono ?_
  rintro e w' ⟨rfl, hw'⟩
  refine ⟨_, rfl, _, back _ _ hw', ?_⟩
  clear hw hw1 hw' back kn sb
  refine l_val (v := .tuple #[.agg (bC (bodyD (x6.id) x6.comps)), .bool ((bodyOf (x6.id) x6.comps).isSome)]) rfl rfl rfl (e_move) ?_
  refine l_val (v := .agg (bC (bodyD (x6.id) x6.comps))) rfl rfl rfl (e_extract (vs := #[.agg (bC (bodyD (x6.id) x6.comps)), .bool ((bodyOf (x6.id) x6.comps).isSome)]) rfl rfl) ?_
  refine l_val (v := .bool ((bodyOf (x6.id) x6.comps).isSome)) rfl rfl rfl (e_extract (vs := #[.agg (bC (bodyD (x6.id) x6.comps)), .bool ((bodyOf (x6.id) x6.comps).isSome)]) rfl rfl) ?_
  refine l_mv rfl rfl rfl (m_alloc tf58) ?_
  rintro _ _ ⟨b15, rfl, rfl⟩
  refine l_mu rfl rfl (m_store 0 tf22 (b := b15) (o := 0) (T := 52) (cs := #[.int .i64 (0), .int .i64 (0), .int .i64 (0), .int .i64 (0), .int .i64 (0), .int .i64 (0), .int .i64 (0), .bool false, .bool false]) (cs' := (bC (bodyD (x6.id) x6.comps))) (v := .agg (bC (bodyD (x6.id) x6.comps))) rfl rfl rfl rfl rfl rfl rfl) ?_
  refine l_val (v := .bool ((bodyOf (x6.id) x6.comps).isSome)) rfl rfl rfl (e_assign) ?_
  refine l_nil ?_
  refine f_then ?_
  refine c_seq ?_
  refine c_region ?_
  refine l_val (v := .bool ((bodyOf (x6.id) x6.comps).isSome)) rfl rfl rfl (e_move) ?_
  refine l_nil ?_
  refine f_then ?_
  refine c_ifb ((bodyOf (x6.id) x6.comps).isSome) rfl (fun hc16 => ?_) (fun hc16 => ?_)
  ·
   refine c_region ?_
   refine l_val (v := .pointer (some ⟨b4, 0, none⟩)) rfl rfl rfl (e_fieldPt (b := b4) (o := 0) rfl tf49) ?_
   refine l_val (v := .slice p (out.length) c) rfl rfl rfl (e_load1 tf50 (v := .slice p (out.length) c) rfl (k_pt 3 (cs := #[.slice p (out.length) c, .slice none 0 0, Ix (gx), Ix (gy)]) (vs := [.slice p (out.length) c]) rfl rfl)) ?_
   refine l_val (v := .agg (bC (bodyD (x6.id) x6.comps))) rfl rfl rfl (e_load tf22 (cs := (bodyE (bodyD (x6.id) x6.comps))) rfl (k_pt 0 (cs := (bC (bodyD (x6.id) x6.comps))) (vs := (bodyE (bodyD (x6.id) x6.comps))) rfl rfl) rfl) ?_
   refine l_mv rfl rfl rfl (m_slices tf43 tf58 (vs := [(0, .agg (bC (bodyD (x6.id) x6.comps)))]) (cells := (bC (bodyD (x6.id) x6.comps))) rfl rfl rfl (by kernel_rfl)) ?_
   rintro _ _ ⟨b17, rfl, rfl⟩
   refine l_mv rfl rfl rfl (m_appendFlN (F := BodyF) 3 tf43 tf83 (p := p) (m := out.length) (xs := out) (ys := [(bodyD (x6.id) x6.comps)]) (ao := (some ⟨b17, 0, none⟩)) (k := 1) (c := 1) rfl rfl rfl rfl rfl (k_ptFl (z := (bodyD (x6.id) x6.comps)) 0 rfl rfl) (by first | omega | simp only [List.length_nil, List.length_cons, List.length_append, List.length_set]; omega) (by first | omega | simp only [List.length_nil, List.length_cons, List.length_append, List.length_set]; omega)) ?_
   rintro _ _ ⟨rp18, rc19, rfl, rfl⟩
   refine l_val (v := .pointer (some ⟨b4, 0, none⟩)) rfl rfl rfl (e_fieldPt (b := b4) (o := 0) rfl tf49) ?_
   refine l_mu rfl rfl (m_store 4 tf50 (b := b4) (o := 0) (T := 30) (cs := #[.slice p (out.length) c, .slice none 0 0, Ix (gx), Ix (gy)]) (cs' := #[.slice rp18 ((out ++ [(bodyD (x6.id) x6.comps)]).length) rc19, .slice none 0 0, Ix (gx), Ix (gy)]) (v := .slice rp18 ((out ++ [(bodyD (x6.id) x6.comps)]).length) rc19) rfl rfl rfl rfl rfl rfl rfl) ?_
   refine l_nil ?_
   refine f_block ?_
   refine f_then ?_
   refine c_region ?_
   refine l_val (v := Nx (k + 1)) rfl rfl rfl (e_add (a := ((k : Nat) : Int)) (b := (1 : Int)) rfl rfl (i64n (by omega) (by omega))) ?_
   refine l_val (v := Nx (k + 1)) rfl rfl rfl (e_move) ?_
   refine l_nil ?_
   refine f_mask (L' := [rowF BodyF 52 rp18 rc19 (out ++ [(bodyD (x6.id) x6.comps)]), pt b4 (.cells #[.slice rp18 ((out ++ [(bodyD (x6.id) x6.comps)]).length) rc19, .slice none 0 0, Ix (gx), Ix (gy)] 30), pt b3 (.cells #[.slice none 0 0, .slice none 0 0, .int .i64 (0), .int .i64 (0)] 30), pt b2 (.cells #[Ix (gx), Ix (gy)] 28), pt b1 (.cells #[Ix (tick), .slice va (es.length) (vc)] 24)]) [false, false, false, true, true, true, true, true] rfl ?_
   exact f_cut ⟨(k + 1, (out ++ [(bodyD (x6.id) x6.comps)]), rp18, rc19), ⟨⟨rfl, rfl, rfl, rfl, rfl, rfl⟩, rfl, ⟨by omega, by rw [bodies_yes hx7 hc16, ← ho]⟩⟩, (show es.length - (k + 1) < es.length - k from by omega)⟩
  ·
   refine c_skip ?_
   refine f_block ?_
   refine f_then ?_
   refine c_region ?_
   refine l_val (v := Nx (k + 1)) rfl rfl rfl (e_add (a := ((k : Nat) : Int)) (b := (1 : Int)) rfl rfl (i64n (by omega) (by omega))) ?_
   refine l_val (v := Nx (k + 1)) rfl rfl rfl (e_move) ?_
   refine l_nil ?_
   refine f_mask (L' := [rowF BodyF 52 p c out, pt b4 (.cells #[.slice p (out.length) c, .slice none 0 0, Ix (gx), Ix (gy)] 30), pt b3 (.cells #[.slice none 0 0, .slice none 0 0, .int .i64 (0), .int .i64 (0)] 30), pt b2 (.cells #[Ix (gx), Ix (gy)] 28), pt b1 (.cells #[Ix (tick), .slice va (es.length) (vc)] 24)]) [false, false, true, true, true, true, true] rfl ?_
   exact f_cut ⟨(k + 1, out, p, c), ⟨⟨rfl, rfl, rfl, rfl, rfl, rfl⟩, rfl, ⟨by omega, by rw [bodies_no hx7 hc16, ← ho]⟩⟩, (show es.length - (k + 1) < es.length - k from by omega)⟩
 ·
  refine c_exit ?_
  refine f_then_exit ?_
  refine f_then_exit ?_
  refine f_exit ?_
  refine f_then ?_
  refine c_seq ?_
  have hoe : out = bodiesOf es := by rw [ho, List.take_of_length_le (by omega)]
  refine c_region ?_
  refine l_val (v := .func (.func 61) #[] #[.pointer (some ⟨b4, 0, none⟩)]) rfl rfl rfl (e_func (u := []) (v := [.pointer (some ⟨b4, 0, none⟩)]) rfl rfl) ?_
  refine l_val (v := .func (.func 61) #[] #[.pointer (some ⟨b4, 0, none⟩)]) rfl rfl rfl (e_assign) ?_
  refine l_nil ?_
  refine f_then ?_
  refine c_seq ?_
  refine c_seq ?_
  refine c_emp (r := rowF RopeF 78 none 0 []) (row_nil _ _ _) ?_
  refine c_region ?_
  refine l_val (v := .slice rva (rs.length) (rvc)) rfl rfl rfl (e_move) ?_
  refine l_val (v := Nx (rs.length)) rfl rfl rfl (e_len (a := rva) (n := rs.length) (c := rvc) rfl tf45) ?_
  refine l_val (v := .int .i64 (0)) rfl rfl rfl (e_move) ?_
  refine l_nil ?_
  refine f_then ?_
  refine c_block ?_
  refine c_mask [true, true, true, true, true, true] rfl ?_
  refine c_loop (fun (x_ : Nat × List KR × Option Addr × Nat) (f : Fm) (L : List Res) => match x_ with | (k2, R, rp, rc) => (f 6 = .pointer (some ⟨b3, 0, none⟩) ∧ f 7 = .pointer (some ⟨b4, 0, none⟩) ∧ f 12 = .func (.func 61) #[] #[.pointer (some ⟨b4, 0, none⟩)] ∧ f 38 = .slice rva (rs.length) (rvc) ∧ f 39 = Nx (rs.length) ∧ f 40 = Nx (k2)) ∧ L = [rowF RopeF 78 rp rc R, rowF BodyF 52 p c out, pt b4 (.cells #[.slice p (out.length) c, .slice rp (R.length) rc, Ix (gx), Ix (gy)] 30), pt b3 (.cells #[.slice none 0 0, .slice none 0 0, .int .i64 (0), .int .i64 (0)] 30), pt b2 (.cells #[Ix (gx), Ix (gy)] 28), pt b1 (.cells #[Ix (tick), .slice va (es.length) (vc)] 24)] ∧ (k2 ≤ rs.length ∧ R = ropesOf out (rs.take k2))) (fun (x_ : Nat × List KR × Option Addr × Nat) => match x_ with | (k2, R, rp, rc) => rs.length - k2) (0, [], none, 0) ?_ ?_
  ·exact ⟨⟨rfl, rfl, rfl, rfl, rfl, rfl⟩, rfl, ⟨by omega, rfl⟩⟩
  rintro ⟨k2, R, rp, rc⟩ f0 L0 ⟨⟨hs6, hs7, hs12, hs38, hs39, hs40⟩, hL, ⟨hk2, hR⟩⟩
  subst L0
  refine rebase (d := 6) hs6 ?_
  refine rebase (d := 7) hs7 ?_
  refine rebase (d := 12) hs12 ?_
  refine rebase (d := 38) hs38 ?_
  refine rebase (d := 39) hs39 ?_
  refine rebase (d := 40) hs40 ?_
  clear hs6 hs7 hs12 hs38 hs39 hs40
  have hRl := ropes_le out rs k2
  rw [← hR] at hRl
  refine c_seq ?_
  refine c_region ?_
  refine l_val (v := .bool (decide (((k2 : Nat) : Int) < ((rs.length : Nat) : Int)))) rfl rfl rfl (e_lss (a := ((k2 : Nat) : Int)) (b := ((rs.length : Nat) : Int)) rfl rfl) ?_
  refine l_nil ?_
  refine f_then ?_
  refine c_seq ?_
  refine c_if (((k2 : Nat) : Int) < ((rs.length : Nat) : Int)) rfl (fun hc20 => ?_) (fun hc20 => ?_)
  ·
   refine c_skip ?_
   refine f_then ?_
   refine c_seq ?_
   refine c_block ?_
   refine c_seq ?_
   refine c_region ?_
   obtain ⟨x21, hx22⟩ : ∃ x_, (rs)[k2]? = some x_ := ⟨_, List.getElem?_eq_getElem (by omega)⟩
   obtain ⟨ha23, cs24, hc25, rfl⟩ := rve _ _ hx22
   refine l_val (v := .pointer (some ((ba rva).add (k2 * 3)))) rfl rfl rfl (e_indexAddr (k := k2) (len := rs.length) (cap := rvc) (a := rva) rfl rfl tf46 (by omega) ha23) ?_
   refine l_val (v := .agg #[Ix (x21.a), Ix (x21.b), Ix (x21.len)]) rfl rfl rfl (e_load tf47 (cs := [Ix (x21.a), Ix (x21.b), Ix (x21.len)]) rfl (Knows.of_base (Cs.mono _ _) hc25) rfl) ?_
   refine l_mv rfl rfl rfl (m_alloc tf77) ?_
   rintro _ _ ⟨b27, rfl, rfl⟩
   refine l_mu rfl rfl (m_store 0 tf47 (b := b27) (o := 0) (T := 78) (cs := #[.int .i64 (0), .int .i64 (0), .int .i64 (0)]) (cs' := #[Ix (x21.a), Ix (x21.b), Ix (x21.len)]) (v := .agg #[Ix (x21.a), Ix (x21.b), Ix (x21.len)]) rfl rfl rfl rfl rfl rfl rfl) ?_
   refine l_nil ?_
   refine f_then ?_
   refine c_seq ?_
   refine c_region ?_
   refine l_val (v := .func (.func 61) #[] #[.pointer (some ⟨b4, 0, none⟩)]) rfl rfl rfl (e_move) ?_
   refine l_val (v := .pointer (some ⟨b27, 0, none⟩)) rfl rfl rfl (e_fieldPt (b := b27) (o := 0) rfl tf51) ?_
   refine l_val (v := Ix (x21.a)) rfl rfl rfl (e_load1 tf2 (v := Ix (x21.a)) rfl (k_pt 0 (cs := #[Ix (x21.a), Ix (x21.b), Ix (x21.len)]) (vs := [Ix (x21.a)]) rfl rfl)) ?_
   refine l_call rfl rfl rfl (cl_value (fst := []) (cap := [.pointer (some ⟨b4, 0, none⟩)]) (vs := [Ix (x21.a)]) (all := [Ix (x21.a), .pointer (some ⟨b4, 0, none⟩)]) uc134 rfl rfl rfl) ?_
   intro w hw
   obtain ⟨β1, sb, kn, hw1, back⟩ := St.frame_all hw
   refine (has_ok β1 w hw1 b4 _ _ gx gy out (kn _ (k_pt 3 (o := 0) (cs := #[.slice p (out.length) c, .slice rp (R.length) rc, Ix (gx), Ix (gy)]) (vs := [.slice p (out.length) c, .slice rp (R.length) rc, Ix (gx), Ix (gy)]) rfl rfl)) (kn _ (k_flN 2 (F := BodyF) (m := out.length) (xs := out) rfl rfl)) (x21.a)).mono ?_
   rintro e w' ⟨rfl, hw'⟩
   refine ⟨_, rfl, _, back _ _ hw', ?_⟩
   clear hw hw1 hw' back kn sb
   refine l_val (v := .bool (hasB out (x21.a))) rfl rfl rfl (e_move) ?_
   refine l_splitb (s := 48) (b := hasB out (x21.a)) rfl (fun hg28 => ?_) (fun hg28 => ?_)
   ·
    refine g_val (v := .func (.func 61) #[] #[.pointer (some ⟨b4, 0, none⟩)]) rfl rfl rfl rfl rfl (e_move) ?_
    refine g_val (v := .pointer (some ⟨b27, 1, none⟩)) rfl rfl rfl rfl rfl (e_fieldPt (b := b27) (o := 0) rfl tf53) ?_
    refine g_val (v := Ix (x21.b)) rfl rfl rfl rfl rfl (e_load1 tf2 (v := Ix (x21.b)) rfl (k_pt 0 (cs := #[Ix (x21.a), Ix (x21.b), Ix (x21.len)]) (vs := [Ix (x21.b)]) rfl rfl)) ?_
    refine g_call rfl rfl rfl rfl rfl (cl_value (fst := []) (cap := [.pointer (some ⟨b4, 0, none⟩)]) (vs := [Ix (x21.b)]) (all := [Ix (x21.b), .pointer (some ⟨b4, 0, none⟩)]) uc134 rfl rfl rfl) ?_
    intro w hw
    obtain ⟨β1, sb, kn, hw1, back⟩ := St.frame_all hw
    refine (has_ok β1 w hw1 b4 _ _ gx gy out (kn _ (k_pt 3 (o := 0) (cs := #[.slice p (out.length) c, .slice rp (R.length) rc, Ix (gx), Ix (gy)]) (vs := [.slice p (out.length) c, .slice rp (R.length) rc, Ix (gx), Ix (gy)]) rfl rfl)) (kn _ (k_flN 2 (F := BodyF) (m := out.length) (xs := out) rfl rfl)) (x21.b)).mono ?_
    rintro e w' ⟨rfl, hw'⟩
    refine ⟨_, rfl, _, back _ _ hw', ?_⟩
    clear hw hw1 hw' back kn sb
    refine l_val (v := .bool (hasB out (x21.b))) rfl rfl rfl (e_pick_t rfl) ?_
    refine l_nil ?_
    refine f_then ?_
    refine c_ifb (hasB out (x21.b)) rfl (fun hc29 => ?_) (fun hc29 => ?_)
    ·
     refine c_region ?_
     refine l_val (v := .pointer (some ⟨b4, 1, none⟩)) rfl rfl rfl (e_fieldPt (b := b4) (o := 0) rfl tf55) ?_
     refine l_val (v := .slice rp (R.length) rc) rfl rfl rfl (e_load1 tf56 (v := .slice rp (R.length) rc) rfl (k_pt 3 (cs := #[.slice p (out.length) c, .slice rp (R.length) rc, Ix (gx), Ix (gy)]) (vs := [.slice rp (R.length) rc]) rfl rfl)) ?_
     refine l_val (v := .agg #[Ix (x21.a), Ix (x21.b), Ix (x21.len)]) rfl rfl rfl (e_load tf47 (cs := [Ix (x21.a), Ix (x21.b), Ix (x21.len)]) rfl (k_pt 0 (cs := #[Ix (x21.a), Ix (x21.b), Ix (x21.len)]) (vs := [Ix (x21.a), Ix (x21.b), Ix (x21.len)]) rfl rfl) rfl) ?_
     refine l_mv rfl rfl rfl (m_slices tf46 tf77 (vs := [(0, .agg #[Ix (x21.a), Ix (x21.b), Ix (x21.len)])]) (cells := #[Ix (x21.a), Ix (x21.b), Ix (x21.len)]) rfl rfl rfl rfl) ?_
     rintro _ _ ⟨b30, rfl, rfl⟩
     refine l_mv rfl rfl rfl (m_appendFlN (F := RopeF) 2 tf46 tf84 (p := rp) (m := R.length) (xs := R) (ys := [x21]) (ao := (some ⟨b30, 0, none⟩)) (k := 1) (c := 1) rfl rfl rfl rfl rfl (k_ptFl (z := x21) 0 rfl rfl) (by first | omega | simp only [List.length_nil, List.length_cons, List.length_append, List.length_set]; omega) (by first | omega | simp only [List.length_nil, List.length_cons, List.length_append, List.length_set]; omega)) ?_
     rintro _ _ ⟨rp31, rc32, rfl, rfl⟩
     refine l_val (v := .pointer (some ⟨b4, 1, none⟩)) rfl rfl rfl (e_fieldPt (b := b4) (o := 0) rfl tf55) ?_
     refine l_mu rfl rfl (m_store 4 tf56 (b := b4) (o := 1) (T := 30) (cs := #[.slice p (out.length) c, .slice rp (R.length) rc, Ix (gx), Ix (gy)]) (cs' := #[.slice p (out.length) c, .slice rp31 ((R ++ [x21]).length) rc32, Ix (gx), Ix (gy)]) (v := .slice rp31 ((R ++ [x21]).length) rc32) rfl rfl rfl rfl rfl rfl rfl) ?_
     refine l_nil ?_
     refine f_block ?_
     refine f_then ?_
     refine c_region ?_
     refine l_val (v := Nx (k2 + 1)) rfl rfl rfl (e_add (a := ((k2 : Nat) : Int)) (b := (1 : Int)) rfl rfl (i64n (by omega) (by omega))) ?_
     refine l_val (v := Nx (k2 + 1)) rfl rfl rfl (e_move) ?_
     refine l_nil ?_
     refine f_mask (L' := [rowF RopeF 78 rp31 rc32 (R ++ [x21]), rowF BodyF 52 p c out, pt b4 (.cells #[.slice p (out.length) c, .slice rp31 ((R ++ [x21]).length) rc32, Ix (gx), Ix (gy)] 30), pt b3 (.cells #[.slice none 0 0, .slice none 0 0, .int .i64 (0), .int .i64 (0)] 30), pt b2 (.cells #[Ix (gx), Ix (gy)] 28), pt b1 (.cells #[Ix (tick), .slice va (es.length) (vc)] 24)]) [false, false, true, true, true, true, true, true] rfl ?_
     exact f_cut ⟨(k2 + 1, (R ++ [x21]), rp31, rc32), ⟨⟨rfl, rfl, rfl, rfl, rfl, rfl⟩, rfl, ⟨by omega, by rw [ropes_yes hx22 hg28 hc29, ← hR]⟩⟩, (show rs.length - (k2 + 1) < rs.length - k2 from by omega)⟩
    ·
     refine c_skip ?_
     refine f_block ?_
     refine f_then ?_
     refine c_region ?_
     refine l_val (v := Nx (k2 + 1)) rfl rfl rfl (e_add (a := ((k2 : Nat) : Int)) (b := (1 : Int)) rfl rfl (i64n (by omega) (by omega))) ?_
     refine l_val (v := Nx (k2 + 1)) rfl rfl rfl (e_move) ?_
     refine l_nil ?_
     refine f_mask (L' := [rowF RopeF 78 rp rc R, rowF BodyF 52 p c out, pt b4 (.cells #[.slice p (out.length) c, .slice rp (R.length) rc, Ix (gx), Ix (gy)] 30), pt b3 (.cells #[.slice none 0 0, .slice none 0 0, .int .i64 (0), .int .i64 (0)] 30), pt b2 (.cells #[Ix (gx), Ix (gy)] 28), pt b1 (.cells #[Ix (tick), .slice va (es.length) (vc)] 24)]) [false, true, true, true, true, true, true] rfl ?_
     exact f_cut ⟨(k2 + 1, R, rp, rc), ⟨⟨rfl, rfl, rfl, rfl, rfl, rfl⟩, rfl, ⟨by omega, by rw [ropes_no hx22 (by simp [hc29]), ← hR]⟩⟩, (show rs.length - (k2 + 1) < rs.length - k2 from by omega)⟩
   ·
    refine l_skip rfl rfl rfl rfl rfl rfl ?_
    refine l_skip rfl rfl rfl rfl rfl rfl ?_
    refine l_skip rfl rfl rfl rfl rfl rfl ?_
    refine l_skip rfl rfl rfl rfl rfl rfl ?_
    refine l_val (v := .bool false) rfl rfl rfl (e_pick_f rfl) ?_
    refine l_nil ?_
    refine f_then ?_
    refine c_no rfl ?_
    refine c_skip ?_
    refine f_block ?_
    refine f_then ?_
    refine c_region ?_
    refine l_val (v := Nx (k2 + 1)) rfl rfl rfl (e_add (a := ((k2 : Nat) : Int)) (b := (1 : Int)) rfl rfl (i64n (by omega) (by omega))) ?_
    refine l_val (v := Nx (k2 + 1)) rfl rfl rfl (e_move) ?_
    refine l_nil ?_
    refine f_mask (L' := [rowF RopeF 78 rp rc R, rowF BodyF 52 p c out, pt b4 (.cells #[.slice p (out.length) c, .slice rp (R.length) rc, Ix (gx), Ix (gy)] 30), pt b3 (.cells #[.slice none 0 0, .slice none 0 0, .int .i64 (0), .int .i64 (0)] 30), pt b2 (.cells #[Ix (gx), Ix (gy)] 28), pt b1 (.cells #[Ix (tick), .slice va (es.length) (vc)] 24)]) [false, true, true, true, true, true, true] rfl ?_
    exact f_cut ⟨(k2 + 1, R, rp, rc), ⟨⟨rfl, rfl, rfl, rfl, rfl, rfl⟩, rfl, ⟨by omega, by rw [ropes_no hx22 (by simp [hg28]), ← hR]⟩⟩, (show rs.length - (k2 + 1) < rs.length - k2 from by omega)⟩
  ·
   refine c_exit ?_
   refine f_then_exit ?_
   refine f_then_exit ?_
   refine f_exit ?_
   refine f_then ?_
   refine c_seq ?_
   refine c_region ?_
   refine l_val (v := .agg #[.slice p (out.length) c, .slice rp (R.length) rc, Ix (gx), Ix (gy)]) rfl rfl rfl (e_load tf86 (cs := [.slice p (out.length) c, .slice rp (R.length) rc, Ix (gx), Ix (gy)]) rfl (k_pt 2 (cs := #[.slice p (out.length) c, .slice rp (R.length) rc, Ix (gx), Ix (gy)]) (vs := [.slice p (out.length) c, .slice rp (R.length) rc, Ix (gx), Ix (gy)]) rfl rfl) rfl) ?_
   refine l_mu rfl rfl (m_store 3 tf86 (b := b3) (o := 0) (T := 30) (cs := #[.slice none 0 0, .slice none 0 0, .int .i64 (0), .int .i64 (0)]) (cs' := #[.slice p (out.length) c, .slice rp (R.length) rc, Ix (gx), Ix (gy)]) (v := .agg #[.slice p (out.length) c, .slice rp (R.length) rc, Ix (gx), Ix (gy)]) rfl rfl rfl rfl rfl rfl rfl) ?_
   refine l_nil ?_
   refine f_then ?_
   refine c_ret ?_
   refine retG (l := [.cell 6 30]) (m := [.agg #[.slice p (out.length) c, .slice rp (R.length) rc, Ix (gx), Ix (gy)]]) (v := .agg #[.slice p (out.length) c, .slice rp (R.length) rc, Ix (gx), Ix (gy)]) Tryz.results18 ⟨rd_cell tf86 (cs := [.slice p (out.length) c, .slice rp (R.length) rc, Ix (gx), Ix (gy)]) rfl (k_pt 3 (cs := #[.slice p (out.length) c, .slice rp (R.length) rc, Ix (gx), Ix (gy)]) (vs := [.slice p (out.length) c, .slice rp (R.length) rc, Ix (gx), Ix (gy)]) rfl rfl) rfl, trivial⟩ rfl ?_
   intro w hw
   have hw2 := st_mask (L' := [rowF RopeF 78 rp rc R, rowF BodyF 52 p c out]) [true, true, false, false, false, false] rfl hw
   have hRe : R = ropesOf out rs := by rw [hR, List.take_of_length_le (by omega)]
   rw [hoe] at hRe hw2 ⊢
   rw [hRe] at hw2 ⊢
   exact ⟨p, c, rp, rc, rfl, hw2.perm (perm_ix [1, 0] 2 rfl (by kernel_rfl) (by kernel_rfl))⟩
end Go.Proofs
