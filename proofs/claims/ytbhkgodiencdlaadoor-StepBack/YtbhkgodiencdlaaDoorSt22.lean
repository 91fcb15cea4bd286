/-
 What Bodies makes of a world: walked. Printed by a program of my own.
-/
import Derived.Test.YtbhkgodiencdlaaDoorSt9
import Derived.Test.YtbhkgodiencdlaaDoorStWorld
import Derived.Test.YtbhkgodiencdlaaDoorSlC
namespace Go.Proofs
open Go Go.Sl Go.Stp
theorem body_ret_none {id : Int} {cm : List KComp} (h : bodyOf id cm = none) : Ending.returned (.tuple #[.agg (bC zeroB), .bool false]) = .returned (.tuple #[.agg (bC (bodyD id cm)), .bool (bodyOf id cm).isSome]) := by unfold bodyD; rw [h]; rfl
theorem body_ret_some {id : Int} {cm : List KComp} {b : KB} (h : bodyOf id cm = some b) : Ending.returned (.tuple #[.agg (bC b), .bool true]) = .returned (.tuple #[.agg (bC (bodyD id cm)), .bool (bodyOf id cm).isSome]) := by unfold bodyD; rw [h]; rfl
theorem tg114 : Tryd.prog.underlying 74 = some (.slice 73) := by kernel_rfl
theorem tg115 : slB Tryd.prog 74 73 5 = true := by kernel_rfl
theorem tg116 : tyB Tryd.prog 73 true 5 = true := by kernel_rfl
theorem tg117 : fldB Tryd.prog 73 0 0 1 false = true := by kernel_rfl
theorem tg118 : fldB Tryd.prog 76 1 1 1 false = true := by kernel_rfl
theorem tg119 : tyB Tryd.prog 74 false 1 = true := by kernel_rfl
theorem tg120 : cfB Tryd.prog 111 = true := by kernel_rfl
theorem tg121 : tyB Tryd.prog 76 true 2 = true := by kernel_rfl
theorem tg122 : cfB Tryd.prog 94 = true := by kernel_rfl
theorem tg123 : Tryd.prog.underlying 142 = some (.pointer (Tryd.prog.pointee 142)) := by kernel_rfl
theorem tg124 : fldB Tryd.prog 76 0 0 1 false = true := by kernel_rfl
theorem tg125 : fldB Tryd.prog 73 1 1 4 true = true := by kernel_rfl
theorem tg126 : arB Tryd.prog 66 4 3 1 = true := by kernel_rfl
theorem tg127 : cfB Tryd.prog 62 = true := by kernel_rfl
theorem tg128 : fldB Tryd.prog 70 1 1 1 false = true := by kernel_rfl
theorem tg129 : tyB Tryd.prog 68 false 1 = true := by kernel_rfl
theorem tg130 : Tryd.prog.underlying 68 = some (.slice 76) := by kernel_rfl
theorem tg131 : slB Tryd.prog 68 76 2 = true := by kernel_rfl
theorem tg132 : (Tryd.prog.info? 76).bind (·.zero) = some (.agg #[.int .i64 (0), .slice none 0 0]) := by kernel_rfl
theorem tg133 : cfB Tryd.prog 60 = true := by kernel_rfl
theorem tg134 : cfB Tryd.prog 61 = true := by kernel_rfl
set_option maxHeartbeats 4000000 in
theorem indexC_ok (β : Base) (w : World) (hw : St β [] w) (v fn : Value) (xs : List KComp) (hs : Sl CompR β.heap v xs) (p : KComp → Bool) (hfn : FnV Tryd.prog β fn (fun z : KComp => [.agg #[Bx (z.kind), Ix (z.v0), Ix (z.v1), Ix (z.v2), Ix (z.v3)]]) (· ∈ xs) (fun z => .bool (p z))) : Calls Tryd.prog 111 #[v, fn] w fun r w' => r = .returned (Ix (idxI p xs)) ∧ St β [] w' := by
 obtain ⟨va, vc, rfl, vl, vm, ve⟩ := hs.get
 obtain ⟨gg, fst, cap, rfl, hcf, hf⟩ := hfn
 refine enter (n := 19) Tryd.func111 rfl Tryd.ntmps111 rfl ?_ hw
 refine csr ?_
 refine l_val (v := .int .i64 (0)) rfl rfl rfl e_assign ?_
 refine lnf ?_
 refine cs2 ?_
 refine c_region ?_
 refine lv (v := sB va xs (vc)) e_move ?_
 refine lv (v := Nx (xs.length)) (e_len (a := va) (n := xs.length) (c := vc) rfl tg114) ?_
 refine lv (v := .int .i64 (0)) e_move ?_
 refine lnf ?_
 refine c_block ?_
 refine c_loop (fun (k : Nat) (f : Fm) (L : List Res) => (f 0 = sB va xs (vc) ∧ f 1 = .func (.func gg) fst.toArray cap.toArray ∧ f 7 = Nx (xs.length) ∧ f 8 = Nx (k)) ∧ L = [] ∧ (k ≤ xs.length ∧ ∀ y ∈ xs.take k, p y = false)) (fun (k : Nat) => xs.length - k) 0 ?_ ?_
 ·exact ⟨⟨rfl, rfl, rfl, rfl⟩, rfl, ⟨by omega, fun y hy => by simp at hy⟩⟩
 rintro k f0 L0 ⟨⟨hs0, hs1, hs7, hs8⟩, hL, ⟨hk, hp⟩⟩
 subst L0
 refine rebase (d := 0) hs0 ?_
 refine rebase (d := 1) hs1 ?_
 refine rebase (d := 7) hs7 ?_
 refine rebase (d := 8) hs8 ?_
 clear hs0 hs1 hs7 hs8
 refine csr ?_
 refine lv (e_lss (a := ((k : Nat) : Int)) (b := ((xs.length : Nat) : Int)) rfl rfl) ?_
 refine lnf ?_
 refine c_seq ?_
 refine c_if (((k : Nat) : Int) < ((xs.length : Nat) : Int)) rfl (fun hc1 => ?_) (fun hc1 => ?_)
 ·refine csk ?_
  refine c_seq ?_
  refine c_block ?_
  refine csr ?_
  refine lv (v := Nx (k)) e_move ?_
  refine lv (v := Nx (k)) e_assign ?_
  refine lnc ?_
  refine lv (v := .func (.func gg) fst.toArray cap.toArray) e_move ?_
  refine lv (v := sB va xs (vc)) e_move ?_
  refine lv (v := Nx (k)) e_move ?_
  obtain ⟨x2, hx2⟩ : ∃ x_, (xs)[k]? = some x_ := ⟨_, List.getElem?_eq_getElem (by omega)⟩
  obtain ⟨ha4, cs5, hc6, rfl⟩ := ve _ _ hx2
  refine lv (v := .pointer (some ((ba va).add (k * 5)))) (e_indexAddr (k := k) (len := xs.length) (cap := vc) (a := va) rfl rfl tg115 (by omega) ha4) ?_
  refine lv (v := .agg #[Bx (x2.kind), Ix (x2.v0), Ix (x2.v1), Ix (x2.v2), Ix (x2.v3)]) (e_load tg116 rfl (kB hc6) rfl) ?_
  refine l_call rfl rfl rfl (cl_value (fst := fst) (cap := cap) (vs := [.agg #[Bx (x2.kind), Ix (x2.v0), Ix (x2.v1), Ix (x2.v2), Ix (x2.v3)]]) (all := fst ++ [.agg #[Bx (x2.kind), Ix (x2.v0), Ix (x2.v1), Ix (x2.v2), Ix (x2.v3)]] ++ cap) hcf rfl rfl rfl) ?_
  intro w hw
  obtain ⟨β1, sb, kn, hw1, back⟩ := St.frame_all hw
  refine (hf β1 sb x2 (List.mem_of_getElem? hx2) w hw1).mono ?_
  rintro e w' ⟨rfl, hw'⟩
  refine ⟨_, rfl, _, back _ _ hw', ?_⟩
  clear hw hw1 hw' back kn sb
  refine lnf ?_
  refine c_ifb (p x2) rfl (fun hc8 => ?_) (fun hc8 => ?_)
  ·refine csr ?_
   refine lv (v := Nx (k)) e_move ?_
   refine lv (v := Nx (k)) e_assign ?_
   refine lnf ?_
   refine c_ret ?_
   refine f_block_ret ?_
   refine f_then_ret ?_
   refine f_then_ret ?_
   refine f_block_ret ?_
   refine f_then_ret ?_
   refine ret1 Tryd.results111 (v := Nx (k)) rfl ?_
   intro w hw
   exact ⟨congrArg (fun z : Int => Ending.returned (Ix z)) (idx_found hx2 hc8 hp).symm, st_mask [] rfl hw⟩
  refine c_skip ?_
  refine f_block ?_
  refine f_then ?_
  refine c_region ?_
  refine lv (v := Nx (k + 1)) (e_add (a := ((k : Nat) : Int)) (b := (1 : Int)) rfl rfl (i64n (by omega) (by omega))) ?_
  refine lv (v := Nx (k + 1)) e_move ?_
  refine l_nil ?_
  exact f_cut ⟨k + 1, ⟨⟨rfl, rfl, rfl, rfl⟩, rfl, ⟨by omega, idx_next hx2 hc8 hp⟩⟩, (show xs.length - (k + 1) < xs.length - k from by omega)⟩
 refine c_exit ?_
 refine f_then_exit ?_
 refine f_then_exit ?_
 refine f_exit ?_
 refine ftc ?_
 refine lv (v := .int .i64 (-1)) e_assign ?_
 refine lnf ?_
 refine c_ret ?_
 refine ret1 Tryd.results111 (v := .int .i64 (-1)) rfl ?_
 intro w hw
 exact ⟨congrArg (fun z : Int => Ending.returned (Ix z)) (idx_none (by omega) hp).symm, st_mask [] rfl hw⟩
theorem first1_fn (β : Base) (c : Nat) (kd : UInt8) (hc : Cs β.heap ⟨c, 0, none⟩ [Bx kd]) : FnV Tryd.prog β (.func (.func 112) #[] #[pp c 0]) (fun z : KComp => [.agg #[Bx (z.kind), Ix (z.v0), Ix (z.v1), Ix (z.v2), Ix (z.v3)]]) (fun _ => True) (fun z => .bool (decide (z.kind = kd))) := by
 refine ⟨112, [], [.pointer (some (⟨c, 0, none⟩))], rfl, by kernel_rfl, fun β₁ sb0 z_ hz_ w hw => ?_⟩
 have hc1 := Cs.mono _ _ _ _ sb0 hc
 obtain ⟨z, hz⟩ : ∃ z, z = z_ := ⟨_, rfl⟩
 subst hz
 refine enter (n := 8) Tryd.func112 rfl Tryd.ntmps112 rfl ?_ hw
 refine csr ?_
 refine l_mv rfl rfl rfl (m_box (v := .agg #[Bx (z.kind), Ix (z.v0), Ix (z.v1), Ix (z.v2), Ix (z.v3)]) rfl) ?_
 rintro _ _ ⟨b1, rfl, rfl⟩
 refine lv (v := .bool false) e_assign ?_
 refine lnc ?_
 refine lv (v := pp b1 0) (e_fieldPt rfl tg117) ?_
 refine lv (v := Bx (z.kind)) (e_load1 tf97 rfl (k_pt 0 rfl rfl)) ?_
 refine lv (v := Bx (kd)) (e_load1 tf97 rfl (kB hc1)) ?_
 refine lv (e_eql (a := ((z.kind).toNat : Int)) (b := ((kd).toNat : Int)) rfl rfl) ?_
 refine lv (v := .bool (decide (((z.kind).toNat : Int) = ((kd).toNat : Int)))) e_assign ?_
 refine lnf ?_
 refine c_ret ?_
 refine ret1 Tryd.results112 (v := .bool (decide (((z.kind).toNat : Int) = ((kd).toNat : Int)))) rfl ?_
 intro w hw
 exact ⟨congrArg (fun b : Bool => Ending.returned (.bool b)) (decide_eq_decide.2 ⟨fun h => (UInt8.toNat_inj.1 (by omega)), fun h => by rw [h]⟩), st_mask [false] rfl hw⟩
theorem first_ok (β : Base) (w : World) (hw : St β [] w) (id : Int) (va : Option Addr) (vc : Nat) (cm : List KComp) (hs : Sl CompR β.heap (sB va cm vc) cm) (kd : UInt8) : Calls Tryd.prog 94 #[.agg #[Ix id, sB va cm vc], Bx kd] w fun r w' => r = .returned (.pointer (optP va cm kd)) ∧ St β [] w' := by
 obtain ⟨-, vl, vm, ve⟩ := Sl.parts hs
 refine enter (n := 16) Tryd.func94 rfl Tryd.ntmps94 rfl ?_ hw
 refine csr ?_
 refine l_mv rfl rfl rfl (m_box (v := .agg #[Ix (id), sB va cm (vc)]) rfl) ?_
 rintro _ _ ⟨b1, rfl, rfl⟩
 refine l_mv rfl rfl rfl (m_box (v := Bx (kd)) rfl) ?_
 rintro _ _ ⟨b2, rfl, rfl⟩
 refine lv (v := .pointer none) e_assign ?_
 refine lnc ?_
 refine lv (v := pp b1 1) (e_fieldPt rfl tg118) ?_
 refine lv (v := sB va cm (vc)) (e_load1 tg119 rfl (k_pt 1 rfl rfl)) ?_
 refine lv (v := .func (.func 112) #[] #[pp b2 0]) (e_func (u := []) (v := [pp b2 0]) rfl rfl) ?_
 refine lcf (cl0 (vs := [sB va cm (vc), .func (.func 112) #[] #[pp b2 0]]) tg120 rfl rfl) rfl fun w β1 sb kn hw1 back => (indexC_ok β1 w hw1 _ _ cm (Sl.mono _ _ _ _ _ sb hs) (fun c => decide (c.kind = kd)) (fnv_all (first1_fn β1 b2 kd (kn _ (k_pt 0 (o := 0) rfl rfl))))).mono ?_
 rintro e w' ⟨rfl, hw'⟩
 refine ⟨_, rfl, _, back _ _ hw', ?_⟩
 clear hw1 hw' back kn sb
 refine lv (v := Ix (idxI (fun c : KComp => decide (c.kind = kd)) cm)) e_assign ?_
 refine lnf ?_
 refine cs2 ?_
 rcases idxI_cases (fun c : KComp => decide (c.kind = kd)) cm with ⟨hn, hf⟩ | ⟨i, hi, hf, hl⟩
 ·refine c_region ?_
  refine lv (v := Ix (idxI (fun c : KComp => decide (c.kind = kd)) cm)) e_move ?_
  refine lv (e_lss (a := (idxI (fun c : KComp => decide (c.kind = kd)) cm)) (b := (0 : Int)) rfl rfl) ?_
  refine lnf ?_
  refine c_if ((idxI (fun c : KComp => decide (c.kind = kd)) cm) < (0 : Int)) rfl (fun hc3 => ?_) (fun hc3 => ?_)
  ·refine csr ?_
   refine l_val (v := .pointer none) rfl rfl rfl e_assign ?_
   refine lnf ?_
   refine c_ret ?_
   refine f_then_ret ?_
   refine ret1 Tryd.results94 (v := .pointer none) rfl ?_
   intro w hw
   exact ⟨by rw [show optP va cm kd = none from by unfold optP idxC; rw [hf]; rfl], st_mask [false, false] rfl hw⟩
  exact absurd hn hc3
 rw [hi]
 refine c_region ?_
 refine lv (v := Nx (i)) e_move ?_
 refine lv (e_lss (a := ((i : Nat) : Int)) (b := (0 : Int)) rfl rfl) ?_
 refine lnf ?_
 refine c_if (((i : Nat) : Int) < (0 : Int)) rfl (fun hc4 => ?_) (fun hc4 => ?_)
 ·exact absurd hc4 (by omega)
 refine csk ?_
 refine csr ?_
 refine lv (v := pp b1 1) (e_fieldPt rfl tg118) ?_
 refine lv (v := sB va cm (vc)) (e_load1 tg119 rfl (k_pt 1 rfl rfl)) ?_
 refine lv (v := Nx (i)) e_move ?_
 obtain ⟨x5, hx6⟩ : ∃ x_, (cm)[i]? = some x_ := ⟨_, List.getElem?_eq_getElem (by omega)⟩
 obtain ⟨ha7, cs8, hc9, rfl⟩ := ve _ _ hx6
 refine lv (v := .pointer (some ((ba va).add (i * 5)))) (e_indexAddr (k := i) (len := cm.length) (cap := vc) (a := va) rfl rfl tg115 (by omega) ha7) ?_
 refine lv (v := .pointer (some ((ba va).add (i * 5)))) e_assign ?_
 refine lnf ?_
 refine c_ret ?_
 refine ret1 Tryd.results94 (v := .pointer (some ((ba va).add (i * 5)))) rfl ?_
 intro w hw
 exact ⟨by rw [show optP va cm kd = some ((ba va).add (i * 5)) from by unfold optP idxC; rw [hf]; rfl], st_mask [false, false] rfl hw⟩
set_option maxHeartbeats 4000000 in
theorem body_ok (β : Base) (w : World) (hw : St β [] w) (id : Int) (va : Option Addr) (vc : Nat) (cm : List KComp) (hs : Sl CompR β.heap (sB va cm vc) cm) : Calls Tryd.prog 60 #[.agg #[Ix id, sB va cm vc]] w fun r w' => r = .returned (.tuple #[.agg (bC (bodyD id cm)), .bool (bodyOf id cm).isSome]) ∧ St β [] w' := by
 obtain ⟨-, vl, vm, ve⟩ := Sl.parts hs
 refine enter (n := 77) Tryd.func60 rfl Tryd.ntmps60 rfl ?_ hw
 refine csr ?_
 refine l_mv rfl rfl rfl (m_box (v := .agg #[Ix (id), sB va cm (vc)]) rfl) ?_
 rintro _ _ ⟨b1, rfl, rfl⟩
 refine l_mv rfl rfl rfl (m_alloc tf58) ?_
 rintro _ _ ⟨b2, rfl, rfl⟩
 refine lv (v := .bool false) e_assign ?_
 refine lnf ?_
 refine c_seq ?_
 refine c_quiet (by kernel_rfl) (by kernel_rfl) ?_
 refine q_val (v := .agg #[Ix (id), sB va cm (vc)]) rfl rfl rfl (e_load tg121 rfl (k_pt 1 rfl rfl) rfl) ?_
 refine q_call (v := .pointer (optP va cm 1)) rfl rfl rfl (cl0 (vs := [.agg #[Ix (id), sB va cm (vc)], .int .u8 (1)]) tg122 rfl rfl) (fun w hw => ?_) ?_
 ·obtain ⟨β1, sb, kn, hw1, back⟩ := St.frame_all hw
  exact (first_ok β1 w hw1 (id) va vc cm (Sl.mono _ _ _ _ _ sb hs) 1).mono (fun e w' ⟨he, hw'⟩ => ⟨he, st_mask [true, true] rfl (back _ _ hw')⟩)
 refine q_val (v := .agg #[Ix (id), sB va cm (vc)]) rfl rfl rfl (e_load tg121 rfl (k_pt 1 rfl rfl) rfl) ?_
 refine q_call (v := .pointer (optP va cm 3)) rfl rfl rfl (cl0 (vs := [.agg #[Ix (id), sB va cm (vc)], .int .u8 (3)]) tg122 rfl rfl) (fun w hw => ?_) ?_
 ·obtain ⟨β1, sb, kn, hw1, back⟩ := St.frame_all hw
  exact (first_ok β1 w hw1 (id) va vc cm (Sl.mono _ _ _ _ _ sb hs) 3).mono (fun e w' ⟨he, hw'⟩ => ⟨he, st_mask [true, true] rfl (back _ _ hw')⟩)
 refine q_val (v := .agg #[Ix (id), sB va cm (vc)]) rfl rfl rfl (e_load tg121 rfl (k_pt 1 rfl rfl) rfl) ?_
 refine q_call (v := .pointer (optP va cm 2)) rfl rfl rfl (cl0 (vs := [.agg #[Ix (id), sB va cm (vc)], .int .u8 (2)]) tg122 rfl rfl) (fun w hw => ?_) ?_
 ·obtain ⟨β1, sb, kn, hw1, back⟩ := St.frame_all hw
  exact (first_ok β1 w hw1 (id) va vc cm (Sl.mono _ _ _ _ _ sb hs) 2).mono (fun e w' ⟨he, hw'⟩ => ⟨he, st_mask [true, true] rfl (back _ _ hw')⟩)
 refine q_val (v := .pointer (optP va cm 1)) rfl rfl rfl e_assign ?_
 refine q_val (v := .pointer (optP va cm 3)) rfl rfl rfl e_assign ?_
 refine q_val (v := .pointer (optP va cm 2)) rfl rfl rfl e_assign ?_
 refine q_nil ?_
 refine fts ?_
 refine csr ?_
 refine lv (v := .pointer (optP va cm 1)) e_move ?_
 refine lv (v := .bool ((optP va cm 1).isNone)) (e_eql_pnil (p := optP va cm 1) rfl rfl tg123) ?_
 refine lv (v := .bool ((optP va cm 1).isNone)) e_move ?_
 refine l_splitb (s := 16) (b := (optP va cm 1).isNone) rfl (fun hg3 => ?_) (fun hg3 => ?_)
 ·obtain ⟨-, hp1, hf1⟩ := optP_none hg3
  refine l_skip rfl rfl rfl rfl rfl rfl ?_
  refine l_skip rfl rfl rfl rfl rfl rfl ?_
  refine lv (v := .bool true) (e_pick_t rfl) ?_
  refine lnf ?_
  refine c_yes rfl ?_
  refine csr ?_
  refine lv (v := .agg #[.int .i64 (0), .int .i64 (0), .int .i64 (0), .int .i64 (0), .int .i64 (0), .int .i64 (0), .int .i64 (0), .bool false, .bool false]) (e_build tf58 tf102 (vs := []) (cells := #[.int .i64 (0), .int .i64 (0), .int .i64 (0), .int .i64 (0), .int .i64 (0), .int .i64 (0), .int .i64 (0), .bool false, .bool false]) rfl (by kernel_rfl)) ?_
  refine lu (m_store 0 tf22 (cs' := #[.int .i64 (0), .int .i64 (0), .int .i64 (0), .int .i64 (0), .int .i64 (0), .int .i64 (0), .int .i64 (0), .bool false, .bool false]) rfl rfl rfl rfl rfl rfl rfl) ?_
  refine lv (v := .bool false) e_assign ?_
  refine lnf ?_
  refine c_ret ?_
  refine f_then_ret ?_
  refine retG (m := [.agg #[.int .i64 (0), .int .i64 (0), .int .i64 (0), .int .i64 (0), .int .i64 (0), .int .i64 (0), .int .i64 (0), .bool false, .bool false], .bool false]) Tryd.results60 ⟨rd_cell tf22 rfl (k_pt 0 rfl rfl) rfl, rd_tmp (v := .bool false) rfl, trivial⟩ rfl ?_
  intro w hw
  exact ⟨body_ret_none (body_no1 hf1), st_mask [false, false] rfl hw⟩
 obtain ⟨i1, c1, hi1, hk1, hx1, hp1, hf1⟩ := optP_some hg3
 obtain ⟨ha1, cs1, hc1, rfl⟩ := ve _ _ hi1
 rw [hp1]
 refine g_val (v := .pointer (optP va cm 3)) rfl rfl rfl rfl rfl e_move ?_
 refine g_val (v := .bool ((optP va cm 3).isNone)) rfl rfl rfl rfl rfl (e_eql_pnil (p := optP va cm 3) rfl rfl tg123) ?_
 refine lv (v := .bool ((optP va cm 3).isNone)) (e_pick_f rfl) ?_
 refine lnf ?_
 refine c_ifb ((optP va cm 3).isNone) rfl (fun hc4 => ?_) (fun hc4 => ?_)
 ·obtain ⟨-, hp3, hf3⟩ := optP_none hc4
  refine csr ?_
  refine lv (v := .agg #[.int .i64 (0), .int .i64 (0), .int .i64 (0), .int .i64 (0), .int .i64 (0), .int .i64 (0), .int .i64 (0), .bool false, .bool false]) (e_build tf58 tf102 (vs := []) (cells := #[.int .i64 (0), .int .i64 (0), .int .i64 (0), .int .i64 (0), .int .i64 (0), .int .i64 (0), .int .i64 (0), .bool false, .bool false]) rfl (by kernel_rfl)) ?_
  refine lu (m_store 0 tf22 (cs' := #[.int .i64 (0), .int .i64 (0), .int .i64 (0), .int .i64 (0), .int .i64 (0), .int .i64 (0), .int .i64 (0), .bool false, .bool false]) rfl rfl rfl rfl rfl rfl rfl) ?_
  refine lv (v := .bool false) e_assign ?_
  refine lnf ?_
  refine c_ret ?_
  refine f_then_ret ?_
  refine retG (m := [.agg #[.int .i64 (0), .int .i64 (0), .int .i64 (0), .int .i64 (0), .int .i64 (0), .int .i64 (0), .int .i64 (0), .bool false, .bool false], .bool false]) Tryd.results60 ⟨rd_cell tf22 rfl (k_pt 0 rfl rfl) rfl, rd_tmp (v := .bool false) rfl, trivial⟩ rfl ?_
  intro w hw
  exact ⟨body_ret_none (body_no3 hf3), st_mask [false, false] rfl hw⟩
 obtain ⟨i3, c3, hi3, hk3, hx3, hp3, hf3⟩ := optP_some hc4
 obtain ⟨ha3, cs3, hc3, rfl⟩ := ve _ _ hi3
 rw [hp3]
 refine csk ?_
 refine c_seq ?_
 rcases Decidable.em (c3.v3 = 1) with hfx | hfx
 ·refine c_any [⟨[], [], [0], [21], fun f => f 21 = pp b1 0⟩, ⟨[0], [0], [], [22], fun f => f 22 = Ix (id)⟩, ⟨[], [], [1], [23], fun f => f 23 = .pointer (some ((ba va).add (i1 * 5)))⟩, ⟨[2], [2], [], [24], fun f => f 24 = .pointer (some ((ba va).add (i1 * 5)))⟩, ⟨[2, 3], [3], [], [25], fun f => f 25 = .pointer (some (((ba va).add (i1 * 5) : Addr).add 1))⟩, ⟨[2, 3, 4], [4], [], [26], fun f => f 26 = .pointer (some ((((ba va).add (i1 * 5) : Addr).add 1 : Addr).add (0 * 1)))⟩, ⟨[2, 3, 4, 5], [5], [], [27], fun f => f 27 = Ix (c1.v0)⟩, ⟨[], [], [1], [28], fun f => f 28 = .pointer (some ((ba va).add (i1 * 5)))⟩, ⟨[7], [7], [], [29], fun f => f 29 = .pointer (some ((ba va).add (i1 * 5)))⟩, ⟨[7, 8], [8], [], [30], fun f => f 30 = .pointer (some (((ba va).add (i1 * 5) : Addr).add 1))⟩, ⟨[7, 8, 9], [9], [], [31], fun f => f 31 = .pointer (some ((((ba va).add (i1 * 5) : Addr).add 1 : Addr).add (1 * 1)))⟩, ⟨[7, 8, 9, 10], [10], [], [32], fun f => f 32 = Ix (c1.v1)⟩, ⟨[2, 3, 4, 5, 6, 7, 8, 9, 10, 11], [6, 11], [], [33], fun f => f 33 = .agg #[Ix (c1.v0), Ix (c1.v1)]⟩, ⟨[], [], [2], [34], fun f => f 34 = .pointer (some ((ba va).add (i3 * 5)))⟩, ⟨[13], [13], [], [35], fun f => f 35 = .pointer (some ((ba va).add (i3 * 5)))⟩, ⟨[13, 14], [14], [], [36], fun f => f 36 = .pointer (some (((ba va).add (i3 * 5) : Addr).add 1))⟩, ⟨[13, 14, 15], [15], [], [37], fun f => f 37 = .pointer (some ((((ba va).add (i3 * 5) : Addr).add 1 : Addr).add (0 * 1)))⟩, ⟨[13, 14, 15, 16], [16], [], [38], fun f => f 38 = Ix (c3.v0)⟩, ⟨[], [], [2], [39], fun f => f 39 = .pointer (some ((ba va).add (i3 * 5)))⟩, ⟨[18], [18], [], [40], fun f => f 40 = .pointer (some ((ba va).add (i3 * 5)))⟩, ⟨[18, 19], [19], [], [41], fun f => f 41 = .pointer (some (((ba va).add (i3 * 5) : Addr).add 1))⟩, ⟨[18, 19, 20], [20], [], [42], fun f => f 42 = .pointer (some ((((ba va).add (i3 * 5) : Addr).add 1 : Addr).add (1 * 1)))⟩, ⟨[18, 19, 20, 21], [21], [], [43], fun f => f 43 = Ix (c3.v1)⟩, ⟨[], [], [2], [44], fun f => f 44 = .pointer (some ((ba va).add (i3 * 5)))⟩, ⟨[23], [23], [], [45], fun f => f 45 = .pointer (some ((ba va).add (i3 * 5)))⟩, ⟨[23, 24], [24], [], [46], fun f => f 46 = .pointer (some (((ba va).add (i3 * 5) : Addr).add 1))⟩, ⟨[23, 24, 25], [25], [], [47], fun f => f 47 = .pointer (some ((((ba va).add (i3 * 5) : Addr).add 1 : Addr).add (2 * 1)))⟩, ⟨[23, 24, 25, 26], [26], [], [48], fun f => f 48 = Ix (c3.v2)⟩, ⟨[23, 24, 25, 26, 27], [27], [], [49], fun f => f 49 = .bool (decide ((c3.v2) = (1 : Int)))⟩, ⟨[], [], [2], [50], fun f => f 50 = .pointer (some ((ba va).add (i3 * 5)))⟩, ⟨[29], [29], [], [51], fun f => f 51 = .pointer (some ((ba va).add (i3 * 5)))⟩, ⟨[29, 30], [30], [], [52], fun f => f 52 = .pointer (some (((ba va).add (i3 * 5) : Addr).add 1))⟩, ⟨[29, 30, 31], [31], [], [53], fun f => f 53 = .pointer (some ((((ba va).add (i3 * 5) : Addr).add 1 : Addr).add (3 * 1)))⟩, ⟨[29, 30, 31, 32], [32], [], [54], fun f => f 54 = Ix (c3.v3)⟩, ⟨[29, 30, 31, 32, 33], [33], [], [55], fun f => f 55 = .bool true⟩, ⟨[29, 30, 31, 32, 33, 34], [34], [], [56], fun f => f 56 = .bool true⟩, ⟨[29, 30, 31, 32, 33, 34, 35], [35], [3], [57], fun f => f 57 = undef⟩, ⟨[29, 30, 31, 32, 33, 34, 35, 36], [36, 35], [], [58], fun f => f 58 = undef⟩, ⟨[29, 30, 31, 32, 33, 34, 35, 36, 37], [35, 37], [], [59], fun f => f 59 = .bool true⟩, ⟨(List.range 39), [1, 12, 17, 22, 28, 38], [], [60], fun f => f 60 = .agg #[Ix (id), Ix (c1.v0), Ix (c1.v1), .int .i64 (0), .int .i64 (0), Ix (c3.v0), Ix (c3.v1), .bool (decide ((c3.v2) = (1 : Int))), .bool true]⟩, ⟨[], [], [], [7], fun f => f 7 = .pointer (some ⟨(blk (f 7)), 0, none⟩)⟩, ⟨(List.range 41), [40, 39], [], [], fun _ => True⟩] [⟨none, none, [], [], fun _ => pt b2 (.cells #[.int .i64 (0), .int .i64 (0), .int .i64 (0), .int .i64 (0), .int .i64 (0), .int .i64 (0), .int .i64 (0), .bool false, .bool false] 31)⟩, ⟨none, none, [1], [], fun _ => pt b1 (.cells #[Ix (id), sB va cm (vc)] 76)⟩, ⟨(some 40), (some 41), [41], [7], fun f => pt (blk (f 7)) (.cells #[.int .i64 (0), .int .i64 (0), .int .i64 (0), .int .i64 (0), .int .i64 (0), .int .i64 (0), .int .i64 (0), .bool false, .bool false] 31)⟩, ⟨(some 41), none, [], [7], fun f => pt (blk (f 7)) (.cells #[Ix (id), Ix (c1.v0), Ix (c1.v1), .int .i64 (0), .int .i64 (0), Ix (c3.v0), Ix (c3.v1), .bool (decide ((c3.v2) = (1 : Int))), .bool true] 31)⟩] [(1, pp b1 0), (4, .pointer (some ((ba va).add (i1 * 5)))), (5, .pointer (some ((ba va).add (i3 * 5)))), (6, .pointer (optP va cm 2)), (2, pp b2 0)] [4, 3] [] (by kernel_rfl) (by kernel_rfl) (by kernel_rfl) (by kernel_rfl) rfl ⟨rfl, rfl, rfl, rfl, rfl, trivial⟩ ⟨?_, ?_, ?_, ?_, ?_, ?_, ?_, ?_, ?_, ?_, ?_, ?_, ?_, ?_, ?_, ?_, ?_, ?_, ?_, ?_, ?_, ?_, ?_, ?_, ?_, ?_, ?_, ?_, ?_, ?_, ?_, ?_, ?_, ?_, ?_, ?_, ?_, ?_, ?_, ?_, ?_, ?_, trivial⟩ ?_
  ·rintro f M - ⟨i0, -⟩
   exact ob0 (up_cons (d := 1) rfl i0) rfl (e_fieldPt rfl tg124) (.refl _)
  ·rintro f M ⟨k0, -⟩ -
   exact obv (L' := pt b1 (.cells #[Ix (id), sB va cm (vc)] 76) :: M) (up_cons (d := 21) rfl k0) rfl (e_load1 tf2 rfl (k_pt 0 rfl rfl)) (perm_front 0 rfl) (by rfl)
  ·rintro f M - ⟨i0, -⟩
   exact ob0 (up_cons (d := 4) rfl i0) rfl e_move (.refl _)
  ·rintro f M ⟨k0, -⟩ -
   exact ob0 (up_cons (d := 23) rfl k0) rfl (e_nil (a := (ba va).add (i1 * 5)) rfl) (.refl _)
  ·rintro f M ⟨k0, -⟩ -
   exact ob0 (up_cons (d := 24) rfl k0) rfl (e_fieldAddr (a := (ba va).add (i1 * 5)) rfl tg125) (.refl _)
  ·rintro f M ⟨k0, -⟩ -
   exact ob0 (up_cons (d := 25) rfl k0) rfl (e_indexArr (a := ((ba va).add (i1 * 5) : Addr).add 1) (k := 0) rfl rfl tg126 (by decide)) (.refl _)
  ·rintro f M ⟨k0, -⟩ -
   exact ob0 (up_cons (d := 26) rfl k0) rfl (e_load1 tf2 rfl (Knows.imp (Knows.imp (kB hc1) (fun _ h => Cs.sub (vs := [Ix (c1.v0), Ix (c1.v1), Ix (c1.v2), Ix (c1.v3)]) 1 h rfl)) (fun _ h => Cs.sub (vs := [Ix (c1.v0)]) (0 * 1) h rfl))) (.refl _)
  ·rintro f M - ⟨i0, -⟩
   exact ob0 (up_cons (d := 4) rfl i0) rfl e_move (.refl _)
  ·rintro f M ⟨k0, -⟩ -
   exact ob0 (up_cons (d := 28) rfl k0) rfl (e_nil (a := (ba va).add (i1 * 5)) rfl) (.refl _)
  ·rintro f M ⟨k0, -⟩ -
   exact ob0 (up_cons (d := 29) rfl k0) rfl (e_fieldAddr (a := (ba va).add (i1 * 5)) rfl tg125) (.refl _)
  ·rintro f M ⟨k0, -⟩ -
   exact ob0 (up_cons (d := 30) rfl k0) rfl (e_indexArr (a := ((ba va).add (i1 * 5) : Addr).add 1) (k := 1) rfl rfl tg126 (by decide)) (.refl _)
  ·rintro f M ⟨k0, -⟩ -
   exact ob0 (up_cons (d := 31) rfl k0) rfl (e_load1 tf2 rfl (Knows.imp (Knows.imp (kB hc1) (fun _ h => Cs.sub (vs := [Ix (c1.v0), Ix (c1.v1), Ix (c1.v2), Ix (c1.v3)]) 1 h rfl)) (fun _ h => Cs.sub (vs := [Ix (c1.v1)]) (1 * 1) h rfl))) (.refl _)
  ·rintro f M ⟨k0, k1, -⟩ -
   exact ob0 (up_cons (d := 32) (up_cons (d := 27) rfl k0) k1) rfl (e_build tf17 tf16 (vs := [(0, Ix (c1.v0)), (1, Ix (c1.v1))]) (cells := #[Ix (c1.v0), Ix (c1.v1)]) rfl rfl) (.refl _)
  ·rintro f M - ⟨i0, -⟩
   exact ob0 (up_cons (d := 5) rfl i0) rfl e_move (.refl _)
  ·rintro f M ⟨k0, -⟩ -
   exact ob0 (up_cons (d := 34) rfl k0) rfl (e_nil (a := (ba va).add (i3 * 5)) rfl) (.refl _)
  ·rintro f M ⟨k0, -⟩ -
   exact ob0 (up_cons (d := 35) rfl k0) rfl (e_fieldAddr (a := (ba va).add (i3 * 5)) rfl tg125) (.refl _)
  ·rintro f M ⟨k0, -⟩ -
   exact ob0 (up_cons (d := 36) rfl k0) rfl (e_indexArr (a := ((ba va).add (i3 * 5) : Addr).add 1) (k := 0) rfl rfl tg126 (by decide)) (.refl _)
  ·rintro f M ⟨k0, -⟩ -
   exact ob0 (up_cons (d := 37) rfl k0) rfl (e_load1 tf2 rfl (Knows.imp (Knows.imp (kB hc3) (fun _ h => Cs.sub (vs := [Ix (c3.v0), Ix (c3.v1), Ix (c3.v2), Ix (c3.v3)]) 1 h rfl)) (fun _ h => Cs.sub (vs := [Ix (c3.v0)]) (0 * 1) h rfl))) (.refl _)
  ·rintro f M - ⟨i0, -⟩
   exact ob0 (up_cons (d := 5) rfl i0) rfl e_move (.refl _)
  ·rintro f M ⟨k0, -⟩ -
   exact ob0 (up_cons (d := 39) rfl k0) rfl (e_nil (a := (ba va).add (i3 * 5)) rfl) (.refl _)
  ·rintro f M ⟨k0, -⟩ -
   exact ob0 (up_cons (d := 40) rfl k0) rfl (e_fieldAddr (a := (ba va).add (i3 * 5)) rfl tg125) (.refl _)
  ·rintro f M ⟨k0, -⟩ -
   exact ob0 (up_cons (d := 41) rfl k0) rfl (e_indexArr (a := ((ba va).add (i3 * 5) : Addr).add 1) (k := 1) rfl rfl tg126 (by decide)) (.refl _)
  ·rintro f M ⟨k0, -⟩ -
   exact ob0 (up_cons (d := 42) rfl k0) rfl (e_load1 tf2 rfl (Knows.imp (Knows.imp (kB hc3) (fun _ h => Cs.sub (vs := [Ix (c3.v0), Ix (c3.v1), Ix (c3.v2), Ix (c3.v3)]) 1 h rfl)) (fun _ h => Cs.sub (vs := [Ix (c3.v1)]) (1 * 1) h rfl))) (.refl _)
  ·rintro f M - ⟨i0, -⟩
   exact ob0 (up_cons (d := 5) rfl i0) rfl e_move (.refl _)
  ·rintro f M ⟨k0, -⟩ -
   exact ob0 (up_cons (d := 44) rfl k0) rfl (e_nil (a := (ba va).add (i3 * 5)) rfl) (.refl _)
  ·rintro f M ⟨k0, -⟩ -
   exact ob0 (up_cons (d := 45) rfl k0) rfl (e_fieldAddr (a := (ba va).add (i3 * 5)) rfl tg125) (.refl _)
  ·rintro f M ⟨k0, -⟩ -
   exact ob0 (up_cons (d := 46) rfl k0) rfl (e_indexArr (a := ((ba va).add (i3 * 5) : Addr).add 1) (k := 2) rfl rfl tg126 (by decide)) (.refl _)
  ·rintro f M ⟨k0, -⟩ -
   exact ob0 (up_cons (d := 47) rfl k0) rfl (e_load1 tf2 rfl (Knows.imp (Knows.imp (kB hc3) (fun _ h => Cs.sub (vs := [Ix (c3.v0), Ix (c3.v1), Ix (c3.v2), Ix (c3.v3)]) 1 h rfl)) (fun _ h => Cs.sub (vs := [Ix (c3.v2)]) (2 * 1) h rfl))) (.refl _)
  ·rintro f M ⟨k0, -⟩ -
   exact ob0 (up_cons (d := 48) rfl k0) rfl (e_eql (a := (c3.v2)) (b := (1 : Int)) rfl rfl) (.refl _)
  ·rintro f M - ⟨i0, -⟩
   exact ob0 (up_cons (d := 5) rfl i0) rfl e_move (.refl _)
  ·rintro f M ⟨k0, -⟩ -
   exact ob0 (up_cons (d := 50) rfl k0) rfl (e_nil (a := (ba va).add (i3 * 5)) rfl) (.refl _)
  ·rintro f M ⟨k0, -⟩ -
   exact ob0 (up_cons (d := 51) rfl k0) rfl (e_fieldAddr (a := (ba va).add (i3 * 5)) rfl tg125) (.refl _)
  ·rintro f M ⟨k0, -⟩ -
   exact ob0 (up_cons (d := 52) rfl k0) rfl (e_indexArr (a := ((ba va).add (i3 * 5) : Addr).add 1) (k := 3) rfl rfl tg126 (by decide)) (.refl _)
  ·rintro f M ⟨k0, -⟩ -
   exact ob0 (up_cons (d := 53) rfl k0) rfl (e_load1 tf2 rfl (Knows.imp (Knows.imp (kB hc3) (fun _ h => Cs.sub (vs := [Ix (c3.v0), Ix (c3.v1), Ix (c3.v2), Ix (c3.v3)]) 1 h rfl)) (fun _ h => Cs.sub (vs := [Ix (c3.v3)]) (3 * 1) h rfl))) (.refl _)
  ·rintro f M ⟨k0, -⟩ -
   exact ob0 (up_cons (d := 54) rfl k0) rfl ((ev_t hfx (e_eql (a := (c3.v3)) (b := (1 : Int)) rfl rfl))) (.refl _)
  ·rintro f M ⟨k0, -⟩ -
   exact ob0 (up_cons (d := 55) rfl k0) rfl e_move (.refl _)
  ·rintro f M ⟨k0, -⟩ ⟨i0, -⟩
   exact obs (up_cons (d := 56) (up_cons (d := 6) rfl i0) k0) rfl rfl rfl rfl (.refl _)
  ·rintro f M ⟨k0, k1, -⟩ -
   exact obs (up_cons (d := 56) (up_cons (d := 57) rfl k0) k1) rfl rfl rfl rfl (.refl _)
  ·rintro f M ⟨k0, k1, -⟩ -
   exact ob0 (up_cons (d := 58) (up_cons (d := 56) rfl k0) k1) rfl (e_pick_t rfl) (.refl _)
  ·rintro f M ⟨k0, k1, k2, k3, k4, k5, -⟩ -
   exact ob0 (up_cons (d := 59) (up_cons (d := 49) (up_cons (d := 43) (up_cons (d := 38) (up_cons (d := 33) (up_cons (d := 22) rfl k0) k1) k2) k3) k4) k5) rfl (e_build tf58 tf102 (vs := [(0, Ix (id)), (1, .agg #[Ix (c1.v0), Ix (c1.v1)]), (3, Ix (c3.v0)), (4, Ix (c3.v1)), (5, .bool (decide ((c3.v2) = (1 : Int)))), (6, .bool true)]) (cells := #[Ix (id), Ix (c1.v0), Ix (c1.v1), .int .i64 (0), .int .i64 (0), Ix (c3.v0), Ix (c3.v1), .bool (decide ((c3.v2) = (1 : Int))), .bool true]) rfl (by kernel_rfl)) (.refl _)
  ·rintro f M - -
   refine ob_start (L' := M) (by rfl) rfl ?_
   refine l_mv rfl rfl rfl (m_alloc tf58) ?_
   rintro _ _ ⟨b6, rfl, rfl⟩
   refine l_nil ?_
   exact f_owes_d rfl rfl (perm_front 0 rfl)
  ·rintro f M ⟨k0, k1, -⟩ -
   have hs7 : f 7 = .pointer (some ⟨(blk (f 7)), 0, none⟩) := k0
   refine ob_start (L' := pt (blk (f 7)) (.cells #[.int .i64 (0), .int .i64 (0), .int .i64 (0), .int .i64 (0), .int .i64 (0), .int .i64 (0), .int .i64 (0), .bool false, .bool false] 31) :: M) (by rfl) (up_cons (d := 60) (up_cons rfl hs7) k1) ?_
   refine lu (m_store 0 tf22 (cs' := #[Ix (id), Ix (c1.v0), Ix (c1.v1), .int .i64 (0), .int .i64 (0), Ix (c3.v0), Ix (c3.v1), .bool (decide ((c3.v2) = (1 : Int))), .bool true]) rfl rfl rfl rfl rfl rfl rfl) ?_
   refine l_nil ?_
   exact f_owes_n (up_cons (d := 60) (up_cons rfl hs7) k1) trivial (perm_front 0 rfl)
  rintro fa7 ⟨-, -, -, -, -, -, -, -, -, -, -, -, -, -, -, -, -, -, -, -, -, -, -, -, -, -, -, -, -, -, -, -, -, -, -, -, -, -, -, -, k40, -, -⟩ ⟨j0, j1, -⟩
  refine f_re (L' := [pt b2 (.cells #[.int .i64 (0), .int .i64 (0), .int .i64 (0), .int .i64 (0), .int .i64 (0), .int .i64 (0), .int .i64 (0), .bool false, .bool false] 31), pt b1 (.cells #[Ix (id), sB va cm (vc)] 76), pt (blk (fa7 7)) (.cells #[Ix (id), Ix (c1.v0), Ix (c1.v1), .int .i64 (0), .int .i64 (0), Ix (c3.v0), Ix (c3.v1), .bool (decide ((c3.v2) = (1 : Int))), .bool true] 31)]) (by rfl) ?_
  refine f_rebase (d := 2) j0 ?_
  refine f_rebase (d := 6) j1 ?_
  refine f_rebase (d := 7) k40 ?_
  refine fts ?_
  refine csr ?_
  refine lv (v := .pointer (some ⟨(blk (fa7 7)), 8, none⟩)) (e_fieldPt rfl tf14) ?_
  refine lv (v := .bool true) (e_load1 tf13 rfl (k_pt 2 rfl rfl)) ?_
  refine lv (v := .bool false) (e_not (a := true) rfl) ?_
  refine lnf ?_
  refine c_no rfl ?_
  refine csk ?_
  refine csr ?_
  refine lv (v := .agg #[Ix (id), Ix (c1.v0), Ix (c1.v1), .int .i64 (0), .int .i64 (0), Ix (c3.v0), Ix (c3.v1), .bool (decide ((c3.v2) = (1 : Int))), .bool true]) (e_load tf22 rfl (k_pt 2 rfl rfl) rfl) ?_
  refine lu (m_store 0 tf22 (cs' := #[Ix (id), Ix (c1.v0), Ix (c1.v1), .int .i64 (0), .int .i64 (0), Ix (c3.v0), Ix (c3.v1), .bool (decide ((c3.v2) = (1 : Int))), .bool true]) rfl rfl rfl rfl rfl rfl rfl) ?_
  refine lv (v := .bool true) e_assign ?_
  refine lnf ?_
  refine c_ret ?_
  refine retG (m := [.agg #[Ix (id), Ix (c1.v0), Ix (c1.v1), .int .i64 (0), .int .i64 (0), Ix (c3.v0), Ix (c3.v1), .bool (decide ((c3.v2) = (1 : Int))), .bool true], .bool true]) Tryd.results60 ⟨rd_cell tf22 rfl (k_pt 0 rfl rfl) rfl, rd_tmp (v := .bool true) rfl, trivial⟩ rfl ?_
  intro w hw
  exact ⟨body_ret_some (body_fix hf1 hf3 (.inl hfx)), st_mask [false, false, false] rfl hw⟩
 rcases hv : (optP va cm 2).isNone with _ | _
 ·obtain ⟨i2, c2, hi2, hk2, hx2, hp2, hf2⟩ := optP_some hv
  obtain ⟨ha2, cs2, hc2, rfl⟩ := ve _ _ hi2
  rw [hp2]
  refine c_any [⟨[], [], [0], [21], fun f => f 21 = pp b1 0⟩, ⟨[0], [0], [], [22], fun f => f 22 = Ix (id)⟩, ⟨[], [], [1], [23], fun f => f 23 = .pointer (some ((ba va).add (i1 * 5)))⟩, ⟨[2], [2], [], [24], fun f => f 24 = .pointer (some ((ba va).add (i1 * 5)))⟩, ⟨[2, 3], [3], [], [25], fun f => f 25 = .pointer (some (((ba va).add (i1 * 5) : Addr).add 1))⟩, ⟨[2, 3, 4], [4], [], [26], fun f => f 26 = .pointer (some ((((ba va).add (i1 * 5) : Addr).add 1 : Addr).add (0 * 1)))⟩, ⟨[2, 3, 4, 5], [5], [], [27], fun f => f 27 = Ix (c1.v0)⟩, ⟨[], [], [1], [28], fun f => f 28 = .pointer (some ((ba va).add (i1 * 5)))⟩, ⟨[7], [7], [], [29], fun f => f 29 = .pointer (some ((ba va).add (i1 * 5)))⟩, ⟨[7, 8], [8], [], [30], fun f => f 30 = .pointer (some (((ba va).add (i1 * 5) : Addr).add 1))⟩, ⟨[7, 8, 9], [9], [], [31], fun f => f 31 = .pointer (some ((((ba va).add (i1 * 5) : Addr).add 1 : Addr).add (1 * 1)))⟩, ⟨[7, 8, 9, 10], [10], [], [32], fun f => f 32 = Ix (c1.v1)⟩, ⟨[2, 3, 4, 5, 6, 7, 8, 9, 10, 11], [6, 11], [], [33], fun f => f 33 = .agg #[Ix (c1.v0), Ix (c1.v1)]⟩, ⟨[], [], [2], [34], fun f => f 34 = .pointer (some ((ba va).add (i3 * 5)))⟩, ⟨[13], [13], [], [35], fun f => f 35 = .pointer (some ((ba va).add (i3 * 5)))⟩, ⟨[13, 14], [14], [], [36], fun f => f 36 = .pointer (some (((ba va).add (i3 * 5) : Addr).add 1))⟩, ⟨[13, 14, 15], [15], [], [37], fun f => f 37 = .pointer (some ((((ba va).add (i3 * 5) : Addr).add 1 : Addr).add (0 * 1)))⟩, ⟨[13, 14, 15, 16], [16], [], [38], fun f => f 38 = Ix (c3.v0)⟩, ⟨[], [], [2], [39], fun f => f 39 = .pointer (some ((ba va).add (i3 * 5)))⟩, ⟨[18], [18], [], [40], fun f => f 40 = .pointer (some ((ba va).add (i3 * 5)))⟩, ⟨[18, 19], [19], [], [41], fun f => f 41 = .pointer (some (((ba va).add (i3 * 5) : Addr).add 1))⟩, ⟨[18, 19, 20], [20], [], [42], fun f => f 42 = .pointer (some ((((ba va).add (i3 * 5) : Addr).add 1 : Addr).add (1 * 1)))⟩, ⟨[18, 19, 20, 21], [21], [], [43], fun f => f 43 = Ix (c3.v1)⟩, ⟨[], [], [2], [44], fun f => f 44 = .pointer (some ((ba va).add (i3 * 5)))⟩, ⟨[23], [23], [], [45], fun f => f 45 = .pointer (some ((ba va).add (i3 * 5)))⟩, ⟨[23, 24], [24], [], [46], fun f => f 46 = .pointer (some (((ba va).add (i3 * 5) : Addr).add 1))⟩, ⟨[23, 24, 25], [25], [], [47], fun f => f 47 = .pointer (some ((((ba va).add (i3 * 5) : Addr).add 1 : Addr).add (2 * 1)))⟩, ⟨[23, 24, 25, 26], [26], [], [48], fun f => f 48 = Ix (c3.v2)⟩, ⟨[23, 24, 25, 26, 27], [27], [], [49], fun f => f 49 = .bool (decide ((c3.v2) = (1 : Int)))⟩, ⟨[], [], [2], [50], fun f => f 50 = .pointer (some ((ba va).add (i3 * 5)))⟩, ⟨[29], [29], [], [51], fun f => f 51 = .pointer (some ((ba va).add (i3 * 5)))⟩, ⟨[29, 30], [30], [], [52], fun f => f 52 = .pointer (some (((ba va).add (i3 * 5) : Addr).add 1))⟩, ⟨[29, 30, 31], [31], [], [53], fun f => f 53 = .pointer (some ((((ba va).add (i3 * 5) : Addr).add 1 : Addr).add (3 * 1)))⟩, ⟨[29, 30, 31, 32], [32], [], [54], fun f => f 54 = Ix (c3.v3)⟩, ⟨[29, 30, 31, 32, 33], [33], [], [55], fun f => f 55 = .bool false⟩, ⟨[29, 30, 31, 32, 33, 34], [34], [], [56], fun f => f 56 = .bool false⟩, ⟨[29, 30, 31, 32, 33, 34, 35], [35], [3], [57], fun f => f 57 = .pointer (some ((ba va).add (i2 * 5)))⟩, ⟨[29, 30, 31, 32, 33, 34, 35, 36], [36, 35], [], [58], fun f => f 58 = .bool false⟩, ⟨[29, 30, 31, 32, 33, 34, 35, 36, 37], [35, 37], [], [59], fun f => f 59 = .bool false⟩, ⟨(List.range 39), [1, 12, 17, 22, 28, 38], [], [60], fun f => f 60 = .agg #[Ix (id), Ix (c1.v0), Ix (c1.v1), .int .i64 (0), .int .i64 (0), Ix (c3.v0), Ix (c3.v1), .bool (decide ((c3.v2) = (1 : Int))), .bool false]⟩, ⟨[], [], [], [7], fun f => f 7 = .pointer (some ⟨(blk (f 7)), 0, none⟩)⟩, ⟨(List.range 41), [40, 39], [], [], fun _ => True⟩] [⟨none, none, [], [], fun _ => pt b2 (.cells #[.int .i64 (0), .int .i64 (0), .int .i64 (0), .int .i64 (0), .int .i64 (0), .int .i64 (0), .int .i64 (0), .bool false, .bool false] 31)⟩, ⟨none, none, [1], [], fun _ => pt b1 (.cells #[Ix (id), sB va cm (vc)] 76)⟩, ⟨(some 40), (some 41), [41], [7], fun f => pt (blk (f 7)) (.cells #[.int .i64 (0), .int .i64 (0), .int .i64 (0), .int .i64 (0), .int .i64 (0), .int .i64 (0), .int .i64 (0), .bool false, .bool false] 31)⟩, ⟨(some 41), none, [], [7], fun f => pt (blk (f 7)) (.cells #[Ix (id), Ix (c1.v0), Ix (c1.v1), .int .i64 (0), .int .i64 (0), Ix (c3.v0), Ix (c3.v1), .bool (decide ((c3.v2) = (1 : Int))), .bool false] 31)⟩] [(1, pp b1 0), (4, .pointer (some ((ba va).add (i1 * 5)))), (5, .pointer (some ((ba va).add (i3 * 5)))), (6, .pointer (some ((ba va).add (i2 * 5)))), (2, pp b2 0)] [4, 3] [] (by kernel_rfl) (by kernel_rfl) (by kernel_rfl) (by kernel_rfl) rfl ⟨rfl, rfl, rfl, rfl, rfl, trivial⟩ ⟨?_, ?_, ?_, ?_, ?_, ?_, ?_, ?_, ?_, ?_, ?_, ?_, ?_, ?_, ?_, ?_, ?_, ?_, ?_, ?_, ?_, ?_, ?_, ?_, ?_, ?_, ?_, ?_, ?_, ?_, ?_, ?_, ?_, ?_, ?_, ?_, ?_, ?_, ?_, ?_, ?_, ?_, trivial⟩ ?_
  ·rintro f M - ⟨i0, -⟩
   exact ob0 (up_cons (d := 1) rfl i0) rfl (e_fieldPt rfl tg124) (.refl _)
  ·rintro f M ⟨k0, -⟩ -
   exact obv (L' := pt b1 (.cells #[Ix (id), sB va cm (vc)] 76) :: M) (up_cons (d := 21) rfl k0) rfl (e_load1 tf2 rfl (k_pt 0 rfl rfl)) (perm_front 0 rfl) (by rfl)
  ·rintro f M - ⟨i0, -⟩
   exact ob0 (up_cons (d := 4) rfl i0) rfl e_move (.refl _)
  ·rintro f M ⟨k0, -⟩ -
   exact ob0 (up_cons (d := 23) rfl k0) rfl (e_nil (a := (ba va).add (i1 * 5)) rfl) (.refl _)
  ·rintro f M ⟨k0, -⟩ -
   exact ob0 (up_cons (d := 24) rfl k0) rfl (e_fieldAddr (a := (ba va).add (i1 * 5)) rfl tg125) (.refl _)
  ·rintro f M ⟨k0, -⟩ -
   exact ob0 (up_cons (d := 25) rfl k0) rfl (e_indexArr (a := ((ba va).add (i1 * 5) : Addr).add 1) (k := 0) rfl rfl tg126 (by decide)) (.refl _)
  ·rintro f M ⟨k0, -⟩ -
   exact ob0 (up_cons (d := 26) rfl k0) rfl (e_load1 tf2 rfl (Knows.imp (Knows.imp (kB hc1) (fun _ h => Cs.sub (vs := [Ix (c1.v0), Ix (c1.v1), Ix (c1.v2), Ix (c1.v3)]) 1 h rfl)) (fun _ h => Cs.sub (vs := [Ix (c1.v0)]) (0 * 1) h rfl))) (.refl _)
  ·rintro f M - ⟨i0, -⟩
   exact ob0 (up_cons (d := 4) rfl i0) rfl e_move (.refl _)
  ·rintro f M ⟨k0, -⟩ -
   exact ob0 (up_cons (d := 28) rfl k0) rfl (e_nil (a := (ba va).add (i1 * 5)) rfl) (.refl _)
  ·rintro f M ⟨k0, -⟩ -
   exact ob0 (up_cons (d := 29) rfl k0) rfl (e_fieldAddr (a := (ba va).add (i1 * 5)) rfl tg125) (.refl _)
  ·rintro f M ⟨k0, -⟩ -
   exact ob0 (up_cons (d := 30) rfl k0) rfl (e_indexArr (a := ((ba va).add (i1 * 5) : Addr).add 1) (k := 1) rfl rfl tg126 (by decide)) (.refl _)
  ·rintro f M ⟨k0, -⟩ -
   exact ob0 (up_cons (d := 31) rfl k0) rfl (e_load1 tf2 rfl (Knows.imp (Knows.imp (kB hc1) (fun _ h => Cs.sub (vs := [Ix (c1.v0), Ix (c1.v1), Ix (c1.v2), Ix (c1.v3)]) 1 h rfl)) (fun _ h => Cs.sub (vs := [Ix (c1.v1)]) (1 * 1) h rfl))) (.refl _)
  ·rintro f M ⟨k0, k1, -⟩ -
   exact ob0 (up_cons (d := 32) (up_cons (d := 27) rfl k0) k1) rfl (e_build tf17 tf16 (vs := [(0, Ix (c1.v0)), (1, Ix (c1.v1))]) (cells := #[Ix (c1.v0), Ix (c1.v1)]) rfl rfl) (.refl _)
  ·rintro f M - ⟨i0, -⟩
   exact ob0 (up_cons (d := 5) rfl i0) rfl e_move (.refl _)
  ·rintro f M ⟨k0, -⟩ -
   exact ob0 (up_cons (d := 34) rfl k0) rfl (e_nil (a := (ba va).add (i3 * 5)) rfl) (.refl _)
  ·rintro f M ⟨k0, -⟩ -
   exact ob0 (up_cons (d := 35) rfl k0) rfl (e_fieldAddr (a := (ba va).add (i3 * 5)) rfl tg125) (.refl _)
  ·rintro f M ⟨k0, -⟩ -
   exact ob0 (up_cons (d := 36) rfl k0) rfl (e_indexArr (a := ((ba va).add (i3 * 5) : Addr).add 1) (k := 0) rfl rfl tg126 (by decide)) (.refl _)
  ·rintro f M ⟨k0, -⟩ -
   exact ob0 (up_cons (d := 37) rfl k0) rfl (e_load1 tf2 rfl (Knows.imp (Knows.imp (kB hc3) (fun _ h => Cs.sub (vs := [Ix (c3.v0), Ix (c3.v1), Ix (c3.v2), Ix (c3.v3)]) 1 h rfl)) (fun _ h => Cs.sub (vs := [Ix (c3.v0)]) (0 * 1) h rfl))) (.refl _)
  ·rintro f M - ⟨i0, -⟩
   exact ob0 (up_cons (d := 5) rfl i0) rfl e_move (.refl _)
  ·rintro f M ⟨k0, -⟩ -
   exact ob0 (up_cons (d := 39) rfl k0) rfl (e_nil (a := (ba va).add (i3 * 5)) rfl) (.refl _)
  ·rintro f M ⟨k0, -⟩ -
   exact ob0 (up_cons (d := 40) rfl k0) rfl (e_fieldAddr (a := (ba va).add (i3 * 5)) rfl tg125) (.refl _)
  ·rintro f M ⟨k0, -⟩ -
   exact ob0 (up_cons (d := 41) rfl k0) rfl (e_indexArr (a := ((ba va).add (i3 * 5) : Addr).add 1) (k := 1) rfl rfl tg126 (by decide)) (.refl _)
  ·rintro f M ⟨k0, -⟩ -
   exact ob0 (up_cons (d := 42) rfl k0) rfl (e_load1 tf2 rfl (Knows.imp (Knows.imp (kB hc3) (fun _ h => Cs.sub (vs := [Ix (c3.v0), Ix (c3.v1), Ix (c3.v2), Ix (c3.v3)]) 1 h rfl)) (fun _ h => Cs.sub (vs := [Ix (c3.v1)]) (1 * 1) h rfl))) (.refl _)
  ·rintro f M - ⟨i0, -⟩
   exact ob0 (up_cons (d := 5) rfl i0) rfl e_move (.refl _)
  ·rintro f M ⟨k0, -⟩ -
   exact ob0 (up_cons (d := 44) rfl k0) rfl (e_nil (a := (ba va).add (i3 * 5)) rfl) (.refl _)
  ·rintro f M ⟨k0, -⟩ -
   exact ob0 (up_cons (d := 45) rfl k0) rfl (e_fieldAddr (a := (ba va).add (i3 * 5)) rfl tg125) (.refl _)
  ·rintro f M ⟨k0, -⟩ -
   exact ob0 (up_cons (d := 46) rfl k0) rfl (e_indexArr (a := ((ba va).add (i3 * 5) : Addr).add 1) (k := 2) rfl rfl tg126 (by decide)) (.refl _)
  ·rintro f M ⟨k0, -⟩ -
   exact ob0 (up_cons (d := 47) rfl k0) rfl (e_load1 tf2 rfl (Knows.imp (Knows.imp (kB hc3) (fun _ h => Cs.sub (vs := [Ix (c3.v0), Ix (c3.v1), Ix (c3.v2), Ix (c3.v3)]) 1 h rfl)) (fun _ h => Cs.sub (vs := [Ix (c3.v2)]) (2 * 1) h rfl))) (.refl _)
  ·rintro f M ⟨k0, -⟩ -
   exact ob0 (up_cons (d := 48) rfl k0) rfl (e_eql (a := (c3.v2)) (b := (1 : Int)) rfl rfl) (.refl _)
  ·rintro f M - ⟨i0, -⟩
   exact ob0 (up_cons (d := 5) rfl i0) rfl e_move (.refl _)
  ·rintro f M ⟨k0, -⟩ -
   exact ob0 (up_cons (d := 50) rfl k0) rfl (e_nil (a := (ba va).add (i3 * 5)) rfl) (.refl _)
  ·rintro f M ⟨k0, -⟩ -
   exact ob0 (up_cons (d := 51) rfl k0) rfl (e_fieldAddr (a := (ba va).add (i3 * 5)) rfl tg125) (.refl _)
  ·rintro f M ⟨k0, -⟩ -
   exact ob0 (up_cons (d := 52) rfl k0) rfl (e_indexArr (a := ((ba va).add (i3 * 5) : Addr).add 1) (k := 3) rfl rfl tg126 (by decide)) (.refl _)
  ·rintro f M ⟨k0, -⟩ -
   exact ob0 (up_cons (d := 53) rfl k0) rfl (e_load1 tf2 rfl (Knows.imp (Knows.imp (kB hc3) (fun _ h => Cs.sub (vs := [Ix (c3.v0), Ix (c3.v1), Ix (c3.v2), Ix (c3.v3)]) 1 h rfl)) (fun _ h => Cs.sub (vs := [Ix (c3.v3)]) (3 * 1) h rfl))) (.refl _)
  ·rintro f M ⟨k0, -⟩ -
   exact ob0 (up_cons (d := 54) rfl k0) rfl ((ev_f hfx (e_eql (a := (c3.v3)) (b := (1 : Int)) rfl rfl))) (.refl _)
  ·rintro f M ⟨k0, -⟩ -
   exact ob0 (up_cons (d := 55) rfl k0) rfl e_move (.refl _)
  ·rintro f M ⟨k0, -⟩ ⟨i0, -⟩
   exact obg (L' := M) (v := .pointer (some ((ba va).add (i2 * 5)))) (up_cons (d := 56) (up_cons (d := 6) rfl i0) k0) e_move rfl rfl rfl rfl (.refl _) (by rfl)
  ·rintro f M ⟨k0, k1, -⟩ -
   exact obg (L' := M) (v := .bool false) (up_cons (d := 56) (up_cons (d := 57) rfl k0) k1) (e_eql_pnil (p := some ((ba va).add (i2 * 5))) rfl rfl tg123) rfl rfl rfl rfl (.refl _) (by rfl)
  ·rintro f M ⟨k0, k1, -⟩ -
   exact ob0 (up_cons (d := 58) (up_cons (d := 56) rfl k0) k1) rfl (e_pick_f rfl) (.refl _)
  ·rintro f M ⟨k0, k1, k2, k3, k4, k5, -⟩ -
   exact ob0 (up_cons (d := 59) (up_cons (d := 49) (up_cons (d := 43) (up_cons (d := 38) (up_cons (d := 33) (up_cons (d := 22) rfl k0) k1) k2) k3) k4) k5) rfl (e_build tf58 tf102 (vs := [(0, Ix (id)), (1, .agg #[Ix (c1.v0), Ix (c1.v1)]), (3, Ix (c3.v0)), (4, Ix (c3.v1)), (5, .bool (decide ((c3.v2) = (1 : Int)))), (6, .bool false)]) (cells := #[Ix (id), Ix (c1.v0), Ix (c1.v1), .int .i64 (0), .int .i64 (0), Ix (c3.v0), Ix (c3.v1), .bool (decide ((c3.v2) = (1 : Int))), .bool false]) rfl (by kernel_rfl)) (.refl _)
  ·rintro f M - -
   refine ob_start (L' := M) (by rfl) rfl ?_
   refine l_mv rfl rfl rfl (m_alloc tf58) ?_
   rintro _ _ ⟨b9, rfl, rfl⟩
   refine l_nil ?_
   exact f_owes_d rfl rfl (perm_front 0 rfl)
  ·rintro f M ⟨k0, k1, -⟩ -
   have hs7 : f 7 = .pointer (some ⟨(blk (f 7)), 0, none⟩) := k0
   refine ob_start (L' := pt (blk (f 7)) (.cells #[.int .i64 (0), .int .i64 (0), .int .i64 (0), .int .i64 (0), .int .i64 (0), .int .i64 (0), .int .i64 (0), .bool false, .bool false] 31) :: M) (by rfl) (up_cons (d := 60) (up_cons rfl hs7) k1) ?_
   refine lu (m_store 0 tf22 (cs' := #[Ix (id), Ix (c1.v0), Ix (c1.v1), .int .i64 (0), .int .i64 (0), Ix (c3.v0), Ix (c3.v1), .bool (decide ((c3.v2) = (1 : Int))), .bool false]) rfl rfl rfl rfl rfl rfl rfl) ?_
   refine l_nil ?_
   exact f_owes_n (up_cons (d := 60) (up_cons rfl hs7) k1) trivial (perm_front 0 rfl)
  rintro fa10 ⟨-, -, -, -, -, -, -, -, -, -, -, -, -, -, -, -, -, -, -, -, -, -, -, -, -, -, -, -, -, -, -, -, -, -, -, -, -, -, -, -, k40, -, -⟩ ⟨j0, j1, -⟩
  refine f_re (L' := [pt b2 (.cells #[.int .i64 (0), .int .i64 (0), .int .i64 (0), .int .i64 (0), .int .i64 (0), .int .i64 (0), .int .i64 (0), .bool false, .bool false] 31), pt b1 (.cells #[Ix (id), sB va cm (vc)] 76), pt (blk (fa10 7)) (.cells #[Ix (id), Ix (c1.v0), Ix (c1.v1), .int .i64 (0), .int .i64 (0), Ix (c3.v0), Ix (c3.v1), .bool (decide ((c3.v2) = (1 : Int))), .bool false] 31)]) (by rfl) ?_
  refine f_rebase (d := 2) j0 ?_
  refine f_rebase (d := 6) j1 ?_
  refine f_rebase (d := 7) k40 ?_
  refine fts ?_
  refine csr ?_
  refine lv (v := .pointer (some ⟨(blk (fa10 7)), 8, none⟩)) (e_fieldPt rfl tf14) ?_
  refine lv (v := .bool false) (e_load1 tf13 rfl (k_pt 2 rfl rfl)) ?_
  refine lv (v := .bool true) (e_not (a := false) rfl) ?_
  refine lnf ?_
  refine c_yes rfl ?_
  refine c_any [⟨[], [], [0], [64], fun f => f 64 = .pointer (some ((ba va).add (i2 * 5)))⟩, ⟨[0], [0], [], [65], fun f => f 65 = .pointer (some ((ba va).add (i2 * 5)))⟩, ⟨[0, 1], [1], [], [66], fun f => f 66 = .pointer (some (((ba va).add (i2 * 5) : Addr).add 1))⟩, ⟨[0, 1, 2], [2], [], [67], fun f => f 67 = .pointer (some ((((ba va).add (i2 * 5) : Addr).add 1 : Addr).add (0 * 1)))⟩, ⟨[0, 1, 2, 3], [3], [], [68], fun f => f 68 = Ix (c2.v0)⟩, ⟨[], [], [0], [69], fun f => f 69 = .pointer (some ((ba va).add (i2 * 5)))⟩, ⟨[5], [5], [], [70], fun f => f 70 = .pointer (some ((ba va).add (i2 * 5)))⟩, ⟨[5, 6], [6], [], [71], fun f => f 71 = .pointer (some (((ba va).add (i2 * 5) : Addr).add 1))⟩, ⟨[5, 6, 7], [7], [], [72], fun f => f 72 = .pointer (some ((((ba va).add (i2 * 5) : Addr).add 1 : Addr).add (1 * 1)))⟩, ⟨[5, 6, 7, 8], [8], [], [73], fun f => f 73 = Ix (c2.v1)⟩, ⟨(List.range 10), [4, 9], [], [74], fun f => f 74 = .agg #[Ix (c2.v0), Ix (c2.v1)]⟩, ⟨(List.range 11), [], [1], [75], fun f => f 75 = .pointer (some ⟨(blk (fa10 7)), 3, none⟩)⟩, ⟨(List.range 12), [11, 10], [], [], fun _ => True⟩] [⟨none, none, [], [], fun _ => pt b2 (.cells #[.int .i64 (0), .int .i64 (0), .int .i64 (0), .int .i64 (0), .int .i64 (0), .int .i64 (0), .int .i64 (0), .bool false, .bool false] 31)⟩, ⟨none, none, [], [], fun _ => pt b1 (.cells #[Ix (id), sB va cm (vc)] 76)⟩, ⟨none, (some 12), [12], [], fun _ => pt (blk (fa10 7)) (.cells #[Ix (id), Ix (c1.v0), Ix (c1.v1), .int .i64 (0), .int .i64 (0), Ix (c3.v0), Ix (c3.v1), .bool (decide ((c3.v2) = (1 : Int))), .bool false] 31)⟩, ⟨(some 12), none, [], [], fun _ => pt (blk (fa10 7)) (.cells #[Ix (id), Ix (c1.v0), Ix (c1.v1), Ix (c2.v0), Ix (c2.v1), Ix (c3.v0), Ix (c3.v1), .bool (decide ((c3.v2) = (1 : Int))), .bool false] 31)⟩] [(6, .pointer (some ((ba va).add (i2 * 5)))), (7, .pointer (some ⟨(blk (fa10 7)), 0, none⟩)), (2, pp b2 0)] [2, 1] [] (by kernel_rfl) (by kernel_rfl) (by kernel_rfl) (by kernel_rfl) rfl ⟨rfl, rfl, rfl, trivial⟩ ⟨?_, ?_, ?_, ?_, ?_, ?_, ?_, ?_, ?_, ?_, ?_, ?_, ?_, trivial⟩ ?_
  ·rintro f M - ⟨i0, -⟩
   exact ob0 (up_cons (d := 6) rfl i0) rfl e_move (.refl _)
  ·rintro f M ⟨k0, -⟩ -
   exact ob0 (up_cons (d := 64) rfl k0) rfl (e_nil (a := (ba va).add (i2 * 5)) rfl) (.refl _)
  ·rintro f M ⟨k0, -⟩ -
   exact ob0 (up_cons (d := 65) rfl k0) rfl (e_fieldAddr (a := (ba va).add (i2 * 5)) rfl tg125) (.refl _)
  ·rintro f M ⟨k0, -⟩ -
   exact ob0 (up_cons (d := 66) rfl k0) rfl (e_indexArr (a := ((ba va).add (i2 * 5) : Addr).add 1) (k := 0) rfl rfl tg126 (by decide)) (.refl _)
  ·rintro f M ⟨k0, -⟩ -
   exact ob0 (up_cons (d := 67) rfl k0) rfl (e_load1 tf2 rfl (Knows.imp (Knows.imp (kB hc2) (fun _ h => Cs.sub (vs := [Ix (c2.v0), Ix (c2.v1), Ix (c2.v2), Ix (c2.v3)]) 1 h rfl)) (fun _ h => Cs.sub (vs := [Ix (c2.v0)]) (0 * 1) h rfl))) (.refl _)
  ·rintro f M - ⟨i0, -⟩
   exact ob0 (up_cons (d := 6) rfl i0) rfl e_move (.refl _)
  ·rintro f M ⟨k0, -⟩ -
   exact ob0 (up_cons (d := 69) rfl k0) rfl (e_nil (a := (ba va).add (i2 * 5)) rfl) (.refl _)
  ·rintro f M ⟨k0, -⟩ -
   exact ob0 (up_cons (d := 70) rfl k0) rfl (e_fieldAddr (a := (ba va).add (i2 * 5)) rfl tg125) (.refl _)
  ·rintro f M ⟨k0, -⟩ -
   exact ob0 (up_cons (d := 71) rfl k0) rfl (e_indexArr (a := ((ba va).add (i2 * 5) : Addr).add 1) (k := 1) rfl rfl tg126 (by decide)) (.refl _)
  ·rintro f M ⟨k0, -⟩ -
   exact ob0 (up_cons (d := 72) rfl k0) rfl (e_load1 tf2 rfl (Knows.imp (Knows.imp (kB hc2) (fun _ h => Cs.sub (vs := [Ix (c2.v0), Ix (c2.v1), Ix (c2.v2), Ix (c2.v3)]) 1 h rfl)) (fun _ h => Cs.sub (vs := [Ix (c2.v1)]) (1 * 1) h rfl))) (.refl _)
  ·rintro f M ⟨k0, k1, -⟩ -
   exact ob0 (up_cons (d := 73) (up_cons (d := 68) rfl k0) k1) rfl (e_build tf17 tf16 (vs := [(0, Ix (c2.v0)), (1, Ix (c2.v1))]) (cells := #[Ix (c2.v0), Ix (c2.v1)]) rfl rfl) (.refl _)
  ·rintro f M - ⟨i0, -⟩
   exact ob0 (up_cons (d := 7) rfl i0) rfl (e_fieldPt rfl tf9) (.refl _)
  ·rintro f M ⟨k0, k1, -⟩ -
   refine ob_start (L' := pt (blk (fa10 7)) (.cells #[Ix (id), Ix (c1.v0), Ix (c1.v1), .int .i64 (0), .int .i64 (0), Ix (c3.v0), Ix (c3.v1), .bool (decide ((c3.v2) = (1 : Int))), .bool false] 31) :: M) (by rfl) (up_cons (d := 74) (up_cons (d := 75) rfl k0) k1) ?_
   refine lu (m_store 0 tf15 (cs' := #[Ix (id), Ix (c1.v0), Ix (c1.v1), Ix (c2.v0), Ix (c2.v1), Ix (c3.v0), Ix (c3.v1), .bool (decide ((c3.v2) = (1 : Int))), .bool false]) rfl rfl rfl rfl rfl rfl rfl) ?_
   refine l_nil ?_
   exact f_owes_n (up_cons (d := 74) (up_cons (d := 75) rfl k0) k1) trivial (perm_front 0 rfl)
  rintro fa11 ⟨-, -, -, -, -, -, -, -, -, -, -, -, -, -⟩ ⟨j0, j1, -⟩
  refine f_re (L' := [pt b2 (.cells #[.int .i64 (0), .int .i64 (0), .int .i64 (0), .int .i64 (0), .int .i64 (0), .int .i64 (0), .int .i64 (0), .bool false, .bool false] 31), pt b1 (.cells #[Ix (id), sB va cm (vc)] 76), pt (blk (fa10 7)) (.cells #[Ix (id), Ix (c1.v0), Ix (c1.v1), Ix (c2.v0), Ix (c2.v1), Ix (c3.v0), Ix (c3.v1), .bool (decide ((c3.v2) = (1 : Int))), .bool false] 31)]) (by rfl) ?_
  refine f_rebase (d := 2) j0 ?_
  refine f_rebase (d := 7) j1 ?_
  refine ftc ?_
  refine lv (v := .agg #[Ix (id), Ix (c1.v0), Ix (c1.v1), Ix (c2.v0), Ix (c2.v1), Ix (c3.v0), Ix (c3.v1), .bool (decide ((c3.v2) = (1 : Int))), .bool false]) (e_load tf22 rfl (k_pt 2 rfl rfl) rfl) ?_
  refine lu (m_store 0 tf22 (cs' := #[Ix (id), Ix (c1.v0), Ix (c1.v1), Ix (c2.v0), Ix (c2.v1), Ix (c3.v0), Ix (c3.v1), .bool (decide ((c3.v2) = (1 : Int))), .bool false]) rfl rfl rfl rfl rfl rfl rfl) ?_
  refine lv (v := .bool true) e_assign ?_
  refine lnf ?_
  refine c_ret ?_
  refine retG (m := [.agg #[Ix (id), Ix (c1.v0), Ix (c1.v1), Ix (c2.v0), Ix (c2.v1), Ix (c3.v0), Ix (c3.v1), .bool (decide ((c3.v2) = (1 : Int))), .bool false], .bool true]) Tryd.results60 ⟨rd_cell tf22 rfl (k_pt 0 rfl rfl) rfl, rd_tmp (v := .bool true) rfl, trivial⟩ rfl ?_
  intro w hw
  exact ⟨body_ret_some (body_mov hf1 hf3 hfx hf2), st_mask [false, false, false] rfl hw⟩
 obtain ⟨-, hp2, hf2⟩ := optP_none hv
 refine c_any [⟨[], [], [0], [21], fun f => f 21 = pp b1 0⟩, ⟨[0], [0], [], [22], fun f => f 22 = Ix (id)⟩, ⟨[], [], [1], [23], fun f => f 23 = .pointer (some ((ba va).add (i1 * 5)))⟩, ⟨[2], [2], [], [24], fun f => f 24 = .pointer (some ((ba va).add (i1 * 5)))⟩, ⟨[2, 3], [3], [], [25], fun f => f 25 = .pointer (some (((ba va).add (i1 * 5) : Addr).add 1))⟩, ⟨[2, 3, 4], [4], [], [26], fun f => f 26 = .pointer (some ((((ba va).add (i1 * 5) : Addr).add 1 : Addr).add (0 * 1)))⟩, ⟨[2, 3, 4, 5], [5], [], [27], fun f => f 27 = Ix (c1.v0)⟩, ⟨[], [], [1], [28], fun f => f 28 = .pointer (some ((ba va).add (i1 * 5)))⟩, ⟨[7], [7], [], [29], fun f => f 29 = .pointer (some ((ba va).add (i1 * 5)))⟩, ⟨[7, 8], [8], [], [30], fun f => f 30 = .pointer (some (((ba va).add (i1 * 5) : Addr).add 1))⟩, ⟨[7, 8, 9], [9], [], [31], fun f => f 31 = .pointer (some ((((ba va).add (i1 * 5) : Addr).add 1 : Addr).add (1 * 1)))⟩, ⟨[7, 8, 9, 10], [10], [], [32], fun f => f 32 = Ix (c1.v1)⟩, ⟨[2, 3, 4, 5, 6, 7, 8, 9, 10, 11], [6, 11], [], [33], fun f => f 33 = .agg #[Ix (c1.v0), Ix (c1.v1)]⟩, ⟨[], [], [2], [34], fun f => f 34 = .pointer (some ((ba va).add (i3 * 5)))⟩, ⟨[13], [13], [], [35], fun f => f 35 = .pointer (some ((ba va).add (i3 * 5)))⟩, ⟨[13, 14], [14], [], [36], fun f => f 36 = .pointer (some (((ba va).add (i3 * 5) : Addr).add 1))⟩, ⟨[13, 14, 15], [15], [], [37], fun f => f 37 = .pointer (some ((((ba va).add (i3 * 5) : Addr).add 1 : Addr).add (0 * 1)))⟩, ⟨[13, 14, 15, 16], [16], [], [38], fun f => f 38 = Ix (c3.v0)⟩, ⟨[], [], [2], [39], fun f => f 39 = .pointer (some ((ba va).add (i3 * 5)))⟩, ⟨[18], [18], [], [40], fun f => f 40 = .pointer (some ((ba va).add (i3 * 5)))⟩, ⟨[18, 19], [19], [], [41], fun f => f 41 = .pointer (some (((ba va).add (i3 * 5) : Addr).add 1))⟩, ⟨[18, 19, 20], [20], [], [42], fun f => f 42 = .pointer (some ((((ba va).add (i3 * 5) : Addr).add 1 : Addr).add (1 * 1)))⟩, ⟨[18, 19, 20, 21], [21], [], [43], fun f => f 43 = Ix (c3.v1)⟩, ⟨[], [], [2], [44], fun f => f 44 = .pointer (some ((ba va).add (i3 * 5)))⟩, ⟨[23], [23], [], [45], fun f => f 45 = .pointer (some ((ba va).add (i3 * 5)))⟩, ⟨[23, 24], [24], [], [46], fun f => f 46 = .pointer (some (((ba va).add (i3 * 5) : Addr).add 1))⟩, ⟨[23, 24, 25], [25], [], [47], fun f => f 47 = .pointer (some ((((ba va).add (i3 * 5) : Addr).add 1 : Addr).add (2 * 1)))⟩, ⟨[23, 24, 25, 26], [26], [], [48], fun f => f 48 = Ix (c3.v2)⟩, ⟨[23, 24, 25, 26, 27], [27], [], [49], fun f => f 49 = .bool (decide ((c3.v2) = (1 : Int)))⟩, ⟨[], [], [2], [50], fun f => f 50 = .pointer (some ((ba va).add (i3 * 5)))⟩, ⟨[29], [29], [], [51], fun f => f 51 = .pointer (some ((ba va).add (i3 * 5)))⟩, ⟨[29, 30], [30], [], [52], fun f => f 52 = .pointer (some (((ba va).add (i3 * 5) : Addr).add 1))⟩, ⟨[29, 30, 31], [31], [], [53], fun f => f 53 = .pointer (some ((((ba va).add (i3 * 5) : Addr).add 1 : Addr).add (3 * 1)))⟩, ⟨[29, 30, 31, 32], [32], [], [54], fun f => f 54 = Ix (c3.v3)⟩, ⟨[29, 30, 31, 32, 33], [33], [], [55], fun f => f 55 = .bool false⟩, ⟨[29, 30, 31, 32, 33, 34], [34], [], [56], fun f => f 56 = .bool false⟩, ⟨[29, 30, 31, 32, 33, 34, 35], [35], [3], [57], fun f => f 57 = .pointer (optP va cm 2)⟩, ⟨[29, 30, 31, 32, 33, 34, 35, 36], [36, 35], [], [58], fun f => f 58 = .bool true⟩, ⟨[29, 30, 31, 32, 33, 34, 35, 36, 37], [35, 37], [], [59], fun f => f 59 = .bool true⟩, ⟨(List.range 39), [1, 12, 17, 22, 28, 38], [], [60], fun f => f 60 = .agg #[Ix (id), Ix (c1.v0), Ix (c1.v1), .int .i64 (0), .int .i64 (0), Ix (c3.v0), Ix (c3.v1), .bool (decide ((c3.v2) = (1 : Int))), .bool true]⟩, ⟨[], [], [], [7], fun f => f 7 = .pointer (some ⟨(blk (f 7)), 0, none⟩)⟩, ⟨(List.range 41), [40, 39], [], [], fun _ => True⟩] [⟨none, none, [], [], fun _ => pt b2 (.cells #[.int .i64 (0), .int .i64 (0), .int .i64 (0), .int .i64 (0), .int .i64 (0), .int .i64 (0), .int .i64 (0), .bool false, .bool false] 31)⟩, ⟨none, none, [1], [], fun _ => pt b1 (.cells #[Ix (id), sB va cm (vc)] 76)⟩, ⟨(some 40), (some 41), [41], [7], fun f => pt (blk (f 7)) (.cells #[.int .i64 (0), .int .i64 (0), .int .i64 (0), .int .i64 (0), .int .i64 (0), .int .i64 (0), .int .i64 (0), .bool false, .bool false] 31)⟩, ⟨(some 41), none, [], [7], fun f => pt (blk (f 7)) (.cells #[Ix (id), Ix (c1.v0), Ix (c1.v1), .int .i64 (0), .int .i64 (0), Ix (c3.v0), Ix (c3.v1), .bool (decide ((c3.v2) = (1 : Int))), .bool true] 31)⟩] [(1, pp b1 0), (4, .pointer (some ((ba va).add (i1 * 5)))), (5, .pointer (some ((ba va).add (i3 * 5)))), (6, .pointer (optP va cm 2)), (2, pp b2 0)] [4, 3] [] (by kernel_rfl) (by kernel_rfl) (by kernel_rfl) (by kernel_rfl) rfl ⟨rfl, rfl, rfl, rfl, rfl, trivial⟩ ⟨?_, ?_, ?_, ?_, ?_, ?_, ?_, ?_, ?_, ?_, ?_, ?_, ?_, ?_, ?_, ?_, ?_, ?_, ?_, ?_, ?_, ?_, ?_, ?_, ?_, ?_, ?_, ?_, ?_, ?_, ?_, ?_, ?_, ?_, ?_, ?_, ?_, ?_, ?_, ?_, ?_, ?_, trivial⟩ ?_
 ·rintro f M - ⟨i0, -⟩
  exact ob0 (up_cons (d := 1) rfl i0) rfl (e_fieldPt rfl tg124) (.refl _)
 ·rintro f M ⟨k0, -⟩ -
  exact obv (L' := pt b1 (.cells #[Ix (id), sB va cm (vc)] 76) :: M) (up_cons (d := 21) rfl k0) rfl (e_load1 tf2 rfl (k_pt 0 rfl rfl)) (perm_front 0 rfl) (by rfl)
 ·rintro f M - ⟨i0, -⟩
  exact ob0 (up_cons (d := 4) rfl i0) rfl e_move (.refl _)
 ·rintro f M ⟨k0, -⟩ -
  exact ob0 (up_cons (d := 23) rfl k0) rfl (e_nil (a := (ba va).add (i1 * 5)) rfl) (.refl _)
 ·rintro f M ⟨k0, -⟩ -
  exact ob0 (up_cons (d := 24) rfl k0) rfl (e_fieldAddr (a := (ba va).add (i1 * 5)) rfl tg125) (.refl _)
 ·rintro f M ⟨k0, -⟩ -
  exact ob0 (up_cons (d := 25) rfl k0) rfl (e_indexArr (a := ((ba va).add (i1 * 5) : Addr).add 1) (k := 0) rfl rfl tg126 (by decide)) (.refl _)
 ·rintro f M ⟨k0, -⟩ -
  exact ob0 (up_cons (d := 26) rfl k0) rfl (e_load1 tf2 rfl (Knows.imp (Knows.imp (kB hc1) (fun _ h => Cs.sub (vs := [Ix (c1.v0), Ix (c1.v1), Ix (c1.v2), Ix (c1.v3)]) 1 h rfl)) (fun _ h => Cs.sub (vs := [Ix (c1.v0)]) (0 * 1) h rfl))) (.refl _)
 ·rintro f M - ⟨i0, -⟩
  exact ob0 (up_cons (d := 4) rfl i0) rfl e_move (.refl _)
 ·rintro f M ⟨k0, -⟩ -
  exact ob0 (up_cons (d := 28) rfl k0) rfl (e_nil (a := (ba va).add (i1 * 5)) rfl) (.refl _)
 ·rintro f M ⟨k0, -⟩ -
  exact ob0 (up_cons (d := 29) rfl k0) rfl (e_fieldAddr (a := (ba va).add (i1 * 5)) rfl tg125) (.refl _)
 ·rintro f M ⟨k0, -⟩ -
  exact ob0 (up_cons (d := 30) rfl k0) rfl (e_indexArr (a := ((ba va).add (i1 * 5) : Addr).add 1) (k := 1) rfl rfl tg126 (by decide)) (.refl _)
 ·rintro f M ⟨k0, -⟩ -
  exact ob0 (up_cons (d := 31) rfl k0) rfl (e_load1 tf2 rfl (Knows.imp (Knows.imp (kB hc1) (fun _ h => Cs.sub (vs := [Ix (c1.v0), Ix (c1.v1), Ix (c1.v2), Ix (c1.v3)]) 1 h rfl)) (fun _ h => Cs.sub (vs := [Ix (c1.v1)]) (1 * 1) h rfl))) (.refl _)
 ·rintro f M ⟨k0, k1, -⟩ -
  exact ob0 (up_cons (d := 32) (up_cons (d := 27) rfl k0) k1) rfl (e_build tf17 tf16 (vs := [(0, Ix (c1.v0)), (1, Ix (c1.v1))]) (cells := #[Ix (c1.v0), Ix (c1.v1)]) rfl rfl) (.refl _)
 ·rintro f M - ⟨i0, -⟩
  exact ob0 (up_cons (d := 5) rfl i0) rfl e_move (.refl _)
 ·rintro f M ⟨k0, -⟩ -
  exact ob0 (up_cons (d := 34) rfl k0) rfl (e_nil (a := (ba va).add (i3 * 5)) rfl) (.refl _)
 ·rintro f M ⟨k0, -⟩ -
  exact ob0 (up_cons (d := 35) rfl k0) rfl (e_fieldAddr (a := (ba va).add (i3 * 5)) rfl tg125) (.refl _)
 ·rintro f M ⟨k0, -⟩ -
  exact ob0 (up_cons (d := 36) rfl k0) rfl (e_indexArr (a := ((ba va).add (i3 * 5) : Addr).add 1) (k := 0) rfl rfl tg126 (by decide)) (.refl _)
 ·rintro f M ⟨k0, -⟩ -
  exact ob0 (up_cons (d := 37) rfl k0) rfl (e_load1 tf2 rfl (Knows.imp (Knows.imp (kB hc3) (fun _ h => Cs.sub (vs := [Ix (c3.v0), Ix (c3.v1), Ix (c3.v2), Ix (c3.v3)]) 1 h rfl)) (fun _ h => Cs.sub (vs := [Ix (c3.v0)]) (0 * 1) h rfl))) (.refl _)
 ·rintro f M - ⟨i0, -⟩
  exact ob0 (up_cons (d := 5) rfl i0) rfl e_move (.refl _)
 ·rintro f M ⟨k0, -⟩ -
  exact ob0 (up_cons (d := 39) rfl k0) rfl (e_nil (a := (ba va).add (i3 * 5)) rfl) (.refl _)
 ·rintro f M ⟨k0, -⟩ -
  exact ob0 (up_cons (d := 40) rfl k0) rfl (e_fieldAddr (a := (ba va).add (i3 * 5)) rfl tg125) (.refl _)
 ·rintro f M ⟨k0, -⟩ -
  exact ob0 (up_cons (d := 41) rfl k0) rfl (e_indexArr (a := ((ba va).add (i3 * 5) : Addr).add 1) (k := 1) rfl rfl tg126 (by decide)) (.refl _)
 ·rintro f M ⟨k0, -⟩ -
  exact ob0 (up_cons (d := 42) rfl k0) rfl (e_load1 tf2 rfl (Knows.imp (Knows.imp (kB hc3) (fun _ h => Cs.sub (vs := [Ix (c3.v0), Ix (c3.v1), Ix (c3.v2), Ix (c3.v3)]) 1 h rfl)) (fun _ h => Cs.sub (vs := [Ix (c3.v1)]) (1 * 1) h rfl))) (.refl _)
 ·rintro f M - ⟨i0, -⟩
  exact ob0 (up_cons (d := 5) rfl i0) rfl e_move (.refl _)
 ·rintro f M ⟨k0, -⟩ -
  exact ob0 (up_cons (d := 44) rfl k0) rfl (e_nil (a := (ba va).add (i3 * 5)) rfl) (.refl _)
 ·rintro f M ⟨k0, -⟩ -
  exact ob0 (up_cons (d := 45) rfl k0) rfl (e_fieldAddr (a := (ba va).add (i3 * 5)) rfl tg125) (.refl _)
 ·rintro f M ⟨k0, -⟩ -
  exact ob0 (up_cons (d := 46) rfl k0) rfl (e_indexArr (a := ((ba va).add (i3 * 5) : Addr).add 1) (k := 2) rfl rfl tg126 (by decide)) (.refl _)
 ·rintro f M ⟨k0, -⟩ -
  exact ob0 (up_cons (d := 47) rfl k0) rfl (e_load1 tf2 rfl (Knows.imp (Knows.imp (kB hc3) (fun _ h => Cs.sub (vs := [Ix (c3.v0), Ix (c3.v1), Ix (c3.v2), Ix (c3.v3)]) 1 h rfl)) (fun _ h => Cs.sub (vs := [Ix (c3.v2)]) (2 * 1) h rfl))) (.refl _)
 ·rintro f M ⟨k0, -⟩ -
  exact ob0 (up_cons (d := 48) rfl k0) rfl (e_eql (a := (c3.v2)) (b := (1 : Int)) rfl rfl) (.refl _)
 ·rintro f M - ⟨i0, -⟩
  exact ob0 (up_cons (d := 5) rfl i0) rfl e_move (.refl _)
 ·rintro f M ⟨k0, -⟩ -
  exact ob0 (up_cons (d := 50) rfl k0) rfl (e_nil (a := (ba va).add (i3 * 5)) rfl) (.refl _)
 ·rintro f M ⟨k0, -⟩ -
  exact ob0 (up_cons (d := 51) rfl k0) rfl (e_fieldAddr (a := (ba va).add (i3 * 5)) rfl tg125) (.refl _)
 ·rintro f M ⟨k0, -⟩ -
  exact ob0 (up_cons (d := 52) rfl k0) rfl (e_indexArr (a := ((ba va).add (i3 * 5) : Addr).add 1) (k := 3) rfl rfl tg126 (by decide)) (.refl _)
 ·rintro f M ⟨k0, -⟩ -
  exact ob0 (up_cons (d := 53) rfl k0) rfl (e_load1 tf2 rfl (Knows.imp (Knows.imp (kB hc3) (fun _ h => Cs.sub (vs := [Ix (c3.v0), Ix (c3.v1), Ix (c3.v2), Ix (c3.v3)]) 1 h rfl)) (fun _ h => Cs.sub (vs := [Ix (c3.v3)]) (3 * 1) h rfl))) (.refl _)
 ·rintro f M ⟨k0, -⟩ -
  exact ob0 (up_cons (d := 54) rfl k0) rfl ((ev_f hfx (e_eql (a := (c3.v3)) (b := (1 : Int)) rfl rfl))) (.refl _)
 ·rintro f M ⟨k0, -⟩ -
  exact ob0 (up_cons (d := 55) rfl k0) rfl e_move (.refl _)
 ·rintro f M ⟨k0, -⟩ ⟨i0, -⟩
  exact obg (L' := M) (v := .pointer (optP va cm 2)) (up_cons (d := 56) (up_cons (d := 6) rfl i0) k0) e_move rfl rfl rfl rfl (.refl _) (by rfl)
 ·rintro f M ⟨k0, k1, -⟩ -
  exact obg (L' := M) (v := .bool true) (up_cons (d := 56) (up_cons (d := 57) rfl k0) k1) ((ev_b (c := true) hv (e_eql_pnil (p := optP va cm 2) rfl rfl tg123))) rfl rfl rfl rfl (.refl _) (by rfl)
 ·rintro f M ⟨k0, k1, -⟩ -
  exact ob0 (up_cons (d := 58) (up_cons (d := 56) rfl k0) k1) rfl (e_pick_f rfl) (.refl _)
 ·rintro f M ⟨k0, k1, k2, k3, k4, k5, -⟩ -
  exact ob0 (up_cons (d := 59) (up_cons (d := 49) (up_cons (d := 43) (up_cons (d := 38) (up_cons (d := 33) (up_cons (d := 22) rfl k0) k1) k2) k3) k4) k5) rfl (e_build tf58 tf102 (vs := [(0, Ix (id)), (1, .agg #[Ix (c1.v0), Ix (c1.v1)]), (3, Ix (c3.v0)), (4, Ix (c3.v1)), (5, .bool (decide ((c3.v2) = (1 : Int)))), (6, .bool true)]) (cells := #[Ix (id), Ix (c1.v0), Ix (c1.v1), .int .i64 (0), .int .i64 (0), Ix (c3.v0), Ix (c3.v1), .bool (decide ((c3.v2) = (1 : Int))), .bool true]) rfl (by kernel_rfl)) (.refl _)
 ·rintro f M - -
  refine ob_start (L' := M) (by rfl) rfl ?_
  refine l_mv rfl rfl rfl (m_alloc tf58) ?_
  rintro _ _ ⟨b13, rfl, rfl⟩
  refine l_nil ?_
  exact f_owes_d rfl rfl (perm_front 0 rfl)
 ·rintro f M ⟨k0, k1, -⟩ -
  have hs7 : f 7 = .pointer (some ⟨(blk (f 7)), 0, none⟩) := k0
  refine ob_start (L' := pt (blk (f 7)) (.cells #[.int .i64 (0), .int .i64 (0), .int .i64 (0), .int .i64 (0), .int .i64 (0), .int .i64 (0), .int .i64 (0), .bool false, .bool false] 31) :: M) (by rfl) (up_cons (d := 60) (up_cons rfl hs7) k1) ?_
  refine lu (m_store 0 tf22 (cs' := #[Ix (id), Ix (c1.v0), Ix (c1.v1), .int .i64 (0), .int .i64 (0), Ix (c3.v0), Ix (c3.v1), .bool (decide ((c3.v2) = (1 : Int))), .bool true]) rfl rfl rfl rfl rfl rfl rfl) ?_
  refine l_nil ?_
  exact f_owes_n (up_cons (d := 60) (up_cons rfl hs7) k1) trivial (perm_front 0 rfl)
 rintro fa14 ⟨-, -, -, -, -, -, -, -, -, -, -, -, -, -, -, -, -, -, -, -, -, -, -, -, -, -, -, -, -, -, -, -, -, -, -, -, -, -, -, -, k40, -, -⟩ ⟨j0, j1, -⟩
 refine f_re (L' := [pt b2 (.cells #[.int .i64 (0), .int .i64 (0), .int .i64 (0), .int .i64 (0), .int .i64 (0), .int .i64 (0), .int .i64 (0), .bool false, .bool false] 31), pt b1 (.cells #[Ix (id), sB va cm (vc)] 76), pt (blk (fa14 7)) (.cells #[Ix (id), Ix (c1.v0), Ix (c1.v1), .int .i64 (0), .int .i64 (0), Ix (c3.v0), Ix (c3.v1), .bool (decide ((c3.v2) = (1 : Int))), .bool true] 31)]) (by rfl) ?_
 refine f_rebase (d := 2) j0 ?_
 refine f_rebase (d := 6) j1 ?_
 refine f_rebase (d := 7) k40 ?_
 refine fts ?_
 refine csr ?_
 refine lv (v := .pointer (some ⟨(blk (fa14 7)), 8, none⟩)) (e_fieldPt rfl tf14) ?_
 refine lv (v := .bool true) (e_load1 tf13 rfl (k_pt 2 rfl rfl)) ?_
 refine lv (v := .bool false) (e_not (a := true) rfl) ?_
 refine lnf ?_
 refine c_no rfl ?_
 refine csk ?_
 refine csr ?_
 refine lv (v := .agg #[Ix (id), Ix (c1.v0), Ix (c1.v1), .int .i64 (0), .int .i64 (0), Ix (c3.v0), Ix (c3.v1), .bool (decide ((c3.v2) = (1 : Int))), .bool true]) (e_load tf22 rfl (k_pt 2 rfl rfl) rfl) ?_
 refine lu (m_store 0 tf22 (cs' := #[Ix (id), Ix (c1.v0), Ix (c1.v1), .int .i64 (0), .int .i64 (0), Ix (c3.v0), Ix (c3.v1), .bool (decide ((c3.v2) = (1 : Int))), .bool true]) rfl rfl rfl rfl rfl rfl rfl) ?_
 refine lv (v := .bool true) e_assign ?_
 refine lnf ?_
 refine c_ret ?_
 refine retG (m := [.agg #[Ix (id), Ix (c1.v0), Ix (c1.v1), .int .i64 (0), .int .i64 (0), Ix (c3.v0), Ix (c3.v1), .bool (decide ((c3.v2) = (1 : Int))), .bool true], .bool true]) Tryd.results60 ⟨rd_cell tf22 rfl (k_pt 0 rfl rfl) rfl, rd_tmp (v := .bool true) rfl, trivial⟩ rfl ?_
 intro w hw
 exact ⟨body_ret_some (body_fix hf1 hf3 (.inr hf2)), st_mask [false, false, false] rfl hw⟩
theorem has2_fn (β : Base) (c : Nat) (i : Int) (hc : Cs β.heap ⟨c, 0, none⟩ [Ix i]) : FnV Tryd.prog β (.func (.func 63) #[] #[pp c 0]) (fun z : KB => [.agg (bC z)]) (fun _ => True) (fun z => .bool (decide (z.id = i))) := by
 refine ⟨63, [], [.pointer (some (⟨c, 0, none⟩))], rfl, by kernel_rfl, fun β₁ sb0 z_ hz_ w hw => ?_⟩
 have hc1 := Cs.mono _ _ _ _ sb0 hc
 obtain ⟨z, hz⟩ : ∃ z, z = z_ := ⟨_, rfl⟩
 subst hz
 refine enter (n := 8) Tryd.func63 rfl Tryd.ntmps63 rfl ?_ hw
 refine csr ?_
 refine l_mv rfl rfl rfl (m_box (v := .agg (bC z)) rfl) ?_
 rintro _ _ ⟨b1, rfl, rfl⟩
 refine lv (v := .bool false) e_assign ?_
 refine lnc ?_
 refine lv (v := pp b1 0) (e_fieldPt rfl tf3) ?_
 refine lv (v := Ix (z.id)) (e_load1 tf2 rfl (k_pt 0 rfl rfl)) ?_
 refine lv (v := Ix (i)) (e_load1 tf2 rfl (kB hc1)) ?_
 refine lv (e_eql (a := (z.id)) (b := (i)) rfl rfl) ?_
 refine lv (v := .bool (decide ((z.id) = (i)))) e_assign ?_
 refine lnf ?_
 refine c_ret ?_
 refine ret1 Tryd.results63 (v := .bool (decide ((z.id) = (i)))) rfl ?_
 intro w hw
 exact ⟨rfl, st_mask [false] rfl hw⟩
theorem containsB_ok (β : Base) (w : World) (hw : St β [] w) (v fn : Value) (xs : List KB) (hs : Sl KBR β.heap v xs) (p : KB → Bool) (hfn : FnV Tryd.prog β fn (fun z : KB => [.agg (bC z)]) (· ∈ xs) (fun z => .bool (p z))) : Calls Tryd.prog 62 #[v, fn] w fun r w' => r = .returned (.bool (xs.any p)) ∧ St β [] w' := by
 refine enter (n := 9) Tryd.func62 rfl Tryd.ntmps62 rfl ?_ hw
 refine csr ?_
 refine l_val (v := .bool false) rfl rfl rfl e_assign ?_
 refine lnc ?_
 refine lv (v := v) e_move ?_
 refine lv (v := fn) e_move ?_
 refine lcf (cl0 (vs := [v, fn]) tf78 rfl rfl) rfl fun w β1 sb kn hw1 back => (indexB_ok β1 w hw1 _ _ xs (Sl.mono _ _ _ _ _ sb hs) p (hfn.mono sb)).mono ?_
 rintro e w' ⟨rfl, hw'⟩
 refine ⟨_, rfl, _, back _ _ hw', ?_⟩
 clear hw1 hw' back kn sb
 refine lv (e_geq (a := (idxI p xs)) (b := (0 : Int)) rfl rfl) ?_
 refine lv (v := .bool (decide ((0 : Int) ≤ (idxI p xs)))) e_assign ?_
 refine lnf ?_
 refine c_ret ?_
 refine ret1 Tryd.results62 (v := .bool (decide ((0 : Int) ≤ (idxI p xs)))) rfl ?_
 intro w hw
 exact ⟨congrArg Ending.returned (congrArg Value.bool (idx_any p xs)), st_mask [] rfl hw⟩
theorem has_ok (β : Base) (w : World) (hw : St β [] w) (c : Nat) (v rv : Value) (gx gy : Int) (bs : List KB) (hc : Cs β.heap ⟨c, 0, none⟩ [v, rv, Ix gx, Ix gy]) (hs : Sl KBR β.heap v bs) (i : Int) : Calls Tryd.prog 61 #[Ix i, pp c 0] w fun r w' => r = .returned (.bool (hasB bs i)) ∧ St β [] w' := by
 refine enter (n := 8) Tryd.func61 rfl Tryd.ntmps61 rfl ?_ hw
 refine csr ?_
 refine l_mv rfl rfl rfl (m_box (v := Ix (i)) rfl) ?_
 rintro _ _ ⟨b1, rfl, rfl⟩
 refine lv (v := .bool false) e_assign ?_
 refine lnc ?_
 refine lv (v := .pointer (some ((⟨c, 0, none⟩ : Addr).add 0))) (e_fieldAddr (a := ⟨c, 0, none⟩) rfl tf49) ?_
 refine lv (v := v) (e_load1 tf50 rfl (Knows.imp (kB hc) (fun _ h => Cs.sub (vs := [v]) 0 h rfl))) ?_
 refine lv (v := .func (.func 63) #[] #[pp b1 0]) (e_func (u := []) (v := [pp b1 0]) rfl rfl) ?_
 refine lcf (cl0 (vs := [v, .func (.func 63) #[] #[pp b1 0]]) tg127 rfl rfl) rfl fun w β1 sb kn hw1 back => (containsB_ok β1 w hw1 _ _ bs (Sl.mono _ _ _ _ _ sb hs) (fun z => decide (z.id = i)) (fnv_all (has2_fn β1 b1 i (kn _ (k_pt 0 (o := 0) rfl rfl))))).mono ?_
 rintro e w' ⟨rfl, hw'⟩
 refine ⟨_, rfl, _, back _ _ hw', ?_⟩
 clear hw1 hw' back kn sb
 refine lv (v := .bool (hasB bs i)) e_assign ?_
 refine lnf ?_
 refine c_ret ?_
 refine ret1 Tryd.results61 (v := .bool (hasB bs i)) rfl ?_
 intro w hw
 exact ⟨rfl, st_mask [false] rfl hw⟩
set_option maxHeartbeats 4000000 in
theorem worldB_ok (β : Base) (w : World) (hw : St β [] w) (tick : Int) (v rv : Value) (gx gy : Int) (es : List KEnt) (rs : List KR) (hs : Sl EntR β.heap v es) (hr : Sl KRR β.heap rv rs) (hn : es.length ≤ 65536) (hrn : rs.length ≤ 65536) : Calls Tryd.prog 34 #[.agg #[Ix tick, v], rv, .agg #[Ix gx, Ix gy]] w fun r w' => ∃ p c p2 c2, r = .returned (.agg #[sB p (bodiesOf es) c, sB p2 (ropesOf (bodiesOf es) rs) c2, Ix gx, Ix gy]) ∧ St β [rowF BodyF 31 p c (bodiesOf es), rowF RopeF 35 p2 c2 (ropesOf (bodiesOf es) rs)] w' := by
 obtain ⟨va, vc, rfl, vl, vm, ve⟩ := hs.get
 obtain ⟨rva, rvc, rfl, rvl, rvm, rve⟩ := hr.get
 refine enter (n := 62) Tryd.func34 rfl Tryd.ntmps34 rfl ?_ hw
 refine csr ?_
 refine l_mv rfl rfl rfl (m_box (v := .agg #[Ix (tick), sB va es (vc)]) rfl) ?_
 rintro _ _ ⟨b1, rfl, rfl⟩
 refine l_mv rfl rfl rfl (m_box (v := .agg #[Ix (gx), Ix (gy)]) rfl) ?_
 rintro _ _ ⟨b2, rfl, rfl⟩
 refine l_mv rfl rfl rfl (m_alloc tf85) ?_
 rintro _ _ ⟨b3, rfl, rfl⟩
 refine lnc ?_
 refine lv (v := .agg #[Ix (gx), Ix (gy)]) (e_load tf15 rfl (k_pt 1 rfl rfl) rfl) ?_
 refine lv (v := .agg #[.slice none 0 0, .slice none 0 0, Ix (gx), Ix (gy)]) (e_build tf85 tf88 (vs := [(2, .agg #[Ix (gx), Ix (gy)])]) (cells := #[.slice none 0 0, .slice none 0 0, Ix (gx), Ix (gy)]) rfl rfl) ?_
 refine l_mv rfl rfl rfl (m_alloc tf85) ?_
 rintro _ _ ⟨b4, rfl, rfl⟩
 refine lu (m_store 0 tf86 (cs' := #[.slice none 0 0, .slice none 0 0, Ix (gx), Ix (gy)]) rfl rfl rfl rfl rfl rfl rfl) ?_
 refine lnf ?_
 refine cs2 ?_
 refine c_emp (r := rowF BodyF 31 none 0 []) (row_nil _ _ _) ?_
 refine c_region ?_
 refine lv (v := pp b1 1) (e_fieldPt rfl tg128) ?_
 refine lv (v := sB va es (vc)) (e_load1 tg129 rfl (k_pt 4 rfl rfl)) ?_
 refine lv (v := Nx (es.length)) (e_len (a := va) (n := es.length) (c := vc) rfl tg130) ?_
 refine lv (v := .int .i64 (0)) e_move ?_
 refine lnf ?_
 refine c_block ?_
 refine c_mask [true, true, true, true, true] rfl ?_
 refine c_loop (fun (x_ : Nat × List KB × Option Addr × Nat) (f : Fm) (L : List Res) => match x_ with | (k, out, p, c) => (f 1 = sB rva rs (rvc) ∧ f 6 = pp b3 0 ∧ f 7 = pp b4 0 ∧ f 18 = sB va es (vc) ∧ f 19 = Nx (es.length) ∧ f 20 = Nx (k)) ∧ L = [rowF BodyF 31 p c out, pt b4 (.cells #[sB p out c, .slice none 0 0, Ix (gx), Ix (gy)] 27), pt b3 (.cells #[.slice none 0 0, .slice none 0 0, .int .i64 (0), .int .i64 (0)] 27), pt b2 (.cells #[Ix (gx), Ix (gy)] 25), pt b1 (.cells #[Ix (tick), sB va es (vc)] 70)] ∧ (k ≤ es.length ∧ out = bodiesOf (es.take k))) (fun (x_ : Nat × List KB × Option Addr × Nat) => match x_ with | (k, out, p, c) => es.length - k) (0, [], none, 0) ?_ ?_
 ·exact ⟨⟨rfl, rfl, rfl, rfl, rfl, rfl⟩, rfl, ⟨by omega, rfl⟩⟩
 rintro ⟨k, out, p, c⟩ f0 L0 ⟨⟨hs1, hs6, hs7, hs18, hs19, hs20⟩, hL, ⟨hk, ho⟩⟩
 subst L0
 refine rebase (d := 1) hs1 ?_
 refine rebase (d := 6) hs6 ?_
 refine rebase (d := 7) hs7 ?_
 refine rebase (d := 18) hs18 ?_
 refine rebase (d := 19) hs19 ?_
 refine rebase (d := 20) hs20 ?_
 clear hs1 hs6 hs7 hs18 hs19 hs20
 have hol := bodies_le es k
 rw [← ho] at hol
 refine csr ?_
 refine lv (e_lss (a := ((k : Nat) : Int)) (b := ((es.length : Nat) : Int)) rfl rfl) ?_
 refine lnf ?_
 refine c_seq ?_
 refine c_if (((k : Nat) : Int) < ((es.length : Nat) : Int)) rfl (fun hc5 => ?_) (fun hc5 => ?_)
 ·refine csk ?_
  refine c_seq ?_
  refine c_block ?_
  refine csr ?_
  obtain ⟨x6, hx7⟩ : ∃ x_, (es)[k]? = some x_ := ⟨_, List.getElem?_eq_getElem (by omega)⟩
  obtain ⟨ha8, cs9, hc10, hr11⟩ := ve _ _ hx7
  obtain ⟨v12, rfl, hv13⟩ := hr11
  obtain ⟨v12a, v12c, rfl, v12l, v12m, v12e⟩ := hv13.get
  refine lv (v := .pointer (some ((ba va).add (k * 2)))) (e_indexAddr (k := k) (len := es.length) (cap := vc) (a := va) rfl rfl tg131 (by omega) ha8) ?_
  refine lv (v := .agg #[Ix (x6.id), sB v12a x6.comps (v12c)]) (e_load tg121 rfl (kB hc10) rfl) ?_
  refine l_mv rfl rfl rfl (m_alloc tg132) ?_
  rintro _ _ ⟨b14, rfl, rfl⟩
  refine lu (m_store 0 tg121 (cs' := #[Ix (x6.id), sB v12a x6.comps (v12c)]) rfl rfl rfl rfl rfl rfl rfl) ?_
  refine lnc ?_
  refine lv (v := .agg #[Ix (x6.id), sB v12a x6.comps (v12c)]) (e_load tg121 rfl (k_pt 0 rfl rfl) rfl) ?_
  refine lcf (cl0 (vs := [.agg #[Ix (x6.id), sB v12a x6.comps (v12c)]]) tg133 rfl rfl) rfl fun w β1 sb kn hw1 back => (body_ok β1 w hw1 (x6.id) v12a v12c x6.comps (Sl.mono _ _ _ _ _ sb (⟨⟨_, _, rfl, v12l, v12m, v12e⟩⟩ : Sl CompR _ _ x6.comps))).mono ?_
  rintro e w' ⟨rfl, hw'⟩
  refine ⟨_, rfl, _, back _ _ hw', ?_⟩
  clear hw1 hw' back kn sb
  refine lv (v := .tuple #[.agg (bC (bodyD (x6.id) x6.comps)), .bool ((bodyOf (x6.id) x6.comps).isSome)]) e_move ?_
  refine lv (v := .agg (bC (bodyD (x6.id) x6.comps))) (e_extract (vs := #[.agg (bC (bodyD (x6.id) x6.comps)), .bool ((bodyOf (x6.id) x6.comps).isSome)]) rfl rfl) ?_
  refine lv (v := .bool ((bodyOf (x6.id) x6.comps).isSome)) (e_extract (vs := #[.agg (bC (bodyD (x6.id) x6.comps)), .bool ((bodyOf (x6.id) x6.comps).isSome)]) rfl rfl) ?_
  refine l_mv rfl rfl rfl (m_alloc tf58) ?_
  rintro _ _ ⟨b15, rfl, rfl⟩
  refine lu (m_store 0 tf22 (cs' := (bC (bodyD (x6.id) x6.comps))) rfl rfl rfl rfl rfl rfl rfl) ?_
  refine lv (v := .bool ((bodyOf (x6.id) x6.comps).isSome)) e_assign ?_
  refine lnc ?_
  refine lv (v := .bool ((bodyOf (x6.id) x6.comps).isSome)) e_move ?_
  refine lnf ?_
  refine c_ifb ((bodyOf (x6.id) x6.comps).isSome) rfl (fun hc16 => ?_) (fun hc16 => ?_)
  ·refine c_region ?_
   refine lv (v := pp b4 0) (e_fieldPt rfl tf49) ?_
   refine lv (v := sB p out c) (e_load1 tf50 rfl (k_pt 3 rfl rfl)) ?_
   refine lv (v := .agg (bC (bodyD (x6.id) x6.comps))) (e_load tf22 rfl (k_pt 0 rfl rfl) rfl) ?_
   refine l_mv rfl rfl rfl (m_slices tf43 tf58 (cells := (bC (bodyD (x6.id) x6.comps))) rfl rfl rfl (by kernel_rfl)) ?_
   rintro _ _ ⟨b17, rfl, rfl⟩
   refine l_mv rfl rfl rfl (m_appendFlN (F := BodyF) 3 tf43 tf83 (p := p) (m := out.length) (xs := out) (ys := [(bodyD (x6.id) x6.comps)]) (ao := (some ⟨b17, 0, none⟩)) (k := 1) (c := 1) rfl rfl rfl rfl rfl (k_ptFl (z := (bodyD (x6.id) x6.comps)) 0 rfl rfl) (by first | omega | simp only [List.length_nil, List.length_cons, List.length_append, List.length_set]; omega) (by first | omega | simp only [List.length_nil, List.length_cons, List.length_append, List.length_set]; omega)) ?_
   rintro _ _ ⟨rp18, rc19, rfl, rfl⟩
   refine lv (v := pp b4 0) (e_fieldPt rfl tf49) ?_
   refine lu (m_store 4 tf50 (cs' := #[sB rp18 (out ++ [(bodyD (x6.id) x6.comps)]) rc19, .slice none 0 0, Ix (gx), Ix (gy)]) rfl rfl rfl rfl rfl rfl rfl) ?_
   refine l_nil ?_
   refine f_block ?_
   refine f_then ?_
   refine c_region ?_
   refine lv (v := Nx (k + 1)) (e_add (a := ((k : Nat) : Int)) (b := (1 : Int)) rfl rfl (i64n (by omega) (by omega))) ?_
   refine lv (v := Nx (k + 1)) e_move ?_
   refine l_nil ?_
   refine f_mask (L' := [rowF BodyF 31 rp18 rc19 (out ++ [(bodyD (x6.id) x6.comps)]), pt b4 (.cells #[sB rp18 (out ++ [(bodyD (x6.id) x6.comps)]) rc19, .slice none 0 0, Ix (gx), Ix (gy)] 27), pt b3 (.cells #[.slice none 0 0, .slice none 0 0, .int .i64 (0), .int .i64 (0)] 27), pt b2 (.cells #[Ix (gx), Ix (gy)] 25), pt b1 (.cells #[Ix (tick), sB va es (vc)] 70)]) [false, false, false, true, true, true, true, true] rfl ?_
   exact f_cut ⟨(k + 1, (out ++ [(bodyD (x6.id) x6.comps)]), rp18, rc19), ⟨⟨rfl, rfl, rfl, rfl, rfl, rfl⟩, rfl, ⟨by omega, by rw [bodies_yes hx7 hc16, ← ho]⟩⟩, (show es.length - (k + 1) < es.length - k from by omega)⟩
  refine c_skip ?_
  refine f_block ?_
  refine f_then ?_
  refine c_region ?_
  refine lv (v := Nx (k + 1)) (e_add (a := ((k : Nat) : Int)) (b := (1 : Int)) rfl rfl (i64n (by omega) (by omega))) ?_
  refine lv (v := Nx (k + 1)) e_move ?_
  refine l_nil ?_
  refine f_mask (L' := [rowF BodyF 31 p c out, pt b4 (.cells #[sB p out c, .slice none 0 0, Ix (gx), Ix (gy)] 27), pt b3 (.cells #[.slice none 0 0, .slice none 0 0, .int .i64 (0), .int .i64 (0)] 27), pt b2 (.cells #[Ix (gx), Ix (gy)] 25), pt b1 (.cells #[Ix (tick), sB va es (vc)] 70)]) [false, false, true, true, true, true, true] rfl ?_
  exact f_cut ⟨(k + 1, out, p, c), ⟨⟨rfl, rfl, rfl, rfl, rfl, rfl⟩, rfl, ⟨by omega, by rw [bodies_no hx7 hc16, ← ho]⟩⟩, (show es.length - (k + 1) < es.length - k from by omega)⟩
 refine c_exit ?_
 refine f_then_exit ?_
 refine f_then_exit ?_
 refine f_exit ?_
 refine fts ?_
 have hoe : out = bodiesOf es := by rw [ho, List.take_of_length_le (by omega)]
 refine c_region ?_
 refine lv (v := .func (.func 61) #[] #[pp b4 0]) (e_func (u := []) (v := [pp b4 0]) rfl rfl) ?_
 refine lv (v := .func (.func 61) #[] #[pp b4 0]) e_assign ?_
 refine lnf ?_
 refine cs2 ?_
 refine c_emp (r := rowF RopeF 35 none 0 []) (row_nil _ _ _) ?_
 refine c_region ?_
 refine lv (v := sB rva rs (rvc)) e_move ?_
 refine lv (v := Nx (rs.length)) (e_len (a := rva) (n := rs.length) (c := rvc) rfl tf45) ?_
 refine lv (v := .int .i64 (0)) e_move ?_
 refine lnf ?_
 refine c_block ?_
 refine c_mask [true, true, true, true, true, true] rfl ?_
 refine c_loop (fun (x_ : Nat × List KR × Option Addr × Nat) (f : Fm) (L : List Res) => match x_ with | (k2, R, rp, rc) => (f 6 = pp b3 0 ∧ f 7 = pp b4 0 ∧ f 12 = .func (.func 61) #[] #[pp b4 0] ∧ f 38 = sB rva rs (rvc) ∧ f 39 = Nx (rs.length) ∧ f 40 = Nx (k2)) ∧ L = [rowF RopeF 35 rp rc R, rowF BodyF 31 p c out, pt b4 (.cells #[sB p out c, sB rp R rc, Ix (gx), Ix (gy)] 27), pt b3 (.cells #[.slice none 0 0, .slice none 0 0, .int .i64 (0), .int .i64 (0)] 27), pt b2 (.cells #[Ix (gx), Ix (gy)] 25), pt b1 (.cells #[Ix (tick), sB va es (vc)] 70)] ∧ (k2 ≤ rs.length ∧ R = ropesOf out (rs.take k2))) (fun (x_ : Nat × List KR × Option Addr × Nat) => match x_ with | (k2, R, rp, rc) => rs.length - k2) (0, [], none, 0) ?_ ?_
 ·exact ⟨⟨rfl, rfl, rfl, rfl, rfl, rfl⟩, rfl, ⟨by omega, rfl⟩⟩
 rintro ⟨k2, R, rp, rc⟩ f0 L0 ⟨⟨hs6, hs7, hs12, hs38, hs39, hs40⟩, hL, ⟨hk2, hR⟩⟩
 subst L0
 refine rebase (d := 6) hs6 ?_
 refine rebase (d := 7) hs7 ?_
 refine rebase (d := 12) hs12 ?_
 refine rebase (d := 38) hs38 ?_
 refine rebase (d := 39) hs39 ?_
 refine rebase (d := 40) hs40 ?_
 clear hs6 hs7 hs12 hs38 hs39 hs40
 have hRl := ropes_le out rs k2
 rw [← hR] at hRl
 refine csr ?_
 refine lv (e_lss (a := ((k2 : Nat) : Int)) (b := ((rs.length : Nat) : Int)) rfl rfl) ?_
 refine lnf ?_
 refine c_seq ?_
 refine c_if (((k2 : Nat) : Int) < ((rs.length : Nat) : Int)) rfl (fun hc20 => ?_) (fun hc20 => ?_)
 ·refine csk ?_
  refine c_seq ?_
  refine c_block ?_
  refine csr ?_
  obtain ⟨x21, hx22⟩ : ∃ x_, (rs)[k2]? = some x_ := ⟨_, List.getElem?_eq_getElem (by omega)⟩
  obtain ⟨ha23, cs24, hc25, rfl⟩ := rve _ _ hx22
  refine lv (v := .pointer (some ((ba rva).add (k2 * 3)))) (e_indexAddr (k := k2) (len := rs.length) (cap := rvc) (a := rva) rfl rfl tf46 (by omega) ha23) ?_
  refine lv (v := .agg #[Ix (x21.a), Ix (x21.b), Ix (x21.len)]) (e_load tf47 rfl (kB hc25) rfl) ?_
  refine l_mv rfl rfl rfl (m_alloc tf77) ?_
  rintro _ _ ⟨b27, rfl, rfl⟩
  refine lu (m_store 0 tf47 (cs' := #[Ix (x21.a), Ix (x21.b), Ix (x21.len)]) rfl rfl rfl rfl rfl rfl rfl) ?_
  refine lnc ?_
  refine lv (v := .func (.func 61) #[] #[pp b4 0]) e_move ?_
  refine lv (v := pp b27 0) (e_fieldPt rfl tf51) ?_
  refine lv (v := Ix (x21.a)) (e_load1 tf2 rfl (k_pt 0 rfl rfl)) ?_
  refine l_call rfl rfl rfl (cl_value (fst := []) (cap := [pp b4 0]) (vs := [Ix (x21.a)]) (all := [Ix (x21.a), pp b4 0]) tg134 rfl rfl rfl) ?_
  intro w hw
  obtain ⟨β1, sb, kn, hw1, back⟩ := St.frame_all hw
  refine (has_ok β1 w hw1 b4 _ _ gx gy out (kn _ (k_pt 3 (o := 0) rfl rfl)) (kn _ (k_flN 2 (F := BodyF) (m := out.length) (xs := out) rfl rfl)) (x21.a)).mono ?_
  rintro e w' ⟨rfl, hw'⟩
  refine ⟨_, rfl, _, back _ _ hw', ?_⟩
  clear hw hw1 hw' back kn sb
  refine lv (v := .bool (hasB out (x21.a))) e_move ?_
  refine l_splitb (s := 48) (b := hasB out (x21.a)) rfl (fun hg28 => ?_) (fun hg28 => ?_)
  ·refine g_val (v := .func (.func 61) #[] #[pp b4 0]) rfl rfl rfl rfl rfl e_move ?_
   refine g_val (v := pp b27 1) rfl rfl rfl rfl rfl (e_fieldPt rfl tf53) ?_
   refine g_val (v := Ix (x21.b)) rfl rfl rfl rfl rfl (e_load1 tf2 rfl (k_pt 0 rfl rfl)) ?_
   refine g_call rfl rfl rfl rfl rfl (cl_value (fst := []) (cap := [pp b4 0]) (vs := [Ix (x21.b)]) (all := [Ix (x21.b), pp b4 0]) tg134 rfl rfl rfl) ?_
   intro w hw
   obtain ⟨β1, sb, kn, hw1, back⟩ := St.frame_all hw
   refine (has_ok β1 w hw1 b4 _ _ gx gy out (kn _ (k_pt 3 (o := 0) rfl rfl)) (kn _ (k_flN 2 (F := BodyF) (m := out.length) (xs := out) rfl rfl)) (x21.b)).mono ?_
   rintro e w' ⟨rfl, hw'⟩
   refine ⟨_, rfl, _, back _ _ hw', ?_⟩
   clear hw hw1 hw' back kn sb
   refine lv (v := .bool (hasB out (x21.b))) (e_pick_t rfl) ?_
   refine lnf ?_
   refine c_ifb (hasB out (x21.b)) rfl (fun hc29 => ?_) (fun hc29 => ?_)
   ·refine c_region ?_
    refine lv (v := pp b4 1) (e_fieldPt rfl tf55) ?_
    refine lv (v := sB rp R rc) (e_load1 tf56 rfl (k_pt 3 rfl rfl)) ?_
    refine lv (v := .agg #[Ix (x21.a), Ix (x21.b), Ix (x21.len)]) (e_load tf47 rfl (k_pt 0 rfl rfl) rfl) ?_
    refine l_mv rfl rfl rfl (m_slices tf46 tf77 (cells := #[Ix (x21.a), Ix (x21.b), Ix (x21.len)]) rfl rfl rfl rfl) ?_
    rintro _ _ ⟨b30, rfl, rfl⟩
    refine l_mv rfl rfl rfl (m_appendFlN (F := RopeF) 2 tf46 tf84 (p := rp) (m := R.length) (xs := R) (ys := [x21]) (ao := (some ⟨b30, 0, none⟩)) (k := 1) (c := 1) rfl rfl rfl rfl rfl (k_ptFl (z := x21) 0 rfl rfl) (by first | omega | simp only [List.length_nil, List.length_cons, List.length_append, List.length_set]; omega) (by first | omega | simp only [List.length_nil, List.length_cons, List.length_append, List.length_set]; omega)) ?_
    rintro _ _ ⟨rp31, rc32, rfl, rfl⟩
    refine lv (v := pp b4 1) (e_fieldPt rfl tf55) ?_
    refine lu (m_store 4 tf56 (cs' := #[sB p out c, sB rp31 (R ++ [x21]) rc32, Ix (gx), Ix (gy)]) rfl rfl rfl rfl rfl rfl rfl) ?_
    refine l_nil ?_
    refine f_block ?_
    refine f_then ?_
    refine c_region ?_
    refine lv (v := Nx (k2 + 1)) (e_add (a := ((k2 : Nat) : Int)) (b := (1 : Int)) rfl rfl (i64n (by omega) (by omega))) ?_
    refine lv (v := Nx (k2 + 1)) e_move ?_
    refine l_nil ?_
    refine f_mask (L' := [rowF RopeF 35 rp31 rc32 (R ++ [x21]), rowF BodyF 31 p c out, pt b4 (.cells #[sB p out c, sB rp31 (R ++ [x21]) rc32, Ix (gx), Ix (gy)] 27), pt b3 (.cells #[.slice none 0 0, .slice none 0 0, .int .i64 (0), .int .i64 (0)] 27), pt b2 (.cells #[Ix (gx), Ix (gy)] 25), pt b1 (.cells #[Ix (tick), sB va es (vc)] 70)]) [false, false, true, true, true, true, true, true] rfl ?_
    exact f_cut ⟨(k2 + 1, (R ++ [x21]), rp31, rc32), ⟨⟨rfl, rfl, rfl, rfl, rfl, rfl⟩, rfl, ⟨by omega, by rw [ropes_yes hx22 hg28 hc29, ← hR]⟩⟩, (show rs.length - (k2 + 1) < rs.length - k2 from by omega)⟩
   refine c_skip ?_
   refine f_block ?_
   refine f_then ?_
   refine c_region ?_
   refine lv (v := Nx (k2 + 1)) (e_add (a := ((k2 : Nat) : Int)) (b := (1 : Int)) rfl rfl (i64n (by omega) (by omega))) ?_
   refine lv (v := Nx (k2 + 1)) e_move ?_
   refine l_nil ?_
   refine f_mask (L' := [rowF RopeF 35 rp rc R, rowF BodyF 31 p c out, pt b4 (.cells #[sB p out c, sB rp R rc, Ix (gx), Ix (gy)] 27), pt b3 (.cells #[.slice none 0 0, .slice none 0 0, .int .i64 (0), .int .i64 (0)] 27), pt b2 (.cells #[Ix (gx), Ix (gy)] 25), pt b1 (.cells #[Ix (tick), sB va es (vc)] 70)]) [false, true, true, true, true, true, true] rfl ?_
   exact f_cut ⟨(k2 + 1, R, rp, rc), ⟨⟨rfl, rfl, rfl, rfl, rfl, rfl⟩, rfl, ⟨by omega, by rw [ropes_no hx22 (by simp [hc29]), ← hR]⟩⟩, (show rs.length - (k2 + 1) < rs.length - k2 from by omega)⟩
  refine l_skip rfl rfl rfl rfl rfl rfl ?_
  refine l_skip rfl rfl rfl rfl rfl rfl ?_
  refine l_skip rfl rfl rfl rfl rfl rfl ?_
  refine l_skip rfl rfl rfl rfl rfl rfl ?_
  refine lv (v := .bool false) (e_pick_f rfl) ?_
  refine lnf ?_
  refine c_no rfl ?_
  refine c_skip ?_
  refine f_block ?_
  refine f_then ?_
  refine c_region ?_
  refine lv (v := Nx (k2 + 1)) (e_add (a := ((k2 : Nat) : Int)) (b := (1 : Int)) rfl rfl (i64n (by omega) (by omega))) ?_
  refine lv (v := Nx (k2 + 1)) e_move ?_
  refine l_nil ?_
  refine f_mask (L' := [rowF RopeF 35 rp rc R, rowF BodyF 31 p c out, pt b4 (.cells #[sB p out c, sB rp R rc, Ix (gx), Ix (gy)] 27), pt b3 (.cells #[.slice none 0 0, .slice none 0 0, .int .i64 (0), .int .i64 (0)] 27), pt b2 (.cells #[Ix (gx), Ix (gy)] 25), pt b1 (.cells #[Ix (tick), sB va es (vc)] 70)]) [false, true, true, true, true, true, true] rfl ?_
  exact f_cut ⟨(k2 + 1, R, rp, rc), ⟨⟨rfl, rfl, rfl, rfl, rfl, rfl⟩, rfl, ⟨by omega, by rw [ropes_no hx22 (by simp [hg28]), ← hR]⟩⟩, (show rs.length - (k2 + 1) < rs.length - k2 from by omega)⟩
 refine c_exit ?_
 refine f_then_exit ?_
 refine f_then_exit ?_
 refine f_exit ?_
 refine ftc ?_
 refine lv (v := .agg #[sB p out c, sB rp R rc, Ix (gx), Ix (gy)]) (e_load tf86 rfl (k_pt 2 rfl rfl) rfl) ?_
 refine lu (m_store 3 tf86 (cs' := #[sB p out c, sB rp R rc, Ix (gx), Ix (gy)]) rfl rfl rfl rfl rfl rfl rfl) ?_
 refine lnf ?_
 refine c_ret ?_
 refine retG (m := [.agg #[sB p out c, sB rp R rc, Ix (gx), Ix (gy)]]) Tryd.results34 ⟨rd_cell tf86 rfl (k_pt 3 rfl rfl) rfl, trivial⟩ rfl ?_
 intro w hw
 have hw2 := st_mask (L' := [rowF RopeF 35 rp rc R, rowF BodyF 31 p c out]) [true, true, false, false, false, false] rfl hw
 have hRe : R = ropesOf out rs := by rw [hR, List.take_of_length_le (by omega)]
 rw [hoe] at hRe hw2 ⊢
 rw [hRe] at hw2 ⊢
 exact ⟨p, c, rp, rc, rfl, hw2.perm (perm_ix [1, 0] 2 rfl (by kernel_rfl) (by kernel_rfl))⟩
end Go.Proofs
