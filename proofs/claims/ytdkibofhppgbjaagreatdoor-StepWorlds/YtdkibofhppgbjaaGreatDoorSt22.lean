/-
 What Bodies makes of a world: walked. Printed by a program of my own.
-/
import Derived.Test.YtdkibofhppgbjaaGreatDoorSt9
import Derived.Test.YtdkibofhppgbjaaGreatDoorStWorld
import Derived.Test.YtdkibofhppgbjaaGreatDoorSlB
namespace Go.Proofs
open Go Go.Sl Go.Stp
theorem body_ret_none {id : Int} {cm : List KComp} (h : bodyOf id cm = none) : Ending.returned (.tuple #[.agg (bC zeroB), .bool false]) = .returned (.tuple #[.agg (bC (bodyD id cm)), .bool (bodyOf id cm).isSome]) := by unfold bodyD; rw [h]; rfl
theorem body_ret_some {id : Int} {cm : List KComp} {b : KB} (h : bodyOf id cm = some b) : Ending.returned (.tuple #[.agg (bC b), .bool true]) = .returned (.tuple #[.agg (bC (bodyD id cm)), .bool (bodyOf id cm).isSome]) := by unfold bodyD; rw [h]; rfl
instance tg114 : UndC Tryz.prog 57 120 := ⟨by kernel_rfl⟩
theorem tg115 : slB Tryz.prog 57 120 5 = true := by kernel_rfl
instance tg116 : TyC Tryz.prog 120 true 5 := ⟨by kernel_rfl⟩
instance tg117 : FldC Tryz.prog 120 0 0 1 false := ⟨by kernel_rfl⟩
instance tg118 : FldC Tryz.prog 59 1 1 1 false := ⟨by kernel_rfl⟩
instance tg119 : TyC Tryz.prog 57 false 1 := ⟨by kernel_rfl⟩
instance tg120 : CfC Tryz.prog 111 := ⟨by kernel_rfl⟩
instance tg121 : TyC Tryz.prog 59 true 2 := ⟨by kernel_rfl⟩
instance tg122 : CfC Tryz.prog 65 := ⟨by kernel_rfl⟩
theorem tg123 : Tryz.prog.underlying 121 = some (.pointer (Tryz.prog.pointee 121)) := by kernel_rfl
instance tg124 : FldC Tryz.prog 59 0 0 1 false := ⟨by kernel_rfl⟩
instance tg125 : FldC Tryz.prog 120 1 1 4 true := ⟨by kernel_rfl⟩
instance tg126 : ArrC Tryz.prog 118 4 3 1 := ⟨by kernel_rfl⟩
instance tg127 : CfC Tryz.prog 62 := ⟨by kernel_rfl⟩
instance tg128 : FldC Tryz.prog 24 1 1 1 false := ⟨by kernel_rfl⟩
instance tg129 : TyC Tryz.prog 22 false 1 := ⟨by kernel_rfl⟩
instance tg130 : UndC Tryz.prog 22 59 := ⟨by kernel_rfl⟩
theorem tg131 : slB Tryz.prog 22 59 2 = true := by kernel_rfl
instance tg132 : ZerC Tryz.prog 59 (.agg #[.int .i64 (0), .slice none 0 0]) := ⟨by kernel_rfl⟩
instance tg133 : CfC Tryz.prog 60 := ⟨by kernel_rfl⟩
instance tg134 : CfC Tryz.prog 61 := ⟨by kernel_rfl⟩
set_option maxHeartbeats 4000000 in
theorem indexC_ok (β : Base) (w : World) (hw : St β [] w) (v fn : Value) (xs : List KComp) (hs : Sl CompR β.heap v xs) (p : KComp → Bool) (hfn : FnV Tryz.prog β fn (fun z : KComp => [.agg #[Bx (z.kind), Ix (z.v0), Ix (z.v1), Ix (z.v2), Ix (z.v3)]]) (· ∈ xs) (fun z => .bool (p z))) : Ret Tryz.prog 111 #[v, fn] β w (Ix (idxI p xs)) := by
 obtain ⟨va,vc,rfl,vl,vm,ve⟩ := hs.get
 obtain ⟨gg,fst,cap,rfl,hcf,hf⟩ := hfn
 refine enter (n := 19) Tryz.func111 rfl Tryz.ntmps111 rfl ?_ hw
 refine csr (lE oai (lnf (cs2 (c_region (lE oms (lE oln (lE omi (lnf (c_block ?_)))))))))
 refine c_loop (fun (k : Nat) f L => (f 0 = sB va xs (vc) ∧ f 1 = .func (.func gg) fst.toArray cap.toArray ∧ f 7 = Nx (xs.length) ∧ f 8 = Nx (k)) ∧ L = [] ∧ (k ≤ xs.length ∧ ∀ y ∈ xs.take k,p y = false)) (fun k => xs.length - k) 0 ?_ ?_
 ·exact ⟨⟨rfl,rfl,rfl,rfl⟩,rfl,⟨by omega,fun y hy => by simp at hy⟩⟩
 rintro k f0 L0 ⟨⟨hs0,hs1,hs7,hs8⟩,hL,⟨hk,hp⟩⟩
 subst L0
 refine rbs 0 hs0 (rbs 1 hs1 (rbs 7 hs7 (rbs 8 hs8 (csr (lE olt (lnf (c_seq (c_if _ rfl (fun hc1 => ?_) (fun hc1 => ?_)))))))))
 ·refine csk (c_seq (c_block (csr (lE omi (lE oai (lnc (lE omf (lE oms (lE omi ?_)))))))))
  obtain ⟨x2,hx2⟩ := getx xs k (by omega)
  obtain ⟨ha4,cs5,hc6,rfl⟩ := ve _ _ hx2
  refine lE (oia tg115 ha4) (lv (v := .agg #[Bx (x2.kind),Ix (x2.v0),Ix (x2.v1),Ix (x2.v2),Ix (x2.v3)]) (e_load tg116.ok rfl (kB hc6) rfl) ?_)
  refine l_call rfl rfl rfl (cl_value (fst := fst) (cap := cap) (vs := [.agg #[Bx (x2.kind),Ix (x2.v0),Ix (x2.v1),Ix (x2.v2),Ix (x2.v3)]]) (all := fst ++ [.agg #[Bx (x2.kind),Ix (x2.v0),Ix (x2.v1),Ix (x2.v2),Ix (x2.v3)]] ++ cap) hcf rfl rfl rfl) ?_
  intro w hw
  obtain ⟨β1,sb,kn,hw1,back⟩ := St.frame_all hw
  refine (hf β1 sb x2 (List.mem_of_getElem? hx2) w hw1).mono ?_
  rintro e w' ⟨rfl,hw'⟩
  refine ⟨_,rfl,_,back _ _ hw',?_⟩
  clear hw hw1 hw' back kn sb
  refine lnf (c_ifb (p x2) rfl (fun hc8 => ?_) (fun hc8 => ?_))
  ·refine csr (lE omi (lE oai (lnf (c_ret (f_block_ret (f_then_ret (f_then_ret (f_block_ret (f_then_ret (ret1 Tryz.results111 rfl ?_))))))))))
   intro w hw
   exact ⟨congrArg (fun z : Int => Ending.returned (Ix z)) (idx_found hx2 hc8 hp).symm,st_mask [] rfl hw⟩
  refine c_skip (f_block (f_then (c_region (lv (v := Nx (k + 1)) (e_add rfl rfl (i64n (by omega) (by omega))) (lE omi (l_nil ?_))))))
  exact f_cut ⟨k + 1,⟨⟨rfl,rfl,rfl,rfl⟩,rfl,⟨by omega,idx_next hx2 hc8 hp⟩⟩,(show xs.length - (k + 1) < xs.length - k from by omega)⟩
 refine c_exit (f_then_exit (f_then_exit (f_exit (ftc (lE oai (lnf (c_ret (ret1 Tryz.results111 rfl ?_))))))))
 intro w hw
 exact ⟨congrArg (fun z : Int => Ending.returned (Ix z)) (idx_none (by omega) hp).symm,st_mask [] rfl hw⟩
theorem first1_fn (β : Base) (c : Nat) (kd : UInt8) (hc : Cs β.heap ⟨c, 0, none⟩ [Bx kd]) : FnV Tryz.prog β (.func (.func 112) #[] #[pp c 0]) (fun z : KComp => [.agg #[Bx (z.kind), Ix (z.v0), Ix (z.v1), Ix (z.v2), Ix (z.v3)]]) (fun _ => True) (fun z => .bool (decide (z.kind = kd))) := by
 refine ⟨112,[],[.pointer (some (⟨c,0,none⟩))],rfl,by kernel_rfl,fun β₁ sb0 z_ hz_ w hw => ?_⟩
 have hc1 := Cs.mono _ _ _ _ sb0 hc
 obtain ⟨z,hz⟩ : ∃ z,z = z_ := ⟨_,rfl⟩
 subst hz
 refine enter (n := 8) Tryz.func112 rfl Tryz.ntmps112 rfl ?_ hw
 refine csr (bxa fun b1 => ?_)
 refine lE oab (lnc (lE ofp (lE (oli 0) (lv (v := Bx (kd)) (e_load1 tf97.ok rfl (kB hc1)) (lE oeq_ (lE oab (lnf (c_ret (ret1 Tryz.results112 rfl ?_)))))))))
 intro w hw
 exact ⟨congrArg (fun b : Bool => Ending.returned (.bool b)) (decide_eq_decide.2 ⟨fun h => (UInt8.toNat_inj.1 (by omega)),fun h => by rw [h]⟩),st_mask [false] rfl hw⟩
theorem first_ok (β : Base) (w : World) (hw : St β [] w) (id : Int) (va : Option Addr) (vc : Nat) (cm : List KComp) (hs : Sl CompR β.heap (sB va cm vc) cm) (kd : UInt8) : Ret Tryz.prog 65 #[.agg #[Ix id, sB va cm vc], Bx kd] β w (.pointer (optP va cm kd)) := by
 obtain ⟨-,vl,vm,ve⟩ := Sl.parts hs
 refine enter (n := 16) Tryz.func65 rfl Tryz.ntmps65 rfl ?_ hw
 refine csr (bxa fun b1 => ?_)
 refine bxi fun b2 => ?_
 refine lE oap (lnc (lE ofp (lE (ols 1) (lv (v := .func (.func 112) #[] #[pp b2 0]) (e_func (u := []) (v := [pp b2 0]) rfl rfl) ?_))))
 refine lcR clA (fun w β1 sb kn hw1 => indexC_ok β1 w hw1 _ _ cm (Sl.mono _ _ _ _ _ sb hs) (fun c => decide (c.kind = kd)) (fnv_all (first1_fn β1 b2 kd (kn _ (k_pt 0 (o := 0) rfl rfl))))) ?_
 refine lE oai (lnf (cs2 ?_))
 rcases idxI_cases (fun c : KComp => decide (c.kind = kd)) cm with ⟨hn,hf⟩ | ⟨i,hi,hf,hl⟩
 ·refine c_region (lE omi (lE olt (lnf (c_if _ rfl (fun hc3 => ?_) (fun hc3 => ?_)))))
  ·refine csr (lE oap (lnf (c_ret (f_then_ret (ret1 Tryz.results65 rfl ?_)))))
   intro w hw
   exact ⟨by rw [show optP va cm kd = none from by unfold optP idxC; rw [hf]; rfl] <;> rfl,st_mask [false,false] rfl hw⟩
  exact absurd hn hc3
 rw [hi]
 refine c_region (lE omi (lE olt (lnf (c_if _ rfl (fun hc4 => ?_) (fun hc4 => ?_)))))
 ·exact absurd hc4 (by omega)
 refine csk (csr (lE ofp (lE (ols 1) (lE omi ?_))))
 obtain ⟨x5,hx6⟩ := getx cm i (by omega)
 obtain ⟨ha7,cs8,hc9,rfl⟩ := ve _ _ hx6
 refine lE (oia tg115 ha7) (lE oap (lnf (c_ret (ret1 Tryz.results65 rfl ?_))))
 intro w hw
 exact ⟨by rw [show optP va cm kd = some ((ba va).add (i * 5)) from by unfold optP idxC; rw [hf]; rfl] <;> rfl,st_mask [false,false] rfl hw⟩
set_option maxHeartbeats 4000000 in
theorem body_ok (β : Base) (w : World) (hw : St β [] w) (id : Int) (va : Option Addr) (vc : Nat) (cm : List KComp) (hs : Sl CompR β.heap (sB va cm vc) cm) : Ret Tryz.prog 60 #[.agg #[Ix id, sB va cm vc]] β w (.tuple #[.agg (bC (bodyD id cm)), .bool (bodyOf id cm).isSome]) := by
 obtain ⟨-,vl,vm,ve⟩ := Sl.parts hs
 refine enter (n := 77) Tryz.func60 rfl Tryz.ntmps60 rfl ?_ hw
 refine csr (bxa fun b1 => ?_)
 refine alE fun b2 => lE oab (lnf (c_seq (c_quiet (by kernel_rfl) (by kernel_rfl) (qE (olg 1) ?_))))
 refine q_call (v := .pointer (optP va cm 1)) rfl rfl rfl (cl0 (vs := [.agg #[Ix (id),sB va cm (vc)],.int .u8 (1)]) tg122.ok rfl rfl) (fun w hw => ?_) ?_
 ·obtain ⟨β1,sb,kn,hw1,back⟩ := St.frame_all hw
  exact (first_ok β1 w hw1 (id) va vc cm (Sl.mono _ _ _ _ _ sb hs) 1).mono (fun e w' ⟨he,hw'⟩ => ⟨he,st_mask [true,true] rfl (back _ _ hw')⟩)
 refine qE (olg 1) ?_
 refine q_call (v := .pointer (optP va cm 3)) rfl rfl rfl (cl0 (vs := [.agg #[Ix (id),sB va cm (vc)],.int .u8 (3)]) tg122.ok rfl rfl) (fun w hw => ?_) ?_
 ·obtain ⟨β1,sb,kn,hw1,back⟩ := St.frame_all hw
  exact (first_ok β1 w hw1 (id) va vc cm (Sl.mono _ _ _ _ _ sb hs) 3).mono (fun e w' ⟨he,hw'⟩ => ⟨he,st_mask [true,true] rfl (back _ _ hw')⟩)
 refine qE (olg 1) ?_
 refine q_call (v := .pointer (optP va cm 2)) rfl rfl rfl (cl0 (vs := [.agg #[Ix (id),sB va cm (vc)],.int .u8 (2)]) tg122.ok rfl rfl) (fun w hw => ?_) ?_
 ·obtain ⟨β1,sb,kn,hw1,back⟩ := St.frame_all hw
  exact (first_ok β1 w hw1 (id) va vc cm (Sl.mono _ _ _ _ _ sb hs) 2).mono (fun e w' ⟨he,hw'⟩ => ⟨he,st_mask [true,true] rfl (back _ _ hw')⟩)
 refine qE oap (qE oap (qE oap (q_nil (fts (csr (lE omp (lv (v := .bool ((optP va cm 1).isNone)) (e_eql_pnil (p := optP va cm 1) rfl rfl tg123) ?_)))))))
 refine lE omb (l_splitb (s := 16) (b := (optP va cm 1).isNone) rfl (fun hg3 => ?_) (fun hg3 => ?_))
 ·obtain ⟨-,hp1,hf1⟩ := optP_none hg3
  refine skE (skE (lE oktb (lnf (c_yes rfl (csr ?_)))))
  refine lv (v := .agg #[.int .i64 (0),.int .i64 (0),.int .i64 (0),.int .i64 (0),.int .i64 (0),.int .i64 (0),.int .i64 (0),.bool false,.bool false]) (e_build tf58.ok tf102 (vs := []) (cells := #[.int .i64 (0),.int .i64 (0),.int .i64 (0),.int .i64 (0),.int .i64 (0),.int .i64 (0),.int .i64 (0),.bool false,.bool false]) rfl (by kernel_rfl)) ?_
  refine lu (mS 0 (#[.int .i64 (0),.int .i64 (0),.int .i64 (0),.int .i64 (0),.int .i64 (0),.int .i64 (0),.int .i64 (0),.bool false,.bool false])) ?_
  refine lE oab (lnf (c_ret (f_then_ret ?_)))
  refine retG (m := [.agg #[.int .i64 (0),.int .i64 (0),.int .i64 (0),.int .i64 (0),.int .i64 (0),.int .i64 (0),.int .i64 (0),.bool false,.bool false],.bool false]) Tryz.results60 ⟨rd_cell tf22.ok rfl (k_pt 0 rfl rfl) rfl,rd_tmp (v := .bool false) rfl,trivial⟩ rfl ?_
  intro w hw
  exact ⟨body_ret_none (body_no1 hf1),st_mask [false,false] rfl hw⟩
 obtain ⟨i1,c1,hi1,hk1,hx1,hp1,hf1⟩ := optP_some hg3
 obtain ⟨ha1,cs1,hc1,rfl⟩ := ve _ _ hi1
 rw [hp1]
 refine gE omp (g_val (v := .bool ((optP va cm 3).isNone)) rfl rfl rfl rfl rfl (e_eql_pnil (p := optP va cm 3) rfl rfl tg123) (lE okfb (lnf ?_)))
 refine c_ifb ((optP va cm 3).isNone) rfl (fun hc4 => ?_) (fun hc4 => ?_)
 ·obtain ⟨-,hp3,hf3⟩ := optP_none hc4
  refine csr ?_
  refine lv (v := .agg #[.int .i64 (0),.int .i64 (0),.int .i64 (0),.int .i64 (0),.int .i64 (0),.int .i64 (0),.int .i64 (0),.bool false,.bool false]) (e_build tf58.ok tf102 (vs := []) (cells := #[.int .i64 (0),.int .i64 (0),.int .i64 (0),.int .i64 (0),.int .i64 (0),.int .i64 (0),.int .i64 (0),.bool false,.bool false]) rfl (by kernel_rfl)) ?_
  refine lu (mS 0 (#[.int .i64 (0),.int .i64 (0),.int .i64 (0),.int .i64 (0),.int .i64 (0),.int .i64 (0),.int .i64 (0),.bool false,.bool false])) ?_
  refine lE oab (lnf (c_ret (f_then_ret ?_)))
  refine retG (m := [.agg #[.int .i64 (0),.int .i64 (0),.int .i64 (0),.int .i64 (0),.int .i64 (0),.int .i64 (0),.int .i64 (0),.bool false,.bool false],.bool false]) Tryz.results60 ⟨rd_cell tf22.ok rfl (k_pt 0 rfl rfl) rfl,rd_tmp (v := .bool false) rfl,trivial⟩ rfl ?_
  intro w hw
  exact ⟨body_ret_none (body_no3 hf3),st_mask [false,false] rfl hw⟩
 obtain ⟨i3,c3,hi3,hk3,hx3,hp3,hf3⟩ := optP_some hc4
 obtain ⟨ha3,cs3,hc3,rfl⟩ := ve _ _ hi3
 rw [hp3]
 refine csk (c_seq ?_)
 rcases Decidable.em (c3.v3 = 1) with hfx | hfx
 ·refine cny [sv 21 (pp b1 0) [] [] [0],sv 22 (Ix (id)) [0] [0] [],sv 23 (.pointer (some ((ba va).add (i1 * 5)))) [] [] [1],sv 24 (.pointer (some ((ba va).add (i1 * 5)))) [2] [2] [],sv 25 (.pointer (some (((ba va).add (i1 * 5) : Addr).add 1))) [2,3] [3] [],sv 26 (.pointer (some ((((ba va).add (i1 * 5) : Addr).add 1 : Addr).add (0 * 1)))) [2,3,4] [4] [],sv 27 (Ix (c1.v0)) [2,3,4,5] [5] [],sv 28 (.pointer (some ((ba va).add (i1 * 5)))) [] [] [1],sv 29 (.pointer (some ((ba va).add (i1 * 5)))) [7] [7] [],sv 30 (.pointer (some (((ba va).add (i1 * 5) : Addr).add 1))) [7,8] [8] [],sv 31 (.pointer (some ((((ba va).add (i1 * 5) : Addr).add 1 : Addr).add (1 * 1)))) [7,8,9] [9] [],sv 32 (Ix (c1.v1)) [7,8,9,10] [10] [],sv 33 (.agg #[Ix (c1.v0),Ix (c1.v1)]) [2,3,4,5,6,7,8,9,10,11] [6,11] [],sv 34 (.pointer (some ((ba va).add (i3 * 5)))) [] [] [2],sv 35 (.pointer (some ((ba va).add (i3 * 5)))) [13] [13] [],sv 36 (.pointer (some (((ba va).add (i3 * 5) : Addr).add 1))) [13,14] [14] [],sv 37 (.pointer (some ((((ba va).add (i3 * 5) : Addr).add 1 : Addr).add (0 * 1)))) [13,14,15] [15] [],sv 38 (Ix (c3.v0)) [13,14,15,16] [16] [],sv 39 (.pointer (some ((ba va).add (i3 * 5)))) [] [] [2],sv 40 (.pointer (some ((ba va).add (i3 * 5)))) [18] [18] [],sv 41 (.pointer (some (((ba va).add (i3 * 5) : Addr).add 1))) [18,19] [19] [],sv 42 (.pointer (some ((((ba va).add (i3 * 5) : Addr).add 1 : Addr).add (1 * 1)))) [18,19,20] [20] [],sv 43 (Ix (c3.v1)) [18,19,20,21] [21] [],sv 44 (.pointer (some ((ba va).add (i3 * 5)))) [] [] [2],sv 45 (.pointer (some ((ba va).add (i3 * 5)))) [23] [23] [],sv 46 (.pointer (some (((ba va).add (i3 * 5) : Addr).add 1))) [23,24] [24] [],sv 47 (.pointer (some ((((ba va).add (i3 * 5) : Addr).add 1 : Addr).add (2 * 1)))) [23,24,25] [25] [],sv 48 (Ix (c3.v2)) [23,24,25,26] [26] [],sv 49 (.bool (decide ((c3.v2) = (1 : Int)))) [23,24,25,26,27] [27] [],sv 50 (.pointer (some ((ba va).add (i3 * 5)))) [] [] [2],sv 51 (.pointer (some ((ba va).add (i3 * 5)))) [29] [29] [],sv 52 (.pointer (some (((ba va).add (i3 * 5) : Addr).add 1))) [29,30] [30] [],sv 53 (.pointer (some ((((ba va).add (i3 * 5) : Addr).add 1 : Addr).add (3 * 1)))) [29,30,31] [31] [],sv 54 (Ix (c3.v3)) [29,30,31,32] [32] [],sv 55 (.bool true) [29,30,31,32,33] [33] [],sv 56 (.bool true) [29,30,31,32,33,34] [34] [],sv 57 undef [29,30,31,32,33,34,35] [35] [3],sv 58 undef [29,30,31,32,33,34,35,36] [36,35] [],sv 59 (.bool true) [29,30,31,32,33,34,35,36,37] [35,37] [],sv 60 (.agg #[Ix (id),Ix (c1.v0),Ix (c1.v1),.int .i64 (0),.int .i64 (0),Ix (c3.v0),Ix (c3.v1),.bool (decide ((c3.v2) = (1 : Int))),.bool true]) (List.range 39) [1,12,17,22,28,38] [],⟨[],[],[],[7],fun f => f 7 = .pointer (some ⟨(blk (f 7)),0,none⟩)⟩,⟨(List.range 41),[40,39],[],[],fun _ => True⟩] [tk (pt b2 (.cells #[.int .i64 (0),.int .i64 (0),.int .i64 (0),.int .i64 (0),.int .i64 (0),.int .i64 (0),.int .i64 (0),.bool false,.bool false] 52)) [],tk (pt b1 (.cells #[Ix (id),sB va cm (vc)] 59)) [1],⟨(some 40),(some 41),[41],[7],fun f => pt (blk (f 7)) (.cells #[.int .i64 (0),.int .i64 (0),.int .i64 (0),.int .i64 (0),.int .i64 (0),.int .i64 (0),.int .i64 (0),.bool false,.bool false] 52)⟩,⟨(some 41),none,[],[7],fun f => pt (blk (f 7)) (.cells #[Ix (id),Ix (c1.v0),Ix (c1.v1),.int .i64 (0),.int .i64 (0),Ix (c3.v0),Ix (c3.v1),.bool (decide ((c3.v2) = (1 : Int))),.bool true] 52)⟩] [(1,pp b1 0),(4,.pointer (some ((ba va).add (i1 * 5)))),(5,.pointer (some ((ba va).add (i3 * 5)))),(6,.pointer (optP va cm 2)),(2,pp b2 0)] [4,3] [] ⟨rfl,rfl,rfl,rfl,rfl,trivial⟩ ⟨?_,?_,?_,?_,?_,?_,?_,?_,?_,?_,?_,?_,?_,?_,?_,?_,?_,?_,?_,?_,?_,?_,?_,?_,?_,?_,?_,?_,?_,?_,?_,?_,?_,?_,?_,?_,?_,?_,?_,?_,?_,?_,trivial⟩ ?_
  ·rintro f M - ⟨i0,-⟩
   exact obE ofp
  ·rintro f M ⟨k0,-⟩ -
   exact obE (oli 0)
  ·rintro f M - ⟨i0,-⟩
   exact obE omp
  ·rintro f M ⟨k0,-⟩ -
   exact obE onp
  ·rintro f M ⟨k0,-⟩ -
   exact obE ofa
  ·rintro f M ⟨k0,-⟩ -
   exact ob0 (up_cons (d := 25) rfl k0) rfl (e_indexArr (a := ((ba va).add (i1 * 5) : Addr).add 1) (k := 0) rfl rfl tg126.ok (by decide)) (.refl _)
  ·rintro f M ⟨k0,-⟩ -
   exact ob0 (up_cons (d := 26) rfl k0) rfl (e_load1 tf2.ok rfl (Knows.imp (Knows.imp (kB hc1) (fun _ h => Cs.sub (vs := [Ix (c1.v0),Ix (c1.v1),Ix (c1.v2),Ix (c1.v3)]) 1 h rfl)) (fun _ h => Cs.sub (vs := [Ix (c1.v0)]) (0 * 1) h rfl))) (.refl _)
  ·rintro f M - ⟨i0,-⟩
   exact obE omp
  ·rintro f M ⟨k0,-⟩ -
   exact obE onp
  ·rintro f M ⟨k0,-⟩ -
   exact obE ofa
  ·rintro f M ⟨k0,-⟩ -
   exact ob0 (up_cons (d := 30) rfl k0) rfl (e_indexArr (a := ((ba va).add (i1 * 5) : Addr).add 1) (k := 1) rfl rfl tg126.ok (by decide)) (.refl _)
  ·rintro f M ⟨k0,-⟩ -
   exact ob0 (up_cons (d := 31) rfl k0) rfl (e_load1 tf2.ok rfl (Knows.imp (Knows.imp (kB hc1) (fun _ h => Cs.sub (vs := [Ix (c1.v0),Ix (c1.v1),Ix (c1.v2),Ix (c1.v3)]) 1 h rfl)) (fun _ h => Cs.sub (vs := [Ix (c1.v1)]) (1 * 1) h rfl))) (.refl _)
  ·rintro f M ⟨k0,k1,-⟩ -
   exact ob0 (up_cons (d := 32) (up_cons (d := 27) rfl k0) k1) rfl (e_build tf17.ok tf16 (vs := [(0,Ix (c1.v0)),(1,Ix (c1.v1))]) (cells := #[Ix (c1.v0),Ix (c1.v1)]) rfl rfl) (.refl _)
  ·rintro f M - ⟨i0,-⟩
   exact obE omp
  ·rintro f M ⟨k0,-⟩ -
   exact obE onp
  ·rintro f M ⟨k0,-⟩ -
   exact obE ofa
  ·rintro f M ⟨k0,-⟩ -
   exact ob0 (up_cons (d := 36) rfl k0) rfl (e_indexArr (a := ((ba va).add (i3 * 5) : Addr).add 1) (k := 0) rfl rfl tg126.ok (by decide)) (.refl _)
  ·rintro f M ⟨k0,-⟩ -
   exact ob0 (up_cons (d := 37) rfl k0) rfl (e_load1 tf2.ok rfl (Knows.imp (Knows.imp (kB hc3) (fun _ h => Cs.sub (vs := [Ix (c3.v0),Ix (c3.v1),Ix (c3.v2),Ix (c3.v3)]) 1 h rfl)) (fun _ h => Cs.sub (vs := [Ix (c3.v0)]) (0 * 1) h rfl))) (.refl _)
  ·rintro f M - ⟨i0,-⟩
   exact obE omp
  ·rintro f M ⟨k0,-⟩ -
   exact obE onp
  ·rintro f M ⟨k0,-⟩ -
   exact obE ofa
  ·rintro f M ⟨k0,-⟩ -
   exact ob0 (up_cons (d := 41) rfl k0) rfl (e_indexArr (a := ((ba va).add (i3 * 5) : Addr).add 1) (k := 1) rfl rfl tg126.ok (by decide)) (.refl _)
  ·rintro f M ⟨k0,-⟩ -
   exact ob0 (up_cons (d := 42) rfl k0) rfl (e_load1 tf2.ok rfl (Knows.imp (Knows.imp (kB hc3) (fun _ h => Cs.sub (vs := [Ix (c3.v0),Ix (c3.v1),Ix (c3.v2),Ix (c3.v3)]) 1 h rfl)) (fun _ h => Cs.sub (vs := [Ix (c3.v1)]) (1 * 1) h rfl))) (.refl _)
  ·rintro f M - ⟨i0,-⟩
   exact obE omp
  ·rintro f M ⟨k0,-⟩ -
   exact obE onp
  ·rintro f M ⟨k0,-⟩ -
   exact obE ofa
  ·rintro f M ⟨k0,-⟩ -
   exact ob0 (up_cons (d := 46) rfl k0) rfl (e_indexArr (a := ((ba va).add (i3 * 5) : Addr).add 1) (k := 2) rfl rfl tg126.ok (by decide)) (.refl _)
  ·rintro f M ⟨k0,-⟩ -
   exact ob0 (up_cons (d := 47) rfl k0) rfl (e_load1 tf2.ok rfl (Knows.imp (Knows.imp (kB hc3) (fun _ h => Cs.sub (vs := [Ix (c3.v0),Ix (c3.v1),Ix (c3.v2),Ix (c3.v3)]) 1 h rfl)) (fun _ h => Cs.sub (vs := [Ix (c3.v2)]) (2 * 1) h rfl))) (.refl _)
  ·rintro f M ⟨k0,-⟩ -
   exact obE oeq_
  ·rintro f M - ⟨i0,-⟩
   exact obE omp
  ·rintro f M ⟨k0,-⟩ -
   exact obE onp
  ·rintro f M ⟨k0,-⟩ -
   exact obE ofa
  ·rintro f M ⟨k0,-⟩ -
   exact ob0 (up_cons (d := 52) rfl k0) rfl (e_indexArr (a := ((ba va).add (i3 * 5) : Addr).add 1) (k := 3) rfl rfl tg126.ok (by decide)) (.refl _)
  ·rintro f M ⟨k0,-⟩ -
   exact ob0 (up_cons (d := 53) rfl k0) rfl (e_load1 tf2.ok rfl (Knows.imp (Knows.imp (kB hc3) (fun _ h => Cs.sub (vs := [Ix (c3.v0),Ix (c3.v1),Ix (c3.v2),Ix (c3.v3)]) 1 h rfl)) (fun _ h => Cs.sub (vs := [Ix (c3.v3)]) (3 * 1) h rfl))) (.refl _)
  ·rintro f M ⟨k0,-⟩ -
   exact ob0 (up_cons (d := 54) rfl k0) rfl ((ev_t hfx (e_eql (a := (c3.v3)) (b := (1 : Int)) rfl rfl))) (.refl _)
  ·rintro f M ⟨k0,-⟩ -
   exact obE omb
  ·rintro f M ⟨k0,-⟩ ⟨i0,-⟩
   refine ob_start (L' := M) (by rfl) (up_cons (d := 56) (up_cons (d := 6) rfl i0) k0) (skE (l_nil ?_))
   exact f_owes_d (up_cons (d := 56) (up_cons (d := 6) rfl i0) k0) rfl (List.Perm.refl _)
  ·rintro f M ⟨k0,k1,-⟩ -
   refine ob_start (L' := M) (by rfl) (up_cons (d := 56) (up_cons (d := 57) rfl k0) k1) (skE (l_nil ?_))
   exact f_owes_d (up_cons (d := 56) (up_cons (d := 57) rfl k0) k1) rfl (List.Perm.refl _)
  ·rintro f M ⟨k0,k1,-⟩ -
   exact obE oktb
  ·rintro f M ⟨k0,k1,k2,k3,k4,k5,-⟩ -
   exact ob0 (up_cons (d := 59) (up_cons (d := 49) (up_cons (d := 43) (up_cons (d := 38) (up_cons (d := 33) (up_cons (d := 22) rfl k0) k1) k2) k3) k4) k5) rfl (e_build tf58.ok tf102 (vs := [(0,Ix (id)),(1,.agg #[Ix (c1.v0),Ix (c1.v1)]),(3,Ix (c3.v0)),(4,Ix (c3.v1)),(5,.bool (decide ((c3.v2) = (1 : Int)))),(6,.bool true)]) (cells := #[Ix (id),Ix (c1.v0),Ix (c1.v1),.int .i64 (0),.int .i64 (0),Ix (c3.v0),Ix (c3.v1),.bool (decide ((c3.v2) = (1 : Int))),.bool true]) rfl (by kernel_rfl)) (.refl _)
  ·rintro f M - -
   refine ob_start (L' := M) (by rfl) rfl (alE fun b6 => l_nil ?_)
   exact f_owes_d rfl rfl (perm_front 0 rfl)
  ·rintro f M ⟨k0,k1,-⟩ -
   have hs7 : f 7 = .pointer (some ⟨(blk (f 7)),0,none⟩) := k0
   refine ob_start (L' := pt (blk (f 7)) (.cells #[.int .i64 (0),.int .i64 (0),.int .i64 (0),.int .i64 (0),.int .i64 (0),.int .i64 (0),.int .i64 (0),.bool false,.bool false] 52) :: M) (by rfl) (up_cons (d := 60) (up_cons rfl hs7) k1) ?_
   refine lu (mS 0 (#[Ix (id),Ix (c1.v0),Ix (c1.v1),.int .i64 (0),.int .i64 (0),Ix (c3.v0),Ix (c3.v1),.bool (decide ((c3.v2) = (1 : Int))),.bool true])) ?_
   refine l_nil ?_
   exact f_owes_n (up_cons (d := 60) (up_cons rfl hs7) k1) trivial (perm_front 0 rfl)
  rintro fa7 ⟨-,-,-,-,-,-,-,-,-,-,-,-,-,-,-,-,-,-,-,-,-,-,-,-,-,-,-,-,-,-,-,-,-,-,-,-,-,-,-,-,k40,-,-⟩ ⟨j0,j1,-⟩
  refine f_re (L' := [pt b2 (.cells #[.int .i64 (0),.int .i64 (0),.int .i64 (0),.int .i64 (0),.int .i64 (0),.int .i64 (0),.int .i64 (0),.bool false,.bool false] 52),pt b1 (.cells #[Ix (id),sB va cm (vc)] 59),pt (blk (fa7 7)) (.cells #[Ix (id),Ix (c1.v0),Ix (c1.v1),.int .i64 (0),.int .i64 (0),Ix (c3.v0),Ix (c3.v1),.bool (decide ((c3.v2) = (1 : Int))),.bool true] 52)]) (by rfl) ?_
  refine f_rebase (d := 2) j0 (f_rebase (d := 6) j1 (f_rebase (d := 7) k40 (fts (csr (lE ofp (lE (olb 2) (lE ont (lnf (c_no rfl (csk (csr ?_)))))))))))
  refine lE (olg 2) ?_
  refine lu (mS 0 (#[Ix (id),Ix (c1.v0),Ix (c1.v1),.int .i64 (0),.int .i64 (0),Ix (c3.v0),Ix (c3.v1),.bool (decide ((c3.v2) = (1 : Int))),.bool true])) ?_
  refine lE oab (lnf (c_ret ?_))
  refine retG (m := [.agg #[Ix (id),Ix (c1.v0),Ix (c1.v1),.int .i64 (0),.int .i64 (0),Ix (c3.v0),Ix (c3.v1),.bool (decide ((c3.v2) = (1 : Int))),.bool true],.bool true]) Tryz.results60 ⟨rd_cell tf22.ok rfl (k_pt 0 rfl rfl) rfl,rd_tmp (v := .bool true) rfl,trivial⟩ rfl ?_
  intro w hw
  exact ⟨body_ret_some (body_fix hf1 hf3 (.inl hfx)),st_mask [false,false,false] rfl hw⟩
 rcases hv : (optP va cm 2).isNone with _ | _
 ·obtain ⟨i2,c2,hi2,hk2,hx2,hp2,hf2⟩ := optP_some hv
  obtain ⟨ha2,cs2,hc2,rfl⟩ := ve _ _ hi2
  rw [hp2]
  refine cny [sv 21 (pp b1 0) [] [] [0],sv 22 (Ix (id)) [0] [0] [],sv 23 (.pointer (some ((ba va).add (i1 * 5)))) [] [] [1],sv 24 (.pointer (some ((ba va).add (i1 * 5)))) [2] [2] [],sv 25 (.pointer (some (((ba va).add (i1 * 5) : Addr).add 1))) [2,3] [3] [],sv 26 (.pointer (some ((((ba va).add (i1 * 5) : Addr).add 1 : Addr).add (0 * 1)))) [2,3,4] [4] [],sv 27 (Ix (c1.v0)) [2,3,4,5] [5] [],sv 28 (.pointer (some ((ba va).add (i1 * 5)))) [] [] [1],sv 29 (.pointer (some ((ba va).add (i1 * 5)))) [7] [7] [],sv 30 (.pointer (some (((ba va).add (i1 * 5) : Addr).add 1))) [7,8] [8] [],sv 31 (.pointer (some ((((ba va).add (i1 * 5) : Addr).add 1 : Addr).add (1 * 1)))) [7,8,9] [9] [],sv 32 (Ix (c1.v1)) [7,8,9,10] [10] [],sv 33 (.agg #[Ix (c1.v0),Ix (c1.v1)]) [2,3,4,5,6,7,8,9,10,11] [6,11] [],sv 34 (.pointer (some ((ba va).add (i3 * 5)))) [] [] [2],sv 35 (.pointer (some ((ba va).add (i3 * 5)))) [13] [13] [],sv 36 (.pointer (some (((ba va).add (i3 * 5) : Addr).add 1))) [13,14] [14] [],sv 37 (.pointer (some ((((ba va).add (i3 * 5) : Addr).add 1 : Addr).add (0 * 1)))) [13,14,15] [15] [],sv 38 (Ix (c3.v0)) [13,14,15,16] [16] [],sv 39 (.pointer (some ((ba va).add (i3 * 5)))) [] [] [2],sv 40 (.pointer (some ((ba va).add (i3 * 5)))) [18] [18] [],sv 41 (.pointer (some (((ba va).add (i3 * 5) : Addr).add 1))) [18,19] [19] [],sv 42 (.pointer (some ((((ba va).add (i3 * 5) : Addr).add 1 : Addr).add (1 * 1)))) [18,19,20] [20] [],sv 43 (Ix (c3.v1)) [18,19,20,21] [21] [],sv 44 (.pointer (some ((ba va).add (i3 * 5)))) [] [] [2],sv 45 (.pointer (some ((ba va).add (i3 * 5)))) [23] [23] [],sv 46 (.pointer (some (((ba va).add (i3 * 5) : Addr).add 1))) [23,24] [24] [],sv 47 (.pointer (some ((((ba va).add (i3 * 5) : Addr).add 1 : Addr).add (2 * 1)))) [23,24,25] [25] [],sv 48 (Ix (c3.v2)) [23,24,25,26] [26] [],sv 49 (.bool (decide ((c3.v2) = (1 : Int)))) [23,24,25,26,27] [27] [],sv 50 (.pointer (some ((ba va).add (i3 * 5)))) [] [] [2],sv 51 (.pointer (some ((ba va).add (i3 * 5)))) [29] [29] [],sv 52 (.pointer (some (((ba va).add (i3 * 5) : Addr).add 1))) [29,30] [30] [],sv 53 (.pointer (some ((((ba va).add (i3 * 5) : Addr).add 1 : Addr).add (3 * 1)))) [29,30,31] [31] [],sv 54 (Ix (c3.v3)) [29,30,31,32] [32] [],sv 55 (.bool false) [29,30,31,32,33] [33] [],sv 56 (.bool false) [29,30,31,32,33,34] [34] [],sv 57 (.pointer (some ((ba va).add (i2 * 5)))) [29,30,31,32,33,34,35] [35] [3],sv 58 (.bool false) [29,30,31,32,33,34,35,36] [36,35] [],sv 59 (.bool false) [29,30,31,32,33,34,35,36,37] [35,37] [],sv 60 (.agg #[Ix (id),Ix (c1.v0),Ix (c1.v1),.int .i64 (0),.int .i64 (0),Ix (c3.v0),Ix (c3.v1),.bool (decide ((c3.v2) = (1 : Int))),.bool false]) (List.range 39) [1,12,17,22,28,38] [],⟨[],[],[],[7],fun f => f 7 = .pointer (some ⟨(blk (f 7)),0,none⟩)⟩,⟨(List.range 41),[40,39],[],[],fun _ => True⟩] [tk (pt b2 (.cells #[.int .i64 (0),.int .i64 (0),.int .i64 (0),.int .i64 (0),.int .i64 (0),.int .i64 (0),.int .i64 (0),.bool false,.bool false] 52)) [],tk (pt b1 (.cells #[Ix (id),sB va cm (vc)] 59)) [1],⟨(some 40),(some 41),[41],[7],fun f => pt (blk (f 7)) (.cells #[.int .i64 (0),.int .i64 (0),.int .i64 (0),.int .i64 (0),.int .i64 (0),.int .i64 (0),.int .i64 (0),.bool false,.bool false] 52)⟩,⟨(some 41),none,[],[7],fun f => pt (blk (f 7)) (.cells #[Ix (id),Ix (c1.v0),Ix (c1.v1),.int .i64 (0),.int .i64 (0),Ix (c3.v0),Ix (c3.v1),.bool (decide ((c3.v2) = (1 : Int))),.bool false] 52)⟩] [(1,pp b1 0),(4,.pointer (some ((ba va).add (i1 * 5)))),(5,.pointer (some ((ba va).add (i3 * 5)))),(6,.pointer (some ((ba va).add (i2 * 5)))),(2,pp b2 0)] [4,3] [] ⟨rfl,rfl,rfl,rfl,rfl,trivial⟩ ⟨?_,?_,?_,?_,?_,?_,?_,?_,?_,?_,?_,?_,?_,?_,?_,?_,?_,?_,?_,?_,?_,?_,?_,?_,?_,?_,?_,?_,?_,?_,?_,?_,?_,?_,?_,?_,?_,?_,?_,?_,?_,?_,trivial⟩ ?_
  ·rintro f M - ⟨i0,-⟩
   exact obE ofp
  ·rintro f M ⟨k0,-⟩ -
   exact obE (oli 0)
  ·rintro f M - ⟨i0,-⟩
   exact obE omp
  ·rintro f M ⟨k0,-⟩ -
   exact obE onp
  ·rintro f M ⟨k0,-⟩ -
   exact obE ofa
  ·rintro f M ⟨k0,-⟩ -
   exact ob0 (up_cons (d := 25) rfl k0) rfl (e_indexArr (a := ((ba va).add (i1 * 5) : Addr).add 1) (k := 0) rfl rfl tg126.ok (by decide)) (.refl _)
  ·rintro f M ⟨k0,-⟩ -
   exact ob0 (up_cons (d := 26) rfl k0) rfl (e_load1 tf2.ok rfl (Knows.imp (Knows.imp (kB hc1) (fun _ h => Cs.sub (vs := [Ix (c1.v0),Ix (c1.v1),Ix (c1.v2),Ix (c1.v3)]) 1 h rfl)) (fun _ h => Cs.sub (vs := [Ix (c1.v0)]) (0 * 1) h rfl))) (.refl _)
  ·rintro f M - ⟨i0,-⟩
   exact obE omp
  ·rintro f M ⟨k0,-⟩ -
   exact obE onp
  ·rintro f M ⟨k0,-⟩ -
   exact obE ofa
  ·rintro f M ⟨k0,-⟩ -
   exact ob0 (up_cons (d := 30) rfl k0) rfl (e_indexArr (a := ((ba va).add (i1 * 5) : Addr).add 1) (k := 1) rfl rfl tg126.ok (by decide)) (.refl _)
  ·rintro f M ⟨k0,-⟩ -
   exact ob0 (up_cons (d := 31) rfl k0) rfl (e_load1 tf2.ok rfl (Knows.imp (Knows.imp (kB hc1) (fun _ h => Cs.sub (vs := [Ix (c1.v0),Ix (c1.v1),Ix (c1.v2),Ix (c1.v3)]) 1 h rfl)) (fun _ h => Cs.sub (vs := [Ix (c1.v1)]) (1 * 1) h rfl))) (.refl _)
  ·rintro f M ⟨k0,k1,-⟩ -
   exact ob0 (up_cons (d := 32) (up_cons (d := 27) rfl k0) k1) rfl (e_build tf17.ok tf16 (vs := [(0,Ix (c1.v0)),(1,Ix (c1.v1))]) (cells := #[Ix (c1.v0),Ix (c1.v1)]) rfl rfl) (.refl _)
  ·rintro f M - ⟨i0,-⟩
   exact obE omp
  ·rintro f M ⟨k0,-⟩ -
   exact obE onp
  ·rintro f M ⟨k0,-⟩ -
   exact obE ofa
  ·rintro f M ⟨k0,-⟩ -
   exact ob0 (up_cons (d := 36) rfl k0) rfl (e_indexArr (a := ((ba va).add (i3 * 5) : Addr).add 1) (k := 0) rfl rfl tg126.ok (by decide)) (.refl _)
  ·rintro f M ⟨k0,-⟩ -
   exact ob0 (up_cons (d := 37) rfl k0) rfl (e_load1 tf2.ok rfl (Knows.imp (Knows.imp (kB hc3) (fun _ h => Cs.sub (vs := [Ix (c3.v0),Ix (c3.v1),Ix (c3.v2),Ix (c3.v3)]) 1 h rfl)) (fun _ h => Cs.sub (vs := [Ix (c3.v0)]) (0 * 1) h rfl))) (.refl _)
  ·rintro f M - ⟨i0,-⟩
   exact obE omp
  ·rintro f M ⟨k0,-⟩ -
   exact obE onp
  ·rintro f M ⟨k0,-⟩ -
   exact obE ofa
  ·rintro f M ⟨k0,-⟩ -
   exact ob0 (up_cons (d := 41) rfl k0) rfl (e_indexArr (a := ((ba va).add (i3 * 5) : Addr).add 1) (k := 1) rfl rfl tg126.ok (by decide)) (.refl _)
  ·rintro f M ⟨k0,-⟩ -
   exact ob0 (up_cons (d := 42) rfl k0) rfl (e_load1 tf2.ok rfl (Knows.imp (Knows.imp (kB hc3) (fun _ h => Cs.sub (vs := [Ix (c3.v0),Ix (c3.v1),Ix (c3.v2),Ix (c3.v3)]) 1 h rfl)) (fun _ h => Cs.sub (vs := [Ix (c3.v1)]) (1 * 1) h rfl))) (.refl _)
  ·rintro f M - ⟨i0,-⟩
   exact obE omp
  ·rintro f M ⟨k0,-⟩ -
   exact obE onp
  ·rintro f M ⟨k0,-⟩ -
   exact obE ofa
  ·rintro f M ⟨k0,-⟩ -
   exact ob0 (up_cons (d := 46) rfl k0) rfl (e_indexArr (a := ((ba va).add (i3 * 5) : Addr).add 1) (k := 2) rfl rfl tg126.ok (by decide)) (.refl _)
  ·rintro f M ⟨k0,-⟩ -
   exact ob0 (up_cons (d := 47) rfl k0) rfl (e_load1 tf2.ok rfl (Knows.imp (Knows.imp (kB hc3) (fun _ h => Cs.sub (vs := [Ix (c3.v0),Ix (c3.v1),Ix (c3.v2),Ix (c3.v3)]) 1 h rfl)) (fun _ h => Cs.sub (vs := [Ix (c3.v2)]) (2 * 1) h rfl))) (.refl _)
  ·rintro f M ⟨k0,-⟩ -
   exact obE oeq_
  ·rintro f M - ⟨i0,-⟩
   exact obE omp
  ·rintro f M ⟨k0,-⟩ -
   exact obE onp
  ·rintro f M ⟨k0,-⟩ -
   exact obE ofa
  ·rintro f M ⟨k0,-⟩ -
   exact ob0 (up_cons (d := 52) rfl k0) rfl (e_indexArr (a := ((ba va).add (i3 * 5) : Addr).add 1) (k := 3) rfl rfl tg126.ok (by decide)) (.refl _)
  ·rintro f M ⟨k0,-⟩ -
   exact ob0 (up_cons (d := 53) rfl k0) rfl (e_load1 tf2.ok rfl (Knows.imp (Knows.imp (kB hc3) (fun _ h => Cs.sub (vs := [Ix (c3.v0),Ix (c3.v1),Ix (c3.v2),Ix (c3.v3)]) 1 h rfl)) (fun _ h => Cs.sub (vs := [Ix (c3.v3)]) (3 * 1) h rfl))) (.refl _)
  ·rintro f M ⟨k0,-⟩ -
   exact ob0 (up_cons (d := 54) rfl k0) rfl ((ev_f hfx (e_eql (a := (c3.v3)) (b := (1 : Int)) rfl rfl))) (.refl _)
  ·rintro f M ⟨k0,-⟩ -
   exact obE omb
  ·rintro f M ⟨k0,-⟩ ⟨i0,-⟩
   exact obG omp
  ·rintro f M ⟨k0,k1,-⟩ -
   exact obg (L' := M) (v := .bool false) (up_cons (d := 56) (up_cons (d := 57) rfl k0) k1) (e_eql_pnil (p := some ((ba va).add (i2 * 5))) rfl rfl tg123) rfl rfl rfl rfl (.refl _) (by rfl)
  ·rintro f M ⟨k0,k1,-⟩ -
   exact obE okfb
  ·rintro f M ⟨k0,k1,k2,k3,k4,k5,-⟩ -
   exact ob0 (up_cons (d := 59) (up_cons (d := 49) (up_cons (d := 43) (up_cons (d := 38) (up_cons (d := 33) (up_cons (d := 22) rfl k0) k1) k2) k3) k4) k5) rfl (e_build tf58.ok tf102 (vs := [(0,Ix (id)),(1,.agg #[Ix (c1.v0),Ix (c1.v1)]),(3,Ix (c3.v0)),(4,Ix (c3.v1)),(5,.bool (decide ((c3.v2) = (1 : Int)))),(6,.bool false)]) (cells := #[Ix (id),Ix (c1.v0),Ix (c1.v1),.int .i64 (0),.int .i64 (0),Ix (c3.v0),Ix (c3.v1),.bool (decide ((c3.v2) = (1 : Int))),.bool false]) rfl (by kernel_rfl)) (.refl _)
  ·rintro f M - -
   refine ob_start (L' := M) (by rfl) rfl (alE fun b9 => l_nil ?_)
   exact f_owes_d rfl rfl (perm_front 0 rfl)
  ·rintro f M ⟨k0,k1,-⟩ -
   have hs7 : f 7 = .pointer (some ⟨(blk (f 7)),0,none⟩) := k0
   refine ob_start (L' := pt (blk (f 7)) (.cells #[.int .i64 (0),.int .i64 (0),.int .i64 (0),.int .i64 (0),.int .i64 (0),.int .i64 (0),.int .i64 (0),.bool false,.bool false] 52) :: M) (by rfl) (up_cons (d := 60) (up_cons rfl hs7) k1) ?_
   refine lu (mS 0 (#[Ix (id),Ix (c1.v0),Ix (c1.v1),.int .i64 (0),.int .i64 (0),Ix (c3.v0),Ix (c3.v1),.bool (decide ((c3.v2) = (1 : Int))),.bool false])) ?_
   refine l_nil ?_
   exact f_owes_n (up_cons (d := 60) (up_cons rfl hs7) k1) trivial (perm_front 0 rfl)
  rintro fa10 ⟨-,-,-,-,-,-,-,-,-,-,-,-,-,-,-,-,-,-,-,-,-,-,-,-,-,-,-,-,-,-,-,-,-,-,-,-,-,-,-,-,k40,-,-⟩ ⟨j0,j1,-⟩
  refine f_re (L' := [pt b2 (.cells #[.int .i64 (0),.int .i64 (0),.int .i64 (0),.int .i64 (0),.int .i64 (0),.int .i64 (0),.int .i64 (0),.bool false,.bool false] 52),pt b1 (.cells #[Ix (id),sB va cm (vc)] 59),pt (blk (fa10 7)) (.cells #[Ix (id),Ix (c1.v0),Ix (c1.v1),.int .i64 (0),.int .i64 (0),Ix (c3.v0),Ix (c3.v1),.bool (decide ((c3.v2) = (1 : Int))),.bool false] 52)]) (by rfl) ?_
  refine f_rebase (d := 2) j0 (f_rebase (d := 6) j1 (f_rebase (d := 7) k40 (fts (csr (lE ofp (lE (olb 2) (lE ont (lnf (c_yes rfl ?_)))))))))
  refine cny [sv 64 (.pointer (some ((ba va).add (i2 * 5)))) [] [] [0],sv 65 (.pointer (some ((ba va).add (i2 * 5)))) [0] [0] [],sv 66 (.pointer (some (((ba va).add (i2 * 5) : Addr).add 1))) [0,1] [1] [],sv 67 (.pointer (some ((((ba va).add (i2 * 5) : Addr).add 1 : Addr).add (0 * 1)))) [0,1,2] [2] [],sv 68 (Ix (c2.v0)) [0,1,2,3] [3] [],sv 69 (.pointer (some ((ba va).add (i2 * 5)))) [] [] [0],sv 70 (.pointer (some ((ba va).add (i2 * 5)))) [5] [5] [],sv 71 (.pointer (some (((ba va).add (i2 * 5) : Addr).add 1))) [5,6] [6] [],sv 72 (.pointer (some ((((ba va).add (i2 * 5) : Addr).add 1 : Addr).add (1 * 1)))) [5,6,7] [7] [],sv 73 (Ix (c2.v1)) [5,6,7,8] [8] [],sv 74 (.agg #[Ix (c2.v0),Ix (c2.v1)]) (List.range 10) [4,9] [],sv 75 (.pointer (some ⟨(blk (fa10 7)),3,none⟩)) (List.range 11) [] [1],⟨(List.range 12),[11,10],[],[],fun _ => True⟩] [tk (pt b2 (.cells #[.int .i64 (0),.int .i64 (0),.int .i64 (0),.int .i64 (0),.int .i64 (0),.int .i64 (0),.int .i64 (0),.bool false,.bool false] 52)) [],tk (pt b1 (.cells #[Ix (id),sB va cm (vc)] 59)) [],⟨none,(some 12),[12],[],fun _ => pt (blk (fa10 7)) (.cells #[Ix (id),Ix (c1.v0),Ix (c1.v1),.int .i64 (0),.int .i64 (0),Ix (c3.v0),Ix (c3.v1),.bool (decide ((c3.v2) = (1 : Int))),.bool false] 52)⟩,⟨(some 12),none,[],[],fun _ => pt (blk (fa10 7)) (.cells #[Ix (id),Ix (c1.v0),Ix (c1.v1),Ix (c2.v0),Ix (c2.v1),Ix (c3.v0),Ix (c3.v1),.bool (decide ((c3.v2) = (1 : Int))),.bool false] 52)⟩] [(6,.pointer (some ((ba va).add (i2 * 5)))),(7,.pointer (some ⟨(blk (fa10 7)),0,none⟩)),(2,pp b2 0)] [2,1] [] ⟨rfl,rfl,rfl,trivial⟩ ⟨?_,?_,?_,?_,?_,?_,?_,?_,?_,?_,?_,?_,?_,trivial⟩ ?_
  ·rintro f M - ⟨i0,-⟩
   exact obE omp
  ·rintro f M ⟨k0,-⟩ -
   exact obE onp
  ·rintro f M ⟨k0,-⟩ -
   exact obE ofa
  ·rintro f M ⟨k0,-⟩ -
   exact ob0 (up_cons (d := 66) rfl k0) rfl (e_indexArr (a := ((ba va).add (i2 * 5) : Addr).add 1) (k := 0) rfl rfl tg126.ok (by decide)) (.refl _)
  ·rintro f M ⟨k0,-⟩ -
   exact ob0 (up_cons (d := 67) rfl k0) rfl (e_load1 tf2.ok rfl (Knows.imp (Knows.imp (kB hc2) (fun _ h => Cs.sub (vs := [Ix (c2.v0),Ix (c2.v1),Ix (c2.v2),Ix (c2.v3)]) 1 h rfl)) (fun _ h => Cs.sub (vs := [Ix (c2.v0)]) (0 * 1) h rfl))) (.refl _)
  ·rintro f M - ⟨i0,-⟩
   exact obE omp
  ·rintro f M ⟨k0,-⟩ -
   exact obE onp
  ·rintro f M ⟨k0,-⟩ -
   exact obE ofa
  ·rintro f M ⟨k0,-⟩ -
   exact ob0 (up_cons (d := 71) rfl k0) rfl (e_indexArr (a := ((ba va).add (i2 * 5) : Addr).add 1) (k := 1) rfl rfl tg126.ok (by decide)) (.refl _)
  ·rintro f M ⟨k0,-⟩ -
   exact ob0 (up_cons (d := 72) rfl k0) rfl (e_load1 tf2.ok rfl (Knows.imp (Knows.imp (kB hc2) (fun _ h => Cs.sub (vs := [Ix (c2.v0),Ix (c2.v1),Ix (c2.v2),Ix (c2.v3)]) 1 h rfl)) (fun _ h => Cs.sub (vs := [Ix (c2.v1)]) (1 * 1) h rfl))) (.refl _)
  ·rintro f M ⟨k0,k1,-⟩ -
   exact ob0 (up_cons (d := 73) (up_cons (d := 68) rfl k0) k1) rfl (e_build tf17.ok tf16 (vs := [(0,Ix (c2.v0)),(1,Ix (c2.v1))]) (cells := #[Ix (c2.v0),Ix (c2.v1)]) rfl rfl) (.refl _)
  ·rintro f M - ⟨i0,-⟩
   exact obE ofp
  ·rintro f M ⟨k0,k1,-⟩ -
   refine ob_start (L' := pt (blk (fa10 7)) (.cells #[Ix (id),Ix (c1.v0),Ix (c1.v1),.int .i64 (0),.int .i64 (0),Ix (c3.v0),Ix (c3.v1),.bool (decide ((c3.v2) = (1 : Int))),.bool false] 52) :: M) (by rfl) (up_cons (d := 74) (up_cons (d := 75) rfl k0) k1) ?_
   refine lu (mS 0 (#[Ix (id),Ix (c1.v0),Ix (c1.v1),Ix (c2.v0),Ix (c2.v1),Ix (c3.v0),Ix (c3.v1),.bool (decide ((c3.v2) = (1 : Int))),.bool false])) ?_
   refine l_nil ?_
   exact f_owes_n (up_cons (d := 74) (up_cons (d := 75) rfl k0) k1) trivial (perm_front 0 rfl)
  rintro fa11 ⟨-,-,-,-,-,-,-,-,-,-,-,-,-,-⟩ ⟨j0,j1,-⟩
  refine f_re (L' := [pt b2 (.cells #[.int .i64 (0),.int .i64 (0),.int .i64 (0),.int .i64 (0),.int .i64 (0),.int .i64 (0),.int .i64 (0),.bool false,.bool false] 52),pt b1 (.cells #[Ix (id),sB va cm (vc)] 59),pt (blk (fa10 7)) (.cells #[Ix (id),Ix (c1.v0),Ix (c1.v1),Ix (c2.v0),Ix (c2.v1),Ix (c3.v0),Ix (c3.v1),.bool (decide ((c3.v2) = (1 : Int))),.bool false] 52)]) (by rfl) ?_
  refine f_rebase (d := 2) j0 (f_rebase (d := 7) j1 (ftc (lE (olg 2) ?_)))
  refine lu (mS 0 (#[Ix (id),Ix (c1.v0),Ix (c1.v1),Ix (c2.v0),Ix (c2.v1),Ix (c3.v0),Ix (c3.v1),.bool (decide ((c3.v2) = (1 : Int))),.bool false])) ?_
  refine lE oab (lnf (c_ret ?_))
  refine retG (m := [.agg #[Ix (id),Ix (c1.v0),Ix (c1.v1),Ix (c2.v0),Ix (c2.v1),Ix (c3.v0),Ix (c3.v1),.bool (decide ((c3.v2) = (1 : Int))),.bool false],.bool true]) Tryz.results60 ⟨rd_cell tf22.ok rfl (k_pt 0 rfl rfl) rfl,rd_tmp (v := .bool true) rfl,trivial⟩ rfl ?_
  intro w hw
  exact ⟨body_ret_some (body_mov hf1 hf3 hfx hf2),st_mask [false,false,false] rfl hw⟩
 obtain ⟨-,hp2,hf2⟩ := optP_none hv
 refine cny [sv 21 (pp b1 0) [] [] [0],sv 22 (Ix (id)) [0] [0] [],sv 23 (.pointer (some ((ba va).add (i1 * 5)))) [] [] [1],sv 24 (.pointer (some ((ba va).add (i1 * 5)))) [2] [2] [],sv 25 (.pointer (some (((ba va).add (i1 * 5) : Addr).add 1))) [2,3] [3] [],sv 26 (.pointer (some ((((ba va).add (i1 * 5) : Addr).add 1 : Addr).add (0 * 1)))) [2,3,4] [4] [],sv 27 (Ix (c1.v0)) [2,3,4,5] [5] [],sv 28 (.pointer (some ((ba va).add (i1 * 5)))) [] [] [1],sv 29 (.pointer (some ((ba va).add (i1 * 5)))) [7] [7] [],sv 30 (.pointer (some (((ba va).add (i1 * 5) : Addr).add 1))) [7,8] [8] [],sv 31 (.pointer (some ((((ba va).add (i1 * 5) : Addr).add 1 : Addr).add (1 * 1)))) [7,8,9] [9] [],sv 32 (Ix (c1.v1)) [7,8,9,10] [10] [],sv 33 (.agg #[Ix (c1.v0),Ix (c1.v1)]) [2,3,4,5,6,7,8,9,10,11] [6,11] [],sv 34 (.pointer (some ((ba va).add (i3 * 5)))) [] [] [2],sv 35 (.pointer (some ((ba va).add (i3 * 5)))) [13] [13] [],sv 36 (.pointer (some (((ba va).add (i3 * 5) : Addr).add 1))) [13,14] [14] [],sv 37 (.pointer (some ((((ba va).add (i3 * 5) : Addr).add 1 : Addr).add (0 * 1)))) [13,14,15] [15] [],sv 38 (Ix (c3.v0)) [13,14,15,16] [16] [],sv 39 (.pointer (some ((ba va).add (i3 * 5)))) [] [] [2],sv 40 (.pointer (some ((ba va).add (i3 * 5)))) [18] [18] [],sv 41 (.pointer (some (((ba va).add (i3 * 5) : Addr).add 1))) [18,19] [19] [],sv 42 (.pointer (some ((((ba va).add (i3 * 5) : Addr).add 1 : Addr).add (1 * 1)))) [18,19,20] [20] [],sv 43 (Ix (c3.v1)) [18,19,20,21] [21] [],sv 44 (.pointer (some ((ba va).add (i3 * 5)))) [] [] [2],sv 45 (.pointer (some ((ba va).add (i3 * 5)))) [23] [23] [],sv 46 (.pointer (some (((ba va).add (i3 * 5) : Addr).add 1))) [23,24] [24] [],sv 47 (.pointer (some ((((ba va).add (i3 * 5) : Addr).add 1 : Addr).add (2 * 1)))) [23,24,25] [25] [],sv 48 (Ix (c3.v2)) [23,24,25,26] [26] [],sv 49 (.bool (decide ((c3.v2) = (1 : Int)))) [23,24,25,26,27] [27] [],sv 50 (.pointer (some ((ba va).add (i3 * 5)))) [] [] [2],sv 51 (.pointer (some ((ba va).add (i3 * 5)))) [29] [29] [],sv 52 (.pointer (some (((ba va).add (i3 * 5) : Addr).add 1))) [29,30] [30] [],sv 53 (.pointer (some ((((ba va).add (i3 * 5) : Addr).add 1 : Addr).add (3 * 1)))) [29,30,31] [31] [],sv 54 (Ix (c3.v3)) [29,30,31,32] [32] [],sv 55 (.bool false) [29,30,31,32,33] [33] [],sv 56 (.bool false) [29,30,31,32,33,34] [34] [],sv 57 (.pointer (optP va cm 2)) [29,30,31,32,33,34,35] [35] [3],sv 58 (.bool true) [29,30,31,32,33,34,35,36] [36,35] [],sv 59 (.bool true) [29,30,31,32,33,34,35,36,37] [35,37] [],sv 60 (.agg #[Ix (id),Ix (c1.v0),Ix (c1.v1),.int .i64 (0),.int .i64 (0),Ix (c3.v0),Ix (c3.v1),.bool (decide ((c3.v2) = (1 : Int))),.bool true]) (List.range 39) [1,12,17,22,28,38] [],⟨[],[],[],[7],fun f => f 7 = .pointer (some ⟨(blk (f 7)),0,none⟩)⟩,⟨(List.range 41),[40,39],[],[],fun _ => True⟩] [tk (pt b2 (.cells #[.int .i64 (0),.int .i64 (0),.int .i64 (0),.int .i64 (0),.int .i64 (0),.int .i64 (0),.int .i64 (0),.bool false,.bool false] 52)) [],tk (pt b1 (.cells #[Ix (id),sB va cm (vc)] 59)) [1],⟨(some 40),(some 41),[41],[7],fun f => pt (blk (f 7)) (.cells #[.int .i64 (0),.int .i64 (0),.int .i64 (0),.int .i64 (0),.int .i64 (0),.int .i64 (0),.int .i64 (0),.bool false,.bool false] 52)⟩,⟨(some 41),none,[],[7],fun f => pt (blk (f 7)) (.cells #[Ix (id),Ix (c1.v0),Ix (c1.v1),.int .i64 (0),.int .i64 (0),Ix (c3.v0),Ix (c3.v1),.bool (decide ((c3.v2) = (1 : Int))),.bool true] 52)⟩] [(1,pp b1 0),(4,.pointer (some ((ba va).add (i1 * 5)))),(5,.pointer (some ((ba va).add (i3 * 5)))),(6,.pointer (optP va cm 2)),(2,pp b2 0)] [4,3] [] ⟨rfl,rfl,rfl,rfl,rfl,trivial⟩ ⟨?_,?_,?_,?_,?_,?_,?_,?_,?_,?_,?_,?_,?_,?_,?_,?_,?_,?_,?_,?_,?_,?_,?_,?_,?_,?_,?_,?_,?_,?_,?_,?_,?_,?_,?_,?_,?_,?_,?_,?_,?_,?_,trivial⟩ ?_
 ·rintro f M - ⟨i0,-⟩
  exact obE ofp
 ·rintro f M ⟨k0,-⟩ -
  exact obE (oli 0)
 ·rintro f M - ⟨i0,-⟩
  exact obE omp
 ·rintro f M ⟨k0,-⟩ -
  exact obE onp
 ·rintro f M ⟨k0,-⟩ -
  exact obE ofa
 ·rintro f M ⟨k0,-⟩ -
  exact ob0 (up_cons (d := 25) rfl k0) rfl (e_indexArr (a := ((ba va).add (i1 * 5) : Addr).add 1) (k := 0) rfl rfl tg126.ok (by decide)) (.refl _)
 ·rintro f M ⟨k0,-⟩ -
  exact ob0 (up_cons (d := 26) rfl k0) rfl (e_load1 tf2.ok rfl (Knows.imp (Knows.imp (kB hc1) (fun _ h => Cs.sub (vs := [Ix (c1.v0),Ix (c1.v1),Ix (c1.v2),Ix (c1.v3)]) 1 h rfl)) (fun _ h => Cs.sub (vs := [Ix (c1.v0)]) (0 * 1) h rfl))) (.refl _)
 ·rintro f M - ⟨i0,-⟩
  exact obE omp
 ·rintro f M ⟨k0,-⟩ -
  exact obE onp
 ·rintro f M ⟨k0,-⟩ -
  exact obE ofa
 ·rintro f M ⟨k0,-⟩ -
  exact ob0 (up_cons (d := 30) rfl k0) rfl (e_indexArr (a := ((ba va).add (i1 * 5) : Addr).add 1) (k := 1) rfl rfl tg126.ok (by decide)) (.refl _)
 ·rintro f M ⟨k0,-⟩ -
  exact ob0 (up_cons (d := 31) rfl k0) rfl (e_load1 tf2.ok rfl (Knows.imp (Knows.imp (kB hc1) (fun _ h => Cs.sub (vs := [Ix (c1.v0),Ix (c1.v1),Ix (c1.v2),Ix (c1.v3)]) 1 h rfl)) (fun _ h => Cs.sub (vs := [Ix (c1.v1)]) (1 * 1) h rfl))) (.refl _)
 ·rintro f M ⟨k0,k1,-⟩ -
  exact ob0 (up_cons (d := 32) (up_cons (d := 27) rfl k0) k1) rfl (e_build tf17.ok tf16 (vs := [(0,Ix (c1.v0)),(1,Ix (c1.v1))]) (cells := #[Ix (c1.v0),Ix (c1.v1)]) rfl rfl) (.refl _)
 ·rintro f M - ⟨i0,-⟩
  exact obE omp
 ·rintro f M ⟨k0,-⟩ -
  exact obE onp
 ·rintro f M ⟨k0,-⟩ -
  exact obE ofa
 ·rintro f M ⟨k0,-⟩ -
  exact ob0 (up_cons (d := 36) rfl k0) rfl (e_indexArr (a := ((ba va).add (i3 * 5) : Addr).add 1) (k := 0) rfl rfl tg126.ok (by decide)) (.refl _)
 ·rintro f M ⟨k0,-⟩ -
  exact ob0 (up_cons (d := 37) rfl k0) rfl (e_load1 tf2.ok rfl (Knows.imp (Knows.imp (kB hc3) (fun _ h => Cs.sub (vs := [Ix (c3.v0),Ix (c3.v1),Ix (c3.v2),Ix (c3.v3)]) 1 h rfl)) (fun _ h => Cs.sub (vs := [Ix (c3.v0)]) (0 * 1) h rfl))) (.refl _)
 ·rintro f M - ⟨i0,-⟩
  exact obE omp
 ·rintro f M ⟨k0,-⟩ -
  exact obE onp
 ·rintro f M ⟨k0,-⟩ -
  exact obE ofa
 ·rintro f M ⟨k0,-⟩ -
  exact ob0 (up_cons (d := 41) rfl k0) rfl (e_indexArr (a := ((ba va).add (i3 * 5) : Addr).add 1) (k := 1) rfl rfl tg126.ok (by decide)) (.refl _)
 ·rintro f M ⟨k0,-⟩ -
  exact ob0 (up_cons (d := 42) rfl k0) rfl (e_load1 tf2.ok rfl (Knows.imp (Knows.imp (kB hc3) (fun _ h => Cs.sub (vs := [Ix (c3.v0),Ix (c3.v1),Ix (c3.v2),Ix (c3.v3)]) 1 h rfl)) (fun _ h => Cs.sub (vs := [Ix (c3.v1)]) (1 * 1) h rfl))) (.refl _)
 ·rintro f M - ⟨i0,-⟩
  exact obE omp
 ·rintro f M ⟨k0,-⟩ -
  exact obE onp
 ·rintro f M ⟨k0,-⟩ -
  exact obE ofa
 ·rintro f M ⟨k0,-⟩ -
  exact ob0 (up_cons (d := 46) rfl k0) rfl (e_indexArr (a := ((ba va).add (i3 * 5) : Addr).add 1) (k := 2) rfl rfl tg126.ok (by decide)) (.refl _)
 ·rintro f M ⟨k0,-⟩ -
  exact ob0 (up_cons (d := 47) rfl k0) rfl (e_load1 tf2.ok rfl (Knows.imp (Knows.imp (kB hc3) (fun _ h => Cs.sub (vs := [Ix (c3.v0),Ix (c3.v1),Ix (c3.v2),Ix (c3.v3)]) 1 h rfl)) (fun _ h => Cs.sub (vs := [Ix (c3.v2)]) (2 * 1) h rfl))) (.refl _)
 ·rintro f M ⟨k0,-⟩ -
  exact obE oeq_
 ·rintro f M - ⟨i0,-⟩
  exact obE omp
 ·rintro f M ⟨k0,-⟩ -
  exact obE onp
 ·rintro f M ⟨k0,-⟩ -
  exact obE ofa
 ·rintro f M ⟨k0,-⟩ -
  exact ob0 (up_cons (d := 52) rfl k0) rfl (e_indexArr (a := ((ba va).add (i3 * 5) : Addr).add 1) (k := 3) rfl rfl tg126.ok (by decide)) (.refl _)
 ·rintro f M ⟨k0,-⟩ -
  exact ob0 (up_cons (d := 53) rfl k0) rfl (e_load1 tf2.ok rfl (Knows.imp (Knows.imp (kB hc3) (fun _ h => Cs.sub (vs := [Ix (c3.v0),Ix (c3.v1),Ix (c3.v2),Ix (c3.v3)]) 1 h rfl)) (fun _ h => Cs.sub (vs := [Ix (c3.v3)]) (3 * 1) h rfl))) (.refl _)
 ·rintro f M ⟨k0,-⟩ -
  exact ob0 (up_cons (d := 54) rfl k0) rfl ((ev_f hfx (e_eql (a := (c3.v3)) (b := (1 : Int)) rfl rfl))) (.refl _)
 ·rintro f M ⟨k0,-⟩ -
  exact obE omb
 ·rintro f M ⟨k0,-⟩ ⟨i0,-⟩
  exact obG omp
 ·rintro f M ⟨k0,k1,-⟩ -
  exact obg (L' := M) (v := .bool true) (up_cons (d := 56) (up_cons (d := 57) rfl k0) k1) ((ev_b (c := true) hv (e_eql_pnil (p := optP va cm 2) rfl rfl tg123))) rfl rfl rfl rfl (.refl _) (by rfl)
 ·rintro f M ⟨k0,k1,-⟩ -
  exact obE okfb
 ·rintro f M ⟨k0,k1,k2,k3,k4,k5,-⟩ -
  exact ob0 (up_cons (d := 59) (up_cons (d := 49) (up_cons (d := 43) (up_cons (d := 38) (up_cons (d := 33) (up_cons (d := 22) rfl k0) k1) k2) k3) k4) k5) rfl (e_build tf58.ok tf102 (vs := [(0,Ix (id)),(1,.agg #[Ix (c1.v0),Ix (c1.v1)]),(3,Ix (c3.v0)),(4,Ix (c3.v1)),(5,.bool (decide ((c3.v2) = (1 : Int)))),(6,.bool true)]) (cells := #[Ix (id),Ix (c1.v0),Ix (c1.v1),.int .i64 (0),.int .i64 (0),Ix (c3.v0),Ix (c3.v1),.bool (decide ((c3.v2) = (1 : Int))),.bool true]) rfl (by kernel_rfl)) (.refl _)
 ·rintro f M - -
  refine ob_start (L' := M) (by rfl) rfl (alE fun b13 => l_nil ?_)
  exact f_owes_d rfl rfl (perm_front 0 rfl)
 ·rintro f M ⟨k0,k1,-⟩ -
  have hs7 : f 7 = .pointer (some ⟨(blk (f 7)),0,none⟩) := k0
  refine ob_start (L' := pt (blk (f 7)) (.cells #[.int .i64 (0),.int .i64 (0),.int .i64 (0),.int .i64 (0),.int .i64 (0),.int .i64 (0),.int .i64 (0),.bool false,.bool false] 52) :: M) (by rfl) (up_cons (d := 60) (up_cons rfl hs7) k1) ?_
  refine lu (mS 0 (#[Ix (id),Ix (c1.v0),Ix (c1.v1),.int .i64 (0),.int .i64 (0),Ix (c3.v0),Ix (c3.v1),.bool (decide ((c3.v2) = (1 : Int))),.bool true])) ?_
  refine l_nil ?_
  exact f_owes_n (up_cons (d := 60) (up_cons rfl hs7) k1) trivial (perm_front 0 rfl)
 rintro fa14 ⟨-,-,-,-,-,-,-,-,-,-,-,-,-,-,-,-,-,-,-,-,-,-,-,-,-,-,-,-,-,-,-,-,-,-,-,-,-,-,-,-,k40,-,-⟩ ⟨j0,j1,-⟩
 refine f_re (L' := [pt b2 (.cells #[.int .i64 (0),.int .i64 (0),.int .i64 (0),.int .i64 (0),.int .i64 (0),.int .i64 (0),.int .i64 (0),.bool false,.bool false] 52),pt b1 (.cells #[Ix (id),sB va cm (vc)] 59),pt (blk (fa14 7)) (.cells #[Ix (id),Ix (c1.v0),Ix (c1.v1),.int .i64 (0),.int .i64 (0),Ix (c3.v0),Ix (c3.v1),.bool (decide ((c3.v2) = (1 : Int))),.bool true] 52)]) (by rfl) ?_
 refine f_rebase (d := 2) j0 (f_rebase (d := 6) j1 (f_rebase (d := 7) k40 (fts (csr (lE ofp (lE (olb 2) (lE ont (lnf (c_no rfl (csk (csr ?_)))))))))))
 refine lE (olg 2) ?_
 refine lu (mS 0 (#[Ix (id),Ix (c1.v0),Ix (c1.v1),.int .i64 (0),.int .i64 (0),Ix (c3.v0),Ix (c3.v1),.bool (decide ((c3.v2) = (1 : Int))),.bool true])) ?_
 refine lE oab (lnf (c_ret ?_))
 refine retG (m := [.agg #[Ix (id),Ix (c1.v0),Ix (c1.v1),.int .i64 (0),.int .i64 (0),Ix (c3.v0),Ix (c3.v1),.bool (decide ((c3.v2) = (1 : Int))),.bool true],.bool true]) Tryz.results60 ⟨rd_cell tf22.ok rfl (k_pt 0 rfl rfl) rfl,rd_tmp (v := .bool true) rfl,trivial⟩ rfl ?_
 intro w hw
 exact ⟨body_ret_some (body_fix hf1 hf3 (.inr hf2)),st_mask [false,false,false] rfl hw⟩
theorem has2_fn (β : Base) (c : Nat) (i : Int) (hc : Cs β.heap ⟨c, 0, none⟩ [Ix i]) : FnV Tryz.prog β (.func (.func 63) #[] #[pp c 0]) (fun z : KB => [.agg (bC z)]) (fun _ => True) (fun z => .bool (decide (z.id = i))) := by
 refine ⟨63,[],[.pointer (some (⟨c,0,none⟩))],rfl,by kernel_rfl,fun β₁ sb0 z_ hz_ w hw => ?_⟩
 have hc1 := Cs.mono _ _ _ _ sb0 hc
 obtain ⟨z,hz⟩ : ∃ z,z = z_ := ⟨_,rfl⟩
 subst hz
 refine enter (n := 8) Tryz.func63 rfl Tryz.ntmps63 rfl ?_ hw
 refine csr (bxa fun b1 => ?_)
 refine lE oab (lnc (lE ofp (lE (oli 0) (lv (v := Ix (i)) (e_load1 tf2.ok rfl (kB hc1)) (lE oeq_ (lE oab (lnf (c_ret (ret1 Tryz.results63 rfl ?_)))))))))
 intro w hw
 exact ⟨rfl,st_mask [false] rfl hw⟩
theorem containsB_ok (β : Base) (w : World) (hw : St β [] w) (v fn : Value) (xs : List KB) (hs : Sl KBR β.heap v xs) (p : KB → Bool) (hfn : FnV Tryz.prog β fn (fun z : KB => [.agg (bC z)]) (· ∈ xs) (fun z => .bool (p z))) : Ret Tryz.prog 62 #[v, fn] β w (.bool (xs.any p)) := by
 refine enter (n := 9) Tryz.func62 rfl Tryz.ntmps62 rfl ?_ hw
 refine csr (lE oab (lnc (lv e_move (lv e_move (lcR clA (fun w β1 sb kn hw1 => indexB_ok β1 w hw1 _ _ xs (Sl.mono _ _ _ _ _ sb hs) p (hfn.mono sb)) ?_)))))
 refine lE oge (lE oab (lnf (c_ret (ret1 Tryz.results62 rfl ?_))))
 intro w hw
 exact ⟨congrArg Ending.returned (congrArg Value.bool (idx_any p xs)),st_mask [] rfl hw⟩
theorem has_ok (β : Base) (w : World) (hw : St β [] w) (c : Nat) (v rv : Value) (gx gy : Int) (bs : List KB) (hc : Cs β.heap ⟨c, 0, none⟩ [v, rv, Ix gx, Ix gy]) (hs : Sl KBR β.heap v bs) (i : Int) : Ret Tryz.prog 61 #[Ix i, pp c 0] β w (.bool (hasB bs i)) := by
 refine enter (n := 8) Tryz.func61 rfl Tryz.ntmps61 rfl ?_ hw
 refine csr (bxi fun b1 => ?_)
 refine lE oab (lnc (lE ofa (lv (v := v) (e_load1 tf50.ok rfl (Knows.imp (kB hc) (fun _ h => Cs.sub (vs := [v]) 0 h rfl))) ?_)))
 refine lv (v := .func (.func 63) #[] #[pp b1 0]) (e_func (u := []) (v := [pp b1 0]) rfl rfl) ?_
 refine lcR clA (fun w β1 sb kn hw1 => containsB_ok β1 w hw1 _ _ bs (Sl.mono _ _ _ _ _ sb hs) (fun z => decide (z.id = i)) (fnv_all (has2_fn β1 b1 i (kn _ (k_pt 0 (o := 0) rfl rfl))))) ?_
 refine lE oab (lnf (c_ret (ret1 Tryz.results61 rfl ?_)))
 intro w hw
 exact ⟨rfl,st_mask [false] rfl hw⟩
set_option maxHeartbeats 4000000 in
theorem worldB_ok (β : Base) (w : World) (hw : St β [] w) (tick : Int) (v rv : Value) (gx gy : Int) (es : List KEnt) (rs : List KR) (hs : Sl EntR β.heap v es) (hr : Sl KRR β.heap rv rs) (hn : es.length ≤ 65536) (hrn : rs.length ≤ 65536) : Calls Tryz.prog 18 #[.agg #[Ix tick, v], rv, .agg #[Ix gx, Ix gy]] w fun r w' => ∃ p c p2 c2, r = .returned (.agg #[sB p (bodiesOf es) c, sB p2 (ropesOf (bodiesOf es) rs) c2, Ix gx, Ix gy]) ∧ St β [rowF BodyF 52 p c (bodiesOf es), rowF RopeF 78 p2 c2 (ropesOf (bodiesOf es) rs)] w' := by
 obtain ⟨va,vc,rfl,vl,vm,ve⟩ := hs.get
 obtain ⟨rva,rvc,rfl,rvl,rvm,rve⟩ := hr.get
 refine enter (n := 62) Tryz.func18 rfl Tryz.ntmps18 rfl ?_ hw
 refine csr (bxa fun b1 => ?_)
 refine bxa fun b2 => ?_
 refine alE fun b3 => lnc (lE (olg 1) ?_)
 refine lv (v := .agg #[.slice none 0 0,.slice none 0 0,Ix (gx),Ix (gy)]) (e_build tf85.ok tf88 (vs := [(2,.agg #[Ix (gx),Ix (gy)])]) (cells := #[.slice none 0 0,.slice none 0 0,Ix (gx),Ix (gy)]) rfl rfl) ?_
 refine alE fun b4 => lu (mS 0 (#[.slice none 0 0,.slice none 0 0,Ix (gx),Ix (gy)])) (lnf (cs2 ?_))
 refine c_emp (r := rowF BodyF 52 none 0 []) (row_nil _ _ _) (c_region (lE ofp (lE (ols 4) (lE oln (lE omi (lnf (c_block ?_)))))))
 refine c_mask [true,true,true,true,true] rfl ?_
 refine c_loop (fun (x_ : Nat × List KB × Option Addr × Nat) f L => match x_ with | (k,out,p,c) => (f 1 = sB rva rs (rvc) ∧ f 6 = pp b3 0 ∧ f 7 = pp b4 0 ∧ f 18 = sB va es (vc) ∧ f 19 = Nx (es.length) ∧ f 20 = Nx (k)) ∧ L = [rowF BodyF 52 p c out,pt b4 (.cells #[sB p out c,.slice none 0 0,Ix (gx),Ix (gy)] 30),pt b3 (.cells #[.slice none 0 0,.slice none 0 0,.int .i64 (0),.int .i64 (0)] 30),pt b2 (.cells #[Ix (gx),Ix (gy)] 28),pt b1 (.cells #[Ix (tick),sB va es (vc)] 24)] ∧ (k ≤ es.length ∧ out = bodiesOf (es.take k))) (fun (k,out,p,c) => es.length - k) (0,[],none,0) ?_ ?_
 ·exact ⟨⟨rfl,rfl,rfl,rfl,rfl,rfl⟩,rfl,⟨by omega,rfl⟩⟩
 rintro ⟨k,out,p,c⟩ f0 L0 ⟨⟨hs1,hs6,hs7,hs18,hs19,hs20⟩,hL,⟨hk,ho⟩⟩
 subst L0
 refine rbs 1 hs1 (rbs 6 hs6 (rbs 7 hs7 (rbs 18 hs18 (rbs 19 hs19 (rbs 20 hs20 ?_)))))
 have hol := bodies_le es k
 rw [← ho] at hol
 refine csr (lE olt (lnf (c_seq (c_if _ rfl (fun hc5 => ?_) (fun hc5 => ?_)))))
 ·refine csk (c_seq (c_block (csr ?_)))
  obtain ⟨x6,hx7⟩ := getx es k (by omega)
  obtain ⟨ha8,cs9,hc10,hr11⟩ := ve _ _ hx7
  obtain ⟨v12,rfl,hv13⟩ := hr11
  obtain ⟨v12a,v12c,rfl,v12l,v12m,v12e⟩ := hv13.get
  refine lE (oia tg131 ha8) (lv (v := .agg #[Ix (x6.id),sB v12a x6.comps (v12c)]) (e_load tg121.ok rfl (kB hc10) rfl) (alE fun b14 => ?_))
  refine lu (mS 0 (#[Ix (x6.id),sB v12a x6.comps (v12c)])) (lnc (lE (olg 0) ?_))
  refine lcR clA (fun w β1 sb kn hw1 => body_ok β1 w hw1 (x6.id) v12a v12c x6.comps (Sl.mono _ _ _ _ _ sb (⟨⟨_,_,rfl,v12l,v12m,v12e⟩⟩ : Sl CompR _ _ x6.comps))) ?_
  refine lE omt (lE oxa (lE oxb (alE fun b15 => lu (mS 0 (bC (bodyD (x6.id) x6.comps))) (lE oab (lnc (lE omb (lnf ?_)))))))
  refine c_ifb ((bodyOf (x6.id) x6.comps).isSome) rfl (fun hc16 => ?_) (fun hc16 => ?_)
  ·refine c_region (lE ofp (lE (ols 3) (lE (olg 0) ?_)))
   refine l_mv rfl rfl rfl (m_slices tf43 tf58.ok (cells := (bC (bodyD (x6.id) x6.comps))) rfl rfl rfl (by kernel_rfl)) ?_
   rintro _ _ ⟨b17,rfl,rfl⟩
   refine l_mv rfl rfl rfl (m_appendFlN (F := BodyF) 3 tf43 tf83 (p := p) (m := out.length) (xs := out) (ys := [(bodyD (x6.id) x6.comps)]) (ao := (some ⟨b17,0,none⟩)) (k := 1) (c := 1) rfl rfl rfl rfl rfl (k_ptFl (z := (bodyD (x6.id) x6.comps)) 0 rfl rfl) (by first | omega | simp only [List.length_nil,List.length_cons,List.length_append,List.length_set]; omega) (by first | omega | simp only [List.length_nil,List.length_cons,List.length_append,List.length_set]; omega)) ?_
   rintro _ _ ⟨rp18,rc19,rfl,rfl⟩
   refine lE ofp (lu (mS 4 (#[sB rp18 (out ++ [(bodyD (x6.id) x6.comps)]) rc19,.slice none 0 0,Ix (gx),Ix (gy)])) (l_nil (f_block (f_then (c_region ?_)))))
   refine lv (v := Nx (k + 1)) (e_add rfl rfl (i64n (by omega) (by omega))) (lE omi (l_nil (f_mask [false,false,false,true,true,true,true,true] rfl ?_)))
   exact f_cut ⟨(k + 1,(out ++ [(bodyD (x6.id) x6.comps)]),rp18,rc19),⟨⟨rfl,rfl,rfl,rfl,rfl,rfl⟩,rfl,⟨by omega,by rw [bodies_yes hx7 hc16,← ho]⟩⟩,(show es.length - (k + 1) < es.length - k from by omega)⟩
  refine c_skip (f_block (f_then (c_region (lv (v := Nx (k + 1)) (e_add rfl rfl (i64n (by omega) (by omega))) (lE omi (l_nil ?_))))))
  refine f_mask [false,false,true,true,true,true,true] rfl ?_
  exact f_cut ⟨(k + 1,out,p,c),⟨⟨rfl,rfl,rfl,rfl,rfl,rfl⟩,rfl,⟨by omega,by rw [bodies_no hx7 hc16,← ho]⟩⟩,(show es.length - (k + 1) < es.length - k from by omega)⟩
 refine c_exit (f_then_exit (f_then_exit (f_exit (fts ?_))))
 have hoe : out = bodiesOf es := by rw [ho,List.take_of_length_le (by omega)]
 refine c_region (lv (v := .func (.func 61) #[] #[pp b4 0]) (e_func (u := []) (v := [pp b4 0]) rfl rfl) (lE oaf (lnf (cs2 ?_))))
 refine c_emp (r := rowF RopeF 78 none 0 []) (row_nil _ _ _) (c_region (lE oms (lE oln (lE omi (lnf (c_block ?_))))))
 refine c_mask [true,true,true,true,true,true] rfl ?_
 refine c_loop (fun (x_ : Nat × List KR × Option Addr × Nat) f L => match x_ with | (k2,R,rp,rc) => (f 6 = pp b3 0 ∧ f 7 = pp b4 0 ∧ f 12 = .func (.func 61) #[] #[pp b4 0] ∧ f 38 = sB rva rs (rvc) ∧ f 39 = Nx (rs.length) ∧ f 40 = Nx (k2)) ∧ L = [rowF RopeF 78 rp rc R,rowF BodyF 52 p c out,pt b4 (.cells #[sB p out c,sB rp R rc,Ix (gx),Ix (gy)] 30),pt b3 (.cells #[.slice none 0 0,.slice none 0 0,.int .i64 (0),.int .i64 (0)] 30),pt b2 (.cells #[Ix (gx),Ix (gy)] 28),pt b1 (.cells #[Ix (tick),sB va es (vc)] 24)] ∧ (k2 ≤ rs.length ∧ R = ropesOf out (rs.take k2))) (fun (k2,R,rp,rc) => rs.length - k2) (0,[],none,0) ?_ ?_
 ·exact ⟨⟨rfl,rfl,rfl,rfl,rfl,rfl⟩,rfl,⟨by omega,rfl⟩⟩
 rintro ⟨k2,R,rp,rc⟩ f0 L0 ⟨⟨hs6,hs7,hs12,hs38,hs39,hs40⟩,hL,⟨hk2,hR⟩⟩
 subst L0
 refine rbs 6 hs6 (rbs 7 hs7 (rbs 12 hs12 (rbs 38 hs38 (rbs 39 hs39 (rbs 40 hs40 ?_)))))
 have hRl := ropes_le out rs k2
 rw [← hR] at hRl
 refine csr (lE olt (lnf (c_seq (c_if _ rfl (fun hc20 => ?_) (fun hc20 => ?_)))))
 ·refine csk (c_seq (c_block (csr ?_)))
  obtain ⟨x21,hx22⟩ := getx rs k2 (by omega)
  obtain ⟨ha23,cs24,hc25,rfl⟩ := rve _ _ hx22
  refine lE (oia tf46 ha23) (lv (v := .agg #[Ix (x21.a),Ix (x21.b),Ix (x21.len)]) (e_load tf47.ok rfl (kB hc25) rfl) (alE fun b27 => ?_))
  refine lu (mS 0 (#[Ix (x21.a),Ix (x21.b),Ix (x21.len)])) (lnc (lE omf (lE ofp (lE (oli 0) ?_))))
  refine l_call rfl rfl rfl (cl_value (fst := []) (cap := [pp b4 0]) (vs := [Ix (x21.a)]) (all := [Ix (x21.a),pp b4 0]) tg134.ok rfl rfl rfl) ?_
  intro w hw
  obtain ⟨β1,sb,kn,hw1,back⟩ := St.frame_all hw
  refine (has_ok β1 w hw1 b4 _ _ gx gy out (kn _ (k_pt 3 (o := 0) rfl rfl)) (kn _ (k_flN 2 (F := BodyF) (m := out.length) (xs := out) rfl rfl)) (x21.a)).mono ?_
  rintro e w' ⟨rfl,hw'⟩
  refine ⟨_,rfl,_,back _ _ hw',?_⟩
  clear hw hw1 hw' back kn sb
  refine lE omb (l_splitb (s := 48) (b := hasB out (x21.a)) rfl (fun hg28 => ?_) (fun hg28 => ?_))
  ·refine gE omf (gE ofp (gE (oli 0) ?_))
   refine g_call rfl rfl rfl rfl rfl (cl_value (fst := []) (cap := [pp b4 0]) (vs := [Ix (x21.b)]) (all := [Ix (x21.b),pp b4 0]) tg134.ok rfl rfl rfl) ?_
   intro w hw
   obtain ⟨β1,sb,kn,hw1,back⟩ := St.frame_all hw
   refine (has_ok β1 w hw1 b4 _ _ gx gy out (kn _ (k_pt 3 (o := 0) rfl rfl)) (kn _ (k_flN 2 (F := BodyF) (m := out.length) (xs := out) rfl rfl)) (x21.b)).mono ?_
   rintro e w' ⟨rfl,hw'⟩
   refine ⟨_,rfl,_,back _ _ hw',?_⟩
   clear hw hw1 hw' back kn sb
   refine lE oktb (lnf (c_ifb (hasB out (x21.b)) rfl (fun hc29 => ?_) (fun hc29 => ?_)))
   ·refine c_region (lE ofp (lE (ols 3) (lE (olg 0) ?_)))
    refine l_mv rfl rfl rfl (m_slices tf46 tf77.ok (cells := #[Ix (x21.a),Ix (x21.b),Ix (x21.len)]) rfl rfl rfl rfl) ?_
    rintro _ _ ⟨b30,rfl,rfl⟩
    refine l_mv rfl rfl rfl (m_appendFlN (F := RopeF) 2 tf46 tf84 (p := rp) (m := R.length) (xs := R) (ys := [x21]) (ao := (some ⟨b30,0,none⟩)) (k := 1) (c := 1) rfl rfl rfl rfl rfl (k_ptFl (z := x21) 0 rfl rfl) (by first | omega | simp only [List.length_nil,List.length_cons,List.length_append,List.length_set]; omega) (by first | omega | simp only [List.length_nil,List.length_cons,List.length_append,List.length_set]; omega)) ?_
    rintro _ _ ⟨rp31,rc32,rfl,rfl⟩
    refine lE ofp (lu (mS 4 (#[sB p out c,sB rp31 (R ++ [x21]) rc32,Ix (gx),Ix (gy)])) (l_nil (f_block (f_then (c_region ?_)))))
    refine lv (v := Nx (k2 + 1)) (e_add rfl rfl (i64n (by omega) (by omega))) (lE omi (l_nil (f_mask [false,false,true,true,true,true,true,true] rfl ?_)))
    exact f_cut ⟨(k2 + 1,(R ++ [x21]),rp31,rc32),⟨⟨rfl,rfl,rfl,rfl,rfl,rfl⟩,rfl,⟨by omega,by rw [ropes_yes hx22 hg28 hc29,← hR]⟩⟩,(show rs.length - (k2 + 1) < rs.length - k2 from by omega)⟩
   refine c_skip (f_block (f_then (c_region (lv (v := Nx (k2 + 1)) (e_add rfl rfl (i64n (by omega) (by omega))) (lE omi (l_nil ?_))))))
   refine f_mask [false,true,true,true,true,true,true] rfl ?_
   exact f_cut ⟨(k2 + 1,R,rp,rc),⟨⟨rfl,rfl,rfl,rfl,rfl,rfl⟩,rfl,⟨by omega,by rw [ropes_no hx22 (by simp [hc29]),← hR]⟩⟩,(show rs.length - (k2 + 1) < rs.length - k2 from by omega)⟩
  refine skE (skE (skE (skE (lE okfb (lnf (c_no rfl (c_skip (f_block (f_then (c_region ?_))))))))))
  refine lv (v := Nx (k2 + 1)) (e_add rfl rfl (i64n (by omega) (by omega))) (lE omi (l_nil (f_mask [false,true,true,true,true,true,true] rfl ?_)))
  exact f_cut ⟨(k2 + 1,R,rp,rc),⟨⟨rfl,rfl,rfl,rfl,rfl,rfl⟩,rfl,⟨by omega,by rw [ropes_no hx22 (by simp [hg28]),← hR]⟩⟩,(show rs.length - (k2 + 1) < rs.length - k2 from by omega)⟩
 refine c_exit (f_then_exit (f_then_exit (f_exit (ftc (lE (olg 2) (lu (mS 3 (#[sB p out c,sB rp R rc,Ix (gx),Ix (gy)])) (lnf (c_ret ?_))))))))
 refine retG (m := [.agg #[sB p out c,sB rp R rc,Ix (gx),Ix (gy)]]) Tryz.results18 ⟨rd_cell tf86.ok rfl (k_pt 3 rfl rfl) rfl,trivial⟩ rfl ?_
 intro w hw
 have hw2 := st_mask (L' := [rowF RopeF 78 rp rc R,rowF BodyF 52 p c out]) [true,true,false,false,false,false] rfl hw
 have hRe : R = ropesOf out rs := by rw [hR,List.take_of_length_le (by omega)]
 rw [hoe] at hRe hw2 ⊢
 rw [hRe] at hw2 ⊢
 exact ⟨p,c,rp,rc,rfl,hw2.perm (perm_ix [1,0] 2 rfl (by kernel_rfl) (by kernel_rfl))⟩
end Go.Proofs
