/-
 What acts do to a state: walked. Printed by a program of my own.
-/
import Derived.Test.YtjejfkajcbdgjaaGreatTd2
import Derived.Test.YtjejfkajcbdgjaaGreatTdSt
import Derived.Test.YtjejfkajcbdgjaaGreatSlA
import Derived.Test.YtjejfkajcbdgjaaGreatSlN
namespace Go.Proofs
open Go Go.Sl Go.Td
theorem act_end {β : Base} {w : World} {zb mp mh mm : Nat} {V : KSt} {m e : Int} {o : KSt × Int × Int} (h : (V, m, e) = o) (hw : St β [pt zb (.cells (stC mp mh mm V.last V.su) 88), mpR PuM mp V.ps, mpR HoM mh V.hs] w) :
  Ending.returned (.tuple #[Ix m,Ix e]) = .returned (.tuple #[Ix o.2.1,Ix o.2.2]) ∧ St β [pt zb (.cells (stC mp mh mm o.1.last o.1.su) 88),mpR PuM mp o.1.ps,mpR HoM mh o.1.hs] w := by subst h; exact ⟨rfl,hw⟩
instance tt32 : FldC Tryz.prog 88 0 0 1 false := ⟨by kernel_rfl⟩
instance tt33 : TyC Tryz.prog 84 false 1 := ⟨by kernel_rfl⟩
instance tt34 : CfC Tryz.prog 108 := ⟨by kernel_rfl⟩
instance tt35 : CfC Tryz.prog 107 := ⟨by kernel_rfl⟩
instance tt36 : FldC Tryz.prog 88 3 3 4 true := ⟨by kernel_rfl⟩
instance tt37 : CfC Tryz.prog 109 := ⟨by kernel_rfl⟩
instance tt38 : FldC Tryz.prog 88 1 1 1 false := ⟨by kernel_rfl⟩
instance tt39 : TyC Tryz.prog 85 false 1 := ⟨by kernel_rfl⟩
instance tt40 : FldC Tryz.prog 88 2 2 1 false := ⟨by kernel_rfl⟩
theorem tt41 : stB Tryz.prog 104 [(0, 1), (1, 1), (2, 4)] = true := by kernel_rfl
instance tt42 : ZerC Tryz.prog 104 (.agg #[.int .i64 (0), .int .i64 (0), .int .i64 (0), .int .i64 (0), .int .i64 (0), .int .i64 (0)]) := ⟨by kernel_rfl⟩
instance tt43 : TyC Tryz.prog 104 true 6 := ⟨by kernel_rfl⟩
instance tt44 : FldC Tryz.prog 104 2 2 4 true := ⟨by kernel_rfl⟩
instance tt45 : FldC Tryz.prog 104 1 1 1 false := ⟨by kernel_rfl⟩
theorem tt46 : stB Tryz.prog 47 [(0, 1), (1, 1), (2, 1), (3, 1), (4, 4)] = true := by kernel_rfl
instance tt47 : ZerC Tryz.prog 47 (.agg #[.int .u8 (0), .int .i64 (0), .int .i64 (0), .int .i64 (0), .int .i64 (0), .int .i64 (0), .int .i64 (0), .int .i64 (0)]) := ⟨by kernel_rfl⟩
instance tt48 : CfC Tryz.prog 72 := ⟨by kernel_rfl⟩
set_option maxHeartbeats 4000000 in
theorem add_ok (β : Base) (w : World) (zb mp mh mm : Nat) (la : Int) (su : KAm) (ps : List (Int × KAm)) (hw : St β [pt zb (.cells (stC mp mh mm la su) 88), mpR PuM mp ps] w) (n : Int) (a x : KAm) (hx : (PuM.look ps n).getD zeroA = x) (hxb : x.bd 4611686018427387903) (hab : a.bd 4611686018427387903) : Calls Tryz.prog 107 #[pp zb 0, Ix n, .agg (amC a)] w fun r w' => r = .returned (Ix (addE ps n a)) ∧ St β [pt zb (.cells (stC mp mh mm la su) 88), mpR PuM mp (addP ps n a)] w' := by
 refine enter (n := 56) Tryz.func107 rfl Tryz.ntmps107 rfl ?_ hw
 refine csr (bxa fun b1 => ?_)
 refine lE oai (lnf (c_seq ?_))
 refine cnz [sv 10 (pp zb 0) [] [] [0],sv 11 (pp zb 0) [0] [0] [],sv 12 (pp zb 0) [0,1] [1] [],sv 13 (.map (some mp)) [0,1,2] [2] [],sv 14 (Ix (n)) [] [] [1],sv 15 (.agg (amC x)) [0,1,2,3,4] [3,4] [],sv 16 (.agg (amC a)) [] [] [2],sv 17 (.agg (amC (x.plus a (1)))) (List.range 7) [5,6] [],⟨[],[],[],[7],fun f => f 7 = .pointer (some ⟨(blk (f 7)),0,none⟩)⟩,⟨(List.range 9),[8,7],[],[],fun _ => True⟩] [u1 [6],u1 [3],u1 [5]] [⟨(some 8),(some 9),[9],[7],fun f => pt (blk (f 7)) (.cells #[.int .i64 (0),.int .i64 (0),.int .i64 (0),.int .i64 (0)] 44)⟩,⟨(some 9),none,[],[7],fun f => pt (blk (f 7)) (.cells (amC (x.plus a (1))) 44)⟩] [(0,pp zb 0),(1,Ix (n)),(5,pp b1 0)] [0,1] ⟨rfl,rfl,rfl,trivial⟩ ⟨?_,?_,?_,?_,?_,?_,?_,?_,?_,?_,trivial⟩ ?_
 ·rintro f M - ⟨i0,-⟩
  exact obE omp
 ·rintro f M ⟨k0,-⟩ -
  exact obE onp
 ·rintro f M ⟨k0,-⟩ -
  exact obE ofp
 ·rintro f M ⟨k0,-⟩ -
  exact obv (L' := pt zb (.cells #[.map (some mp),.map (some mh),Ix (la),Ix (su.a0),Ix (su.a1),Ix (su.a2),Ix (su.a3),.map (some mm)] 88) :: M) (up_cons (d := 12) rfl k0) rfl (e_load1 tt33.ok rfl (k_pt 0 rfl rfl)) (perm_front 0 rfl) (by rfl)
 ·rintro f M - ⟨i0,-⟩
  exact obE omi
 ·rintro f M ⟨k0,k1,-⟩ -
  exact obv (L' := mpR PuM mp ps :: M) (up_cons (d := 14) (up_cons (d := 13) rfl k0) k1) rfl (ev_eq (congrArg PuM.encv hx) (e_look1 (K := PuM) (b := mp) (ks := ps) (k := n) rfl rfl rfl (Knows.of_res 0 rfl (mpR.mono _ _ _) fun _ h => h))) (perm_front 0 rfl) (by rfl)
 ·rintro f M - ⟨i0,-⟩
  exact obE (olg 0)
 ·rintro f M ⟨k0,k1,-⟩ -
  refine obS (up_cons (d := 16) (up_cons (d := 15) rfl k0) k1) ?_
  refine lcR clA (fun w β1 sb kn hw1 => plus_ok β1 w hw1 x a (1) (by decide) hxb hab) (l_nil ?_)
  exact f_owes_d (up_cons (d := 16) (up_cons (d := 15) rfl k0) k1) rfl (List.Perm.refl _)
 ·rintro f M - -
  refine obS rfl ?_
  refine alE fun b3 => l_nil ?_
  exact f_owes_d rfl rfl (perm_front 0 rfl)
 ·rintro f M ⟨k0,k1,-⟩ -
  have hs7 : f 7 = .pointer (some ⟨(blk (f 7)),0,none⟩) := k0
  refine obS (up_cons (d := 17) (up_cons rfl hs7) k1) ?_
  refine lu (mS 0 (amC (x.plus a (1)))) (l_nil ?_)
  exact f_owes_n (up_cons (d := 17) (up_cons rfl hs7) k1) trivial (perm_front 0 rfl)
 rintro fa4 ⟨-,-,-,-,-,-,-,-,k8,-,-⟩ ⟨j0,j1,-⟩
 refine fre ?_
 refine f_rebase (d := 0) j0 (f_rebase (d := 1) j1 (f_rebase (d := 7) k8 (ftc (lE omp (lE onp (lE ofp ?_))))))
 refine lv (v := .map (some mp)) (e_load1 tt33.ok rfl (k_pt 1 rfl rfl)) (lE omi ?_)
 refine lv (v := .tuple #[.agg (amC x),.bool ((PuM.look ps n).isSome)]) (ev_eq (congrArg (fun z => Value.tuple #[PuM.encv z,.bool (PuM.look ps n).isSome]) hx) (e_look2 (K := PuM) (b := mp) (ks := ps) (k := n) rfl rfl rfl (Knows.of_res 2 rfl (mpR.mono _ _ _) fun _ h => h))) ?_
 refine lE omt (lE oxa (lE oxb (alE fun b5 => lu (mS 0 (amC x)) (lE oab (lnf (c_seq (c_block ?_)))))))
 refine c_seq_cut (fun (f : Fm) (L : List Res) => ∃ (jn : Bool),(f 0 = pp zb 0 ∧ f 1 = Ix (n) ∧ f 7 = .pointer (some ⟨(blk (fa4 7)),0,none⟩) ∧ f 27 = .bool (jn)) ∧ L = [pt b5 (.cells (amC x) 44),pt b1 (.cells (amC a) 44),pt zb (.cells #[.map (some mp),.map (some mh),Ix (la),Ix (su.a0),Ix (su.a1),Ix (su.a2),Ix (su.a3),.map (some mm)] 88),mpR PuM mp ps,pt (blk (fa4 7)) (.cells (amC (x.plus a (1))) 44)] ∧ (jn = addX ps n a)) ?_ ?_
 ·refine csr (lE (olg 4) (lcR clA (fun w β1 sb kn hw1 => within_ok β1 w hw1 (x.plus a (1))) (lE ont (lE oab (lnf ?_)))))
  refine c_ifb (!((x.plus a (1)).within)) rfl (fun hc6 => ?_) (fun hc6 => ?_)
  ·refine c_skip ?_
   exact f_cut ⟨!((x.plus a (1)).within),⟨rfl,rfl,rfl,rfl⟩,rfl,(by simp_all [addX,puA])⟩
  refine c_region (lE omb (lE ont ?_))
  refine l_and3 (!((PuM.look ps n).isSome)) (decide (¬ ((x.plus a (1)) = zeroA))) rfl (fun hb7 hk7 => ?_) (fun z8 z9 z10 => ?_)
  ·refine gE (olg 4) ?_
   refine g_val (v := .agg #[.int .i64 (0),.int .i64 (0),.int .i64 (0),.int .i64 (0)]) rfl rfl rfl rfl rfl (e_build_a tt3.ok tt1.ok (vs := []) (cells := #[.int .i64 (0),.int .i64 (0),.int .i64 (0),.int .i64 (0)]) rfl rfl) ?_
   refine g_val (v := .bool (decide (¬ ((x.plus a (1)) = zeroA)))) rfl rfl rfl rfl rfl (e_neq_t (xs := amE (x.plus a (1))) (ys := amE zeroA) tt12 tt13 tt14 rfl rfl rfl rfl (not_congr (am_eq (x := (x.plus a (1))) (y := zeroA)))) ?_
   refine lE oktb ?_
   exact hk7 _ _ _
  refine l_and6 ((!((PuM.look ps n).isSome)) && (decide (¬ ((x.plus a (1)) = zeroA)))) (decide ((256 : Int) ≤ ((ps.length : Nat) : Int))) rfl (fun hb11 hk11 => ?_) (fun z12 z13 z14 z15 z16 z17 => ?_)
  ·refine gE omp (gE onp (gE ofp (g_val (v := .map (some mp)) rfl rfl rfl rfl rfl (e_load1 tt33.ok rfl (k_pt 2 rfl rfl)) ?_)))
   refine g_val (v := Nx (ps.length)) rfl rfl rfl rfl rfl (e_mlen (K := PuM) (b := mp) (ks := ps) rfl rfl (Knows.of_res 3 rfl (mpR.mono _ _ _) fun _ h => h)) ?_
   refine gE oge (lE oktb ?_)
   exact hk11 _ _ _ _ _ _
  refine lE oab (l_nil ?_)
  exact f_cut ⟨(((!((PuM.look ps n).isSome)) && (decide (¬ ((x.plus a (1)) = zeroA)))) && (decide ((256 : Int) ≤ ((ps.length : Nat) : Int)))),⟨rfl,rfl,rfl,rfl⟩,rfl,(by simp_all [addX,puA])⟩
 rintro f0 L0 ⟨jn,⟨hs0,hs1,hs7,hs27⟩,hL,hjn⟩
 subst L0
 refine rbs 0 hs0 (rbs 1 hs1 (rbs 7 hs7 (rbs 27 hs27 (c_ifb (jn) rfl (fun hc18 => ?_) (fun hc18 => ?_)))))
 ·refine csr (lE oai (lnf (c_ret (f_block_ret (f_then_ret (ret1 Tryz.results107 rfl ?_))))))
  intro w hw
  replace hw := hw.perm (L' := [pt zb (.cells #[.map (some mp),.map (some mh),Ix (la),Ix (su.a0),Ix (su.a1),Ix (su.a2),Ix (su.a3),.map (some mm)] 88),mpR PuM mp ps,pt b5 (.cells (amC x) 44),pt b1 (.cells (amC a) 44),pt (blk (fa4 7)) (.cells (amC (x.plus a (1))) 44)]) (by exact (perm_ix [2,3,0,1,4] 5 rfl (by kernel_rfl) (by kernel_rfl)))
  exact ⟨congrArg (fun z : Int => Ending.returned (Ix z)) (show 4 = addE ps n a by simp_all [addE,addP,puA]),(show ps = addP ps n a by simp_all [addE,addP,puA]) ▸ st_mask (L' := [pt zb (.cells #[.map (some mp),.map (some mh),Ix (la),Ix (su.a0),Ix (su.a1),Ix (su.a2),Ix (su.a3),.map (some mm)] 88),mpR PuM mp ps]) [true,true,false,false,false] rfl hw⟩
 refine csr (lE (olg 4) ?_)
 refine lv (v := .agg #[.int .i64 (0),.int .i64 (0),.int .i64 (0),.int .i64 (0)]) (e_build_a tt3.ok tt1.ok (vs := []) (cells := #[.int .i64 (0),.int .i64 (0),.int .i64 (0),.int .i64 (0)]) rfl rfl) ?_
 refine lv (v := .bool (decide (¬ ((x.plus a (1)) = zeroA)))) (e_neq_t (xs := amE (x.plus a (1))) (ys := amE zeroA) tt12 tt13 tt14 rfl rfl rfl rfl (not_congr (am_eq (x := (x.plus a (1))) (y := zeroA)))) ?_
 refine lE oab (lnf (c_if _ rfl (fun hc19 => ?_) (fun hc19 => ?_)))
 ·refine cnz [sv 50 (pp zb 0) [] [] [0],sv 51 (pp zb 0) [0] [0] [],sv 52 (pp zb 0) [0,1] [1] [],sv 53 (.map (some mp)) [0,1,2] [2] [],sv 54 (Ix (n)) [] [] [1],sv 55 (.agg (amC (x.plus a (1)))) [] [] [2],⟨(List.range 6),[3,4,5],[],[],fun _ => True⟩] [u0,u0,u1 [3],(some 6,[6]),u1 [5]] [⟨(some 6),none,[],[],fun _ => mpR PuM mp (PuM.put ps (n) (x.plus a (1)))⟩] [(0,pp zb 0),(1,Ix (n)),(7,.pointer (some ⟨(blk (fa4 7)),0,none⟩))] [] ⟨rfl,rfl,rfl,trivial⟩ ⟨?_,?_,?_,?_,?_,?_,?_,trivial⟩ ?_
  ·rintro f M - ⟨i0,-⟩
   exact obE omp
  ·rintro f M ⟨k0,-⟩ -
   exact obE onp
  ·rintro f M ⟨k0,-⟩ -
   exact obE ofp
  ·rintro f M ⟨k0,-⟩ -
   exact obv (L' := pt zb (.cells #[.map (some mp),.map (some mh),Ix (la),Ix (su.a0),Ix (su.a1),Ix (su.a2),Ix (su.a3),.map (some mm)] 88) :: M) (up_cons (d := 52) rfl k0) rfl (e_load1 tt33.ok rfl (k_pt 0 rfl rfl)) (perm_front 0 rfl) (by rfl)
  ·rintro f M - ⟨i0,-⟩
   exact obE omi
  ·rintro f M - ⟨i0,-⟩
   exact obE (olg 0)
  ·rintro f M ⟨k0,k1,k2,-⟩ -
   refine obS (up_cons (d := 55) (up_cons (d := 54) (up_cons (d := 53) rfl k0) k1) k2) ?_
   refine lu (m_mput (K := PuM) (b := mp) (ks := ps) (k := (n)) (v := (x.plus a (1))) 0 rfl rfl rfl rfl rfl) (l_nil ?_)
   exact f_owes_n (up_cons (d := 55) (up_cons (d := 54) (up_cons (d := 53) rfl k0) k1) k2) trivial (perm_front 0 rfl)
  rintro fa20 ⟨-,-,-,-,-,-,-,-⟩ -
  refine fre ?_
  refine f_block (ftc (lE oai (lnf (c_ret (ret1 Tryz.results107 rfl ?_)))))
  intro w hw
  replace hw := hw.perm (L' := [pt zb (.cells #[.map (some mp),.map (some mh),Ix (la),Ix (su.a0),Ix (su.a1),Ix (su.a2),Ix (su.a3),.map (some mm)] 88),mpR PuM mp (PuM.put ps (n) (x.plus a (1))),pt b5 (.cells (amC x) 44),pt b1 (.cells (amC a) 44),pt (blk (fa4 7)) (.cells (amC (x.plus a (1))) 44)]) (by exact (perm_ix [2,4,0,1,3] 5 rfl (by kernel_rfl) (by kernel_rfl)))
  exact ⟨congrArg (fun z : Int => Ending.returned (Ix z)) (show 0 = addE ps n a by simp_all [addE,addP,puA]),(show (PuM.put ps (n) (x.plus a (1))) = addP ps n a by simp_all [addE,addP,puA]) ▸ st_mask (L' := [pt zb (.cells #[.map (some mp),.map (some mh),Ix (la),Ix (su.a0),Ix (su.a1),Ix (su.a2),Ix (su.a3),.map (some mm)] 88),mpR PuM mp (PuM.put ps (n) (x.plus a (1)))]) [true,true,false,false,false] rfl hw⟩
 refine c_skip (f_block (ftc (lE oai (lnf (c_ret (ret1 Tryz.results107 rfl ?_))))))
 intro w hw
 replace hw := hw.perm (L' := [pt zb (.cells #[.map (some mp),.map (some mh),Ix (la),Ix (su.a0),Ix (su.a1),Ix (su.a2),Ix (su.a3),.map (some mm)] 88),mpR PuM mp ps,pt b5 (.cells (amC x) 44),pt b1 (.cells (amC a) 44),pt (blk (fa4 7)) (.cells (amC (x.plus a (1))) 44)]) (by exact (perm_ix [2,3,0,1,4] 5 rfl (by kernel_rfl) (by kernel_rfl)))
 exact ⟨congrArg (fun z : Int => Ending.returned (Ix z)) (show 0 = addE ps n a by simp_all [addE,addP,puA]),(show ps = addP ps n a by simp_all [addE,addP,puA]) ▸ st_mask (L' := [pt zb (.cells #[.map (some mp),.map (some mh),Ix (la),Ix (su.a0),Ix (su.a1),Ix (su.a2),Ix (su.a3),.map (some mm)] 88),mpR PuM mp ps]) [true,true,false,false,false] rfl hw⟩
set_option maxHeartbeats 4000000 in
theorem take_ok (β : Base) (w : World) (zb mp mh mm : Nat) (la : Int) (su : KAm) (ps : List (Int × KAm)) (hw : St β [pt zb (.cells (stC mp mh mm la su) 88), mpR PuM mp ps] w) (n : Int) (a x : KAm) (hx : (PuM.look ps n).getD zeroA = x) (hxb : x.bd 4611686018427387903) (hab : a.bd 4611686018427387903) : Calls Tryz.prog 109 #[pp zb 0, Ix n, .agg (amC a)] w fun r w' => r = .returned (Ix (takeE ps n a)) ∧ St β [pt zb (.cells (stC mp mh mm la su) 88), mpR PuM mp (takeP ps n a)] w' := by
 refine enter (n := 33) Tryz.func109 rfl Tryz.ntmps109 rfl ?_ hw
 refine csr (bxa fun b1 => ?_)
 refine lE oai (lnf (c_seq ?_))
 refine cnz [sv 8 (pp zb 0) [] [] [0],sv 9 (pp zb 0) [0] [0] [],sv 10 (pp zb 0) [0,1] [1] [],sv 11 (.map (some mp)) [0,1,2] [2] [],sv 12 (Ix (n)) [] [] [1],sv 13 (.agg (amC x)) [0,1,2,3,4] [3,4] [],sv 14 (.agg (amC a)) [] [] [2],sv 15 (.agg (amC (x.plus a (-1)))) (List.range 7) [5,6] [],⟨[],[],[],[7],fun f => f 7 = .pointer (some ⟨(blk (f 7)),0,none⟩)⟩,⟨(List.range 9),[8,7],[],[],fun _ => True⟩] [u1 [6],u1 [3],u1 [5]] [⟨(some 8),(some 9),[9],[7],fun f => pt (blk (f 7)) (.cells #[.int .i64 (0),.int .i64 (0),.int .i64 (0),.int .i64 (0)] 44)⟩,⟨(some 9),none,[],[7],fun f => pt (blk (f 7)) (.cells (amC (x.plus a (-1))) 44)⟩] [(0,pp zb 0),(1,Ix (n)),(5,pp b1 0)] [0,1] ⟨rfl,rfl,rfl,trivial⟩ ⟨?_,?_,?_,?_,?_,?_,?_,?_,?_,?_,trivial⟩ ?_
 ·rintro f M - ⟨i0,-⟩
  exact obE omp
 ·rintro f M ⟨k0,-⟩ -
  exact obE onp
 ·rintro f M ⟨k0,-⟩ -
  exact obE ofp
 ·rintro f M ⟨k0,-⟩ -
  exact obv (L' := pt zb (.cells #[.map (some mp),.map (some mh),Ix (la),Ix (su.a0),Ix (su.a1),Ix (su.a2),Ix (su.a3),.map (some mm)] 88) :: M) (up_cons (d := 10) rfl k0) rfl (e_load1 tt33.ok rfl (k_pt 0 rfl rfl)) (perm_front 0 rfl) (by rfl)
 ·rintro f M - ⟨i0,-⟩
  exact obE omi
 ·rintro f M ⟨k0,k1,-⟩ -
  exact obv (L' := mpR PuM mp ps :: M) (up_cons (d := 12) (up_cons (d := 11) rfl k0) k1) rfl (ev_eq (congrArg PuM.encv hx) (e_look1 (K := PuM) (b := mp) (ks := ps) (k := n) rfl rfl rfl (Knows.of_res 0 rfl (mpR.mono _ _ _) fun _ h => h))) (perm_front 0 rfl) (by rfl)
 ·rintro f M - ⟨i0,-⟩
  exact obE (olg 0)
 ·rintro f M ⟨k0,k1,-⟩ -
  refine obS (up_cons (d := 14) (up_cons (d := 13) rfl k0) k1) ?_
  refine lcR clA (fun w β1 sb kn hw1 => plus_ok β1 w hw1 x a (-1) (by decide) hxb hab) (l_nil ?_)
  exact f_owes_d (up_cons (d := 14) (up_cons (d := 13) rfl k0) k1) rfl (List.Perm.refl _)
 ·rintro f M - -
  refine obS rfl ?_
  refine alE fun b3 => l_nil ?_
  exact f_owes_d rfl rfl (perm_front 0 rfl)
 ·rintro f M ⟨k0,k1,-⟩ -
  have hs7 : f 7 = .pointer (some ⟨(blk (f 7)),0,none⟩) := k0
  refine obS (up_cons (d := 15) (up_cons rfl hs7) k1) ?_
  refine lu (mS 0 (amC (x.plus a (-1)))) (l_nil ?_)
  exact f_owes_n (up_cons (d := 15) (up_cons rfl hs7) k1) trivial (perm_front 0 rfl)
 rintro fa4 ⟨-,-,-,-,-,-,-,-,k8,-,-⟩ ⟨j0,j1,-⟩
 refine fre ?_
 refine f_rebase (d := 0) j0 (f_rebase (d := 1) j1 (f_rebase (d := 7) k8 (fts (csr (lE (olg 3) ?_)))))
 refine lcR clA (fun w β1 sb kn hw1 => within_ok β1 w hw1 (x.plus a (-1))) (lE ont (lnf ?_))
 refine c_ifb (!((x.plus a (-1)).within)) rfl (fun hc5 => ?_) (fun hc5 => ?_)
 ·refine csr (lE oai (lnf (c_ret (f_then_ret (ret1 Tryz.results109 rfl ?_)))))
  intro w hw
  replace hw := hw.perm (L' := [pt zb (.cells #[.map (some mp),.map (some mh),Ix (la),Ix (su.a0),Ix (su.a1),Ix (su.a2),Ix (su.a3),.map (some mm)] 88),mpR PuM mp ps,pt b1 (.cells (amC a) 44),pt (blk (fa4 7)) (.cells (amC (x.plus a (-1))) 44)]) (by exact (perm_ix [1,2,0,3] 4 rfl (by kernel_rfl) (by kernel_rfl)))
  exact ⟨congrArg (fun z : Int => Ending.returned (Ix z)) (show 330 = takeE ps n a by simp_all [takeE,takeP,takeX,puA]),(show ps = takeP ps n a by simp_all [takeE,takeP,takeX,puA]) ▸ st_mask (L' := [pt zb (.cells #[.map (some mp),.map (some mh),Ix (la),Ix (su.a0),Ix (su.a1),Ix (su.a2),Ix (su.a3),.map (some mm)] 88),mpR PuM mp ps]) [true,true,false,false] rfl hw⟩
 refine csk (cs2 ?_)
 refine cnz [sv 19 (pp zb 0) [] [] [0],sv 20 (pp zb 0) [0] [0] [],sv 21 (pp zb 0) [0,1] [1] [],sv 22 (.map (some mp)) [0,1,2] [2] [],sv 23 (Ix (n)) [] [] [1],sv 24 (.agg (amC (x.plus a (-1)))) [] [] [2],⟨(List.range 6),[3,4,5],[],[],fun _ => True⟩] [u0,u1 [3],(some 6,[6]),u1 [5]] [⟨(some 6),none,[],[],fun _ => mpR PuM mp (PuM.put ps (n) (x.plus a (-1)))⟩] [(0,pp zb 0),(1,Ix (n)),(7,.pointer (some ⟨(blk (fa4 7)),0,none⟩))] [0,1,2] ⟨rfl,rfl,rfl,trivial⟩ ⟨?_,?_,?_,?_,?_,?_,?_,trivial⟩ ?_
 ·rintro f M - ⟨i0,-⟩
  exact obE omp
 ·rintro f M ⟨k0,-⟩ -
  exact obE onp
 ·rintro f M ⟨k0,-⟩ -
  exact obE ofp
 ·rintro f M ⟨k0,-⟩ -
  exact obv (L' := pt zb (.cells #[.map (some mp),.map (some mh),Ix (la),Ix (su.a0),Ix (su.a1),Ix (su.a2),Ix (su.a3),.map (some mm)] 88) :: M) (up_cons (d := 21) rfl k0) rfl (e_load1 tt33.ok rfl (k_pt 0 rfl rfl)) (perm_front 0 rfl) (by rfl)
 ·rintro f M - ⟨i0,-⟩
  exact obE omi
 ·rintro f M - ⟨i0,-⟩
  exact obE (olg 0)
 ·rintro f M ⟨k0,k1,k2,-⟩ -
  refine obS (up_cons (d := 24) (up_cons (d := 23) (up_cons (d := 22) rfl k0) k1) k2) ?_
  refine lu (m_mput (K := PuM) (b := mp) (ks := ps) (k := (n)) (v := (x.plus a (-1))) 0 rfl rfl rfl rfl rfl) (l_nil ?_)
  exact f_owes_n (up_cons (d := 24) (up_cons (d := 23) (up_cons (d := 22) rfl k0) k1) k2) trivial (perm_front 0 rfl)
 rintro fa6 ⟨-,-,-,-,-,-,-,-⟩ ⟨j0,j1,j2,-⟩
 refine fre ?_
 refine f_rebase (d := 0) j0 (f_rebase (d := 1) j1 (f_rebase (d := 7) j2 (ftc (lE (olg 2) ?_))))
 refine lv (v := .agg #[.int .i64 (0),.int .i64 (0),.int .i64 (0),.int .i64 (0)]) (e_build_a tt3.ok tt1.ok (vs := []) (cells := #[.int .i64 (0),.int .i64 (0),.int .i64 (0),.int .i64 (0)]) rfl rfl) ?_
 refine lv (v := .bool (decide ((x.plus a (-1)) = zeroA))) (e_eql_t (xs := amE (x.plus a (-1))) (ys := amE zeroA) tt12 tt13 tt14 rfl rfl rfl rfl (am_eq (x := (x.plus a (-1))) (y := zeroA))) ?_
 refine lnf (c_if _ rfl (fun hc7 => ?_) (fun hc7 => ?_))
 ·refine c_region (lE omp (lE onp (lE ofp (lv (v := .map (some mp)) (e_load1 tt33.ok rfl (k_pt 1 rfl rfl)) (lE omi ?_)))))
  refine l_mc rfl rfl (m_mdel (K := PuM) (b := mp) (ks := (PuM.put ps (n) (x.plus a (-1)))) (k := (n)) 3 rfl rfl rfl rfl) ?_
  rintro _ _ ⟨rfl,rfl⟩
  refine lnc (lE oai (lnf (c_ret (ret1 Tryz.results109 rfl ?_))))
  intro w hw
  replace hw := hw.perm (L' := [pt zb (.cells #[.map (some mp),.map (some mh),Ix (la),Ix (su.a0),Ix (su.a1),Ix (su.a2),Ix (su.a3),.map (some mm)] 88),mpR PuM mp (PuM.del (PuM.put ps (n) (x.plus a (-1))) (n)),pt b1 (.cells (amC a) 44),pt (blk (fa4 7)) (.cells (amC (x.plus a (-1))) 44)]) (by exact (perm_ix [1,3,0,2] 4 rfl (by kernel_rfl) (by kernel_rfl)))
  exact ⟨congrArg (fun z : Int => Ending.returned (Ix z)) (show 0 = takeE ps n a by simp_all [takeE,takeP,takeX,puA]),(show (PuM.del (PuM.put ps (n) (x.plus a (-1))) (n)) = takeP ps n a by simp_all [takeE,takeP,takeX,puA]) ▸ st_mask (L' := [pt zb (.cells #[.map (some mp),.map (some mh),Ix (la),Ix (su.a0),Ix (su.a1),Ix (su.a2),Ix (su.a3),.map (some mm)] 88),mpR PuM mp (PuM.del (PuM.put ps (n) (x.plus a (-1))) (n))]) [true,true,false,false] rfl hw⟩
 refine csk (csr (lE oai (lnf (c_ret (ret1 Tryz.results109 rfl ?_)))))
 intro w hw
 replace hw := hw.perm (L' := [pt zb (.cells #[.map (some mp),.map (some mh),Ix (la),Ix (su.a0),Ix (su.a1),Ix (su.a2),Ix (su.a3),.map (some mm)] 88),mpR PuM mp (PuM.put ps (n) (x.plus a (-1))),pt b1 (.cells (amC a) 44),pt (blk (fa4 7)) (.cells (amC (x.plus a (-1))) 44)]) (by exact (perm_ix [1,3,0,2] 4 rfl (by kernel_rfl) (by kernel_rfl)))
 exact ⟨congrArg (fun z : Int => Ending.returned (Ix z)) (show 0 = takeE ps n a by simp_all [takeE,takeP,takeX,puA]),(show (PuM.put ps (n) (x.plus a (-1))) = takeP ps n a by simp_all [takeE,takeP,takeX,puA]) ▸ st_mask (L' := [pt zb (.cells #[.map (some mp),.map (some mh),Ix (la),Ix (su.a0),Ix (su.a1),Ix (su.a2),Ix (su.a3),.map (some mm)] 88),mpR PuM mp (PuM.put ps (n) (x.plus a (-1)))]) [true,true,false,false] rfl hw⟩
set_option maxHeartbeats 4000000 in
theorem mint_ok (β : Base) (w : World) (zb mp mh mm : Nat) (s : KSt) (hw : St β [pt zb (.cells (stC mp mh mm s.last s.su) 88), mpR PuM mp s.ps, mpR HoM mh s.hs] w) (hP : okP s.ps) (hH : okH s.hs) (hsu : s.su.bd 4611686018427387903) (hla : -4611686018427387903 ≤ s.last ∧ s.last ≤ 4611686018427387903) (x : KAct) (hxa : x.a.bd 4611686018427387903) : Calls Tryz.prog 67 #[pp zb 0, .agg #[Bx (x.kind), Ix (x.owner), Ix (x.other), Ix (x.hold), Ix (x.a.a0), Ix (x.a.a1), Ix (x.a.a2), Ix (x.a.a3)]] w fun r w' => r = .returned (.tuple #[Ix (mintS s x).2.1, Ix (mintS s x).2.2]) ∧ St β [pt zb (.cells (stC mp mh mm (mintS s x).1.last (mintS s x).1.su) 88), mpR PuM mp (mintS s x).1.ps, mpR HoM mh (mintS s x).1.hs] w' := by
 refine enter (n := 26) Tryz.func67 rfl Tryz.ntmps67 rfl ?_ hw
 refine csr (bxa fun b1 => ?_)
 refine lE oai (lE oai (lnc (lE omp (lE ofp (lE (oli 0) (lE ofp (lE (olg 0) ?_)))))))
 refine l_call rfl rfl rfl (cl0 (vs := [pp zb 0,Ix (x.owner),.agg (amC x.a)]) tt35.ok rfl rfl) ?_
 intro w hw
 replace hw := hw.perm (L' := _ :: _ :: _ :: _ :: []) (by exact ((((perm_front 3 rfl).trans (perm_front 1 rfl)).trans (perm_front 3 rfl)).trans (perm_front 3 rfl)))
 obtain ⟨β1,sb,kn,hw1,back⟩ := St.frame (L := [_,_]) (M := _ :: _ :: []) hw
 refine (add_ok β1 w zb mp mh mm s.last s.su s.ps hw1 x.owner x.a _ rfl (okP_bd hP _) hxa).mono ?_
 rintro e w' ⟨rfl,hw'⟩
 refine ⟨_,rfl,_,back _ _ hw',?_⟩
 clear hw hw1 hw' back kn sb
 refine lE oai (lnf (cs2 (c_region (lE omi (lE oeq_ (lnf (c_if _ rfl (fun hc2 => ?_) (fun hc2 => ?_))))))))
 ·refine cnz [sv 15 (pp zb 0) [] [] [0],sv 16 (pp zb 0) [] [] [0],sv 17 (pp zb 0) [1] [1] [],sv 18 (pp zb 3) [1,2] [2] [],sv 19 (.agg (amC s.su)) [1,2,3] [3] [],sv 20 (pp b1 4) [] [] [1],sv 21 (.agg (amC x.a)) [5] [5] [],sv 22 (.agg (amC (s.su.plus x.a (1)))) [1,2,3,4,5,6] [4,6] [],sv 23 (pp zb 0) (List.range 8) [0] [],sv 24 (pp zb 3) (List.range 9) [8] [],⟨(List.range 10),[9,7],[],[],fun _ => True⟩] [(some 10,[4,10]),u0,u1 [6]] [⟨(some 10),none,[],[],fun _ => pt zb (.cells #[.map (some mp),.map (some mh),Ix (s.last),Ix ((s.su.plus x.a (1)).a0),Ix ((s.su.plus x.a (1)).a1),Ix ((s.su.plus x.a (1)).a2),Ix ((s.su.plus x.a (1)).a3),.map (some mm)] 88)⟩] [(0,pp zb 0),(3,pp b1 0),(6,Ix (addE s.ps x.owner x.a))] [2] ⟨rfl,rfl,rfl,trivial⟩ ⟨?_,?_,?_,?_,?_,?_,?_,?_,?_,?_,?_,trivial⟩ ?_
  ·rintro f M - ⟨i0,-⟩
   exact obE omp
  ·rintro f M - ⟨i0,-⟩
   exact obE omp
  ·rintro f M ⟨k0,-⟩ -
   exact obE onp
  ·rintro f M ⟨k0,-⟩ -
   exact obE ofp
  ·rintro f M ⟨k0,-⟩ -
   exact obE (olg 0)
  ·rintro f M - ⟨i0,-⟩
   exact obE ofp
  ·rintro f M ⟨k0,-⟩ -
   exact obE (olg 0)
  ·rintro f M ⟨k0,k1,-⟩ -
   refine obS (up_cons (d := 21) (up_cons (d := 19) rfl k0) k1) ?_
   refine lcR clA (fun w β1 sb kn hw1 => plus_ok β1 w hw1 s.su x.a (1) (by decide) hsu hxa) (l_nil ?_)
   exact f_owes_d (up_cons (d := 21) (up_cons (d := 19) rfl k0) k1) rfl (List.Perm.refl _)
  ·rintro f M ⟨k0,-⟩ -
   exact obE onp
  ·rintro f M ⟨k0,-⟩ -
   exact obE ofp
  ·rintro f M ⟨k0,k1,-⟩ -
   refine obS (up_cons (d := 22) (up_cons (d := 24) rfl k0) k1) ?_
   refine lu (mS 0 (#[.map (some mp),.map (some mh),Ix (s.last),Ix ((s.su.plus x.a (1)).a0),Ix ((s.su.plus x.a (1)).a1),Ix ((s.su.plus x.a (1)).a2),Ix ((s.su.plus x.a (1)).a3),.map (some mm)])) ?_
   refine l_nil ?_
   exact f_owes_n (up_cons (d := 22) (up_cons (d := 24) rfl k0) k1) trivial (perm_front 0 rfl)
  rintro fa3 ⟨-,-,-,-,-,-,-,-,-,-,-,-⟩ ⟨j0,-⟩
  refine fre ?_
  refine f_rebase (d := 6) j0 (ftc (lE omi (lE oai (lE oai (lnf (c_ret ?_))))))
  refine ret2 (v := .int .i64 (0)) (v' := Ix (addE s.ps x.owner x.a)) Tryz.results67 rfl rfl ?_
  intro w hw
  replace hw := hw.perm (L' := [pt zb (.cells #[.map (some mp),.map (some mh),Ix (s.last),Ix ((s.su.plus x.a (1)).a0),Ix ((s.su.plus x.a (1)).a1),Ix ((s.su.plus x.a (1)).a2),Ix ((s.su.plus x.a (1)).a3),.map (some mm)] 88),mpR PuM mp (addP s.ps x.owner x.a),mpR HoM mh s.hs,pt b1 (.cells #[Bx (x.kind),Ix (x.owner),Ix (x.other),Ix (x.hold),Ix (x.a.a0),Ix (x.a.a1),Ix (x.a.a2),Ix (x.a.a3)] 47)]) (by exact (perm_ix [3,0,2,1] 4 rfl (by kernel_rfl) (by kernel_rfl)))
  exact act_end (V := (⟨(addP s.ps x.owner x.a),s.hs,s.last,(s.su.plus x.a (1))⟩ : KSt)) (show ((⟨(addP s.ps x.owner x.a),s.hs,s.last,(s.su.plus x.a (1))⟩ : KSt),0,addE s.ps x.owner x.a) = mintS s x by simp_all [mintS]) (st_mask (L' := [pt zb (.cells #[.map (some mp),.map (some mh),Ix (s.last),Ix ((s.su.plus x.a (1)).a0),Ix ((s.su.plus x.a (1)).a1),Ix ((s.su.plus x.a (1)).a2),Ix ((s.su.plus x.a (1)).a3),.map (some mm)] 88),mpR PuM mp (addP s.ps x.owner x.a),mpR HoM mh s.hs]) [true,true,true,false] rfl hw)
 refine csk (csr (lE omi (lE oai (lE oai (lnf (c_ret (ret2 (v := .int .i64 (0)) (v' := Ix (addE s.ps x.owner x.a)) Tryz.results67 rfl rfl ?_)))))))
 intro w hw
 replace hw := hw.perm (L' := [pt zb (.cells #[.map (some mp),.map (some mh),Ix (s.last),Ix (s.su.a0),Ix (s.su.a1),Ix (s.su.a2),Ix (s.su.a3),.map (some mm)] 88),mpR PuM mp (addP s.ps x.owner x.a),mpR HoM mh s.hs,pt b1 (.cells #[Bx (x.kind),Ix (x.owner),Ix (x.other),Ix (x.hold),Ix (x.a.a0),Ix (x.a.a1),Ix (x.a.a2),Ix (x.a.a3)] 47)]) (by exact (perm_ix [0,1,3,2] 4 rfl (by kernel_rfl) (by kernel_rfl)))
 exact act_end (V := (⟨(addP s.ps x.owner x.a),s.hs,s.last,s.su⟩ : KSt)) (show ((⟨(addP s.ps x.owner x.a),s.hs,s.last,s.su⟩ : KSt),0,addE s.ps x.owner x.a) = mintS s x by simp_all [mintS]) (st_mask (L' := [pt zb (.cells #[.map (some mp),.map (some mh),Ix (s.last),Ix (s.su.a0),Ix (s.su.a1),Ix (s.su.a2),Ix (s.su.a3),.map (some mm)] 88),mpR PuM mp (addP s.ps x.owner x.a),mpR HoM mh s.hs]) [true,true,true,false] rfl hw)
set_option maxHeartbeats 4000000 in
theorem burn_ok (β : Base) (w : World) (zb mp mh mm : Nat) (s : KSt) (hw : St β [pt zb (.cells (stC mp mh mm s.last s.su) 88), mpR PuM mp s.ps, mpR HoM mh s.hs] w) (hP : okP s.ps) (hH : okH s.hs) (hsu : s.su.bd 4611686018427387903) (hla : -4611686018427387903 ≤ s.last ∧ s.last ≤ 4611686018427387903) (x : KAct) (hxa : x.a.bd 4611686018427387903) : Calls Tryz.prog 68 #[pp zb 0, .agg #[Bx (x.kind), Ix (x.owner), Ix (x.other), Ix (x.hold), Ix (x.a.a0), Ix (x.a.a1), Ix (x.a.a2), Ix (x.a.a3)]] w fun r w' => r = .returned (.tuple #[Ix (burnS s x).2.1, Ix (burnS s x).2.2]) ∧ St β [pt zb (.cells (stC mp mh mm (burnS s x).1.last (burnS s x).1.su) 88), mpR PuM mp (burnS s x).1.ps, mpR HoM mh (burnS s x).1.hs] w' := by
 refine enter (n := 26) Tryz.func68 rfl Tryz.ntmps68 rfl ?_ hw
 refine csr (bxa fun b1 => ?_)
 refine lE oai (lE oai (lnc (lE omp (lE ofp (lE (oli 0) (lE ofp (lE (olg 0) ?_)))))))
 refine l_call rfl rfl rfl (cl0 (vs := [pp zb 0,Ix (x.owner),.agg (amC x.a)]) tt37.ok rfl rfl) ?_
 intro w hw
 replace hw := hw.perm (L' := _ :: _ :: _ :: _ :: []) (by exact ((((perm_front 3 rfl).trans (perm_front 1 rfl)).trans (perm_front 3 rfl)).trans (perm_front 3 rfl)))
 obtain ⟨β1,sb,kn,hw1,back⟩ := St.frame (L := [_,_]) (M := _ :: _ :: []) hw
 refine (take_ok β1 w zb mp mh mm s.last s.su s.ps hw1 x.owner x.a _ rfl (okP_bd hP _) hxa).mono ?_
 rintro e w' ⟨rfl,hw'⟩
 refine ⟨_,rfl,_,back _ _ hw',?_⟩
 clear hw hw1 hw' back kn sb
 refine lE oai (lnf (cs2 (c_region (lE omi (lE oeq_ (lnf (c_if _ rfl (fun hc2 => ?_) (fun hc2 => ?_))))))))
 ·refine cnz [sv 15 (pp zb 0) [] [] [0],sv 16 (pp zb 0) [] [] [0],sv 17 (pp zb 0) [1] [1] [],sv 18 (pp zb 3) [1,2] [2] [],sv 19 (.agg (amC s.su)) [1,2,3] [3] [],sv 20 (pp b1 4) [] [] [1],sv 21 (.agg (amC x.a)) [5] [5] [],sv 22 (.agg (amC (s.su.plus x.a (-1)))) [1,2,3,4,5,6] [4,6] [],sv 23 (pp zb 0) (List.range 8) [0] [],sv 24 (pp zb 3) (List.range 9) [8] [],⟨(List.range 10),[9,7],[],[],fun _ => True⟩] [(some 10,[4,10]),u0,u1 [6]] [⟨(some 10),none,[],[],fun _ => pt zb (.cells #[.map (some mp),.map (some mh),Ix (s.last),Ix ((s.su.plus x.a (-1)).a0),Ix ((s.su.plus x.a (-1)).a1),Ix ((s.su.plus x.a (-1)).a2),Ix ((s.su.plus x.a (-1)).a3),.map (some mm)] 88)⟩] [(0,pp zb 0),(3,pp b1 0),(6,Ix (takeE s.ps x.owner x.a))] [2] ⟨rfl,rfl,rfl,trivial⟩ ⟨?_,?_,?_,?_,?_,?_,?_,?_,?_,?_,?_,trivial⟩ ?_
  ·rintro f M - ⟨i0,-⟩
   exact obE omp
  ·rintro f M - ⟨i0,-⟩
   exact obE omp
  ·rintro f M ⟨k0,-⟩ -
   exact obE onp
  ·rintro f M ⟨k0,-⟩ -
   exact obE ofp
  ·rintro f M ⟨k0,-⟩ -
   exact obE (olg 0)
  ·rintro f M - ⟨i0,-⟩
   exact obE ofp
  ·rintro f M ⟨k0,-⟩ -
   exact obE (olg 0)
  ·rintro f M ⟨k0,k1,-⟩ -
   refine obS (up_cons (d := 21) (up_cons (d := 19) rfl k0) k1) ?_
   refine lcR clA (fun w β1 sb kn hw1 => plus_ok β1 w hw1 s.su x.a (-1) (by decide) hsu hxa) (l_nil ?_)
   exact f_owes_d (up_cons (d := 21) (up_cons (d := 19) rfl k0) k1) rfl (List.Perm.refl _)
  ·rintro f M ⟨k0,-⟩ -
   exact obE onp
  ·rintro f M ⟨k0,-⟩ -
   exact obE ofp
  ·rintro f M ⟨k0,k1,-⟩ -
   refine obS (up_cons (d := 22) (up_cons (d := 24) rfl k0) k1) ?_
   refine lu (mS 0 (#[.map (some mp),.map (some mh),Ix (s.last),Ix ((s.su.plus x.a (-1)).a0),Ix ((s.su.plus x.a (-1)).a1),Ix ((s.su.plus x.a (-1)).a2),Ix ((s.su.plus x.a (-1)).a3),.map (some mm)])) ?_
   refine l_nil ?_
   exact f_owes_n (up_cons (d := 22) (up_cons (d := 24) rfl k0) k1) trivial (perm_front 0 rfl)
  rintro fa3 ⟨-,-,-,-,-,-,-,-,-,-,-,-⟩ ⟨j0,-⟩
  refine fre ?_
  refine f_rebase (d := 6) j0 (ftc (lE omi (lE oai (lE oai (lnf (c_ret ?_))))))
  refine ret2 (v := .int .i64 (0)) (v' := Ix (takeE s.ps x.owner x.a)) Tryz.results68 rfl rfl ?_
  intro w hw
  replace hw := hw.perm (L' := [pt zb (.cells #[.map (some mp),.map (some mh),Ix (s.last),Ix ((s.su.plus x.a (-1)).a0),Ix ((s.su.plus x.a (-1)).a1),Ix ((s.su.plus x.a (-1)).a2),Ix ((s.su.plus x.a (-1)).a3),.map (some mm)] 88),mpR PuM mp (takeP s.ps x.owner x.a),mpR HoM mh s.hs,pt b1 (.cells #[Bx (x.kind),Ix (x.owner),Ix (x.other),Ix (x.hold),Ix (x.a.a0),Ix (x.a.a1),Ix (x.a.a2),Ix (x.a.a3)] 47)]) (by exact (perm_ix [3,0,2,1] 4 rfl (by kernel_rfl) (by kernel_rfl)))
  exact act_end (V := (⟨(takeP s.ps x.owner x.a),s.hs,s.last,(s.su.plus x.a (-1))⟩ : KSt)) (show ((⟨(takeP s.ps x.owner x.a),s.hs,s.last,(s.su.plus x.a (-1))⟩ : KSt),0,takeE s.ps x.owner x.a) = burnS s x by simp_all [burnS]) (st_mask (L' := [pt zb (.cells #[.map (some mp),.map (some mh),Ix (s.last),Ix ((s.su.plus x.a (-1)).a0),Ix ((s.su.plus x.a (-1)).a1),Ix ((s.su.plus x.a (-1)).a2),Ix ((s.su.plus x.a (-1)).a3),.map (some mm)] 88),mpR PuM mp (takeP s.ps x.owner x.a),mpR HoM mh s.hs]) [true,true,true,false] rfl hw)
 refine csk (csr (lE omi (lE oai (lE oai (lnf (c_ret (ret2 (v := .int .i64 (0)) (v' := Ix (takeE s.ps x.owner x.a)) Tryz.results68 rfl rfl ?_)))))))
 intro w hw
 replace hw := hw.perm (L' := [pt zb (.cells #[.map (some mp),.map (some mh),Ix (s.last),Ix (s.su.a0),Ix (s.su.a1),Ix (s.su.a2),Ix (s.su.a3),.map (some mm)] 88),mpR PuM mp (takeP s.ps x.owner x.a),mpR HoM mh s.hs,pt b1 (.cells #[Bx (x.kind),Ix (x.owner),Ix (x.other),Ix (x.hold),Ix (x.a.a0),Ix (x.a.a1),Ix (x.a.a2),Ix (x.a.a3)] 47)]) (by exact (perm_ix [0,1,3,2] 4 rfl (by kernel_rfl) (by kernel_rfl)))
 exact act_end (V := (⟨(takeP s.ps x.owner x.a),s.hs,s.last,s.su⟩ : KSt)) (show ((⟨(takeP s.ps x.owner x.a),s.hs,s.last,s.su⟩ : KSt),0,takeE s.ps x.owner x.a) = burnS s x by simp_all [burnS]) (st_mask (L' := [pt zb (.cells #[.map (some mp),.map (some mh),Ix (s.last),Ix (s.su.a0),Ix (s.su.a1),Ix (s.su.a2),Ix (s.su.a3),.map (some mm)] 88),mpR PuM mp (takeP s.ps x.owner x.a),mpR HoM mh s.hs]) [true,true,true,false] rfl hw)
theorem move_ok (β : Base) (w : World) (zb mp mh mm : Nat) (s : KSt) (hw : St β [pt zb (.cells (stC mp mh mm s.last s.su) 88), mpR PuM mp s.ps, mpR HoM mh s.hs] w) (hP : okP s.ps) (hH : okH s.hs) (hsu : s.su.bd 4611686018427387903) (hla : -4611686018427387903 ≤ s.last ∧ s.last ≤ 4611686018427387903) (x : KAct) (hxa : x.a.bd 4611686018427387903) : Calls Tryz.prog 69 #[pp zb 0, .agg #[Bx (x.kind), Ix (x.owner), Ix (x.other), Ix (x.hold), Ix (x.a.a0), Ix (x.a.a1), Ix (x.a.a2), Ix (x.a.a3)]] w fun r w' => r = .returned (.tuple #[Ix (moveS s x).2.1, Ix (moveS s x).2.2]) ∧ St β [pt zb (.cells (stC mp mh mm (moveS s x).1.last (moveS s x).1.su) 88), mpR PuM mp (moveS s x).1.ps, mpR HoM mh (moveS s x).1.hs] w' := by
 refine enter (n := 22) Tryz.func69 rfl Tryz.ntmps69 rfl ?_ hw
 refine csr (bxa fun b1 => ?_)
 refine lE oai (lE oai (lnf (cs2 (c_region (lE omp (lE ofp (lE (oli 0) (lE ofp (lE (olg 0) ?_)))))))))
 refine l_call rfl rfl rfl (cl0 (vs := [pp zb 0,Ix (x.owner),.agg (amC x.a)]) tt37.ok rfl rfl) ?_
 intro w hw
 replace hw := hw.perm (L' := _ :: _ :: _ :: _ :: []) (by exact ((((perm_front 3 rfl).trans (perm_front 1 rfl)).trans (perm_front 3 rfl)).trans (perm_front 3 rfl)))
 obtain ⟨β1,sb,kn,hw1,back⟩ := St.frame (L := [_,_]) (M := _ :: _ :: []) hw
 refine (take_ok β1 w zb mp mh mm s.last s.su s.ps hw1 x.owner x.a _ rfl (okP_bd hP _) hxa).mono ?_
 rintro e w' ⟨rfl,hw'⟩
 refine ⟨_,rfl,_,back _ _ hw',?_⟩
 clear hw hw1 hw' back kn sb
 refine lE oai (lnc (lE omi (lE onq (lnf (c_if _ rfl (fun hc2 => ?_) (fun hc2 => ?_))))))
 ·refine csr (lE omi (lE oai (lE oai (lnf (c_ret (f_then_ret (ret2 (v := .int .i64 (0)) (v' := Ix (takeE s.ps x.owner x.a)) Tryz.results69 rfl rfl ?_)))))))
  intro w hw
  replace hw := hw.perm (L' := [pt zb (.cells #[.map (some mp),.map (some mh),Ix (s.last),Ix (s.su.a0),Ix (s.su.a1),Ix (s.su.a2),Ix (s.su.a3),.map (some mm)] 88),mpR PuM mp (takeP s.ps x.owner x.a),mpR HoM mh s.hs,pt b1 (.cells #[Bx (x.kind),Ix (x.owner),Ix (x.other),Ix (x.hold),Ix (x.a.a0),Ix (x.a.a1),Ix (x.a.a2),Ix (x.a.a3)] 47)]) (by exact (perm_ix [0,1,3,2] 4 rfl (by kernel_rfl) (by kernel_rfl)))
  exact act_end (V := (⟨(takeP s.ps x.owner x.a),s.hs,s.last,s.su⟩ : KSt)) (show ((⟨(takeP s.ps x.owner x.a),s.hs,s.last,s.su⟩ : KSt),0,takeE s.ps x.owner x.a) = moveS s x by simp_all [moveS]) (st_mask (L' := [pt zb (.cells #[.map (some mp),.map (some mh),Ix (s.last),Ix (s.su.a0),Ix (s.su.a1),Ix (s.su.a2),Ix (s.su.a3),.map (some mm)] 88),mpR PuM mp (takeP s.ps x.owner x.a),mpR HoM mh s.hs]) [true,true,true,false] rfl hw)
 refine csk (csr (lE omp (lE ofp (lE (oli 2) (lE ofp (lE (olg 2) ?_))))))
 refine l_call rfl rfl rfl (cl0 (vs := [pp zb 0,Ix (x.other),.agg (amC x.a)]) tt35.ok rfl rfl) ?_
 intro w hw
 replace hw := hw.perm (L' := _ :: _ :: _ :: _ :: []) (by exact ((((perm_front 3 rfl).trans (perm_front 3 rfl)).trans (perm_front 3 rfl)).trans (perm_front 3 rfl)))
 obtain ⟨β1,sb,kn,hw1,back⟩ := St.frame (L := [_,_]) (M := _ :: _ :: []) hw
 refine (add_ok β1 w zb mp mh mm s.last s.su (takeP s.ps x.owner x.a) hw1 x.other x.a _ rfl (okP_bd (takeP_ok hP _ _) _) hxa).mono ?_
 rintro e w' ⟨rfl,hw'⟩
 refine ⟨_,rfl,_,back _ _ hw',?_⟩
 clear hw hw1 hw' back kn sb
 refine lE oai (lE oai (lnf (c_ret (ret2 (v := .int .i64 (0)) (v' := Ix (addE (takeP s.ps x.owner x.a) x.other x.a)) Tryz.results69 rfl rfl ?_))))
 intro w hw
 replace hw := hw.perm (L' := [pt zb (.cells #[.map (some mp),.map (some mh),Ix (s.last),Ix (s.su.a0),Ix (s.su.a1),Ix (s.su.a2),Ix (s.su.a3),.map (some mm)] 88),mpR PuM mp (addP (takeP s.ps x.owner x.a) x.other x.a),mpR HoM mh s.hs,pt b1 (.cells #[Bx (x.kind),Ix (x.owner),Ix (x.other),Ix (x.hold),Ix (x.a.a0),Ix (x.a.a1),Ix (x.a.a2),Ix (x.a.a3)] 47)]) (by exact (perm_ix [0,1,3,2] 4 rfl (by kernel_rfl) (by kernel_rfl)))
 exact act_end (V := (⟨(addP (takeP s.ps x.owner x.a) x.other x.a),s.hs,s.last,s.su⟩ : KSt)) (show ((⟨(addP (takeP s.ps x.owner x.a) x.other x.a),s.hs,s.last,s.su⟩ : KSt),0,addE (takeP s.ps x.owner x.a) x.other x.a) = moveS s x by simp_all [moveS]) (st_mask (L' := [pt zb (.cells #[.map (some mp),.map (some mh),Ix (s.last),Ix (s.su.a0),Ix (s.su.a1),Ix (s.su.a2),Ix (s.su.a3),.map (some mm)] 88),mpR PuM mp (addP (takeP s.ps x.owner x.a) x.other x.a),mpR HoM mh s.hs]) [true,true,true,false] rfl hw)
set_option maxHeartbeats 4000000 in
theorem hold_ok (β : Base) (w : World) (zb mp mh mm : Nat) (s : KSt) (hw : St β [pt zb (.cells (stC mp mh mm s.last s.su) 88), mpR PuM mp s.ps, mpR HoM mh s.hs] w) (hP : okP s.ps) (hH : okH s.hs) (hsu : s.su.bd 4611686018427387903) (hla : -4611686018427387903 ≤ s.last ∧ s.last ≤ 4611686018427387903) (x : KAct) (hxa : x.a.bd 4611686018427387903) : Calls Tryz.prog 70 #[pp zb 0, .agg #[Bx (x.kind), Ix (x.owner), Ix (x.other), Ix (x.hold), Ix (x.a.a0), Ix (x.a.a1), Ix (x.a.a2), Ix (x.a.a3)]] w fun r w' => r = .returned (.tuple #[Ix (holdS s x).2.1, Ix (holdS s x).2.2]) ∧ St β [pt zb (.cells (stC mp mh mm (holdS s x).1.last (holdS s x).1.su) 88), mpR PuM mp (holdS s x).1.ps, mpR HoM mh (holdS s x).1.hs] w' := by
 refine enter (n := 50) Tryz.func70 rfl Tryz.ntmps70 rfl ?_ hw
 refine csr (bxa fun b1 => ?_)
 refine lE oai (lE oai (lnf (cs2 (c_region (lE omp (lE ofp (lE (oli 0) (lE ofp (lE (olg 0) ?_)))))))))
 refine l_call rfl rfl rfl (cl0 (vs := [pp zb 0,Ix (x.owner),.agg (amC x.a)]) tt37.ok rfl rfl) ?_
 intro w hw
 replace hw := hw.perm (L' := _ :: _ :: _ :: _ :: []) (by exact ((((perm_front 3 rfl).trans (perm_front 1 rfl)).trans (perm_front 3 rfl)).trans (perm_front 3 rfl)))
 obtain ⟨β1,sb,kn,hw1,back⟩ := St.frame (L := [_,_]) (M := _ :: _ :: []) hw
 refine (take_ok β1 w zb mp mh mm s.last s.su s.ps hw1 x.owner x.a _ rfl (okP_bd hP _) hxa).mono ?_
 rintro e w' ⟨rfl,hw'⟩
 refine ⟨_,rfl,_,back _ _ hw',?_⟩
 clear hw hw1 hw' back kn sb
 refine lE oai (lnc (lE omi (lE onq (lnf (c_if _ rfl (fun hc2 => ?_) (fun hc2 => ?_))))))
 ·refine csr (lE omi (lE oai (lE oai (lnf (c_ret (f_then_ret (ret2 (v := .int .i64 (0)) (v' := Ix (takeE s.ps x.owner x.a)) Tryz.results70 rfl rfl ?_)))))))
  intro w hw
  replace hw := hw.perm (L' := [pt zb (.cells #[.map (some mp),.map (some mh),Ix (s.last),Ix (s.su.a0),Ix (s.su.a1),Ix (s.su.a2),Ix (s.su.a3),.map (some mm)] 88),mpR PuM mp (takeP s.ps x.owner x.a),mpR HoM mh s.hs,pt b1 (.cells #[Bx (x.kind),Ix (x.owner),Ix (x.other),Ix (x.hold),Ix (x.a.a0),Ix (x.a.a1),Ix (x.a.a2),Ix (x.a.a3)] 47)]) (by exact (perm_ix [0,1,3,2] 4 rfl (by kernel_rfl) (by kernel_rfl)))
  exact act_end (V := (⟨(takeP s.ps x.owner x.a),s.hs,s.last,s.su⟩ : KSt)) (show ((⟨(takeP s.ps x.owner x.a),s.hs,s.last,s.su⟩ : KSt),0,takeE s.ps x.owner x.a) = holdS s x by simp_all [holdS]) (st_mask (L' := [pt zb (.cells #[.map (some mp),.map (some mh),Ix (s.last),Ix (s.su.a0),Ix (s.su.a1),Ix (s.su.a2),Ix (s.su.a3),.map (some mm)] 88),mpR PuM mp (takeP s.ps x.owner x.a),mpR HoM mh s.hs]) [true,true,true,false] rfl hw)
 refine csk (cs2 (c_region (lE omp (lE onp (lE ofp (lv (v := .map (some mh)) (e_load1 tt39.ok rfl (k_pt 0 rfl rfl)) ?_))))))
 refine lv (v := Nx (s.hs.length)) (e_mlen (K := HoM) (b := mh) (ks := s.hs) rfl rfl (Knows.of_res 3 rfl (mpR.mono _ _ _) fun _ h => h)) (lE oge ?_)
 refine lnf (c_if _ rfl (fun hc3 => ?_) (fun hc3 => ?_))
 ·refine csr (lE oai (lE oai (lnf (c_ret (f_then_ret (ret2 (v := .int .i64 (0)) (v' := .int .i64 (5)) Tryz.results70 rfl rfl ?_))))))
  intro w hw
  replace hw := hw.perm (L' := [pt zb (.cells #[.map (some mp),.map (some mh),Ix (s.last),Ix (s.su.a0),Ix (s.su.a1),Ix (s.su.a2),Ix (s.su.a3),.map (some mm)] 88),mpR PuM mp (takeP s.ps x.owner x.a),mpR HoM mh s.hs,pt b1 (.cells #[Bx (x.kind),Ix (x.owner),Ix (x.other),Ix (x.hold),Ix (x.a.a0),Ix (x.a.a1),Ix (x.a.a2),Ix (x.a.a3)] 47)]) (by exact (perm_ix [0,1,3,2] 4 rfl (by kernel_rfl) (by kernel_rfl)))
  exact act_end (V := (⟨(takeP s.ps x.owner x.a),s.hs,s.last,s.su⟩ : KSt)) (show ((⟨(takeP s.ps x.owner x.a),s.hs,s.last,s.su⟩ : KSt),0,5) = holdS s x by simp_all [holdS]) (st_mask (L' := [pt zb (.cells #[.map (some mp),.map (some mh),Ix (s.last),Ix (s.su.a0),Ix (s.su.a1),Ix (s.su.a2),Ix (s.su.a3),.map (some mm)] 88),mpR PuM mp (takeP s.ps x.owner x.a),mpR HoM mh s.hs]) [true,true,true,false] rfl hw)
 refine csk (csr (lE omp (lE onp (lE ofp (lE (oli 0) (lE opl (lE onp (lE ofp ?_))))))))
 refine lu (mS 0 (#[.map (some mp),.map (some mh),Ix ((s.last) + (1 : Int)),Ix (s.su.a0),Ix (s.su.a1),Ix (s.su.a2),Ix (s.su.a3),.map (some mm)])) ?_
 refine lnf (c_seq ?_)
 refine cnz [sv 29 (pp zb 0) [] [] [0],sv 30 (pp zb 0) [0] [0] [],sv 31 (pp zb 1) [0,1] [1] [],sv 32 (.map (some mh)) [0,1,2] [2] [],sv 33 (pp zb 0) [] [] [0],sv 34 (pp zb 0) [4] [4] [],sv 35 (pp zb 2) [4,5] [5] [],sv 36 (Ix ((s.last) + (1 : Int))) [4,5,6] [6] [],sv 37 (pp zb 0) [] [] [0],sv 38 (pp zb 0) [8] [8] [],sv 39 (pp zb 2) [8,9] [9] [],sv 40 (Ix ((s.last) + (1 : Int))) [8,9,10] [10] [],sv 41 (pp b1 1) [] [] [1],sv 42 (Ix (x.owner)) [12] [12] [],sv 43 (pp b1 4) [] [] [1],sv 44 (.agg (amC x.a)) [14] [14] [],sv 45 (.agg #[Ix ((s.last) + (1 : Int)),Ix (x.owner),Ix (x.a.a0),Ix (x.a.a1),Ix (x.a.a2),Ix (x.a.a3)]) [8,9,10,11,12,13,14,15] [11,13,15] [],⟨(List.range 17),[3,7,16],[],[],fun _ => True⟩] [u1 [3,7,11],u0,u1 [13,15],(some 17,[17])] [⟨(some 17),none,[],[],fun _ => mpR HoM mh (HoM.put s.hs ((s.last) + (1 : Int)) (⟨(s.last) + (1 : Int),x.owner,x.a⟩ : KHo))⟩] [(0,pp zb 0),(3,pp b1 0)] [0] ⟨rfl,rfl,trivial⟩ ⟨?_,?_,?_,?_,?_,?_,?_,?_,?_,?_,?_,?_,?_,?_,?_,?_,?_,?_,trivial⟩ ?_
 ·rintro f M - ⟨i0,-⟩
  exact obE omp
 ·rintro f M ⟨k0,-⟩ -
  exact obE onp
 ·rintro f M ⟨k0,-⟩ -
  exact obE ofp
 ·rintro f M ⟨k0,-⟩ -
  exact obv (L' := pt zb (.cells #[.map (some mp),.map (some mh),Ix ((s.last) + (1 : Int)),Ix (s.su.a0),Ix (s.su.a1),Ix (s.su.a2),Ix (s.su.a3),.map (some mm)] 88) :: M) (up_cons (d := 31) rfl k0) rfl (e_load1 tt39.ok rfl (k_pt 0 rfl rfl)) (perm_front 0 rfl) (by rfl)
 ·rintro f M - ⟨i0,-⟩
  exact obE omp
 ·rintro f M ⟨k0,-⟩ -
  exact obE onp
 ·rintro f M ⟨k0,-⟩ -
  exact obE ofp
 ·rintro f M ⟨k0,-⟩ -
  exact obE (oli 0)
 ·rintro f M - ⟨i0,-⟩
  exact obE omp
 ·rintro f M ⟨k0,-⟩ -
  exact obE onp
 ·rintro f M ⟨k0,-⟩ -
  exact obE ofp
 ·rintro f M ⟨k0,-⟩ -
  exact obE (oli 0)
 ·rintro f M - ⟨i0,-⟩
  exact obE ofp
 ·rintro f M ⟨k0,-⟩ -
  exact obE (oli 0)
 ·rintro f M - ⟨i0,-⟩
  exact obE ofp
 ·rintro f M ⟨k0,-⟩ -
  exact obE (olg 0)
 ·rintro f M ⟨k0,k1,k2,-⟩ -
  exact ob0 (up_cons (d := 44) (up_cons (d := 42) (up_cons (d := 40) rfl k0) k1) k2) rfl (e_build tt42.ok tt41 (vs := [(0,Ix ((s.last) + (1 : Int))),(1,Ix (x.owner)),(2,.agg (amC x.a))]) (cells := #[Ix ((s.last) + (1 : Int)),Ix (x.owner),Ix (x.a.a0),Ix (x.a.a1),Ix (x.a.a2),Ix (x.a.a3)]) rfl rfl) (.refl _)
 ·rintro f M ⟨k0,k1,k2,-⟩ -
  refine obS (up_cons (d := 45) (up_cons (d := 36) (up_cons (d := 32) rfl k0) k1) k2) ?_
  refine lu (m_mput (K := HoM) (b := mh) (ks := s.hs) (k := ((s.last) + (1 : Int))) (v := (⟨(s.last) + (1 : Int),x.owner,x.a⟩ : KHo)) 0 rfl rfl rfl rfl rfl) ?_
  refine l_nil ?_
  exact f_owes_n (up_cons (d := 45) (up_cons (d := 36) (up_cons (d := 32) rfl k0) k1) k2) trivial (perm_front 0 rfl)
 rintro fa4 ⟨-,-,-,-,-,-,-,-,-,-,-,-,-,-,-,-,-,-,-⟩ ⟨j0,-⟩
 refine fre ?_
 refine f_rebase (d := 0) j0 (ftc (lE omp (lE onp (lE ofp (lE (oli 0) (lE oai (lE oai (lnf (c_ret ?_)))))))))
 refine ret2 (v := Ix ((s.last) + (1 : Int))) (v' := .int .i64 (0)) Tryz.results70 rfl rfl ?_
 intro w hw
 replace hw := hw.perm (L' := [pt zb (.cells #[.map (some mp),.map (some mh),Ix ((s.last) + (1 : Int)),Ix (s.su.a0),Ix (s.su.a1),Ix (s.su.a2),Ix (s.su.a3),.map (some mm)] 88),mpR PuM mp (takeP s.ps x.owner x.a),mpR HoM mh (HoM.put s.hs ((s.last) + (1 : Int)) (⟨(s.last) + (1 : Int),x.owner,x.a⟩ : KHo)),pt b1 (.cells #[Bx (x.kind),Ix (x.owner),Ix (x.other),Ix (x.hold),Ix (x.a.a0),Ix (x.a.a1),Ix (x.a.a2),Ix (x.a.a3)] 47)]) (by exact (perm_ix [0,1,3,2] 4 rfl (by kernel_rfl) (by kernel_rfl)))
 exact act_end (V := (⟨(takeP s.ps x.owner x.a),(HoM.put s.hs ((s.last) + (1 : Int)) (⟨(s.last) + (1 : Int),x.owner,x.a⟩ : KHo)),(s.last) + (1 : Int),s.su⟩ : KSt)) (show ((⟨(takeP s.ps x.owner x.a),(HoM.put s.hs ((s.last) + (1 : Int)) (⟨(s.last) + (1 : Int),x.owner,x.a⟩ : KHo)),(s.last) + (1 : Int),s.su⟩ : KSt),(s.last) + (1 : Int),0) = holdS s x by simp_all [holdS]) (st_mask (L' := [pt zb (.cells #[.map (some mp),.map (some mh),Ix ((s.last) + (1 : Int)),Ix (s.su.a0),Ix (s.su.a1),Ix (s.su.a2),Ix (s.su.a3),.map (some mm)] 88),mpR PuM mp (takeP s.ps x.owner x.a),mpR HoM mh (HoM.put s.hs ((s.last) + (1 : Int)) (⟨(s.last) + (1 : Int),x.owner,x.a⟩ : KHo))]) [true,true,true,false] rfl hw)
set_option maxHeartbeats 4000000 in
theorem pay_ok (β : Base) (w : World) (zb mp mh mm : Nat) (s : KSt) (hw : St β [pt zb (.cells (stC mp mh mm s.last s.su) 88), mpR PuM mp s.ps, mpR HoM mh s.hs] w) (hP : okP s.ps) (hH : okH s.hs) (hsu : s.su.bd 4611686018427387903) (hla : -4611686018427387903 ≤ s.last ∧ s.last ≤ 4611686018427387903) (x : KAct) (hxa : x.a.bd 4611686018427387903) : Calls Tryz.prog 72 #[pp zb 0, .agg #[Bx (x.kind), Ix (x.owner), Ix (x.other), Ix (x.hold), Ix (x.a.a0), Ix (x.a.a1), Ix (x.a.a2), Ix (x.a.a3)]] w fun r w' => r = .returned (.tuple #[Ix (payS s x.hold x.other).2.1, Ix (payS s x.hold x.other).2.2]) ∧ St β [pt zb (.cells (stC mp mh mm (payS s x.hold x.other).1.last (payS s x.hold x.other).1.su) 88), mpR PuM mp (payS s x.hold x.other).1.ps, mpR HoM mh (payS s x.hold x.other).1.hs] w' := by
 refine enter (n := 32) Tryz.func72 rfl Tryz.ntmps72 rfl ?_ hw
 refine csr (bxa fun b1 => ?_)
 refine lE oai (lE oai (lnf (c_seq ?_)))
 refine cnz [sv 9 (pp zb 0) [] [] [0],sv 10 (pp zb 0) [0] [0] [],sv 11 (pp zb 1) [0,1] [1] [],sv 12 (.map (some mh)) [0,1,2] [2] [],sv 13 (pp b1 3) [] [] [1],sv 14 (Ix (x.hold)) [4] [4] [],sv 15 (.tuple #[.agg #[Ix (((HoM.look s.hs (x.hold)).getD zeroH).number),Ix (((HoM.look s.hs (x.hold)).getD zeroH).owner),Ix (((HoM.look s.hs (x.hold)).getD zeroH).a.a0),Ix (((HoM.look s.hs (x.hold)).getD zeroH).a.a1),Ix (((HoM.look s.hs (x.hold)).getD zeroH).a.a2),Ix (((HoM.look s.hs (x.hold)).getD zeroH).a.a3)],.bool ((HoM.look s.hs (x.hold)).isSome)]) (List.range 6) [3,5] [],sv 8 (.tuple #[.agg #[Ix (((HoM.look s.hs (x.hold)).getD zeroH).number),Ix (((HoM.look s.hs (x.hold)).getD zeroH).owner),Ix (((HoM.look s.hs (x.hold)).getD zeroH).a.a0),Ix (((HoM.look s.hs (x.hold)).getD zeroH).a.a1),Ix (((HoM.look s.hs (x.hold)).getD zeroH).a.a2),Ix (((HoM.look s.hs (x.hold)).getD zeroH).a.a3)],.bool ((HoM.look s.hs (x.hold)).isSome)]) (List.range 7) [6] [],sv 16 (.agg #[Ix (((HoM.look s.hs (x.hold)).getD zeroH).number),Ix (((HoM.look s.hs (x.hold)).getD zeroH).owner),Ix (((HoM.look s.hs (x.hold)).getD zeroH).a.a0),Ix (((HoM.look s.hs (x.hold)).getD zeroH).a.a1),Ix (((HoM.look s.hs (x.hold)).getD zeroH).a.a2),Ix (((HoM.look s.hs (x.hold)).getD zeroH).a.a3)]) (List.range 8) [7] [],sv 17 (.bool ((HoM.look s.hs (x.hold)).isSome)) (List.range 8) [7] [],⟨[],[],[],[6],fun f => f 6 = .pointer (some ⟨(blk (f 6)),0,none⟩)⟩,⟨[0,1,2,3,4,5,6,7,8,10],[10,8],[],[],fun _ => True⟩,sv 7 (.bool ((HoM.look s.hs (x.hold)).isSome)) (List.range 12) [9] []] [u1 [5],u1 [3],u0,u1 [6]] [⟨(some 10),(some 11),[11],[6],fun f => pt (blk (f 6)) (.cells #[.int .i64 (0),.int .i64 (0),.int .i64 (0),.int .i64 (0),.int .i64 (0),.int .i64 (0)] 104)⟩,⟨(some 11),none,[],[6],fun f => pt (blk (f 6)) (.cells #[Ix (((HoM.look s.hs (x.hold)).getD zeroH).number),Ix (((HoM.look s.hs (x.hold)).getD zeroH).owner),Ix (((HoM.look s.hs (x.hold)).getD zeroH).a.a0),Ix (((HoM.look s.hs (x.hold)).getD zeroH).a.a1),Ix (((HoM.look s.hs (x.hold)).getD zeroH).a.a2),Ix (((HoM.look s.hs (x.hold)).getD zeroH).a.a3)] 104)⟩] [(0,pp zb 0),(3,pp b1 0)] [0,1] ⟨rfl,rfl,trivial⟩ ⟨?_,?_,?_,?_,?_,?_,?_,?_,?_,?_,?_,?_,?_,trivial⟩ ?_
 ·rintro f M - ⟨i0,-⟩
  exact obE omp
 ·rintro f M ⟨k0,-⟩ -
  exact obE onp
 ·rintro f M ⟨k0,-⟩ -
  exact obE ofp
 ·rintro f M ⟨k0,-⟩ -
  exact obv (L' := pt zb (.cells #[.map (some mp),.map (some mh),Ix (s.last),Ix (s.su.a0),Ix (s.su.a1),Ix (s.su.a2),Ix (s.su.a3),.map (some mm)] 88) :: M) (up_cons (d := 11) rfl k0) rfl (e_load1 tt39.ok rfl (k_pt 0 rfl rfl)) (perm_front 0 rfl) (by rfl)
 ·rintro f M - ⟨i0,-⟩
  exact obE ofp
 ·rintro f M ⟨k0,-⟩ -
  exact obE (oli 0)
 ·rintro f M ⟨k0,k1,-⟩ -
  exact obv (L' := mpR HoM mh s.hs :: M) (up_cons (d := 14) (up_cons (d := 12) rfl k0) k1) rfl (e_look2 (K := HoM) (b := mh) (ks := s.hs) (k := (x.hold)) rfl rfl rfl (Knows.of_res 0 rfl (mpR.mono _ _ _) fun _ h => h)) (perm_front 0 rfl) (by rfl)
 ·rintro f M ⟨k0,-⟩ -
  exact obE omt
 ·rintro f M ⟨k0,-⟩ -
  exact obE oxa
 ·rintro f M ⟨k0,-⟩ -
  exact obE oxb
 ·rintro f M - -
  refine obS rfl ?_
  refine alE fun b3 => l_nil ?_
  exact f_owes_d rfl rfl (perm_front 0 rfl)
 ·rintro f M ⟨k0,k1,-⟩ -
  have hs6 : f 6 = .pointer (some ⟨(blk (f 6)),0,none⟩) := k0
  refine obS (up_cons (d := 16) (up_cons rfl hs6) k1) ?_
  refine lu (mS 0 (#[Ix (((HoM.look s.hs (x.hold)).getD zeroH).number),Ix (((HoM.look s.hs (x.hold)).getD zeroH).owner),Ix (((HoM.look s.hs (x.hold)).getD zeroH).a.a0),Ix (((HoM.look s.hs (x.hold)).getD zeroH).a.a1),Ix (((HoM.look s.hs (x.hold)).getD zeroH).a.a2),Ix (((HoM.look s.hs (x.hold)).getD zeroH).a.a3)])) ?_
  refine l_nil ?_
  exact f_owes_n (up_cons (d := 16) (up_cons rfl hs6) k1) trivial (perm_front 0 rfl)
 ·rintro f M ⟨k0,-⟩ -
  exact obE oab
 rintro fa4 ⟨-,-,-,-,-,-,-,-,-,-,k10,-,k12,-⟩ ⟨j0,j1,-⟩
 refine fre ?_
 refine f_rebase (d := 0) j0 (f_rebase (d := 3) j1 (f_rebase (d := 6) k10 (f_rebase (d := 7) k12 (fts (csr (lE omb (lE ont (lnf ?_))))))))
 refine c_ifb (!((HoM.look s.hs (x.hold)).isSome)) rfl (fun hc5 => ?_) (fun hc5 => ?_)
 ·refine csr (lE oai (lE oai (lnf (c_ret (f_then_ret (ret2 (v := .int .i64 (0)) (v' := .int .i64 (6)) Tryz.results72 rfl rfl ?_))))))
  intro w hw
  replace hw := hw.perm (L' := [pt zb (.cells #[.map (some mp),.map (some mh),Ix (s.last),Ix (s.su.a0),Ix (s.su.a1),Ix (s.su.a2),Ix (s.su.a3),.map (some mm)] 88),mpR PuM mp s.ps,mpR HoM mh s.hs,pt b1 (.cells #[Bx (x.kind),Ix (x.owner),Ix (x.other),Ix (x.hold),Ix (x.a.a0),Ix (x.a.a1),Ix (x.a.a2),Ix (x.a.a3)] 47),pt (blk (fa4 6)) (.cells #[Ix (((HoM.look s.hs (x.hold)).getD zeroH).number),Ix (((HoM.look s.hs (x.hold)).getD zeroH).owner),Ix (((HoM.look s.hs (x.hold)).getD zeroH).a.a0),Ix (((HoM.look s.hs (x.hold)).getD zeroH).a.a1),Ix (((HoM.look s.hs (x.hold)).getD zeroH).a.a2),Ix (((HoM.look s.hs (x.hold)).getD zeroH).a.a3)] 104)]) (by exact (perm_ix [1,2,3,0,4] 5 rfl (by kernel_rfl) (by kernel_rfl)))
  exact act_end (V := (⟨s.ps,s.hs,s.last,s.su⟩ : KSt)) (show ((⟨s.ps,s.hs,s.last,s.su⟩ : KSt),0,6) = payS s x.hold x.other by simp_all [payS,hoA]) (st_mask (L' := [pt zb (.cells #[.map (some mp),.map (some mh),Ix (s.last),Ix (s.su.a0),Ix (s.su.a1),Ix (s.su.a2),Ix (s.su.a3),.map (some mm)] 88),mpR PuM mp s.ps,mpR HoM mh s.hs]) [true,true,true,false,false] rfl hw)
 refine csk (c_seq ?_)
 refine cnz [sv 20 (pp zb 0) [] [] [0],sv 21 (pp zb 0) [0] [0] [],sv 22 (pp zb 1) [0,1] [1] [],sv 23 (.map (some mh)) [0,1,2] [2] [],sv 24 (pp b1 3) [] [] [1],sv 25 (Ix (x.hold)) [4] [4] [],⟨(List.range 6),[3,5],[],[],fun _ => True⟩] [u1 [5],u1 [3],u0,(some 6,[6])] [⟨(some 6),none,[],[],fun _ => mpR HoM mh (HoM.del s.hs (x.hold))⟩] [(0,pp zb 0),(3,pp b1 0),(6,.pointer (some ⟨(blk (fa4 6)),0,none⟩))] [0,1,2] ⟨rfl,rfl,rfl,trivial⟩ ⟨?_,?_,?_,?_,?_,?_,?_,trivial⟩ ?_
 ·rintro f M - ⟨i0,-⟩
  exact obE omp
 ·rintro f M ⟨k0,-⟩ -
  exact obE onp
 ·rintro f M ⟨k0,-⟩ -
  exact obE ofp
 ·rintro f M ⟨k0,-⟩ -
  exact obv (L' := pt zb (.cells #[.map (some mp),.map (some mh),Ix (s.last),Ix (s.su.a0),Ix (s.su.a1),Ix (s.su.a2),Ix (s.su.a3),.map (some mm)] 88) :: M) (up_cons (d := 22) rfl k0) rfl (e_load1 tt39.ok rfl (k_pt 0 rfl rfl)) (perm_front 0 rfl) (by rfl)
 ·rintro f M - ⟨i0,-⟩
  exact obE ofp
 ·rintro f M ⟨k0,-⟩ -
  exact obE (oli 0)
 ·rintro f M ⟨k0,k1,-⟩ -
  refine obS (up_cons (d := 25) (up_cons (d := 23) rfl k0) k1) ?_
  refine l_mc rfl rfl (m_mdel (K := HoM) (b := mh) (ks := s.hs) (k := (x.hold)) 0 rfl rfl rfl rfl) ?_
  rintro _ _ ⟨rfl,rfl⟩
  refine l_nil ?_
  exact f_owes_n (up_cons (d := 25) (up_cons (d := 23) rfl k0) k1) trivial (perm_front 0 rfl)
 rintro fa6 ⟨-,-,-,-,-,-,-,-⟩ ⟨j0,j1,j2,-⟩
 refine fre ?_
 refine f_rebase (d := 0) j0 (f_rebase (d := 3) j1 (f_rebase (d := 6) j2 (ftc (lE omp (lE ofp (lE (oli 0) (lE ofp (lE (olg 3) ?_))))))))
 refine l_call rfl rfl rfl (cl0 (vs := [pp zb 0,Ix (x.other),.agg #[Ix (((HoM.look s.hs (x.hold)).getD zeroH).a.a0),Ix (((HoM.look s.hs (x.hold)).getD zeroH).a.a1),Ix (((HoM.look s.hs (x.hold)).getD zeroH).a.a2),Ix (((HoM.look s.hs (x.hold)).getD zeroH).a.a3)]]) tt35.ok rfl rfl) ?_
 intro w hw
 replace hw := hw.perm (L' := _ :: _ :: _ :: _ :: _ :: []) (by exact (((((perm_front 4 rfl).trans (perm_front 4 rfl)).trans (perm_front 2 rfl)).trans (perm_front 4 rfl)).trans (perm_front 4 rfl)))
 obtain ⟨β1,sb,kn,hw1,back⟩ := St.frame (L := [_,_]) (M := _ :: _ :: _ :: []) hw
 refine (add_ok β1 w zb mp mh mm s.last s.su s.ps hw1 x.other (((HoM.look s.hs (x.hold)).getD zeroH).a) _ rfl (okP_bd hP _) (okH_bd hH _)).mono ?_
 rintro e w' ⟨rfl,hw'⟩
 refine ⟨_,rfl,_,back _ _ hw',?_⟩
 clear hw hw1 hw' back kn sb
 refine lE oai (lE oai (lnf (c_ret ?_)))
 refine ret2 (v := .int .i64 (0)) (v' := Ix (addE s.ps x.other (((HoM.look s.hs (x.hold)).getD zeroH).a))) Tryz.results72 rfl rfl ?_
 intro w hw
 replace hw := hw.perm (L' := [pt zb (.cells #[.map (some mp),.map (some mh),Ix (s.last),Ix (s.su.a0),Ix (s.su.a1),Ix (s.su.a2),Ix (s.su.a3),.map (some mm)] 88),mpR PuM mp (addP s.ps x.other (((HoM.look s.hs (x.hold)).getD zeroH).a)),mpR HoM mh (HoM.del s.hs (x.hold)),pt b1 (.cells #[Bx (x.kind),Ix (x.owner),Ix (x.other),Ix (x.hold),Ix (x.a.a0),Ix (x.a.a1),Ix (x.a.a2),Ix (x.a.a3)] 47),pt (blk (fa4 6)) (.cells #[Ix (((HoM.look s.hs (x.hold)).getD zeroH).number),Ix (((HoM.look s.hs (x.hold)).getD zeroH).owner),Ix (((HoM.look s.hs (x.hold)).getD zeroH).a.a0),Ix (((HoM.look s.hs (x.hold)).getD zeroH).a.a1),Ix (((HoM.look s.hs (x.hold)).getD zeroH).a.a2),Ix (((HoM.look s.hs (x.hold)).getD zeroH).a.a3)] 104)]) (by exact (perm_ix [0,1,4,2,3] 5 rfl (by kernel_rfl) (by kernel_rfl)))
 exact act_end (V := (⟨(addP s.ps x.other (((HoM.look s.hs (x.hold)).getD zeroH).a)),(HoM.del s.hs (x.hold)),s.last,s.su⟩ : KSt)) (show ((⟨(addP s.ps x.other (((HoM.look s.hs (x.hold)).getD zeroH).a)),(HoM.del s.hs (x.hold)),s.last,s.su⟩ : KSt),0,addE s.ps x.other (((HoM.look s.hs (x.hold)).getD zeroH).a)) = payS s x.hold x.other by simp_all [payS,hoA]) (st_mask (L' := [pt zb (.cells #[.map (some mp),.map (some mh),Ix (s.last),Ix (s.su.a0),Ix (s.su.a1),Ix (s.su.a2),Ix (s.su.a3),.map (some mm)] 88),mpR PuM mp (addP s.ps x.other (((HoM.look s.hs (x.hold)).getD zeroH).a)),mpR HoM mh (HoM.del s.hs (x.hold))]) [true,true,true,false,false] rfl hw)
set_option maxHeartbeats 4000000 in
theorem free_ok (β : Base) (w : World) (zb mp mh mm : Nat) (s : KSt) (hw : St β [pt zb (.cells (stC mp mh mm s.last s.su) 88), mpR PuM mp s.ps, mpR HoM mh s.hs] w) (hP : okP s.ps) (hH : okH s.hs) (hsu : s.su.bd 4611686018427387903) (hla : -4611686018427387903 ≤ s.last ∧ s.last ≤ 4611686018427387903) (x : KAct) (hxa : x.a.bd 4611686018427387903) : Calls Tryz.prog 71 #[pp zb 0, .agg #[Bx (x.kind), Ix (x.owner), Ix (x.other), Ix (x.hold), Ix (x.a.a0), Ix (x.a.a1), Ix (x.a.a2), Ix (x.a.a3)]] w fun r w' => r = .returned (.tuple #[Ix (payS s x.hold (hoA s.hs x.hold).owner).2.1, Ix (payS s x.hold (hoA s.hs x.hold).owner).2.2]) ∧ St β [pt zb (.cells (stC mp mh mm (payS s x.hold (hoA s.hs x.hold).owner).1.last (payS s x.hold (hoA s.hs x.hold).owner).1.su) 88), mpR PuM mp (payS s x.hold (hoA s.hs x.hold).owner).1.ps, mpR HoM mh (payS s x.hold (hoA s.hs x.hold).owner).1.hs] w' := by
 refine enter (n := 21) Tryz.func71 rfl Tryz.ntmps71 rfl ?_ hw
 refine csr (bxa fun b1 => ?_)
 refine lE oai (lE oai (lnf (c_seq ?_)))
 refine cnz [sv 6 (pp zb 0) [] [] [0],sv 7 (pp b1 3) [] [] [1],sv 8 (Ix (x.hold)) [1] [1] [],sv 9 (pp zb 0) [] [] [0],sv 10 (pp zb 0) [3] [3] [],sv 11 (pp zb 1) [3,4] [4] [],sv 12 (.map (some mh)) [3,4,5] [5] [],sv 13 (pp b1 3) [] [] [1],sv 14 (Ix (x.hold)) [7] [7] [],sv 15 (.agg #[Ix (((HoM.look s.hs (x.hold)).getD zeroH).number),Ix (((HoM.look s.hs (x.hold)).getD zeroH).owner),Ix (((HoM.look s.hs (x.hold)).getD zeroH).a.a0),Ix (((HoM.look s.hs (x.hold)).getD zeroH).a.a1),Ix (((HoM.look s.hs (x.hold)).getD zeroH).a.a2),Ix (((HoM.look s.hs (x.hold)).getD zeroH).a.a3)]) [3,4,5,6,7,8] [6,8] [],sv 16 (Ix (((HoM.look s.hs (x.hold)).getD zeroH).owner)) [3,4,5,6,7,8,9] [9] [],sv 17 (.agg #[.int .u8 (0),.int .i64 (0),Ix (((HoM.look s.hs (x.hold)).getD zeroH).owner),Ix (x.hold),.int .i64 (0),.int .i64 (0),.int .i64 (0),.int .i64 (0)]) [1,2,3,4,5,6,7,8,9,10] [2,10] [],sv 18 (.tuple #[Ix ((payS s x.hold (((HoM.look s.hs (x.hold)).getD zeroH).owner)).2.1),Ix ((payS s x.hold (((HoM.look s.hs (x.hold)).getD zeroH).owner)).2.2)]) (List.range 12) [0,11] [],sv 19 (Ix ((payS s x.hold (((HoM.look s.hs (x.hold)).getD zeroH).owner)).2.1)) (List.range 13) [12] [],sv 20 (Ix ((payS s x.hold (((HoM.look s.hs (x.hold)).getD zeroH).owner)).2.2)) (List.range 13) [12] [],sv 4 (Ix ((payS s x.hold (((HoM.look s.hs (x.hold)).getD zeroH).owner)).2.1)) (List.range 15) [13] [],sv 5 (Ix ((payS s x.hold (((HoM.look s.hs (x.hold)).getD zeroH).owner)).2.2)) (List.range 16) [14] []] [u1 [2,8],(some 12,[6,12]),(some 12,[12]),(some 12,[9,12])] [⟨(some 12),none,[],[],fun _ => pt zb (.cells #[.map (some mp),.map (some mh),Ix ((payS s x.hold (((HoM.look s.hs (x.hold)).getD zeroH).owner)).1.last),Ix ((payS s x.hold (((HoM.look s.hs (x.hold)).getD zeroH).owner)).1.su.a0),Ix ((payS s x.hold (((HoM.look s.hs (x.hold)).getD zeroH).owner)).1.su.a1),Ix ((payS s x.hold (((HoM.look s.hs (x.hold)).getD zeroH).owner)).1.su.a2),Ix ((payS s x.hold (((HoM.look s.hs (x.hold)).getD zeroH).owner)).1.su.a3),.map (some mm)] 88)⟩,⟨(some 12),none,[],[],fun _ => mpR PuM mp ((payS s x.hold (((HoM.look s.hs (x.hold)).getD zeroH).owner)).1.ps)⟩,⟨(some 12),none,[],[],fun _ => mpR HoM mh ((payS s x.hold (((HoM.look s.hs (x.hold)).getD zeroH).owner)).1.hs)⟩] [(0,pp zb 0),(3,pp b1 0)] [] ⟨rfl,rfl,trivial⟩ ⟨?_,?_,?_,?_,?_,?_,?_,?_,?_,?_,?_,?_,?_,?_,?_,?_,?_,trivial⟩ ?_
 ·rintro f M - ⟨i0,-⟩
  exact obE omp
 ·rintro f M - ⟨i0,-⟩
  exact obE ofp
 ·rintro f M ⟨k0,-⟩ -
  exact obE (oli 0)
 ·rintro f M - ⟨i0,-⟩
  exact obE omp
 ·rintro f M ⟨k0,-⟩ -
  exact obE onp
 ·rintro f M ⟨k0,-⟩ -
  exact obE ofp
 ·rintro f M ⟨k0,-⟩ -
  exact obv (L' := pt zb (.cells #[.map (some mp),.map (some mh),Ix (s.last),Ix (s.su.a0),Ix (s.su.a1),Ix (s.su.a2),Ix (s.su.a3),.map (some mm)] 88) :: M) (up_cons (d := 11) rfl k0) rfl (e_load1 tt39.ok rfl (k_pt 0 rfl rfl)) (perm_front 0 rfl) (by rfl)
 ·rintro f M - ⟨i0,-⟩
  exact obE ofp
 ·rintro f M ⟨k0,-⟩ -
  exact obE (oli 0)
 ·rintro f M ⟨k0,k1,-⟩ -
  exact obv (L' := mpR HoM mh s.hs :: M) (up_cons (d := 14) (up_cons (d := 12) rfl k0) k1) rfl (e_look1 (K := HoM) (b := mh) (ks := s.hs) (k := (x.hold)) rfl rfl rfl (Knows.of_res 0 rfl (mpR.mono _ _ _) fun _ h => h)) (perm_front 0 rfl) (by rfl)
 ·rintro f M ⟨k0,-⟩ -
  exact ob0 (up_cons (d := 15) rfl k0) rfl (e_field1 (cs := #[Ix (((HoM.look s.hs (x.hold)).getD zeroH).number),Ix (((HoM.look s.hs (x.hold)).getD zeroH).owner),Ix (((HoM.look s.hs (x.hold)).getD zeroH).a.a0),Ix (((HoM.look s.hs (x.hold)).getD zeroH).a.a1),Ix (((HoM.look s.hs (x.hold)).getD zeroH).a.a2),Ix (((HoM.look s.hs (x.hold)).getD zeroH).a.a3)]) rfl tt45.ok rfl) (.refl _)
 ·rintro f M ⟨k0,k1,-⟩ -
  exact ob0 (up_cons (d := 16) (up_cons (d := 8) rfl k0) k1) rfl (e_build tt47.ok tt46 (vs := [(3,Ix (x.hold)),(2,Ix (((HoM.look s.hs (x.hold)).getD zeroH).owner))]) (cells := #[.int .u8 (0),.int .i64 (0),Ix (((HoM.look s.hs (x.hold)).getD zeroH).owner),Ix (x.hold),.int .i64 (0),.int .i64 (0),.int .i64 (0),.int .i64 (0)]) rfl rfl) (.refl _)
 ·rintro f M ⟨k0,k1,-⟩ -
  refine obS (up_cons (d := 17) (up_cons (d := 6) rfl k0) k1) ?_
  refine l_call rfl rfl rfl (cl0 (vs := [pp zb 0,.agg #[.int .u8 (0),.int .i64 (0),Ix (((HoM.look s.hs (x.hold)).getD zeroH).owner),Ix (x.hold),.int .i64 (0),.int .i64 (0),.int .i64 (0),.int .i64 (0)]]) tt48.ok rfl rfl) ?_
  intro w hw
  replace hw := hw.perm (L' := _ :: _ :: _ :: M) (by exact (((perm_front 2 rfl).trans (perm_front 2 rfl)).trans (perm_front 2 rfl)))
  obtain ⟨β1,sb,kn,hw1,back⟩ := St.frame (L := [_,_,_]) (M := M) hw
  refine (pay_ok β1 w zb mp mh mm s hw1 hP hH hsu hla (⟨0,0,((HoM.look s.hs (x.hold)).getD zeroH).owner,x.hold,zeroA⟩ : KAct) zero_bd).mono ?_
  rintro e w' ⟨rfl,hw'⟩
  refine ⟨_,rfl,_,back _ _ hw',?_⟩
  clear hw hw1 hw' back kn sb
  refine l_nil ?_
  exact f_owes_d (up_cons (d := 17) (up_cons (d := 6) rfl k0) k1) rfl (((perm_front 2 rfl).trans (perm_front 2 rfl)).trans (perm_front 2 rfl))
 ·rintro f M ⟨k0,-⟩ -
  exact obE oxi
 ·rintro f M ⟨k0,-⟩ -
  exact obE oxi
 ·rintro f M ⟨k0,-⟩ -
  exact obE oai
 ·rintro f M ⟨k0,-⟩ -
  exact obE oai
 rintro fa2 ⟨-,-,-,-,-,-,-,-,-,-,-,-,-,-,-,k15,k16,-⟩ -
 refine fre ?_
 refine f_rebase (d := 4) k15 (f_rebase (d := 5) k16 (ftr ?_))
 refine ret2 (v := Ix ((payS s x.hold (((HoM.look s.hs (x.hold)).getD zeroH).owner)).2.1)) (v' := Ix ((payS s x.hold (((HoM.look s.hs (x.hold)).getD zeroH).owner)).2.2)) Tryz.results71 rfl rfl ?_
 intro w hw
 replace hw := hw.perm (L' := [pt zb (.cells #[.map (some mp),.map (some mh),Ix ((payS s x.hold (((HoM.look s.hs (x.hold)).getD zeroH).owner)).1.last),Ix ((payS s x.hold (((HoM.look s.hs (x.hold)).getD zeroH).owner)).1.su.a0),Ix ((payS s x.hold (((HoM.look s.hs (x.hold)).getD zeroH).owner)).1.su.a1),Ix ((payS s x.hold (((HoM.look s.hs (x.hold)).getD zeroH).owner)).1.su.a2),Ix ((payS s x.hold (((HoM.look s.hs (x.hold)).getD zeroH).owner)).1.su.a3),.map (some mm)] 88),mpR PuM mp ((payS s x.hold (((HoM.look s.hs (x.hold)).getD zeroH).owner)).1.ps),mpR HoM mh ((payS s x.hold (((HoM.look s.hs (x.hold)).getD zeroH).owner)).1.hs),pt b1 (.cells #[Bx (x.kind),Ix (x.owner),Ix (x.other),Ix (x.hold),Ix (x.a.a0),Ix (x.a.a1),Ix (x.a.a2),Ix (x.a.a3)] 47)]) (by exact (perm_ix [1,2,3,0] 4 rfl (by kernel_rfl) (by kernel_rfl)))
 exact act_end (V := (⟨(payS s x.hold (((HoM.look s.hs (x.hold)).getD zeroH).owner)).1.ps,(payS s x.hold (((HoM.look s.hs (x.hold)).getD zeroH).owner)).1.hs,(payS s x.hold (((HoM.look s.hs (x.hold)).getD zeroH).owner)).1.last,(payS s x.hold (((HoM.look s.hs (x.hold)).getD zeroH).owner)).1.su⟩ : KSt)) (show ((⟨(payS s x.hold (((HoM.look s.hs (x.hold)).getD zeroH).owner)).1.ps,(payS s x.hold (((HoM.look s.hs (x.hold)).getD zeroH).owner)).1.hs,(payS s x.hold (((HoM.look s.hs (x.hold)).getD zeroH).owner)).1.last,(payS s x.hold (((HoM.look s.hs (x.hold)).getD zeroH).owner)).1.su⟩ : KSt),(payS s x.hold (((HoM.look s.hs (x.hold)).getD zeroH).owner)).2.1,(payS s x.hold (((HoM.look s.hs (x.hold)).getD zeroH).owner)).2.2) = payS s x.hold (hoA s.hs x.hold).owner by rfl) (st_mask (L' := [pt zb (.cells #[.map (some mp),.map (some mh),Ix ((payS s x.hold (((HoM.look s.hs (x.hold)).getD zeroH).owner)).1.last),Ix ((payS s x.hold (((HoM.look s.hs (x.hold)).getD zeroH).owner)).1.su.a0),Ix ((payS s x.hold (((HoM.look s.hs (x.hold)).getD zeroH).owner)).1.su.a1),Ix ((payS s x.hold (((HoM.look s.hs (x.hold)).getD zeroH).owner)).1.su.a2),Ix ((payS s x.hold (((HoM.look s.hs (x.hold)).getD zeroH).owner)).1.su.a3),.map (some mm)] 88),mpR PuM mp ((payS s x.hold (((HoM.look s.hs (x.hold)).getD zeroH).owner)).1.ps),mpR HoM mh ((payS s x.hold (((HoM.look s.hs (x.hold)).getD zeroH).owner)).1.hs)]) [true,true,true,false] rfl hw)
theorem need_ok (β : Base) (w : World) (zb mp mh mm : Nat) (s : KSt) (hw : St β [pt zb (.cells (stC mp mh mm s.last s.su) 88), mpR PuM mp s.ps, mpR HoM mh s.hs] w) (hP : okP s.ps) (hH : okH s.hs) (hsu : s.su.bd 4611686018427387903) (hla : -4611686018427387903 ≤ s.last ∧ s.last ≤ 4611686018427387903) (x : KAct) (hxa : x.a.bd 4611686018427387903) : Calls Tryz.prog 73 #[pp zb 0, .agg #[Bx (x.kind), Ix (x.owner), Ix (x.other), Ix (x.hold), Ix (x.a.a0), Ix (x.a.a1), Ix (x.a.a2), Ix (x.a.a3)]] w fun r w' => r = .returned (.tuple #[Ix (needS s x).2.1, Ix (needS s x).2.2]) ∧ St β [pt zb (.cells (stC mp mh mm (needS s x).1.last (needS s x).1.su) 88), mpR PuM mp (needS s x).1.ps, mpR HoM mh (needS s x).1.hs] w' := by
 refine enter (n := 18) Tryz.func73 rfl Tryz.ntmps73 rfl ?_ hw
 refine csr (bxa fun b1 => ?_)
 refine lE oai (lE oai (lnf (cs2 (c_quiet (by kernel_rfl) (by kernel_rfl) (qE omp (qE onp (qE ofp ?_)))))))
 refine q_val (v := .map (some mp)) rfl rfl rfl (e_load1 tt33.ok rfl (k_pt 1 rfl rfl)) (qE ofp (qE (oli 0) ?_))
 refine q_val (v := .agg (amC ((PuM.look s.ps (x.owner)).getD zeroA))) rfl rfl rfl (e_look1 (K := PuM) (b := mp) (ks := s.ps) (k := (x.owner)) rfl rfl rfl (Knows.of_res 2 rfl (mpR.mono _ _ _) fun _ h => h)) ?_
 refine qE ofp (qE (olg 0) ?_)
 refine q_call (v := .agg #[Ix ((((PuM.look s.ps (x.owner)).getD zeroA).plus x.a (-1)).a0),Ix ((((PuM.look s.ps (x.owner)).getD zeroA).plus x.a (-1)).a1),Ix ((((PuM.look s.ps (x.owner)).getD zeroA).plus x.a (-1)).a2),Ix ((((PuM.look s.ps (x.owner)).getD zeroA).plus x.a (-1)).a3)]) rfl rfl rfl (cl0 (vs := [.agg (amC ((PuM.look s.ps (x.owner)).getD zeroA)),.agg (amC x.a),.int .i64 (-1)]) tt34.ok rfl rfl) (fun w hw => ?_) ?_
 ·obtain ⟨β1,sb,kn,hw1,back⟩ := St.frame_all hw
  exact (plus_ok β1 w hw1 ((PuM.look s.ps (x.owner)).getD zeroA) x.a (-1) (by decide) (okP_bd hP _) hxa).mono (fun e w' ⟨he,hw'⟩ => ⟨he,st_mask [true,true,true,true] rfl (back _ _ hw')⟩)
 refine q_call (v := .bool ((((PuM.look s.ps (x.owner)).getD zeroA).plus x.a (-1)).within)) rfl rfl rfl (cl0 (vs := [.agg #[Ix ((((PuM.look s.ps (x.owner)).getD zeroA).plus x.a (-1)).a0),Ix ((((PuM.look s.ps (x.owner)).getD zeroA).plus x.a (-1)).a1),Ix ((((PuM.look s.ps (x.owner)).getD zeroA).plus x.a (-1)).a2),Ix ((((PuM.look s.ps (x.owner)).getD zeroA).plus x.a (-1)).a3)]]) tt11.ok rfl rfl) (fun w hw => ?_) ?_
 ·obtain ⟨β1,sb,kn,hw1,back⟩ := St.frame_all hw
  exact (within_ok β1 w hw1 (((PuM.look s.ps (x.owner)).getD zeroA).plus x.a (-1))).mono (fun e w' ⟨he,hw'⟩ => ⟨he,st_mask [true,true,true,true] rfl (back _ _ hw')⟩)
 refine qE ont (q_nil (f_then (c_ifb (!((((PuM.look s.ps (x.owner)).getD zeroA).plus x.a (-1)).within)) rfl (fun hc2 => ?_) (fun hc2 => ?_))))
 ·refine csr (lE oai (lE oai (lnf (c_ret (f_then_ret (ret2 (v := .int .i64 (0)) (v' := .int .i64 (330)) Tryz.results73 rfl rfl ?_))))))
  intro w hw
  replace hw := hw.perm (L' := [pt zb (.cells #[.map (some mp),.map (some mh),Ix (s.last),Ix (s.su.a0),Ix (s.su.a1),Ix (s.su.a2),Ix (s.su.a3),.map (some mm)] 88),mpR PuM mp s.ps,mpR HoM mh s.hs,pt b1 (.cells #[Bx (x.kind),Ix (x.owner),Ix (x.other),Ix (x.hold),Ix (x.a.a0),Ix (x.a.a1),Ix (x.a.a2),Ix (x.a.a3)] 47)]) (by exact (perm_ix [1,2,3,0] 4 rfl (by kernel_rfl) (by kernel_rfl)))
  exact act_end (V := (⟨s.ps,s.hs,s.last,s.su⟩ : KSt)) (show ((⟨s.ps,s.hs,s.last,s.su⟩ : KSt),0,330) = needS s x by simp_all [needS,takeE,takeX,puA]) (st_mask (L' := [pt zb (.cells #[.map (some mp),.map (some mh),Ix (s.last),Ix (s.su.a0),Ix (s.su.a1),Ix (s.su.a2),Ix (s.su.a3),.map (some mm)] 88),mpR PuM mp s.ps,mpR HoM mh s.hs]) [true,true,true,false] rfl hw)
 refine csk (csr (lE oai (lE oai (lnf (c_ret (ret2 (v := .int .i64 (0)) (v' := .int .i64 (0)) Tryz.results73 rfl rfl ?_))))))
 intro w hw
 replace hw := hw.perm (L' := [pt zb (.cells #[.map (some mp),.map (some mh),Ix (s.last),Ix (s.su.a0),Ix (s.su.a1),Ix (s.su.a2),Ix (s.su.a3),.map (some mm)] 88),mpR PuM mp s.ps,mpR HoM mh s.hs,pt b1 (.cells #[Bx (x.kind),Ix (x.owner),Ix (x.other),Ix (x.hold),Ix (x.a.a0),Ix (x.a.a1),Ix (x.a.a2),Ix (x.a.a3)] 47)]) (by exact (perm_ix [1,2,3,0] 4 rfl (by kernel_rfl) (by kernel_rfl)))
 exact act_end (V := (⟨s.ps,s.hs,s.last,s.su⟩ : KSt)) (show ((⟨s.ps,s.hs,s.last,s.su⟩ : KSt),0,0) = needS s x by simp_all [needS,takeE,takeX,puA]) (st_mask (L' := [pt zb (.cells #[.map (some mp),.map (some mh),Ix (s.last),Ix (s.su.a0),Ix (s.su.a1),Ix (s.su.a2),Ix (s.su.a3),.map (some mm)] 88),mpR PuM mp s.ps,mpR HoM mh s.hs]) [true,true,true,false] rfl hw)
end Go.Proofs
