/-
 What a script's steps are made of: walked. Printed by a program of my own.
-/
import Derived.Test.YtjejfkajcbdgjaaGreatTd14
import Derived.Test.YtjejfkajcbdgjaaGreatTdHouE
import Derived.Test.YtjejfkajcbdgjaaGreatSlA
import Derived.Test.YtjejfkajcbdgjaaGreatSlN
namespace Go.Td
open Go Go.Sl
section
variable {x : KAct}
theorem fitA_5 (h : ((fitK x).toNat : Int) = ((5 : UInt8).toNat : Int)) : fitA x = ⟨fitK x, 0, 0, 1 + pickN x.hold 12, zeroA⟩ := if_pos h
theorem fitA_6 (h5 : ¬ ((fitK x).toNat : Int) = ((5 : UInt8).toNat : Int)) (h : ((fitK x).toNat : Int) = ((6 : UInt8).toNat : Int)) : fitA x = ⟨fitK x, 0, 1 + pickN x.other 5, 1 + pickN x.hold 12, zeroA⟩ := by unfold fitA; rw [if_neg h5, if_pos h]
theorem fitA_3 (h5 : ¬ ((fitK x).toNat : Int) = ((5 : UInt8).toNat : Int)) (h6 : ¬ ((fitK x).toNat : Int) = ((6 : UInt8).toNat : Int)) (h : ((fitK x).toNat : Int) = ((3 : UInt8).toNat : Int)) : fitA x = ⟨fitK x, fitW x, 1 + Int.tmod (fitW x + pickN x.other 4) 5, 0, fitM x⟩ := by unfold fitA; rw [if_neg h5, if_neg h6, if_pos h]
theorem fitA_0 (h5 : ¬ ((fitK x).toNat : Int) = ((5 : UInt8).toNat : Int)) (h6 : ¬ ((fitK x).toNat : Int) = ((6 : UInt8).toNat : Int)) (h : ¬ ((fitK x).toNat : Int) = ((3 : UInt8).toNat : Int)) : fitA x = ⟨fitK x, fitW x, 0, 0, fitM x⟩ := by unfold fitA; rw [if_neg h5, if_neg h6, if_neg h]
end
end Go.Td
namespace Go.Proofs
open Go Go.Sl Go.Td Go.Jn
instance tt165 : ZerC Tryz.prog 32 (.agg #[.int .u8 (0), .int .i64 (0), .int .i64 (0), .slice none 0 0]) := ⟨by kernel_rfl⟩
instance tt166 : FldC Tryz.prog 32 0 0 1 false := ⟨by kernel_rfl⟩
instance tt167 : FldC Tryz.prog 32 1 1 1 false := ⟨by kernel_rfl⟩
instance tt168 : CfC Tryz.prog 28 := ⟨by kernel_rfl⟩
theorem tt169 : stB Tryz.prog 32 [(0, 1), (1, 1), (2, 1), (3, 1)] = true := by kernel_rfl
instance tt170 : TyC Tryz.prog 32 true 4 := ⟨by kernel_rfl⟩
instance tt171 : FldC Tryz.prog 32 3 3 1 false := ⟨by kernel_rfl⟩
instance tt172 : CfC Tryz.prog 20 := ⟨by kernel_rfl⟩
instance tt174 : CfC Tryz.prog 16 := ⟨by kernel_rfl⟩
theorem pick_ok (β : Base) (w : World) (hw : St β [] w) (x m : Int) (hm : 1 ≤ m ∧ m ≤ 1000000000) : Ret Tryz.prog 28 #[Ix x, Ix m] β w (Ix (pickN x m)) := by
 have htm := tmod_bd x (n := m) (by omega)
 refine enter (n := 16) Tryz.func28 rfl Tryz.ntmps28 rfl ?_ hw
 refine csr (lE oai (lnf (cs2 (c_region (lE omi (lE olt (lnf (c_if _ rfl (fun hc1 => ?_) (fun hc1 => ?_)))))))))
 ·refine csr (lE oai (lnf (c_ret (f_then_ret (ret1 Tryz.results28 rfl ?_)))))
  intro w hw
  exact absurd hc1 (by omega)
 refine csk (csr (lE omi (lE omi (lv (v := Ix (Int.tmod (x) (m))) (e_rem (a := (x)) (b := (m)) rfl rfl (by omega) rfl) (lE oai (lnf (cs2 (c_region ?_))))))))
 refine lE omi (lE olt (lnf (c_if _ rfl (fun hc2 => ?_) (fun hc2 => ?_))))
 ·refine c_region (lE omi (lE omi (lE opl (lE oai (lnc (lE omi (lE oai (lnf (c_ret (ret1 Tryz.results28 rfl ?_))))))))))
  intro w hw
  exact ⟨congrArg (fun z : Int => Ending.returned (Ix z)) (show _ = pickN x m by unfold pickN; rw [if_neg hc1,if_pos hc2]),st_mask [] rfl hw⟩
 refine csk (csr (lE omi (lE oai (lnf (c_ret (ret1 Tryz.results28 rfl ?_))))))
 intro w hw
 exact ⟨congrArg (fun z : Int => Ending.returned (Ix z)) (show _ = pickN x m by unfold pickN; rw [if_neg hc1,if_neg hc2]),st_mask [] rfl hw⟩
theorem act_ok (β : Base) (w : World) (hw : St β [] w) (k : UInt8) (o p h g : Int) : Ret Tryz.prog 20 #[Bx k, Ix o, Ix p, Ix h, Ix g] β w (.agg (actE ⟨k, o, p, h, ⟨g, 0, 0, 0⟩⟩).toArray) := by
 refine enter (n := 18) Tryz.func20 rfl Tryz.ntmps20 rfl ?_ hw
 refine csr (alE fun b1 => lnc ?_)
 iterate 5 refine lE omi ?_
 refine lv (v := .agg #[Ix (g),.int .i64 (0),.int .i64 (0),.int .i64 (0)]) (e_build_a tt3.ok tt1.ok (vs := [(0,Ix (g))]) (cells := #[Ix (g),.int .i64 (0),.int .i64 (0),.int .i64 (0)]) rfl rfl) ?_
 refine lv (v := .agg #[Bx (k),Ix (o),Ix (p),Ix (h),Ix (g),.int .i64 (0),.int .i64 (0),.int .i64 (0)]) (e_build tt47.ok tt46 (vs := [(0,Bx (k)),(1,Ix (o)),(2,Ix (p)),(3,Ix (h)),(4,.agg #[Ix (g),.int .i64 (0),.int .i64 (0),.int .i64 (0)])]) (cells := #[Bx (k),Ix (o),Ix (p),Ix (h),Ix (g),.int .i64 (0),.int .i64 (0),.int .i64 (0)]) rfl (by kernel_rfl)) ?_
 refine lu (mS 0 (#[Bx (k),Ix (o),Ix (p),Ix (h),Ix (g),.int .i64 (0),.int .i64 (0),.int .i64 (0)])) (lnf (c_ret ?_))
 refine retG (m := [.agg #[Bx (k),Ix (o),Ix (p),Ix (h),Ix (g),.int .i64 (0),.int .i64 (0),.int .i64 (0)]]) Tryz.results20 ⟨rd_cell tt17.ok rfl (k_pt 0 rfl rfl) rfl,trivial⟩ rfl ?_
 intro w hw
 exact ⟨rfl,st_mask [false] rfl hw⟩
set_option maxHeartbeats 4000000 in
theorem fit_ok (β : Base) (w : World) (hw : St β [] w) (o : TOp) (v : Value) (hs : Sl ActF.R β.heap v o.acts) (n : Int) : Calls Tryz.prog 11 #[.agg #[Bx o.kind, Ix o.author, Ix o.number, v], Ix n] w fun r w' => ∃ p c, r = .returned (.agg #[Bx o.kind, Ix (fitAu o), Ix n, sB p (fitL o) c]) ∧ St β [rowF ActF 47 p c (fitL o)] w' := by
 obtain ⟨va,vc,rfl,vl,vm,ve⟩ := hs.get
 refine enter (n := 100) Tryz.func11 rfl Tryz.ntmps11 rfl ?_ hw
 refine csr (bxa fun b1 => ?_)
 refine alE fun b2 => lnf (c_seq ?_)
 have hpk2 := pickN_bd (o.author) (n := 4) (by decide)
 have hpk3 := pickN_bd (o.author) (n := 4) (by decide)
 refine cnz [sv 10 (pp b1 0) [] [] [0],sv 11 (Bx (o.kind)) [0] [0] [],sv 12 (pp b1 1) [] [] [0],sv 13 (Ix (o.author)) [2] [2] [],sv 14 (Ix (pickN (o.author) 4)) [2,3] [3] [],sv 15 (Ix ((1 : Int) + (pickN (o.author) 4))) [2,3,4] [4] [],sv 16 (Ix (n)) [] [] [1],sv 17 (.agg #[Bx (o.kind),Ix ((1 : Int) + (pickN (o.author) 4)),Ix (n),.slice none 0 0]) (List.range 7) [1,5,6] [],⟨[],[],[],[5],fun f => f 5 = .pointer (some ⟨(blk (f 5)),0,none⟩)⟩,⟨(List.range 9),[8,7],[],[],fun _ => True⟩] [u0,u1 [1,3]] [⟨(some 8),(some 9),[9],[5],fun f => pt (blk (f 5)) (.cells #[.int .u8 (0),.int .i64 (0),.int .i64 (0),.slice none 0 0] 32)⟩,⟨(some 9),none,[],[5],fun f => pt (blk (f 5)) (.cells #[Bx (o.kind),Ix ((1 : Int) + (pickN (o.author) 4)),Ix (n),.slice none 0 0] 32)⟩] [(2,pp b1 0),(1,Ix (n)),(4,pp b2 0)] [0,2] ⟨rfl,rfl,rfl,trivial⟩ ⟨?_,?_,?_,?_,?_,?_,?_,?_,?_,?_,trivial⟩ ?_
 ·rintro f M - ⟨i0,-⟩
  exact obE ofp
 ·rintro f M ⟨k0,-⟩ -
  exact obE (oli 0)
 ·rintro f M - ⟨i0,-⟩
  exact obE ofp
 ·rintro f M ⟨k0,-⟩ -
  exact obE (oli 0)
 ·rintro f M ⟨k0,-⟩ -
  refine obS (up_cons (d := 13) rfl k0) ?_
  refine lcR clA (fun w β1 sb kn hw1 => pick_ok β1 w hw1 (o.author) 4 (by decide)) (l_nil ?_)
  exact f_owes_d (up_cons (d := 13) rfl k0) rfl (List.Perm.refl _)
 ·rintro f M ⟨k0,-⟩ -
  exact obE opl
 ·rintro f M - ⟨i0,-⟩
  exact obE omi
 ·rintro f M ⟨k0,k1,k2,-⟩ -
  exact ob0 (up_cons (d := 16) (up_cons (d := 15) (up_cons (d := 11) rfl k0) k1) k2) rfl (e_build tt165.ok tt169 (vs := [(0,Bx (o.kind)),(1,Ix ((1 : Int) + (pickN (o.author) 4))),(2,Ix (n))]) (cells := #[Bx (o.kind),Ix ((1 : Int) + (pickN (o.author) 4)),Ix (n),.slice none 0 0]) rfl rfl) (.refl _)
 ·rintro f M - -
  refine obS rfl ?_
  refine alE fun b6 => l_nil ?_
  exact f_owes_d rfl rfl (perm_front 0 rfl)
 ·rintro f M ⟨k0,k1,-⟩ -
  have hs5 : f 5 = .pointer (some ⟨(blk (f 5)),0,none⟩) := k0
  refine obS (up_cons (d := 17) (up_cons rfl hs5) k1) ?_
  refine lu (mS 0 (#[Bx (o.kind),Ix ((1 : Int) + (pickN (o.author) 4)),Ix (n),.slice none 0 0])) (l_nil ?_)
  exact f_owes_n (up_cons (d := 17) (up_cons rfl hs5) k1) trivial (perm_front 0 rfl)
 rintro fa7 ⟨-,-,-,-,-,-,-,-,k8,-,-⟩ ⟨j0,j1,-⟩
 refine fre ?_
 refine f_rebase (d := 2) j0 (f_rebase (d := 4) j1 (f_rebase (d := 5) k8 (fts (c_seq (c_emp (r := rowF ActF 47 none 0 []) (row_nil _ _ _) (c_region ?_))))))
 refine lE ofp (lE (ols 2) (lE ofp (lE (ols 2) (lE oln ?_))))
 refine lv (v := Nx (min o.acts.length 8)) (ev_eq (congrArg (Value.int .i64) (by omega)) (e_min (a := ((o.acts.length : Nat) : Int)) (b := (8 : Int)) rfl rfl)) ?_
 obtain ⟨zs8,hz9⟩ : ∃ zs,zs = (o.acts.take (min o.acts.length 8)) := ⟨_,rfl⟩
 have zl10 : zs8.length = min (min o.acts.length 8) (o.acts).length - 0 := by rw [hz9]; simp; try omega
 have ze11 := (Elems.take (min o.acts.length 8) ve)
 rw [← hz9] at ze11
 refine lv (v := .slice va (zs8.length) (vc)) (ev_eq (by rw [show zs8.length = min o.acts.length 8 by omega]) (e_slice_hi (a := va) (len := o.acts.length) (cap := vc) (h := min o.acts.length 8) tt16 rfl rfl (by omega))) ?_
 refine lE oln (lE omi (lnf (c_block ?_)))
 refine c_loop (fun (x_ : Nat × List KAct × Option Addr × Nat) f L => match x_ with | (k,ys,p,c) => (f 4 = pp b2 0 ∧ f 5 = .pointer (some ⟨(blk (fa7 5)),0,none⟩) ∧ f 24 = sB va zs8 (vc) ∧ f 25 = Nx (zs8.length) ∧ f 26 = Nx (k)) ∧ L = [rowF ActF 47 p c ys,pt b2 (.cells #[.int .u8 (0),.int .i64 (0),.int .i64 (0),.slice none 0 0] 32),pt b1 (.cells #[Bx (o.kind),Ix (o.author),Ix (o.number),sB va o.acts (vc)] 32),pt (blk (fa7 5)) (.cells #[Bx (o.kind),Ix ((1 : Int) + (pickN (o.author) 4)),Ix (n),sB p ys c] 32)] ∧ (k ≤ zs8.length ∧ ys = (zs8.take k).map fitA)) (fun (k,ys,p,c) => zs8.length - k) (0,[],none,0) ?_ ?_
 ·exact ⟨⟨rfl,rfl,rfl,rfl,rfl⟩,rfl,⟨Nat.zero_le _,rfl⟩⟩
 rintro ⟨k,ys,p,c⟩ f0 L0 ⟨⟨hs4,hs5,hs24,hs25,hs26⟩,hL,⟨hk,hys⟩⟩
 subst L0
 refine rbs 4 hs4 (rbs 5 hs5 (rbs 24 hs24 (rbs 25 hs25 (rbs 26 hs26 ?_))))
 have hyl : ys.length ≤ 8 := by rw [hys,List.length_map,List.length_take]; omega
 refine csr (lE olt (lnf (c_seq (c_if _ rfl (fun hc12 => ?_) (fun hc12 => ?_)))))
 ·refine csk (c_seq (c_block (csr ?_)))
  obtain ⟨x13,hx14⟩ := getx zs8 k (by omega)
  obtain ⟨ha15,cs16,hc17,rfl⟩ := ze11 _ _ hx14
  refine lE (oia tt16 ha15) ?_
  refine lv (v := .agg #[Bx (x13.kind),Ix (x13.owner),Ix (x13.other),Ix (x13.hold),Ix (x13.a.a0),Ix (x13.a.a1),Ix (x13.a.a2),Ix (x13.a.a3)]) (e_load tt17.ok rfl (kB hc17) rfl) ?_
  refine alE fun b19 => ?_
  refine lu (mS 0 (#[Bx (x13.kind),Ix (x13.owner),Ix (x13.other),Ix (x13.hold),Ix (x13.a.a0),Ix (x13.a.a1),Ix (x13.a.a2),Ix (x13.a.a3)])) (lnc ?_)
  refine lE ofp (lE (oli 0) ?_)
  refine lv (v := Bx (x13.kind % 7)) (e_rem (a := ((x13.kind).toNat : Int)) (b := (((7 : UInt8)).toNat : Int)) rfl rfl (by decide) (bx_rem _ _)) ?_
  refine lv (v := Bx ((1 : UInt8) + (x13.kind % 7))) (e_add rfl rfl (bx_add _ _)) ?_
  refine lv (v := .agg #[Bx ((1 : UInt8) + (x13.kind % 7)),.int .i64 (0),.int .i64 (0),.int .i64 (0),.int .i64 (0),.int .i64 (0),.int .i64 (0),.int .i64 (0)]) (e_build tt47.ok tt46 (vs := [(0,Bx ((1 : UInt8) + (x13.kind % 7)))]) (cells := #[Bx ((1 : UInt8) + (x13.kind % 7)),.int .i64 (0),.int .i64 (0),.int .i64 (0),.int .i64 (0),.int .i64 (0),.int .i64 (0),.int .i64 (0)]) rfl (by kernel_rfl)) ?_
  refine alE fun b20 => ?_
  refine lu (mS 0 (#[Bx ((1 : UInt8) + (x13.kind % 7)),.int .i64 (0),.int .i64 (0),.int .i64 (0),.int .i64 (0),.int .i64 (0),.int .i64 (0),.int .i64 (0)])) ?_
  refine lnf (cs2 ?_)
  refine c_re (L' := [pt b20 (.cells #[Bx (fitK x13),.int .i64 (0),.int .i64 (0),.int .i64 (0),.int .i64 (0),.int .i64 (0),.int .i64 (0),.int .i64 (0)] 47),pt b19 (.cells #[Bx (x13.kind),Ix (x13.owner),Ix (x13.other),Ix (x13.hold),Ix (x13.a.a0),Ix (x13.a.a1),Ix (x13.a.a2),Ix (x13.a.a3)] 47),rowF ActF 47 p c ys,pt b2 (.cells #[.int .u8 (0),.int .i64 (0),.int .i64 (0),.slice none 0 0] 32),pt b1 (.cells #[Bx (o.kind),Ix (o.author),Ix (o.number),sB va o.acts (vc)] 32),pt (blk (fa7 5)) (.cells #[Bx (o.kind),Ix ((1 : Int) + (pickN (o.author) 4)),Ix (n),sB p ys c] 32)]) (by rfl) ?_
  refine c_region (lE ofp (lE (oli 0) (lnf (c_block (csr (lE oeq_ (lE oab (lnf (c_if _ rfl (fun hc21 => ?_) (fun hc21 => ?_))))))))))
  ·refine c_region (lE ofp (lE (oli 1) ?_))
   have hpk21 := pickN_bd (x13.hold) (n := 12) (by decide)
   refine lcR clA (fun w β1 sb kn hw1 => pick_ok β1 w hw1 (x13.hold) 12 (by decide)) (lE opl (lE ofp ?_))
   refine lu (mS 0 (#[Bx (fitK x13),.int .i64 (0),.int .i64 (0),Ix ((1 : Int) + (pickN (x13.hold) 12)),.int .i64 (0),.int .i64 (0),.int .i64 (0),.int .i64 (0)])) ?_
   refine l_nil (f_block (f_then (c_region (lE ofp (lE (ols 5) (lE (olg 0) ?_))))))
   refine l_mv rfl rfl rfl (m_slices tt16 tt47.ok (cells := #[Bx (fitK x13),.int .i64 (0),.int .i64 (0),Ix ((1 : Int) + (pickN (x13.hold) 12)),.int .i64 (0),.int .i64 (0),.int .i64 (0),.int .i64 (0)]) rfl rfl rfl (by kernel_rfl)) ?_
   rintro _ _ ⟨b23,rfl,rfl⟩
   refine l_mv rfl rfl rfl (m_appendFlN (F := ActF) 3 tt16 tt30 (p := p) (m := ys.length) (xs := ys) (ys := [(⟨fitK x13,0,0,(1 : Int) + (pickN (x13.hold) 12),zeroA⟩ : KAct)]) (ao := (some ⟨b23,0,none⟩)) (k := 1) (c := 1) rfl rfl rfl rfl rfl (k_ptFl (z := (⟨fitK x13,0,0,(1 : Int) + (pickN (x13.hold) 12),zeroA⟩ : KAct)) 0 rfl rfl) (by first | omega | simp only [List.length_nil,List.length_cons,List.length_append,List.length_set]; omega) (by first | omega | simp only [List.length_nil,List.length_cons,List.length_append,List.length_set]; omega)) ?_
   rintro _ _ ⟨rp24,rc25,rfl,rfl⟩
   refine lE ofp ?_
   refine lu (mS 6 (#[Bx (o.kind),Ix ((1 : Int) + (pickN (o.author) 4)),Ix (n),sB rp24 (ys ++ [(⟨fitK x13,0,0,(1 : Int) + (pickN (x13.hold) 12),zeroA⟩ : KAct)]) rc25])) ?_
   refine l_nil (f_block (f_then (c_region (lv (v := Nx (k + 1)) (e_add rfl rfl (i64n (by omega) (by omega))) (lE omi (l_nil ?_))))))
   refine f_mask [false,false,false,true,true,true,true] rfl ?_
   exact f_cut ⟨(k + 1,(ys ++ [(⟨fitK x13,0,0,(1 : Int) + (pickN (x13.hold) 12),zeroA⟩ : KAct)]),rp24,rc25),⟨⟨rfl,rfl,rfl,rfl,rfl⟩,rfl,⟨by omega,by rw [hys,← tk_next hx14,List.map_append,show List.map fitA [x13] = [fitA x13] from rfl,fitA_5 hc21] <;> rfl⟩⟩,(show zs8.length - (k + 1) < zs8.length - k from by omega)⟩
  refine csr (lE oeq_ (lE oab (lnf (c_if _ rfl (fun hc26 => ?_) (fun hc26 => ?_)))))
  ·have hpk26 := pickN_bd (x13.hold) (n := 12) (by decide)
   have hpk27 := pickN_bd (x13.hold) (n := 12) (by decide)
   have hpk28 := pickN_bd (x13.other) (n := 5) (by decide)
   have hpk29 := pickN_bd (x13.other) (n := 5) (by decide)
   refine cnz [sv 75 (pp b19 3) [] [] [0],sv 76 (Ix (x13.hold)) [0] [0] [],sv 77 (Ix (pickN (x13.hold) 12)) [0,1] [1] [],sv 78 (Ix ((1 : Int) + (pickN (x13.hold) 12))) [0,1,2] [2] [],sv 79 (pp b19 2) [] [] [0],sv 80 (Ix (x13.other)) [4] [4] [],sv 81 (Ix (pickN (x13.other) 5)) [0,1,2,4,5] [5] [],sv 82 (Ix ((1 : Int) + (pickN (x13.other) 5))) [0,1,2,4,5,6] [6] [],sv 83 (pp b20 3) [0,1,2,3] [] [1],⟨[0,1,2,3,4,5,6,8],[8,3],[],[],fun _ => True⟩,sv 84 (pp b20 2) (List.range 10) [] [1],⟨(List.range 11),[10,7],[],[],fun _ => True⟩] [(some 9,[9]),u1 [1,5]] [⟨(some 9),(some 11),[11],[],fun _ => pt b20 (.cells #[Bx (fitK x13),.int .i64 (0),.int .i64 (0),Ix ((1 : Int) + (pickN (x13.hold) 12)),.int .i64 (0),.int .i64 (0),.int .i64 (0),.int .i64 (0)] 47)⟩,⟨(some 11),none,[],[],fun _ => pt b20 (.cells #[Bx (fitK x13),.int .i64 (0),Ix ((1 : Int) + (pickN (x13.other) 5)),Ix ((1 : Int) + (pickN (x13.hold) 12)),.int .i64 (0),.int .i64 (0),.int .i64 (0),.int .i64 (0)] 47)⟩] [(7,pp b19 0),(8,pp b20 0),(4,pp b2 0),(5,.pointer (some ⟨(blk (fa7 5)),0,none⟩)),(24,sB va zs8 (vc)),(25,Nx (zs8.length)),(26,Nx (k))] [2,3,1,4,5,6] ⟨rfl,rfl,rfl,rfl,rfl,rfl,rfl,trivial⟩ ⟨?_,?_,?_,?_,?_,?_,?_,?_,?_,?_,?_,?_,trivial⟩ ?_
   ·rintro f M - ⟨i0,-⟩
    exact obE ofp
   ·rintro f M ⟨k0,-⟩ -
    exact obE (oli 0)
   ·rintro f M ⟨k0,-⟩ -
    refine obS (up_cons (d := 76) rfl k0) ?_
    refine lcR clA (fun w β1 sb kn hw1 => pick_ok β1 w hw1 (x13.hold) 12 (by decide)) (l_nil ?_)
    exact f_owes_d (up_cons (d := 76) rfl k0) rfl (List.Perm.refl _)
   ·rintro f M ⟨k0,-⟩ -
    exact obE opl
   ·rintro f M - ⟨i0,-⟩
    exact obE ofp
   ·rintro f M ⟨k0,-⟩ -
    exact obE (oli 0)
   ·rintro f M ⟨k0,-⟩ -
    refine obS (up_cons (d := 80) rfl k0) ?_
    refine lcR clA (fun w β1 sb kn hw1 => pick_ok β1 w hw1 (x13.other) 5 (by decide)) (l_nil ?_)
    exact f_owes_d (up_cons (d := 80) rfl k0) rfl (List.Perm.refl _)
   ·rintro f M ⟨k0,-⟩ -
    exact obE opl
   ·rintro f M - ⟨i0,-⟩
    exact obE ofp
   ·rintro f M ⟨k0,k1,-⟩ -
    refine obS (up_cons (d := 78) (up_cons (d := 83) rfl k0) k1) ?_
    refine lu (mS 0 (#[Bx (fitK x13),.int .i64 (0),.int .i64 (0),Ix ((1 : Int) + (pickN (x13.hold) 12)),.int .i64 (0),.int .i64 (0),.int .i64 (0),.int .i64 (0)])) ?_
    refine l_nil ?_
    exact f_owes_n (up_cons (d := 78) (up_cons (d := 83) rfl k0) k1) trivial (perm_front 0 rfl)
   ·rintro f M - ⟨i0,-⟩
    exact obE ofp
   ·rintro f M ⟨k0,k1,-⟩ -
    refine obS (up_cons (d := 82) (up_cons (d := 84) rfl k0) k1) ?_
    refine lu (mS 0 (#[Bx (fitK x13),.int .i64 (0),Ix ((1 : Int) + (pickN (x13.other) 5)),Ix ((1 : Int) + (pickN (x13.hold) 12)),.int .i64 (0),.int .i64 (0),.int .i64 (0),.int .i64 (0)])) ?_
    refine l_nil ?_
    exact f_owes_n (up_cons (d := 82) (up_cons (d := 84) rfl k0) k1) trivial (perm_front 0 rfl)
   rintro fa31 ⟨-,-,-,-,-,-,-,-,-,-,-,-,-⟩ ⟨j0,j1,j2,j3,j4,j5,-⟩
   refine fre ?_
   refine f_rebase (d := 4) j0 (f_rebase (d := 5) j1 (f_rebase (d := 8) j2 (f_rebase (d := 24) j3 (f_rebase (d := 25) j4 (f_rebase (d := 26) j5 ?_)))))
   refine f_block (f_then (c_region (lE ofp (lE (ols 4) (lE (olg 5) ?_)))))
   refine l_mv rfl rfl rfl (m_slices tt16 tt47.ok (cells := #[Bx (fitK x13),.int .i64 (0),Ix ((1 : Int) + (pickN (x13.other) 5)),Ix ((1 : Int) + (pickN (x13.hold) 12)),.int .i64 (0),.int .i64 (0),.int .i64 (0),.int .i64 (0)]) rfl rfl rfl (by kernel_rfl)) ?_
   rintro _ _ ⟨b32,rfl,rfl⟩
   refine l_mv rfl rfl rfl (m_appendFlN (F := ActF) 2 tt16 tt30 (p := p) (m := ys.length) (xs := ys) (ys := [(⟨fitK x13,0,(1 : Int) + (pickN (x13.other) 5),(1 : Int) + (pickN (x13.hold) 12),zeroA⟩ : KAct)]) (ao := (some ⟨b32,0,none⟩)) (k := 1) (c := 1) rfl rfl rfl rfl rfl (k_ptFl (z := (⟨fitK x13,0,(1 : Int) + (pickN (x13.other) 5),(1 : Int) + (pickN (x13.hold) 12),zeroA⟩ : KAct)) 0 rfl rfl) (by first | omega | simp only [List.length_nil,List.length_cons,List.length_append,List.length_set]; omega) (by first | omega | simp only [List.length_nil,List.length_cons,List.length_append,List.length_set]; omega)) ?_
   rintro _ _ ⟨rp33,rc34,rfl,rfl⟩
   refine lE ofp ?_
   refine lu (mS 5 (#[Bx (o.kind),Ix ((1 : Int) + (pickN (o.author) 4)),Ix (n),sB rp33 (ys ++ [(⟨fitK x13,0,(1 : Int) + (pickN (x13.other) 5),(1 : Int) + (pickN (x13.hold) 12),zeroA⟩ : KAct)]) rc34])) ?_
   refine l_nil (f_block (f_then (c_region (lv (v := Nx (k + 1)) (e_add rfl rfl (i64n (by omega) (by omega))) (lE omi (l_nil ?_))))))
   refine f_mask [false,false,true,true,true,true,false] rfl ?_
   exact f_cut ⟨(k + 1,(ys ++ [(⟨fitK x13,0,(1 : Int) + (pickN (x13.other) 5),(1 : Int) + (pickN (x13.hold) 12),zeroA⟩ : KAct)]),rp33,rc34),⟨⟨rfl,rfl,rfl,rfl,rfl⟩,rfl,⟨by omega,by rw [hys,← tk_next hx14,List.map_append,show List.map fitA [x13] = [fitA x13] from rfl,fitA_6 hc21 hc26] <;> rfl⟩⟩,(show zs8.length - (k + 1) < zs8.length - k from by omega)⟩
  refine csr (lE ofp (lE (oli 1) ?_))
  have hpk34 := pickN_bd (x13.owner) (n := 5) (by decide)
  refine lcR clA (fun w β1 sb kn hw1 => pick_ok β1 w hw1 (x13.owner) 5 (by decide)) (lE opl (lE ofp ?_))
  refine lu (mS 0 (#[Bx (fitK x13),Ix ((1 : Int) + (pickN (x13.owner) 5)),.int .i64 (0),.int .i64 (0),.int .i64 (0),.int .i64 (0),.int .i64 (0),.int .i64 (0)])) ?_
  refine lnf (cs2 (c_region (lE omi (lnf (c_block (c_unroll 5 (un_succ 4 (csr (lE olt (lnf (c_seq (c_yes rfl (csk (c_seq (c_block (csr (lE omi ?_)))))))))))))))))
  refine lE oai (lnr (lE omi (lE omi (lE ofp (lv (v := pp b19 4) (e_indexArrK (b := b19) (o := 4) (k := 0) rfl rfl tt1.ok (by decide)) (lE (oli 1) ?_))))))
  have hpk35 := pickN_bd (x13.a.a0) (n := 1001) (by decide)
  refine lcR clA (fun w β1 sb kn hw1 => pick_ok β1 w hw1 (x13.a.a0) 1001 (by decide)) (lE ofp ?_)
  refine lv (v := pp b20 4) (e_indexArrK (b := b20) (o := 4) (k := 0) rfl rfl tt1.ok (by decide)) ?_
  refine lu (mS 0 (#[Bx (fitK x13),Ix ((1 : Int) + (pickN (x13.owner) 5)),.int .i64 (0),.int .i64 (0),Ix (pickN (x13.a.a0) 1001),.int .i64 (0),.int .i64 (0),.int .i64 (0)])) ?_
  refine l_nil (f_block (f_then (c_region (lE opl (lE omi (l_nil (f_cut (un_succ 3 (csr (lE olt (lnf (c_seq (c_yes rfl (csk (c_seq (c_block (csr ?_)))))))))))))))))
  refine lE omi (lE oai (lnr (lE omi (lE omi (lE ofp (lv (v := pp b19 5) (e_indexArrK (b := b19) (o := 4) (k := 1) rfl rfl tt1.ok (by decide)) ?_))))))
  refine lE (oli 1) ?_
  have hpk36 := pickN_bd (x13.a.a1) (n := 1001) (by decide)
  refine lcR clA (fun w β1 sb kn hw1 => pick_ok β1 w hw1 (x13.a.a1) 1001 (by decide)) (lE ofp ?_)
  refine lv (v := pp b20 5) (e_indexArrK (b := b20) (o := 4) (k := 1) rfl rfl tt1.ok (by decide)) ?_
  refine lu (mS 0 (#[Bx (fitK x13),Ix ((1 : Int) + (pickN (x13.owner) 5)),.int .i64 (0),.int .i64 (0),Ix (pickN (x13.a.a0) 1001),Ix (pickN (x13.a.a1) 1001),.int .i64 (0),.int .i64 (0)])) ?_
  refine l_nil (f_block (f_then (c_region (lE opl (lE omi (l_nil (f_cut (un_succ 2 (csr (lE olt (lnf (c_seq (c_yes rfl (csk (c_seq (c_block (csr ?_)))))))))))))))))
  refine lE omi (lE oai (lnr (lE omi (lE omi (lE ofp (lv (v := pp b19 6) (e_indexArrK (b := b19) (o := 4) (k := 2) rfl rfl tt1.ok (by decide)) ?_))))))
  refine lE (oli 1) ?_
  have hpk37 := pickN_bd (x13.a.a2) (n := 1001) (by decide)
  refine lcR clA (fun w β1 sb kn hw1 => pick_ok β1 w hw1 (x13.a.a2) 1001 (by decide)) (lE ofp ?_)
  refine lv (v := pp b20 6) (e_indexArrK (b := b20) (o := 4) (k := 2) rfl rfl tt1.ok (by decide)) ?_
  refine lu (mS 0 (#[Bx (fitK x13),Ix ((1 : Int) + (pickN (x13.owner) 5)),.int .i64 (0),.int .i64 (0),Ix (pickN (x13.a.a0) 1001),Ix (pickN (x13.a.a1) 1001),Ix (pickN (x13.a.a2) 1001),.int .i64 (0)])) ?_
  refine l_nil (f_block (f_then (c_region (lE opl (lE omi (l_nil (f_cut (un_succ 1 (csr (lE olt (lnf (c_seq (c_yes rfl (csk (c_seq (c_block (csr ?_)))))))))))))))))
  refine lE omi (lE oai (lnr (lE omi (lE omi (lE ofp (lv (v := pp b19 7) (e_indexArrK (b := b19) (o := 4) (k := 3) rfl rfl tt1.ok (by decide)) ?_))))))
  refine lE (oli 1) ?_
  have hpk38 := pickN_bd (x13.a.a3) (n := 1001) (by decide)
  refine lcR clA (fun w β1 sb kn hw1 => pick_ok β1 w hw1 (x13.a.a3) 1001 (by decide)) (lE ofp ?_)
  refine lv (v := pp b20 7) (e_indexArrK (b := b20) (o := 4) (k := 3) rfl rfl tt1.ok (by decide)) ?_
  refine lu (mS 0 (#[Bx (fitK x13),Ix ((1 : Int) + (pickN (x13.owner) 5)),.int .i64 (0),.int .i64 (0),Ix (pickN (x13.a.a0) 1001),Ix (pickN (x13.a.a1) 1001),Ix (pickN (x13.a.a2) 1001),Ix (pickN (x13.a.a3) 1001)])) ?_
  refine l_nil (f_block (f_then (c_region (lE opl (lE omi (l_nil (f_cut (un_succ 0 (csr (lE olt (lnf (c_seq (c_no rfl (c_exit (f_then_exit ?_)))))))))))))))
  refine f_then_exit (f_exit (ftc (lE ofp (lE (oli 0) (lE oeq_ (lnf (c_if _ rfl (fun hc40 => ?_) (fun hc40 => ?_))))))))
  ·have hpk40 := pickN_bd (x13.other) (n := 4) (by decide)
   have hpk41 := pickN_bd (x13.other) (n := 4) (by decide)
   have htm42 := tmod_bd (((1 : Int) + (pickN (x13.owner) 5)) + (pickN (x13.other) 4)) (n := 5) (by decide)
   have htm43 := tmod_bd (((1 : Int) + (pickN (x13.owner) 5)) + (pickN (x13.other) 4)) (n := 5) (by decide)
   refine cnz [sv 57 (pp b20 1) [] [] [0],sv 58 (Ix ((1 : Int) + (pickN (x13.owner) 5))) [0] [0] [],sv 59 (pp b19 2) [] [] [1],sv 60 (Ix (x13.other)) [2] [2] [],sv 61 (Ix (pickN (x13.other) 4)) [2,3] [3] [],sv 62 (Ix (((1 : Int) + (pickN (x13.owner) 5)) + (pickN (x13.other) 4))) [0,1,2,3,4] [1,4] [],sv 63 (Ix (Int.tmod (((1 : Int) + (pickN (x13.owner) 5)) + (pickN (x13.other) 4)) 5)) (List.range 6) [5] [],sv 64 (Ix ((1 : Int) + (Int.tmod (((1 : Int) + (pickN (x13.owner) 5)) + (pickN (x13.other) 4)) 5))) (List.range 7) [6] [],sv 65 (pp b20 2) (List.range 8) [] [0],⟨(List.range 9),[8,7],[],[],fun _ => True⟩] [(some 9,[1,9]),u1 [3]] [⟨(some 9),none,[],[],fun _ => pt b20 (.cells #[Bx (fitK x13),Ix ((1 : Int) + (pickN (x13.owner) 5)),Ix ((1 : Int) + (Int.tmod (((1 : Int) + (pickN (x13.owner) 5)) + (pickN (x13.other) 4)) 5)),.int .i64 (0),Ix (pickN (x13.a.a0) 1001),Ix (pickN (x13.a.a1) 1001),Ix (pickN (x13.a.a2) 1001),Ix (pickN (x13.a.a3) 1001)] 47)⟩] [(8,pp b20 0),(7,pp b19 0),(4,pp b2 0),(5,.pointer (some ⟨(blk (fa7 5)),0,none⟩)),(24,sB va zs8 (vc)),(25,Nx (zs8.length)),(26,Nx (k))] [2,3,0,4,5,6] ⟨rfl,rfl,rfl,rfl,rfl,rfl,rfl,trivial⟩ ⟨?_,?_,?_,?_,?_,?_,?_,?_,?_,?_,trivial⟩ ?_
   ·rintro f M - ⟨i0,-⟩
    exact obE ofp
   ·rintro f M ⟨k0,-⟩ -
    exact obE (oli 0)
   ·rintro f M - ⟨i0,-⟩
    exact obE ofp
   ·rintro f M ⟨k0,-⟩ -
    exact obE (oli 0)
   ·rintro f M ⟨k0,-⟩ -
    refine obS (up_cons (d := 60) rfl k0) ?_
    refine lcR clA (fun w β1 sb kn hw1 => pick_ok β1 w hw1 (x13.other) 4 (by decide)) (l_nil ?_)
    exact f_owes_d (up_cons (d := 60) rfl k0) rfl (List.Perm.refl _)
   ·rintro f M ⟨k0,k1,-⟩ -
    exact obE opl
   ·rintro f M ⟨k0,-⟩ -
    exact ob0 (up_cons (d := 62) rfl k0) rfl (e_rem (a := (((1 : Int) + (pickN (x13.owner) 5)) + (pickN (x13.other) 4))) (b := (5 : Int)) rfl rfl (by omega) rfl) (.refl _)
   ·rintro f M ⟨k0,-⟩ -
    exact obE opl
   ·rintro f M - ⟨i0,-⟩
    exact obE ofp
   ·rintro f M ⟨k0,k1,-⟩ -
    refine obS (up_cons (d := 64) (up_cons (d := 65) rfl k0) k1) ?_
    refine lu (mS 0 (#[Bx (fitK x13),Ix ((1 : Int) + (pickN (x13.owner) 5)),Ix ((1 : Int) + (Int.tmod (((1 : Int) + (pickN (x13.owner) 5)) + (pickN (x13.other) 4)) 5)),.int .i64 (0),Ix (pickN (x13.a.a0) 1001),Ix (pickN (x13.a.a1) 1001),Ix (pickN (x13.a.a2) 1001),Ix (pickN (x13.a.a3) 1001)])) ?_
    refine l_nil ?_
    exact f_owes_n (up_cons (d := 64) (up_cons (d := 65) rfl k0) k1) trivial (perm_front 0 rfl)
   rintro fa45 ⟨-,-,-,-,-,-,-,-,-,-,-⟩ ⟨j0,j1,j2,j3,j4,j5,-⟩
   refine fre ?_
   refine f_rebase (d := 4) j0 (f_rebase (d := 5) j1 (f_rebase (d := 8) j2 (f_rebase (d := 24) j3 (f_rebase (d := 25) j4 (f_rebase (d := 26) j5 ?_)))))
   refine f_block (f_then (c_region (lE ofp (lE (ols 4) (lE (olg 5) ?_)))))
   refine l_mv rfl rfl rfl (m_slices tt16 tt47.ok (cells := #[Bx (fitK x13),Ix ((1 : Int) + (pickN (x13.owner) 5)),Ix ((1 : Int) + (Int.tmod (((1 : Int) + (pickN (x13.owner) 5)) + (pickN (x13.other) 4)) 5)),.int .i64 (0),Ix (pickN (x13.a.a0) 1001),Ix (pickN (x13.a.a1) 1001),Ix (pickN (x13.a.a2) 1001),Ix (pickN (x13.a.a3) 1001)]) rfl rfl rfl (by kernel_rfl)) ?_
   rintro _ _ ⟨b46,rfl,rfl⟩
   refine l_mv rfl rfl rfl (m_appendFlN (F := ActF) 2 tt16 tt30 (p := p) (m := ys.length) (xs := ys) (ys := [(⟨fitK x13,(1 : Int) + (pickN (x13.owner) 5),(1 : Int) + (Int.tmod (((1 : Int) + (pickN (x13.owner) 5)) + (pickN (x13.other) 4)) 5),0,(⟨pickN (x13.a.a0) 1001,pickN (x13.a.a1) 1001,pickN (x13.a.a2) 1001,pickN (x13.a.a3) 1001⟩ : KAm)⟩ : KAct)]) (ao := (some ⟨b46,0,none⟩)) (k := 1) (c := 1) rfl rfl rfl rfl rfl (k_ptFl (z := (⟨fitK x13,(1 : Int) + (pickN (x13.owner) 5),(1 : Int) + (Int.tmod (((1 : Int) + (pickN (x13.owner) 5)) + (pickN (x13.other) 4)) 5),0,(⟨pickN (x13.a.a0) 1001,pickN (x13.a.a1) 1001,pickN (x13.a.a2) 1001,pickN (x13.a.a3) 1001⟩ : KAm)⟩ : KAct)) 0 rfl rfl) (by first | omega | simp only [List.length_nil,List.length_cons,List.length_append,List.length_set]; omega) (by first | omega | simp only [List.length_nil,List.length_cons,List.length_append,List.length_set]; omega)) ?_
   rintro _ _ ⟨rp47,rc48,rfl,rfl⟩
   refine lE ofp ?_
   refine lu (mS 5 (#[Bx (o.kind),Ix ((1 : Int) + (pickN (o.author) 4)),Ix (n),sB rp47 (ys ++ [(⟨fitK x13,(1 : Int) + (pickN (x13.owner) 5),(1 : Int) + (Int.tmod (((1 : Int) + (pickN (x13.owner) 5)) + (pickN (x13.other) 4)) 5),0,(⟨pickN (x13.a.a0) 1001,pickN (x13.a.a1) 1001,pickN (x13.a.a2) 1001,pickN (x13.a.a3) 1001⟩ : KAm)⟩ : KAct)]) rc48])) ?_
   refine l_nil (f_block (f_then (c_region (lv (v := Nx (k + 1)) (e_add rfl rfl (i64n (by omega) (by omega))) (lE omi (l_nil ?_))))))
   refine f_mask [false,false,true,true,true,true,false] rfl ?_
   exact f_cut ⟨(k + 1,(ys ++ [(⟨fitK x13,(1 : Int) + (pickN (x13.owner) 5),(1 : Int) + (Int.tmod (((1 : Int) + (pickN (x13.owner) 5)) + (pickN (x13.other) 4)) 5),0,(⟨pickN (x13.a.a0) 1001,pickN (x13.a.a1) 1001,pickN (x13.a.a2) 1001,pickN (x13.a.a3) 1001⟩ : KAm)⟩ : KAct)]),rp47,rc48),⟨⟨rfl,rfl,rfl,rfl,rfl⟩,rfl,⟨by omega,by rw [hys,← tk_next hx14,List.map_append,show List.map fitA [x13] = [fitA x13] from rfl,fitA_3 hc21 hc26 hc40] <;> rfl⟩⟩,(show zs8.length - (k + 1) < zs8.length - k from by omega)⟩
  refine c_skip (f_block (f_then (c_region (lE ofp (lE (ols 5) (lE (olg 0) ?_))))))
  refine l_mv rfl rfl rfl (m_slices tt16 tt47.ok (cells := #[Bx (fitK x13),Ix ((1 : Int) + (pickN (x13.owner) 5)),.int .i64 (0),.int .i64 (0),Ix (pickN (x13.a.a0) 1001),Ix (pickN (x13.a.a1) 1001),Ix (pickN (x13.a.a2) 1001),Ix (pickN (x13.a.a3) 1001)]) rfl rfl rfl (by kernel_rfl)) ?_
  rintro _ _ ⟨b49,rfl,rfl⟩
  refine l_mv rfl rfl rfl (m_appendFlN (F := ActF) 3 tt16 tt30 (p := p) (m := ys.length) (xs := ys) (ys := [(⟨fitK x13,(1 : Int) + (pickN (x13.owner) 5),0,0,(⟨pickN (x13.a.a0) 1001,pickN (x13.a.a1) 1001,pickN (x13.a.a2) 1001,pickN (x13.a.a3) 1001⟩ : KAm)⟩ : KAct)]) (ao := (some ⟨b49,0,none⟩)) (k := 1) (c := 1) rfl rfl rfl rfl rfl (k_ptFl (z := (⟨fitK x13,(1 : Int) + (pickN (x13.owner) 5),0,0,(⟨pickN (x13.a.a0) 1001,pickN (x13.a.a1) 1001,pickN (x13.a.a2) 1001,pickN (x13.a.a3) 1001⟩ : KAm)⟩ : KAct)) 0 rfl rfl) (by first | omega | simp only [List.length_nil,List.length_cons,List.length_append,List.length_set]; omega) (by first | omega | simp only [List.length_nil,List.length_cons,List.length_append,List.length_set]; omega)) ?_
  rintro _ _ ⟨rp50,rc51,rfl,rfl⟩
  refine lE ofp ?_
  refine lu (mS 6 (#[Bx (o.kind),Ix ((1 : Int) + (pickN (o.author) 4)),Ix (n),sB rp50 (ys ++ [(⟨fitK x13,(1 : Int) + (pickN (x13.owner) 5),0,0,(⟨pickN (x13.a.a0) 1001,pickN (x13.a.a1) 1001,pickN (x13.a.a2) 1001,pickN (x13.a.a3) 1001⟩ : KAm)⟩ : KAct)]) rc51])) ?_
  refine l_nil (f_block (f_then (c_region (lv (v := Nx (k + 1)) (e_add rfl rfl (i64n (by omega) (by omega))) (lE omi (l_nil ?_))))))
  refine f_mask [false,false,false,true,true,true,true] rfl ?_
  exact f_cut ⟨(k + 1,(ys ++ [(⟨fitK x13,(1 : Int) + (pickN (x13.owner) 5),0,0,(⟨pickN (x13.a.a0) 1001,pickN (x13.a.a1) 1001,pickN (x13.a.a2) 1001,pickN (x13.a.a3) 1001⟩ : KAm)⟩ : KAct)]),rp50,rc51),⟨⟨rfl,rfl,rfl,rfl,rfl⟩,rfl,⟨by omega,by rw [hys,← tk_next hx14,List.map_append,show List.map fitA [x13] = [fitA x13] from rfl,fitA_0 hc21 hc26 hc40] <;> rfl⟩⟩,(show zs8.length - (k + 1) < zs8.length - k from by omega)⟩
 refine c_exit (f_then_exit (f_then_exit (f_exit (fts (c_seq ?_)))))
 have hke : k = zs8.length := by omega
 replace hys : ys = (o.acts.take 8).map fitA := by rw [hys,hke,List.take_length,hz9,take_min]
 refine c_region (lE ofp (lE (ols 3) (lE oln (lE oeq_ (lnf (c_if _ rfl (fun hc52 => ?_) (fun hc52 => ?_)))))))
 ·refine c_region (lcR clA (fun w β1 sb kn hw1 => act_ok β1 w hw1 (1 : UInt8) 1 0 0 7) ?_)
  refine l_mv rfl rfl rfl (m_slices tt16 tt47.ok (cells := #[.int .u8 (1),.int .i64 (1),.int .i64 (0),.int .i64 (0),.int .i64 (7),.int .i64 (0),.int .i64 (0),.int .i64 (0)]) rfl rfl rfl (by kernel_rfl)) ?_
  rintro _ _ ⟨b53,rfl,rfl⟩
  refine lE ofp (lu (mS 4 (#[Bx (o.kind),Ix ((1 : Int) + (pickN (o.author) 4)),Ix (n),.slice (some ⟨b53,0,none⟩) 1 1])) (lnc (lE (olg 4) ?_)))
  refine lu (mS 2 (#[Bx (o.kind),Ix ((1 : Int) + (pickN (o.author) 4)),Ix (n),.slice (some ⟨b53,0,none⟩) 1 1])) (lnf (c_ret ?_))
  refine retG (m := [.agg #[Bx (o.kind),Ix ((1 : Int) + (pickN (o.author) 4)),Ix (n),.slice (some ⟨b53,0,none⟩) 1 1]]) Tryz.results11 ⟨rd_cell tt170.ok rfl (k_pt 2 rfl rfl) rfl,trivial⟩ rfl ?_
  intro w hw
  replace hw := st_mask (L' := [pt b53 (.cells #[.int .u8 (1),.int .i64 (1),.int .i64 (0),.int .i64 (0),.int .i64 (7),.int .i64 (0),.int .i64 (0),.int .i64 (0)] 47)]) [true,false,false,false,false] rfl hw
  have hx : fitL o = [(⟨1,1,0,0,⟨7,0,0,0⟩⟩ : KAct)] := by rw [fitL,if_pos (by rw [← hys]; exact List.eq_nil_of_length_eq_zero (by omega))]
  have hw2 := hw.conseq_at 0 rfl (r' := rowF ActF 47 (some ⟨b53,0,none⟩) 1 [(⟨1,1,0,0,⟨7,0,0,0⟩⟩ : KAct)]) (fun a h => pt_rowF (xs := [(⟨1,1,0,0,⟨7,0,0,0⟩⟩ : KAct)]) rfl (by decide) a h)
  exact ⟨some ⟨b53,0,none⟩,1,by rw [hx]; rfl,by rw [hx]; exact hw2⟩
 refine csk (csr (lE (olg 3) (lu (mS 1 (#[Bx (o.kind),Ix ((1 : Int) + (pickN (o.author) 4)),Ix (n),sB p ys c])) (lnf (c_ret ?_)))))
 refine retG (m := [.agg #[Bx (o.kind),Ix ((1 : Int) + (pickN (o.author) 4)),Ix (n),sB p ys c]]) Tryz.results11 ⟨rd_cell tt170.ok rfl (k_pt 1 rfl rfl) rfl,trivial⟩ rfl ?_
 intro w hw
 replace hw := st_mask (L' := [rowF ActF 47 p c ys]) [true,false,false,false] rfl hw
 have hx : fitL o = ys := by rw [fitL,if_neg (fun q => hc52 (by rw [show ys = [] from hys.trans q]; rfl)),hys]
 exact ⟨_,_,by rw [hx]; rfl,by rw [hx]; exact hw⟩
end Go.Proofs
