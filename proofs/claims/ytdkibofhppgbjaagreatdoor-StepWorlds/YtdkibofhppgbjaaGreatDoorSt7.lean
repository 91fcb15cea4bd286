/-
 A step of a scene. Printed by a program of my own.
-/
import Derived.Test.YtdkibofhppgbjaaGreatDoorSt6
import Derived.Test.YtdkibofhppgbjaaGreatDoorSlB
namespace Go.Proofs
open Go Go.Sl Go.Stp
theorem tf83 : elB Tryz.prog 52 9 64 = true := by kernel_rfl
theorem tf84 : elB Tryz.prog 78 3 24 = true := by kernel_rfl
instance tf85 : ZerC Tryz.prog 30 (.agg #[.slice none 0 0, .slice none 0 0, .int .i64 (0), .int .i64 (0)]) := ⟨by kernel_rfl⟩
instance tf86 : TyC Tryz.prog 30 true 4 := ⟨by kernel_rfl⟩
instance tf87 : CfC Tryz.prog 36 := ⟨by kernel_rfl⟩
theorem tf88 : stB Tryz.prog 30 [(0, 1), (1, 1), (2, 2)] = true := by kernel_rfl
instance tf89 : CfC Tryz.prog 37 := ⟨by kernel_rfl⟩
instance tf90 : CfC Tryz.prog 38 := ⟨by kernel_rfl⟩
instance tf91 : CfC Tryz.prog 39 := ⟨by kernel_rfl⟩
theorem tf92 : stB Tryz.prog 87 [(0, 4), (4, 9), (13, 1), (14, 1)] = true := by kernel_rfl
instance tf93 : ZerC Tryz.prog 87 (.agg #[.slice none 0 0, .slice none 0 0, .int .i64 (0), .int .i64 (0), .int .i64 (0), .int .i64 (0), .int .i64 (0), .int .i64 (0), .int .i64 (0), .int .i64 (0), .int .i64 (0), .bool false, .bool false, .int .i64 (0), .int .i64 (0)]) := ⟨by kernel_rfl⟩
instance tf94 : CfC Tryz.prog 41 := ⟨by kernel_rfl⟩
instance tf95 : ArrC Tryz.prog 91 2 5 1 := ⟨by kernel_rfl⟩
instance tf96 : ZerC Tryz.prog 91 (.agg #[.int .u8 (0), .int .u8 (0)]) := ⟨by kernel_rfl⟩
instance tf97 : TyC Tryz.prog 5 false 1 := ⟨by kernel_rfl⟩
theorem tf98 : stB Tryz.prog 55 [(0, 1), (1, 1), (2, 1)] = true := by kernel_rfl
instance tf99 : ZerC Tryz.prog 55 (.agg #[.int .i64 (0), .int .u8 (0), .int .i64 (0)]) := ⟨by kernel_rfl⟩
theorem tf100 : slB Tryz.prog 38 55 3 = true := by kernel_rfl
theorem tf101 : elB Tryz.prog 55 3 24 = true := by kernel_rfl
theorem cloneB_ok (β : Base) (w : World) (hw : St β [] w) (v : Value) (xs : List KB) (hs : Sl KBR β.heap v xs) (hn : xs.length ≤ 1048576) : Calls Tryz.prog 37 #[v] w fun r w' => ∃ p c, r = .returned (sB p xs c) ∧ St β [rowF BodyF 52 p c xs] w' := by
 obtain ⟨va,vc,rfl,vl,vm,ve⟩ := hs.get
 refine enter (n := 8) Tryz.func37 rfl Tryz.ntmps37 rfl ?_ hw
 refine csr (lE oas (lnf (cs2 (c_region (lE oms (lv (v := .bool (va.isNone)) (e_eql_snil (a := va) rfl rfl tf40.ok) (lnf ?_)))))))
 refine c_ifb (va.isNone) rfl (fun hc1 => ?_) (fun hc1 => ?_)
 ·refine csr (lE oas (lnf (c_ret (f_then_ret (ret1 Tryz.results37 rfl ?_)))))
  intro w hw
  obtain rfl := nil_empty ve hc1
  exact ⟨none,0,rfl,(st_mask [] rfl hw).emp (row_nil _ _ _)⟩
 refine csk (csr (l_mv rfl rfl rfl (m_slice0 tf43) ?_))
 rintro _ _ ⟨b2,rfl,rfl⟩
 refine lE oms (l_conseq 0 (r' := rowF BodyF 52 (some ⟨b2,0,none⟩) 0 []) rfl (fun a h => pt_row (m := 0) (by decide) rfl a h) ?_)
 refine l_mv rfl rfl rfl (m_appendFlN (F := BodyF) 0 tf43 tf83 (p := (some ⟨b2,0,none⟩)) (m := 0) (xs := []) (ys := xs) (ao := va) (k := xs.length) (c := vc) rfl rfl rfl rfl rfl (Knows.of_base (Elems.mono _ _ _) ve) (by first | omega | simp only [List.length_nil,List.length_cons,List.length_append,List.length_set]; omega) (by first | omega | simp only [List.length_nil,List.length_cons,List.length_append,List.length_set]; omega)) ?_
 rintro _ _ ⟨rp3,rc4,rfl,rfl⟩
 refine lE oas (lnf (c_ret (ret1 Tryz.results37 rfl ?_)))
 intro w hw
 exact ⟨_,_,rfl,st_mask (L' := [rowF BodyF 52 rp3 rc4 xs]) [true] rfl hw⟩
theorem cloneR_ok (β : Base) (w : World) (hw : St β [] w) (v : Value) (xs : List KR) (hs : Sl KRR β.heap v xs) (hn : xs.length ≤ 1048576) : Calls Tryz.prog 38 #[v] w fun r w' => ∃ p c, r = .returned (sB p xs c) ∧ St β [rowF RopeF 78 p c xs] w' := by
 obtain ⟨va,vc,rfl,vl,vm,ve⟩ := hs.get
 refine enter (n := 8) Tryz.func38 rfl Tryz.ntmps38 rfl ?_ hw
 refine csr (lE oas (lnf (cs2 (c_region (lE oms (lv (v := .bool (va.isNone)) (e_eql_snil (a := va) rfl rfl tf45.ok) (lnf ?_)))))))
 refine c_ifb (va.isNone) rfl (fun hc1 => ?_) (fun hc1 => ?_)
 ·refine csr (lE oas (lnf (c_ret (f_then_ret (ret1 Tryz.results38 rfl ?_)))))
  intro w hw
  obtain rfl := nil_empty ve hc1
  exact ⟨none,0,rfl,(st_mask [] rfl hw).emp (row_nil _ _ _)⟩
 refine csk (csr (l_mv rfl rfl rfl (m_slice0 tf46) ?_))
 rintro _ _ ⟨b2,rfl,rfl⟩
 refine lE oms (l_conseq 0 (r' := rowF RopeF 78 (some ⟨b2,0,none⟩) 0 []) rfl (fun a h => pt_row (m := 0) (by decide) rfl a h) ?_)
 refine l_mv rfl rfl rfl (m_appendFlN (F := RopeF) 0 tf46 tf84 (p := (some ⟨b2,0,none⟩)) (m := 0) (xs := []) (ys := xs) (ao := va) (k := xs.length) (c := vc) rfl rfl rfl rfl rfl (Knows.of_base (Elems.mono _ _ _) ve) (by first | omega | simp only [List.length_nil,List.length_cons,List.length_append,List.length_set]; omega) (by first | omega | simp only [List.length_nil,List.length_cons,List.length_append,List.length_set]; omega)) ?_
 rintro _ _ ⟨rp3,rc4,rfl,rfl⟩
 refine lE oas (lnf (c_ret (ret1 Tryz.results38 rfl ?_)))
 intro w hw
 exact ⟨_,_,rfl,st_mask (L' := [rowF RopeF 78 rp3 rc4 xs]) [true] rfl hw⟩
theorem runU_ok (β : Base) (w : World) (hw : St β [] w) (hG : GR β) (v rv : Value) (gx gy : Int) (b : KB) (y : Bool) (s : Int) (bs : List KB) (rs : List KR) (hs_ : Sl KBR β.heap v bs) (hr_ : Sl KRR β.heap rv rs) (hbs : ∀ o ∈ bs, okB o) (hrs : ∀ r ∈ rs, okR bs r) (hs : s = 1 ∨ s = -1) (hb : okB b) (hn : bs.length ≤ 1048576) (most : Nat) (hmo : most ≤ 1048576) (u : Nat × Int) (hu : runP bs rs b y s most = u) : Ret Tryz.prog 41 #[.agg (mC v rv gx gy b y s), Nx most] β w (.tuple #[Nx u.1, Ix u.2]) := by
 subst hu
 exact run_ok β w hw hG v rv gx gy b y s bs rs hs_ hr_ hbs hrs hs hb hn most hmo
theorem atC_ok (β : Base) (w : World) (hw : St β [] w) (v rv : Value) (gx gy : Int) (b : KB) (y : Bool) (s : Int) (hs : s = 1 ∨ s = -1) (hb : okB b) (n : Int) (hn : -1048576 ≤ n ∧ n ≤ 1048576) (c : KB) (hc : sh y b (s * n) = c) : Ret Tryz.prog 42 #[.agg (mC v rv gx gy b y s), Ix n] β w (.agg (bC c)) := by
 subst hc
 exact at_ok β w hw v rv gx gy b y s hs hb n hn
set_option maxHeartbeats 4000000 in
theorem step_ok (β : Base) (w : World) (hw : St β [] w) (v rv : Value) (gx gy : Int) (bs : List KB) (rs : List KR) (hs : Sl KBR β.heap v bs) (hr : Sl KRR β.heap rv rs) (hgx : -9223372036854775808 ≤ gx ∧ gx ≤ 9223372036854775807) (hgy : -9223372036854775808 ≤ gy ∧ gy ≤ 9223372036854775807) (hG : GR β) : Calls Tryz.prog 9 #[.agg #[v, rv, Ix gx, Ix gy]] w fun r w' => (okS bs rs gx gy ∧ ∃ p1 c1 p2 c2 sp sc, r = .returned (.tuple #[.agg #[sB p1 bs c1, sB p2 rs c2, Ix gx, Ix gy], sB sp (stepsTo rs gx gy bs bs.length).2 sc, .int .i64 (0)]) ∧ St β [rowF BodyF 52 p1 c1 (stepsTo rs gx gy bs bs.length).1, rowF RopeF 78 p2 c2 rs, rowF StopF 55 sp sc (stepsTo rs gx gy bs bs.length).2] w') ∨ (¬ okS bs rs gx gy ∧ r = .returned (.tuple #[.agg #[.slice none 0 0, .slice none 0 0, .int .i64 (0), .int .i64 (0)], .slice none 0 0, .int .i64 (2)]) ∧ St β [] w') := by
 obtain ⟨va,vc,rfl,vl,vm,ve⟩ := hs.get
 obtain ⟨rva,rvc,rfl,rvl,rvm,rve⟩ := hr.get
 refine enter (n := 105) Tryz.func9 rfl Tryz.ntmps9 rfl ?_ hw
 refine csr (bxa fun b1 => ?_)
 refine alE fun b2 => lE oas (lE oai (lnf (cs2 (c_region (lE (olg 1) ?_)))))
 refine lcR clA (fun w β1 sb kn hw1 => ivalid_ok β1 w hw1 _ _ gx gy bs rs (Sl.mono _ _ _ _ _ sb (⟨⟨_,_,rfl,vl,vm,ve⟩⟩ : Sl KBR _ _ bs)) (Sl.mono _ _ _ _ _ sb (⟨⟨_,_,rfl,rvl,rvm,rve⟩⟩ : Sl KRR _ _ rs)) hgx hgy) ?_
 refine lE ond (lnf (c_if _ rfl (fun hc3 => ?_) (fun hc3 => ?_)))
 ·refine csr ?_
  refine lv (v := .agg #[.slice none 0 0,.slice none 0 0,.int .i64 (0),.int .i64 (0)]) (e_build tf85.ok tf88 (vs := []) (cells := #[.slice none 0 0,.slice none 0 0,.int .i64 (0),.int .i64 (0)]) rfl rfl) ?_
  refine lu (mS 0 (#[.slice none 0 0,.slice none 0 0,.int .i64 (0),.int .i64 (0)])) (lE oas (lE oai (lnf (c_ret (f_then_ret ?_)))))
  refine retG (m := [.agg #[.slice none 0 0,.slice none 0 0,.int .i64 (0),.int .i64 (0)],.slice none 0 0,.int .i64 (2)]) Tryz.results9 ⟨rd_cell tf86.ok rfl (k_pt 0 rfl rfl) rfl,rd_tmp (v := .slice none 0 0) rfl,rd_tmp (v := .int .i64 (2)) rfl,trivial⟩ rfl ?_
  intro w hw
  exact .inr ⟨hc3,rfl,st_mask [false,false] rfl hw⟩
 refine csk (c_seq ?_)
 have hok := Decidable.not_not.1 hc3
 obtain ⟨o1,o2,o3,o4,o5,o6⟩ := hok
 refine cny [sv 19 (pp b1 0) [] [] [0],sv 20 (sB va bs (vc)) [0] [0] [],⟨[0,1],[1],[],[21],fun f => f 21 = sB (sla (f 21)) bs (slc (f 21))⟩,sv 22 (pp b1 1) [] [] [0],sv 23 (sB rva rs (rvc)) [3] [3] [],⟨[0,1,2,3,4],[4],[],[24],fun f => f 24 = sB (sla (f 24)) rs (slc (f 24))⟩,sv 25 (pp b1 0) [0,1,2,3,4] [] [0],⟨(List.range 7),[6,2],[],[],fun _ => True⟩,sv 26 (pp b1 1) (List.range 8) [] [0],⟨(List.range 9),[8,5],[],[],fun _ => True⟩] [tk (pt b2 (.cells #[.slice none 0 0,.slice none 0 0,.int .i64 (0),.int .i64 (0)] 30)) [],⟨none,(some 7),[1,4,7],[],fun _ => pt b1 (.cells #[sB va bs (vc),sB rva rs (rvc),Ix (gx),Ix (gy)] 30)⟩,⟨(some 2),none,[],[21],fun f => rowF BodyF 52 (sla (f 21)) (slc (f 21)) bs⟩,⟨(some 5),none,[],[24],fun f => rowF RopeF 78 (sla (f 24)) (slc (f 24)) rs⟩,⟨(some 7),(some 9),[9],[21],fun f => pt b1 (.cells #[sB (sla (f 21)) bs (slc (f 21)),sB rva rs (rvc),Ix (gx),Ix (gy)] 30)⟩,⟨(some 9),none,[],[21,24],fun f => pt b1 (.cells #[sB (sla (f 21)) bs (slc (f 21)),sB (sla (f 24)) rs (slc (f 24)),Ix (gx),Ix (gy)] 30)⟩] [(1,pp b1 0),(2,pp b2 0)] [0,1] [] ⟨rfl,rfl,trivial⟩ ⟨?_,?_,?_,?_,?_,?_,?_,?_,?_,?_,trivial⟩ ?_
 ·rintro f M - ⟨i0,-⟩
  exact obE ofp
 ·rintro f M ⟨k0,-⟩ -
  exact obE (ols 0)
 ·rintro f M ⟨k0,-⟩ -
  refine ob_start (L' := M) (by rfl) (up_cons (d := 20) rfl k0) ?_
  refine lcf (cl0 (vs := [sB va bs (vc)]) tf89.ok rfl rfl) rfl fun w β1 sb kn hw1 back => (cloneB_ok β1 w hw1 _ bs (Sl.mono _ _ _ _ _ sb (⟨⟨_,_,rfl,vl,vm,ve⟩⟩ : Sl KBR _ _ bs)) (by omega)).mono ?_
  rintro e w' ⟨p6,c7,rfl,hw'⟩
  refine ⟨_,rfl,_,back _ _ hw',?_⟩
  clear hw1 hw' back kn sb
  refine l_nil ?_
  exact f_owes_d (up_cons (d := 20) rfl k0) rfl (perm_front 0 rfl)
 ·rintro f M - ⟨i0,-⟩
  exact obE ofp
 ·rintro f M ⟨k0,-⟩ -
  exact obE (ols 0)
 ·rintro f M ⟨k0,-⟩ -
  refine ob_start (L' := M) (by rfl) (up_cons (d := 23) rfl k0) ?_
  refine lcf (cl0 (vs := [sB rva rs (rvc)]) tf90.ok rfl rfl) rfl fun w β1 sb kn hw1 back => (cloneR_ok β1 w hw1 _ rs (Sl.mono _ _ _ _ _ sb (⟨⟨_,_,rfl,rvl,rvm,rve⟩⟩ : Sl KRR _ _ rs)) (by omega)).mono ?_
  rintro e w' ⟨p10,c11,rfl,hw'⟩
  refine ⟨_,rfl,_,back _ _ hw',?_⟩
  clear hw1 hw' back kn sb
  refine l_nil ?_
  exact f_owes_d (up_cons (d := 23) rfl k0) rfl (perm_front 0 rfl)
 ·rintro f M - ⟨i0,-⟩
  exact obE ofp
 ·rintro f M ⟨k0,k1,-⟩ -
  have hs21 : f 21 = sB (sla (f 21)) bs (slc (f 21)) := k1
  refine ob_start (L' := pt b1 (.cells #[sB va bs (vc),sB rva rs (rvc),Ix (gx),Ix (gy)] 30) :: M) (by rfl) (up_cons (up_cons (d := 25) rfl k0) hs21) ?_
  refine lu (mS 0 (#[sB (sla (f 21)) bs (slc (f 21)),sB rva rs (rvc),Ix (gx),Ix (gy)])) (l_nil ?_)
  exact f_owes_n (up_cons (up_cons (d := 25) rfl k0) hs21) trivial (perm_front 0 rfl)
 ·rintro f M - ⟨i0,-⟩
  exact obE ofp
 ·rintro f M ⟨k0,k1,-⟩ -
  have hs24 : f 24 = sB (sla (f 24)) rs (slc (f 24)) := k1
  refine ob_start (L' := pt b1 (.cells #[sB (sla (f 21)) bs (slc (f 21)),sB rva rs (rvc),Ix (gx),Ix (gy)] 30) :: M) (by rfl) (up_cons (up_cons (d := 26) rfl k0) hs24) ?_
  refine lu (mS 0 (#[sB (sla (f 21)) bs (slc (f 21)),sB (sla (f 24)) rs (slc (f 24)),Ix (gx),Ix (gy)])) (l_nil ?_)
  exact f_owes_n (up_cons (up_cons (d := 26) rfl k0) hs24) trivial (perm_front 0 rfl)
 rintro fa12 ⟨-,-,-,-,-,-,-,-,-,-,-⟩ ⟨j0,j1,-⟩
 refine f_re (L' := [pt b2 (.cells #[.slice none 0 0,.slice none 0 0,.int .i64 (0),.int .i64 (0)] 30),rowF BodyF 52 (sla (fa12 21)) (slc (fa12 21)) bs,rowF RopeF 78 (sla (fa12 24)) (slc (fa12 24)) rs,pt b1 (.cells #[sB (sla (fa12 21)) bs (slc (fa12 21)),sB (sla (fa12 24)) rs (slc (fa12 24)),Ix (gx),Ix (gy)] 30)]) (by rfl) ?_
 refine f_rebase (d := 1) j0 (f_rebase (d := 2) j1 (fts ?_))
 generalize (sla (fa12 21)) = p1
 generalize (slc (fa12 21)) = c1
 generalize (sla (fa12 24)) = p2
 generalize (slc (fa12 24)) = c2
 refine c_region (lE oas (lnf (cs2 (c_emp (r := rowF StopF 55 none 0 []) (row_nil _ _ _) (c_region (lE ofp (lE (ols 4) (lE oln (lE omi (lnf ?_))))))))))
 refine c_block ?_
 refine c_loop (fun (x_ : Nat × List KB × List KS × Option Addr × Nat) f L => match x_ with | (k,B,S,sp,sc) => (f 1 = pp b1 0 ∧ f 2 = pp b2 0 ∧ f 5 = sB sp S sc ∧ f 28 = sB p1 bs c1 ∧ f 29 = Nx (bs.length) ∧ f 30 = Nx (k)) ∧ L = [rowF StopF 55 sp sc S,pt b2 (.cells #[.slice none 0 0,.slice none 0 0,.int .i64 (0),.int .i64 (0)] 30),rowF BodyF 52 p1 c1 B,rowF RopeF 78 p2 c2 rs,pt b1 (.cells #[sB p1 bs c1,sB p2 rs c2,Ix (gx),Ix (gy)] 30)] ∧ (k ≤ bs.length ∧ B = (stepsTo rs gx gy bs k).1 ∧ S = (stepsTo rs gx gy bs k).2 ∧ SameIds B bs ∧ (∀ o ∈ B,okB o) ∧ S.length ≤ 2 * k)) (fun (k,B,S,sp,sc) => bs.length - k) (0,bs,[],none,0) ?_ ?_
 ·exact ⟨⟨rfl,rfl,rfl,rfl,rfl,rfl⟩,rfl,⟨by omega,rfl,rfl,rfl,o4,by simp⟩⟩
 rintro ⟨k,B,S,sp,sc⟩ f0 L0 ⟨⟨hs1,hs2,hs5,hs28,hs29,hs30⟩,hL,⟨hk,hB,hS,hid,hBok,hSl⟩⟩
 subst L0
 refine rbs 1 hs1 (rbs 2 hs2 (rbs 5 hs5 (rbs 28 hs28 (rbs 29 hs29 (rbs 30 hs30 ?_)))))
 have hl := hid.len
 refine csr (lE olt (lnf (c_seq (c_if _ rfl (fun hc13 => ?_) (fun hc13 => ?_)))))
 ·refine csk (c_seq (c_block (csr (lE omi ?_))))
  refine lv (v := .pointer (some ((ba p1).add (k * 9)))) (e_indexFlN 2 (F := BodyF) rfl (by omega) rfl tf43 (by omega) rfl) ?_
  obtain ⟨x,hx⟩ := getx B k (by omega)
  refine lv (v := .agg (bC x)) (e_load tf22.ok rfl (k_flAt 2 (F := BodyF) rfl hx) rfl) (alE fun b14 => lE oai (lu (mS 0 (bC x)) (lnf (cs2 (c_region ?_)))))
  refine lE ofp (lE (olb 0) (lnf (c_ifb (x.fixed) rfl (fun hc15 => ?_) (fun hc15 => ?_))))
  ·refine c_exit (f_then_exit (f_exit (f_then (c_region (lv (v := Nx (k + 1)) (e_add rfl rfl (i64n (by omega) (by omega))) (lE omi (l_nil ?_)))))))
   refine f_mask [false,true,true,true,true,true] rfl ?_
   exact f_cut ⟨(k + 1,B,S,sp,sc),⟨⟨rfl,rfl,rfl,rfl,rfl,rfl⟩,rfl,⟨by omega,(next_fixed hB hS hx hc15).1,(next_fixed hB hS hx hc15).2,hid,hBok,by omega⟩⟩,(show bs.length - (k + 1) < bs.length - k from by omega)⟩
  refine csk (csr (lE (olg 0) (lE ofp (lE (olg 5) (lcR clA (fun w β1 sb kn hw1 => speed_ok β1 w hw1 x (gx) (gy) (by omega) (by omega)) ?_)))))
  refine alE fun b16 => lu (mS 0 (#[Ix (speedX x (gx) (gy)),Ix (speedY x (gx) (gy))])) (lnf (cs2 ?_))
  obtain ⟨nx,hnx⟩ : ∃ z,z = speedX x gx gy := ⟨_,rfl⟩
  obtain ⟨ny,hny⟩ : ∃ z,z = speedY x gx gy := ⟨_,rfl⟩
  have hsp := speed_bd x gx gy
  rw [← hnx,← hny] at hsp
  have hxok := hBok _ (List.mem_of_getElem? hx)
  rw [← hnx,← hny]
  refine c_region (lcR clA (fun w β1 sb kn hw1 => axes_ok β1 w hw1 b16 0) (lE omi (lnf (c_block (c_mask [true,true,true,true,true,true,true] rfl ?_)))))
  refine c_loop (fun (x_ : Nat × KB × List KS × Int × Int × Option Addr × Nat) f L => match x_ with | (j,C,T,vx,vy,sp2,sc2) => (f 1 = pp b1 0 ∧ f 2 = pp b2 0 ∧ f 5 = sB sp2 T sc2 ∧ f 6 = Nx (k) ∧ f 7 = pp b14 0 ∧ f 8 = pp b16 0 ∧ f 28 = sB p1 bs c1 ∧ f 29 = Nx (bs.length) ∧ f 30 = Nx (k) ∧ f 41 = .agg #[pp b16 0,pp b16 1] ∧ f 42 = Nx (j)) ∧ L = [pt b16 (.cells #[Ix (vx),Ix (vy)] 28),pt b14 (.cells (bC x) 52),rowF StopF 55 sp2 sc2 T,pt b2 (.cells #[.slice none 0 0,.slice none 0 0,.int .i64 (0),.int .i64 (0)] 30),rowF BodyF 52 p1 c1 (B.set k C),rowF RopeF 78 p2 c2 rs,pt b1 (.cells #[sB p1 bs c1,sB p2 rs c2,Ix (gx),Ix (gy)] 30)] ∧ (j ≤ 2 ∧ C = (innerK rs B k x nx ny j).1 ∧ T = S ++ (innerK rs B k x nx ny j).2.1 ∧ vx = (innerK rs B k x nx ny j).2.2.1 ∧ vy = (innerK rs B k x nx ny j).2.2.2 ∧ okB C ∧ C.id = x.id ∧ C.fixed = x.fixed ∧ (-4096 ≤ vx ∧ vx ≤ 4096) ∧ (-4096 ≤ vy ∧ vy ≤ 4096) ∧ T.length ≤ S.length + j)) (fun (j,C,T,vx,vy,sp2,sc2) => 2 - j) (0,x,S,nx,ny,sp,sc) ?_ ?_
  ·exact ⟨⟨rfl,rfl,rfl,rfl,rfl,rfl,rfl,rfl,rfl,rfl,rfl⟩,(by rw [set_self hx]; try rfl),⟨by omega,rfl,by simp [innerK],rfl,rfl,hxok,rfl,rfl,hsp.1,hsp.2,by omega⟩⟩
  rintro ⟨j,C,T,vx,vy,sp2,sc2⟩ f0 L0 ⟨⟨hs1,hs2,hs5,hs6,hs7,hs8,hs28,hs29,hs30,hs41,hs42⟩,hL,⟨hj,hC,hT,hqx,hqy,hCok,hCid,hCf,hvx,hvy,hTl⟩⟩
  subst L0
  refine rbs 1 hs1 (rbs 2 hs2 (rbs 5 hs5 (rbs 6 hs6 (rbs 7 hs7 (rbs 8 hs8 (rbs 28 hs28 (rbs 29 hs29 (rbs 30 hs30 (rbs 41 hs41 (rbs 42 hs42 (csr ?_)))))))))))
  refine lE olt (lnf (c_seq (c_if _ rfl (fun hc17 => ?_) (fun hc17 => ?_))))
  ·refine csk (c_seq (c_block (c_seq ?_)))
   obtain ⟨y,rfl⟩ : ∃ y : Bool,j = y.toNat := ⟨j == 1,(show j = 0 ∨ j = 1 by omega).elim (fun h => by subst h; rfl) fun h => by subst h; rfl⟩
   have hbC := okB_set (k := k) hBok hCok
   have hsC := hid.set hx hCid
   have hrC : ∀ r ∈ rs,okR (B.set k C) r := fun r hr => okR_ids hsC (o6 r hr)
   have hsk := get_set (xs := B) C (by omega : k < B.length)
   obtain ⟨n,hn⟩ : ∃ n,n = if y then vy else vx := ⟨_,rfl⟩
   have hnb : -4096 ≤ n ∧ n ≤ 4096 := by rw [hn]; split <;> omega
   obtain ⟨m,hm⟩ : ∃ m : Nat,max n (0 - n) = (m : Int) := ⟨n.natAbs,by omega⟩
   refine c_region (lE omi ?_)
   refine lv (v := .pointer (some ⟨b16,0 + y.toNat,none⟩)) (ev_eq (by cases y <;> rfl) (e_index_2 (u := pp b16 0) (v := pp b16 1) (y := y) rfl rfl tf61.ok tf64.ok)) ?_
   refine lE oai (lE oap (lnf (c_seq ?_)))
   refine cny [sv 46 (.agg #[sB p1 bs c1,sB p2 rs c2,Ix (gx),Ix (gy)]) [] [] [0],sv 47 (pp b1 0) [] [] [0],sv 48 (sB p1 bs c1) [1] [1] [],sv 49 (Nx (k)) [] [] [1],sv 50 (.pointer (some ((ba p1).add (k * 9)))) [1,2,3] [2,3] [],sv 51 (.agg (bC C)) [1,2,3,4] [4] [],sv 52 (Nx (y.toNat)) [] [] [2],sv 53 (.agg #[sB p1 bs c1,sB p2 rs c2,Ix (gx),Ix (gy),Ix (C.id),Ix (C.x),Ix (C.y),Ix (C.vx),Ix (C.vy),Ix (C.w),Ix (C.h),.bool (C.round),.bool (C.fixed),Nx (y.toNat),.int .i64 (1)]) (List.range 7) [0,5,6] [],⟨[],[],[],[11],fun f => f 11 = .pointer (some ⟨(blk (f 11)),0,none⟩)⟩,⟨(List.range 9),[8,7],[],[],fun _ => True⟩] [tk (pt b16 (.cells #[Ix (vx),Ix (vy)] 28)) [],tk (pt b14 (.cells (bC x) 52)) [],tk (rowF StopF 55 sp2 sc2 T) [],tk (pt b2 (.cells #[.slice none 0 0,.slice none 0 0,.int .i64 (0),.int .i64 (0)] 30)) [],tk (rowF BodyF 52 p1 c1 (B.set k C)) [4,5],tk (rowF RopeF 78 p2 c2 rs) [],tk (pt b1 (.cells #[sB p1 bs c1,sB p2 rs c2,Ix (gx),Ix (gy)] 30)) [0,2],⟨(some 8),(some 9),[9],[11],fun f => pt (blk (f 11)) (.cells #[.slice none 0 0,.slice none 0 0,.int .i64 (0),.int .i64 (0),.int .i64 (0),.int .i64 (0),.int .i64 (0),.int .i64 (0),.int .i64 (0),.int .i64 (0),.int .i64 (0),.bool false,.bool false,.int .i64 (0),.int .i64 (0)] 87)⟩,⟨(some 9),none,[],[11],fun f => pt (blk (f 11)) (.cells #[sB p1 bs c1,sB p2 rs c2,Ix (gx),Ix (gy),Ix (C.id),Ix (C.x),Ix (C.y),Ix (C.vx),Ix (C.vy),Ix (C.w),Ix (C.h),.bool (C.round),.bool (C.fixed),Nx (y.toNat),.int .i64 (1)] 87)⟩] [(1,pp b1 0),(6,Nx (k)),(9,Nx (y.toNat)),(2,pp b2 0),(5,sB sp2 T sc2),(7,pp b14 0),(8,pp b16 0),(10,.pointer (some ⟨b16,0 + y.toNat,none⟩)),(28,sB p1 bs c1),(29,Nx (bs.length)),(30,Nx (k)),(41,.agg #[pp b16 0,pp b16 1]),(42,Nx (y.toNat))] [0,3,4,1,5,6,2,7,8,9,10,11,12] [] ⟨rfl,rfl,rfl,rfl,rfl,rfl,rfl,rfl,rfl,rfl,rfl,rfl,rfl,trivial⟩ ⟨?_,?_,?_,?_,?_,?_,?_,?_,?_,?_,trivial⟩ ?_
   ·rintro f M - ⟨i0,-⟩
    exact obE (olg 0)
   ·rintro f M - ⟨i0,-⟩
    exact obE ofp
   ·rintro f M ⟨k0,-⟩ -
    exact obE (ols 0)
   ·rintro f M - ⟨i0,-⟩
    exact obE omi
   ·rintro f M ⟨k0,k1,-⟩ -
    exact obv (L' := rowF BodyF 52 p1 c1 (B.set k C) :: M) (up_cons (d := 49) (up_cons (d := 48) rfl k0) k1) rfl (e_indexFlN 0 (F := BodyF) (j := k) (m := bs.length) (xs := (B.set k C)) rfl (by simp only [sB,List.length_set]; omega) rfl tf43 (by omega) rfl) (perm_front 0 rfl) (by rfl)
   ·rintro f M ⟨k0,-⟩ -
    exact obv (L' := rowF BodyF 52 p1 c1 (B.set k C) :: M) (up_cons (d := 50) rfl k0) rfl (e_load tf22.ok rfl (k_flAt 0 (F := BodyF) rfl hsk) rfl) (perm_front 0 rfl) (by rfl)
   ·rintro f M - ⟨i0,-⟩
    exact obE omi
   ·rintro f M ⟨k0,k1,k2,-⟩ -
    exact ob0 (up_cons (d := 52) (up_cons (d := 51) (up_cons (d := 46) rfl k0) k1) k2) rfl (e_build tf93.ok tf92 (vs := [(0,.agg #[sB p1 bs c1,sB p2 rs c2,Ix (gx),Ix (gy)]),(1,.agg (bC C)),(2,Nx (y.toNat)),(3,.int .i64 (1))]) (cells := #[sB p1 bs c1,sB p2 rs c2,Ix (gx),Ix (gy),Ix (C.id),Ix (C.x),Ix (C.y),Ix (C.vx),Ix (C.vy),Ix (C.w),Ix (C.h),.bool (C.round),.bool (C.fixed),Nx (y.toNat),.int .i64 (1)]) rfl (by kernel_rfl)) (.refl _)
   ·rintro f M - -
    refine ob_start (L' := M) (by rfl) rfl (alE fun b19 => l_nil ?_)
    exact f_owes_d rfl rfl (perm_front 0 rfl)
   ·rintro f M ⟨k0,k1,-⟩ -
    have hs11 : f 11 = .pointer (some ⟨(blk (f 11)),0,none⟩) := k0
    refine ob_start (L' := pt (blk (f 11)) (.cells #[.slice none 0 0,.slice none 0 0,.int .i64 (0),.int .i64 (0),.int .i64 (0),.int .i64 (0),.int .i64 (0),.int .i64 (0),.int .i64 (0),.int .i64 (0),.int .i64 (0),.bool false,.bool false,.int .i64 (0),.int .i64 (0)] 87) :: M) (by rfl) (up_cons (d := 53) (up_cons rfl hs11) k1) ?_
    refine lu (mS 0 (#[sB p1 bs c1,sB p2 rs c2,Ix (gx),Ix (gy),Ix (C.id),Ix (C.x),Ix (C.y),Ix (C.vx),Ix (C.vy),Ix (C.w),Ix (C.h),.bool (C.round),.bool (C.fixed),Nx (y.toNat),.int .i64 (1)])) ?_
    refine l_nil ?_
    exact f_owes_n (up_cons (d := 53) (up_cons rfl hs11) k1) trivial (perm_front 0 rfl)
   rintro fa20 ⟨-,-,-,-,-,-,-,-,k8,-,-⟩ ⟨j0,j1,j2,j3,j4,j5,j6,j7,j8,j9,j10,j11,j12,-⟩
   refine f_re (L' := [pt b16 (.cells #[Ix (vx),Ix (vy)] 28),pt b14 (.cells (bC x) 52),rowF StopF 55 sp2 sc2 T,pt b2 (.cells #[.slice none 0 0,.slice none 0 0,.int .i64 (0),.int .i64 (0)] 30),rowF BodyF 52 p1 c1 (B.set k C),rowF RopeF 78 p2 c2 rs,pt b1 (.cells #[sB p1 bs c1,sB p2 rs c2,Ix (gx),Ix (gy)] 30),pt (blk (fa20 11)) (.cells #[sB p1 bs c1,sB p2 rs c2,Ix (gx),Ix (gy),Ix (C.id),Ix (C.x),Ix (C.y),Ix (C.vx),Ix (C.vy),Ix (C.w),Ix (C.h),.bool (C.round),.bool (C.fixed),Nx (y.toNat),.int .i64 (1)] 87)]) (by rfl) ?_
   refine f_rebase (d := 1) j0 (f_rebase (d := 2) j1 (f_rebase (d := 5) j2 (f_rebase (d := 6) j3 (f_rebase (d := 7) j4 (f_rebase (d := 8) j5 ?_)))))
   refine f_rebase (d := 9) j6 (f_rebase (d := 10) j7 (f_rebase (d := 11) k8 (f_rebase (d := 28) j8 (f_rebase (d := 29) j9 (f_rebase (d := 30) j10 ?_)))))
   refine f_rebase (d := 41) j11 (f_rebase (d := 42) j12 (f_then ?_))
   refine c_seq_cut (fun (f : Fm) (L : List Res) => ∃ s,(f 1 = pp b1 0 ∧ f 2 = pp b2 0 ∧ f 5 = sB sp2 T sc2 ∧ f 6 = Nx (k) ∧ f 7 = pp b14 0 ∧ f 8 = pp b16 0 ∧ f 9 = Nx (y.toNat) ∧ f 10 = .pointer (some ⟨b16,0 + y.toNat,none⟩) ∧ f 11 = .pointer (some ⟨(blk (fa20 11)),0,none⟩) ∧ f 28 = sB p1 bs c1 ∧ f 29 = Nx (bs.length) ∧ f 30 = Nx (k) ∧ f 41 = .agg #[pp b16 0,pp b16 1] ∧ f 42 = Nx (y.toNat)) ∧ L = [pt b16 (.cells #[Ix (vx),Ix (vy)] 28),pt b14 (.cells (bC x) 52),rowF StopF 55 sp2 sc2 T,pt b2 (.cells #[.slice none 0 0,.slice none 0 0,.int .i64 (0),.int .i64 (0)] 30),rowF BodyF 52 p1 c1 (B.set k C),rowF RopeF 78 p2 c2 rs,pt b1 (.cells #[sB p1 bs c1,sB p2 rs c2,Ix (gx),Ix (gy)] 30),pt (blk (fa20 11)) (.cells (mC (sB p1 bs c1) (sB p2 rs c2) gx gy C y s) 87)] ∧ s = sgn n) ?_ ?_
   ·refine csr (lE omp (lE onp (lv (v := Ix (n)) (e_load1 tf2.ok rfl (k_pt 0 rfl (by rw [hn]; cases y <;> rfl))) (lE olt (lnf ?_)))))
    refine c_if _ rfl (fun hc21 => ?_) (fun hc21 => ?_)
    ·refine c_region (lE ofp ?_)
     refine lu (mS 7 (#[sB p1 bs c1,sB p2 rs c2,Ix (gx),Ix (gy),Ix (C.id),Ix (C.x),Ix (C.y),Ix (C.vx),Ix (C.vy),Ix (C.w),Ix (C.h),.bool (C.round),.bool (C.fixed),Nx (y.toNat),.int .i64 (-1)])) ?_
     refine l_nil ?_
     exact f_cut ⟨-1,⟨rfl,rfl,rfl,rfl,rfl,rfl,rfl,rfl,rfl,rfl,rfl,rfl,rfl,rfl⟩,rfl,by unfold sgn; rw [if_pos]; exact hc21⟩
    refine c_skip ?_
    exact f_cut ⟨1,⟨rfl,rfl,rfl,rfl,rfl,rfl,rfl,rfl,rfl,rfl,rfl,rfl,rfl,rfl⟩,rfl,by unfold sgn; rw [if_neg]; exact hc21⟩
   rintro f0 L0 ⟨s,⟨hs1,hs2,hs5,hs6,hs7,hs8,hs9,hs10,hs11,hs28,hs29,hs30,hs41,hs42⟩,hL,hsn⟩
   subst L0
   refine rbs 1 hs1 (rbs 2 hs2 (rbs 5 hs5 (rbs 6 hs6 (rbs 7 hs7 (rbs 8 hs8 (rbs 9 hs9 (rbs 10 hs10 (rbs 11 hs11 (rbs 28 hs28 (rbs 29 hs29 ?_))))))))))
   refine rbs 30 hs30 (rbs 41 hs41 (rbs 42 hs42 ?_))
   have hs1 : s = 1 ∨ s = -1 := hsn ▸ sgn_or n
   refine c_seq (c_quiet (by kernel_rfl) (by kernel_rfl) (qE omp (qE onp ?_)))
   refine q_val (v := Ix (n)) rfl rfl rfl (e_load1 tf2.ok rfl (k_pt 0 rfl (by rw [hn]; cases y <;> rfl))) (qE omp (qE onp ?_))
   refine q_val (v := Ix (n)) rfl rfl rfl (e_load1 tf2.ok rfl (k_pt 0 rfl (by rw [hn]; cases y <;> rfl))) ?_
   refine q_val (v := Ix (0 - (n))) rfl rfl rfl (e_neg (a := (n)) rfl (i64w (by omega))) ?_
   refine q_val (v := Nx (m)) rfl rfl rfl (ev_eq (congrArg (Value.int .i64) hm) (e_max (a := (n)) (b := (0 - (n))) rfl rfl)) (qE oai (q_nil (ftc ?_)))
   refine lE (olg 7) (lE omi (l_call rfl rfl rfl (cl0 (vs := [.agg (mC (sB p1 bs c1) (sB p2 rs c2) gx gy C y s),Nx (m)]) tf94.ok rfl rfl) ?_))
   intro w hw
   obtain ⟨β1,sb,kn,hw1,back⟩ := St.frame_all hw
   obtain ⟨u,hu⟩ : ∃ u,runP (B.set k C) rs C y s m = u := ⟨_,rfl⟩
   refine (runU_ok β1 w hw1 (GR.mono sb hG) _ _ _ _ C y s (B.set k C) rs (kn _ (k_flN 4 (F := BodyF) (m := bs.length) (xs := (B.set k C)) rfl (by simp only [sB,List.length_set]; omega))) (kn _ (k_flN 5 (F := RopeF) (m := rs.length) (xs := rs) rfl rfl)) hbC hrC hs1 hCok (by simp only [sB,List.length_set]; omega) m (by omega) u hu).mono ?_
   rintro e w' ⟨rfl,hw'⟩
   refine ⟨_,rfl,_,back _ _ hw',?_⟩
   clear hw hw1 hw' back kn sb
   have hu1 : u.1 ≤ m := by rw [← hu]; exact (runP_M (rs := rs) hsn hm hCok hbC).1
   refine lE omt (lE oxi (lE oxi (lE oai (lE oai (lnf (c_seq ?_))))))
   obtain ⟨C2,hC2⟩ : ∃ z,sh y C (s * ((u.1 : Nat) : Int)) = z := ⟨_,rfl⟩
   refine cny [sv 73 (pp b1 0) [] [] [0],sv 74 (sB p1 bs c1) [0] [0] [],sv 75 (Nx (k)) [] [] [1],sv 76 (.agg (mC (sB p1 bs c1) (sB p2 rs c2) gx gy C y s)) [] [] [2],sv 77 (Nx (u.1)) [] [] [3],sv 78 (.agg (bC C2)) [3,4] [3,4] [],sv 79 (.pointer (some ((ba p1).add (k * 9)))) (List.range 6) [1,2] [],⟨(List.range 7),[6,5],[],[],fun _ => True⟩] [tk (pt b16 (.cells #[Ix (vx),Ix (vy)] 28)) [],tk (pt b14 (.cells (bC x) 52)) [],tk (rowF StopF 55 sp2 sc2 T) [],tk (pt b2 (.cells #[.slice none 0 0,.slice none 0 0,.int .i64 (0),.int .i64 (0)] 30)) [],⟨none,(some 7),[6,7],[],fun _ => rowF BodyF 52 p1 c1 (B.set k C)⟩,tk (rowF RopeF 78 p2 c2 rs) [],tk (pt b1 (.cells #[sB p1 bs c1,sB p2 rs c2,Ix (gx),Ix (gy)] 30)) [1],tk (pt (blk (fa20 11)) (.cells (mC (sB p1 bs c1) (sB p2 rs c2) gx gy C y s) 87)) [3],⟨(some 7),none,[],[],fun _ => rowF BodyF 52 p1 c1 (B.set k C2)⟩] [(1,pp b1 0),(6,Nx (k)),(11,.pointer (some ⟨(blk (fa20 11)),0,none⟩)),(13,Nx (u.1)),(2,pp b2 0),(5,sB sp2 T sc2),(7,pp b14 0),(8,pp b16 0),(9,Nx (y.toNat)),(10,.pointer (some ⟨b16,0 + y.toNat,none⟩)),(12,Nx (m)),(14,Ix (u.2)),(28,sB p1 bs c1),(29,Nx (bs.length)),(30,Nx (k)),(41,.agg #[pp b16 0,pp b16 1]),(42,Nx (y.toNat))] [0,4,5,1,6,7,8,9,10,3,11,12,13,14,15,16] [] ⟨rfl,rfl,rfl,rfl,rfl,rfl,rfl,rfl,rfl,rfl,rfl,rfl,rfl,rfl,rfl,rfl,rfl,trivial⟩ ⟨?_,?_,?_,?_,?_,?_,?_,?_,trivial⟩ ?_
   ·rintro f M - ⟨i0,-⟩
    exact obE ofp
   ·rintro f M ⟨k0,-⟩ -
    exact obE (ols 0)
   ·rintro f M - ⟨i0,-⟩
    exact obE omi
   ·rintro f M - ⟨i0,-⟩
    exact obE (olg 0)
   ·rintro f M - ⟨i0,-⟩
    exact obE omi
   ·rintro f M ⟨k0,k1,-⟩ -
    refine ob_start (L' := M) (by rfl) (up_cons (d := 77) (up_cons (d := 76) rfl k0) k1) ?_
    refine lcR clA (fun w β1 sb kn hw1 => atC_ok β1 w hw1 _ _ _ _ C y s hs1 hCok ((u.1 : Nat) : Int) (by omega) C2 hC2) (l_nil ?_)
    exact f_owes_d (up_cons (d := 77) (up_cons (d := 76) rfl k0) k1) rfl (List.Perm.refl _)
   ·rintro f M ⟨k0,k1,-⟩ -
    exact obv (L' := rowF BodyF 52 p1 c1 (B.set k C) :: M) (up_cons (d := 75) (up_cons (d := 74) rfl k0) k1) rfl (e_indexFlN 0 (F := BodyF) (j := k) (m := bs.length) (xs := (B.set k C)) rfl (by simp only [sB,List.length_set]; omega) rfl tf43 (by omega) rfl) (perm_front 0 rfl) (by rfl)
   ·rintro f M ⟨k0,k1,-⟩ -
    refine ob_start (L' := rowF BodyF 52 p1 c1 (B.set k C) :: M) (by rfl) (up_cons (d := 78) (up_cons (d := 79) rfl k0) k1) ?_
    refine lu (m_storeFl 0 (F := BodyF) (p := p1) (k := k) (xs := (B.set k C)) (z := C2) tf22.ok rfl rfl rfl rfl (by simp only [sB,List.length_set]; omega)) ?_
    refine l_re (L' := (rowF BodyF 52 p1 c1 (B.set k C2) :: M)) (by show (_ :: _ : List Res) = _; simp only [sB,rB,List.set_set,List.set_cons_zero,List.set_cons_succ]) ?_
    refine l_nil ?_
    exact f_owes_n (up_cons (d := 78) (up_cons (d := 79) rfl k0) k1) trivial (perm_front 0 rfl)
   rintro fa22 ⟨-,-,-,-,-,-,-,-,-⟩ ⟨j0,j1,j2,j3,j4,j5,j6,j7,j8,j9,j10,j11,j12,j13,j14,j15,-⟩
   refine f_re (L' := [pt b16 (.cells #[Ix (vx),Ix (vy)] 28),pt b14 (.cells (bC x) 52),rowF StopF 55 sp2 sc2 T,pt b2 (.cells #[.slice none 0 0,.slice none 0 0,.int .i64 (0),.int .i64 (0)] 30),rowF RopeF 78 p2 c2 rs,pt b1 (.cells #[sB p1 bs c1,sB p2 rs c2,Ix (gx),Ix (gy)] 30),pt (blk (fa20 11)) (.cells (mC (sB p1 bs c1) (sB p2 rs c2) gx gy C y s) 87),rowF BodyF 52 p1 c1 (B.set k C2)]) (by rfl) ?_
   refine f_rebase (d := 1) j0 (f_rebase (d := 2) j1 (f_rebase (d := 5) j2 (f_rebase (d := 6) j3 (f_rebase (d := 7) j4 (f_rebase (d := 8) j5 ?_)))))
   refine f_rebase (d := 9) j6 (f_rebase (d := 10) j7 (f_rebase (d := 12) j8 (f_rebase (d := 13) j9 (f_rebase (d := 14) j10 (f_rebase (d := 28) j11 ?_)))))
   refine f_rebase (d := 29) j12 (f_rebase (d := 30) j13 (f_rebase (d := 41) j14 (f_rebase (d := 42) j15 (ftc (lE omi (lE omi (lE olt (lnf ?_))))))))
   refine c_if _ rfl (fun hc23 => ?_) (fun hc23 => ?_)
   ·refine c_seq ?_
    refine cny [sv 83 (sB sp2 T sc2) [] [] [0],sv 84 (pp b14 0) [] [] [1],sv 85 (Ix (x.id)) [1] [1] [],sv 86 (.agg #[.int .u8 (1),.int .u8 (2)]) [] [] [],sv 87 (Nx (y.toNat)) [] [] [2],sv 88 (Bx (if y then 2 else 1)) [3,4] [3,4] [],sv 89 (Ix (u.2)) [] [] [3],sv 90 (.agg #[Ix (x.id),Bx (if y then 2 else 1),Ix (u.2)]) [1,2,3,4,5,6] [2,5,6] [],⟨[1,2,3,4,5,6,7],[7],[],[91],fun f => f 91 = .slice (some ⟨(blk (f 91)),0,none⟩) 1 1⟩,⟨(List.range 9),[0,8],[],[92],fun f => f 92 = sB (sla (f 92)) (T ++ [(⟨x.id,if y then 2 else 1,u.2⟩ : KS)]) (slc (f 92))⟩,⟨(List.range 10),[9],[],[5,92],fun f => f 5 = sB (sla (f 92)) (T ++ [(⟨x.id,if y then 2 else 1,u.2⟩ : KS)]) (slc (f 92))⟩] [tk (pt b16 (.cells #[Ix (vx),Ix (vy)] 28)) [],tk (pt b14 (.cells (bC x) 52)) [2],⟨none,(some 9),[9],[],fun _ => rowF StopF 55 sp2 sc2 T⟩,tk (pt b2 (.cells #[.slice none 0 0,.slice none 0 0,.int .i64 (0),.int .i64 (0)] 30)) [],tk (rowF RopeF 78 p2 c2 rs) [],tk (pt b1 (.cells #[sB p1 bs c1,sB p2 rs c2,Ix (gx),Ix (gy)] 30)) [],tk (pt (blk (fa20 11)) (.cells (mC (sB p1 bs c1) (sB p2 rs c2) gx gy C y s) 87)) [],tk (rowF BodyF 52 p1 c1 (B.set k C2)) [],⟨(some 8),none,[9],[91],fun f => pt (blk (f 91)) (.cells #[Ix (x.id),Bx (if y then 2 else 1),Ix (u.2)] 55)⟩,⟨(some 9),none,[],[92],fun f => rowF StopF 55 (sla (f 92)) (slc (f 92)) (T ++ [(⟨x.id,if y then 2 else 1,u.2⟩ : KS)])⟩] [(5,sB sp2 T sc2),(7,pp b14 0),(9,Nx (y.toNat)),(14,Ix (u.2)),(1,pp b1 0),(2,pp b2 0),(6,Nx (k)),(8,pp b16 0),(10,.pointer (some ⟨b16,0 + y.toNat,none⟩)),(28,sB p1 bs c1),(29,Nx (bs.length)),(30,Nx (k)),(41,.agg #[pp b16 0,pp b16 1]),(42,Nx (y.toNat))] [4,5,6,1,7,8,9,10,11,12,13] [] ⟨rfl,rfl,rfl,rfl,rfl,rfl,rfl,rfl,rfl,rfl,rfl,rfl,rfl,rfl,trivial⟩ ⟨?_,?_,?_,?_,?_,?_,?_,?_,?_,?_,?_,trivial⟩ ?_
    ·rintro f M - ⟨i0,-⟩
     exact obE oms
    ·rintro f M - ⟨i0,-⟩
     exact obE ofp
    ·rintro f M ⟨k0,-⟩ -
     exact obE (oli 0)
    ·rintro f M - -
     exact ob0 rfl rfl (e_build_a tf96.ok tf95.ok (vs := [(0,.int .u8 (1)),(1,.int .u8 (2))]) (cells := #[.int .u8 (1),.int .u8 (2)]) rfl rfl) (.refl _)
    ·rintro f M - ⟨i0,-⟩
     exact obE omi
    ·rintro f M ⟨k0,k1,-⟩ -
     exact ob0 (up_cons (d := 87) (up_cons (d := 86) rfl k0) k1) rfl (ev_eq (by cases y <;> rfl) (e_index_2 (u := .int .u8 (1)) (v := .int .u8 (2)) (y := y) rfl rfl tf95.ok tf97.ok)) (.refl _)
    ·rintro f M - ⟨i0,-⟩
     exact obE omi
    ·rintro f M ⟨k0,k1,k2,-⟩ -
     exact ob0 (up_cons (d := 89) (up_cons (d := 88) (up_cons (d := 85) rfl k0) k1) k2) rfl (e_build tf99.ok tf98 (vs := [(0,Ix (x.id)),(1,Bx (if y then 2 else 1)),(2,Ix (u.2))]) (cells := #[Ix (x.id),Bx (if y then 2 else 1),Ix (u.2)]) rfl rfl) (.refl _)
    ·rintro f M ⟨k0,-⟩ -
     refine ob_start (L' := M) (by rfl) (up_cons (d := 90) rfl k0) ?_
     refine l_mv rfl rfl rfl (m_slices tf100 tf99.ok (cells := #[Ix (x.id),Bx (if y then 2 else 1),Ix (u.2)]) rfl rfl rfl rfl) ?_
     rintro _ _ ⟨b25,rfl,rfl⟩
     refine l_nil ?_
     exact f_owes_d (up_cons (d := 90) rfl k0) rfl (perm_front 0 rfl)
    ·rintro f M ⟨k0,k1,-⟩ -
     have hs91 : f 91 = .slice (some ⟨(blk (f 91)),0,none⟩) 1 1 := k1
     refine ob_start (L' := rowF StopF 55 sp2 sc2 T :: pt (blk (f 91)) (.cells #[Ix (x.id),Bx (if y then 2 else 1),Ix (u.2)] 55) :: M) (by rfl) (up_cons (up_cons (d := 83) rfl k0) hs91) ?_
     refine l_mv rfl rfl rfl (m_appendFlN (F := StopF) 0 tf100 tf101 (p := sp2) (m := T.length) (xs := T) (ys := [(⟨x.id,if y then 2 else 1,u.2⟩ : KS)]) (ao := (some ⟨(blk (f 91)),0,none⟩)) (k := 1) (c := 1) rfl rfl rfl rfl rfl (k_ptFl (z := (⟨x.id,if y then 2 else 1,u.2⟩ : KS)) 1 rfl rfl) (by first | omega | simp only [List.length_nil,List.length_cons,List.length_append,List.length_set]; omega) (by first | omega | simp only [List.length_nil,List.length_cons,List.length_append,List.length_set]; omega)) ?_
     rintro _ _ ⟨rp28,rc29,rfl,rfl⟩
     refine l_nil ?_
     exact f_owes_d (up_cons (up_cons (d := 83) rfl k0) hs91) rfl ((perm_front 0 rfl).trans (perm_front 1 rfl))
    ·rintro f M ⟨k0,-⟩ -
     have hs92 : f 92 = sB (sla (f 92)) (T ++ [(⟨x.id,if y then 2 else 1,u.2⟩ : KS)]) (slc (f 92)) := k0
     exact obE oas
    rintro fa30 ⟨-,-,-,-,-,-,-,-,-,-,k10,-⟩ ⟨j0,j1,j2,j3,j4,j5,j6,j7,j8,j9,j10,-⟩
    refine f_re (L' := [pt b16 (.cells #[Ix (vx),Ix (vy)] 28),pt b14 (.cells (bC x) 52),pt b2 (.cells #[.slice none 0 0,.slice none 0 0,.int .i64 (0),.int .i64 (0)] 30),rowF RopeF 78 p2 c2 rs,pt b1 (.cells #[sB p1 bs c1,sB p2 rs c2,Ix (gx),Ix (gy)] 30),pt (blk (fa20 11)) (.cells (mC (sB p1 bs c1) (sB p2 rs c2) gx gy C y s) 87),rowF BodyF 52 p1 c1 (B.set k C2),pt (blk (fa30 91)) (.cells #[Ix (x.id),Bx (if y then 2 else 1),Ix (u.2)] 55),rowF StopF 55 (sla (fa30 92)) (slc (fa30 92)) (T ++ [(⟨x.id,if y then 2 else 1,u.2⟩ : KS)])]) (by rfl) ?_
    refine f_rebase (d := 1) j0 (f_rebase (d := 2) j1 (f_rebase (d := 5) k10 (f_rebase (d := 6) j2 (f_rebase (d := 7) j3 (f_rebase (d := 8) j4 ?_)))))
    refine f_rebase (d := 10) j5 (f_rebase (d := 28) j6 (f_rebase (d := 29) j7 (f_rebase (d := 30) j8 (f_rebase (d := 41) j9 (f_rebase (d := 42) j10 ?_)))))
    refine f_then (c_region (lE omp (lE onp ?_)))
    refine lu (m_store 0 tf2.ok (cs' := #[Ix (if y then vx else 0),Ix (if y then 0 else vy)]) rfl rfl rfl rfl (by cases y <;> rfl) rfl (by cases y <;> rfl)) ?_
    refine l_nil (f_block (f_then (c_region (lv (v := Nx (y.toNat + 1)) (e_add rfl rfl (i64n (by omega) (by omega))) (lE omi (l_nil ?_))))))
    refine f_perm (L' := [pt b16 (.cells #[Ix (if y then vx else 0),Ix (if y then 0 else vy)] 28),pt b14 (.cells (bC x) 52),rowF StopF 55 (sla (fa30 92)) (slc (fa30 92)) (T ++ [(⟨x.id,if y then 2 else 1,u.2⟩ : KS)]),pt b2 (.cells #[.slice none 0 0,.slice none 0 0,.int .i64 (0),.int .i64 (0)] 30),rowF BodyF 52 p1 c1 (B.set k C2),rowF RopeF 78 p2 c2 rs,pt b1 (.cells #[sB p1 bs c1,sB p2 rs c2,Ix (gx),Ix (gy)] 30),pt (blk (fa20 11)) (.cells (mC (sB p1 bs c1) (sB p2 rs c2) gx gy C y s) 87),pt (blk (fa30 91)) (.cells #[Ix (x.id),Bx (if y then 2 else 1),Ix (u.2)] 55)]) (perm_ix [0,1,8,2,6,3,4,5,7] 9 rfl (by kernel_rfl) (by kernel_rfl)) ?_
    refine f_mask [true,true,true,true,true,true,true,false,false] rfl ?_
    have hi := inner_yes (k := k) (id := x.id) (S := S) hC hT hqx hqy hn hsn hm hu hC2 hCok hbC (by omega)
    rw [← innerK_succ] at hi
    exact f_cut ⟨(y.toNat + 1,C2,(T ++ [(⟨x.id,if y then 2 else 1,u.2⟩ : KS)]),if y then vx else 0,if y then 0 else vy,(sla (fa30 92)),(slc (fa30 92))),⟨⟨rfl,rfl,rfl,rfl,rfl,rfl,rfl,rfl,rfl,rfl,rfl⟩,rfl,⟨by omega,hi.1,hi.2.1,hi.2.2.1,hi.2.2.2,inner_ok hsn hm hu hC2 hCok hbC,by rw [← hC2,sh_id]; exact hCid,by rw [← hC2,(sh_vel _ _ _).2.2]; exact hCf,by split <;> omega,by split <;> omega,by rw [List.length_append]; simp only [sB,rB,List.length_cons,List.length_nil]; omega⟩⟩,(show 2 - (y.toNat + 1) < 2 - y.toNat by omega)⟩
   refine c_skip (f_block (f_then (c_region (lv (v := Nx (y.toNat + 1)) (e_add rfl rfl (i64n (by omega) (by omega))) (lE omi (l_nil ?_))))))
   refine f_perm (L' := [pt b16 (.cells #[Ix (vx),Ix (vy)] 28),pt b14 (.cells (bC x) 52),rowF StopF 55 sp2 sc2 T,pt b2 (.cells #[.slice none 0 0,.slice none 0 0,.int .i64 (0),.int .i64 (0)] 30),rowF BodyF 52 p1 c1 (B.set k C2),rowF RopeF 78 p2 c2 rs,pt b1 (.cells #[sB p1 bs c1,sB p2 rs c2,Ix (gx),Ix (gy)] 30),pt (blk (fa20 11)) (.cells (mC (sB p1 bs c1) (sB p2 rs c2) gx gy C y s) 87)]) (perm_ix [0,1,2,3,7,4,5,6] 8 rfl (by kernel_rfl) (by kernel_rfl)) ?_
   refine f_mask [true,true,true,true,true,true,true,false] rfl ?_
   have hi := inner_no (k := k) (id := x.id) (S := S) hC hT hqx hqy hn hsn hm hu hC2 hCok hbC (by omega)
   rw [← innerK_succ] at hi
   exact f_cut ⟨(y.toNat + 1,C2,T,vx,vy,sp2,sc2),⟨⟨rfl,rfl,rfl,rfl,rfl,rfl,rfl,rfl,rfl,rfl,rfl⟩,rfl,⟨by omega,hi.1,hi.2.1,hi.2.2.1,hi.2.2.2,inner_ok hsn hm hu hC2 hCok hbC,by rw [← hC2,sh_id]; exact hCid,by rw [← hC2,(sh_vel _ _ _).2.2]; exact hCf,by omega,by omega,by omega⟩⟩,(show 2 - (y.toNat + 1) < 2 - y.toNat by omega)⟩
  refine c_exit (f_then_exit (f_then_exit (f_exit (f_then ?_))))
  obtain rfl : j = 2 := by omega
  have hl2 : (B.set k C).length = bs.length := by simp only [sB,List.length_set]; omega
  have hsk := get_set (xs := B) C (by omega : k < B.length)
  have hnext := next_move hB hS hx hc15 hnx hny hC hT hqx hqy
  refine c_region (lE ofp (lE (ols 6) (lE omi (lE (olg 0) ?_))))
  refine lv (v := .pointer (some ((ba p1).add (k * 9)))) (e_indexFlN 4 (F := BodyF) rfl (by simp only [sB,List.length_set]; omega) rfl tf43 (by omega) rfl) ?_
  refine lE ofd ?_
  refine lu (m_storeFlPart 4 (F := BodyF) (p := p1) (k := k) (o := 3) (xs := (B.set k C)) (z0 := C) (z := (withV C vx vy)) tf15.ok rfl rfl rfl rfl rfl hsk (by decide) rfl) ?_
  refine l_re (L' := [pt b16 (.cells #[Ix (vx),Ix (vy)] 28),pt b14 (.cells (bC x) 52),rowF StopF 55 sp2 sc2 T,pt b2 (.cells #[.slice none 0 0,.slice none 0 0,.int .i64 (0),.int .i64 (0)] 30),rowF BodyF 52 p1 c1 (B.set k (withV C vx vy)),rowF RopeF 78 p2 c2 rs,pt b1 (.cells #[sB p1 bs c1,sB p2 rs c2,Ix (gx),Ix (gy)] 30)]) (by show (_ :: _ : List Res) = _; simp only [sB,rB,List.set_set,List.set_cons_zero,List.set_cons_succ]) ?_
  refine l_nil (f_block (f_then (c_region (lv (v := Nx (k + 1)) (e_add rfl rfl (i64n (by omega) (by omega))) (lE omi (l_nil ?_))))))
  refine f_mask [false,false,true,true,true,true,true] rfl ?_
  exact f_cut ⟨(k + 1,(B.set k (withV C vx vy)),T,sp2,sc2),⟨⟨rfl,rfl,rfl,rfl,rfl,rfl⟩,rfl,⟨by omega,hnext.1,hnext.2,hid.set hx (show (withV C vx vy).id = x.id from hCid),okB_set hBok (okB_withV hCok (by rw [hCf]; exact hc15) hvx hvy),by omega⟩⟩,(show bs.length - (k + 1) < bs.length - k from by omega)⟩
 refine c_exit (f_then_exit (f_then_exit (f_exit (ftc (lE (olg 4) (lE oms (lu (mS 1 (#[sB p1 bs c1,sB p2 rs c2,Ix (gx),Ix (gy)])) (lE oas (lE oai ?_)))))))))
 refine lnf (c_ret ?_)
 refine retG (m := [.agg #[sB p1 bs c1,sB p2 rs c2,Ix (gx),Ix (gy)],sB sp S sc,.int .i64 (0)]) Tryz.results9 ⟨rd_cell tf86.ok rfl (k_pt 1 rfl rfl) rfl,rd_tmp (v := sB sp S sc) rfl,rd_tmp (v := .int .i64 (0)) rfl,trivial⟩ rfl ?_
 intro w hw
 obtain rfl : k = bs.length := by omega
 subst hS
 refine .inl ⟨⟨o1,o2,o3,o4,o5,o6⟩,p1,c1,p2,c2,sp,sc,rfl,?_⟩
 have hw2 := st_mask (L' := [rowF StopF 55 sp sc ((stepsTo rs gx gy bs bs.length).2),rowF BodyF 52 p1 c1 B,rowF RopeF 78 p2 c2 rs]) [true,false,true,true,false] rfl hw
 rw [hB] at hw2
 exact hw2.perm (perm_ix [1,2,0] 3 rfl (by kernel_rfl) (by kernel_rfl))
end Go.Proofs
