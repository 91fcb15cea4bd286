/-
 A body on its way: at,least,blocked. Printed by a program of my own.
-/
import Derived.Test.YtdkibofhppgbjaaGreatDoorSt3
import Derived.Test.YtdkibofhppgbjaaGreatDoorSlB
namespace Go.Proofs
open Go Go.Sl Go.Stp
instance tf60 : ZerC Tryz.prog 83 (.agg #[.pointer none, .pointer none]) := ⟨by kernel_rfl⟩
instance tf61 : ArrC Tryz.prog 83 2 82 1 := ⟨by kernel_rfl⟩
instance tf62 : TyC Tryz.prog 83 true 2 := ⟨by kernel_rfl⟩
instance tf63 : CfC Tryz.prog 40 := ⟨by kernel_rfl⟩
instance tf64 : TyC Tryz.prog 82 false 1 := ⟨by kernel_rfl⟩
instance tf65 : FldC Tryz.prog 87 1 4 9 true := ⟨by kernel_rfl⟩
instance tf66 : FldC Tryz.prog 87 2 13 1 false := ⟨by kernel_rfl⟩
instance tf67 : FldC Tryz.prog 87 3 14 1 false := ⟨by kernel_rfl⟩
instance tf68 : CfC Tryz.prog 95 := ⟨by kernel_rfl⟩
instance tf69 : CfC Tryz.prog 146 := ⟨by kernel_rfl⟩
instance tf70 : TyC Tryz.prog 116 false 1 := ⟨by kernel_rfl⟩
instance tf71 : CfC Tryz.prog 147 := ⟨by kernel_rfl⟩
instance tf72 : TyC Tryz.prog 87 true 15 := ⟨by kernel_rfl⟩
instance tf73 : CfC Tryz.prog 42 := ⟨by kernel_rfl⟩
instance tf74 : CfC Tryz.prog 150 := ⟨by kernel_rfl⟩
instance tf75 : CfC Tryz.prog 90 := ⟨by kernel_rfl⟩
theorem axes_ok (β : Base) (w : World) (hw : St β [] w) (b o : Nat) : Ret Tryz.prog 40 #[.pointer (some ⟨b, o, none⟩)] β w (.agg #[.pointer (some ⟨b, o, none⟩), .pointer (some ⟨b, o + 1, none⟩)]) := by
 refine enter (n := 10) Tryz.func40 rfl Tryz.ntmps40 rfl ?_ hw
 refine csr (alE fun b1 => lnf (c_seq ?_))
 refine cny [sv 3 (.pointer (some ⟨b,o,none⟩)) [] [] [0],sv 4 (.pointer (some ⟨b,o,none⟩)) [0] [0] [],sv 5 (.pointer (some ⟨b,o,none⟩)) [0,1] [1] [],sv 6 (.pointer (some ⟨b,o,none⟩)) [] [] [0],sv 7 (.pointer (some ⟨b,o,none⟩)) [3] [3] [],sv 8 (.pointer (some ⟨b,o + 1,none⟩)) [3,4] [4] [],sv 9 (.agg #[.pointer (some ⟨b,o,none⟩),.pointer (some ⟨b,o + 1,none⟩)]) (List.range 6) [2,5] [],⟨(List.range 7),[6],[1],[],fun _ => True⟩] [⟨none,(some 7),[7],[],fun _ => pt b1 (.cells #[.pointer none,.pointer none] 83)⟩,⟨(some 7),none,[],[],fun _ => pt b1 (.cells #[.pointer (some ⟨b,o,none⟩),.pointer (some ⟨b,o + 1,none⟩)] 83)⟩] [(0,.pointer (some ⟨b,o,none⟩)),(2,pp b1 0)] [1] [] ⟨rfl,rfl,trivial⟩ ⟨?_,?_,?_,?_,?_,?_,?_,?_,trivial⟩ ?_
 ·rintro f M - ⟨i0,-⟩
  exact obE omp
 ·rintro f M ⟨k0,-⟩ -
  exact obE onp
 ·rintro f M ⟨k0,-⟩ -
  exact obE ofp
 ·rintro f M - ⟨i0,-⟩
  exact obE omp
 ·rintro f M ⟨k0,-⟩ -
  exact obE onp
 ·rintro f M ⟨k0,-⟩ -
  exact obE ofp
 ·rintro f M ⟨k0,k1,-⟩ -
  exact ob0 (up_cons (d := 8) (up_cons (d := 5) rfl k0) k1) rfl (e_build_a tf60.ok tf61.ok (vs := [(0,.pointer (some ⟨b,o,none⟩)),(1,.pointer (some ⟨b,o + 1,none⟩))]) (cells := #[.pointer (some ⟨b,o,none⟩),.pointer (some ⟨b,o + 1,none⟩)]) rfl rfl) (.refl _)
 ·rintro f M ⟨k0,-⟩ ⟨i0,-⟩
  refine ob_start (L' := pt b1 (.cells #[.pointer none,.pointer none] 83) :: M) (by rfl) (up_cons (d := 9) (up_cons (d := 2) rfl i0) k0) ?_
  refine lu (mS 0 (#[.pointer (some ⟨b,o,none⟩),.pointer (some ⟨b,o + 1,none⟩)])) (l_nil ?_)
  exact f_owes_n (up_cons (d := 9) (up_cons (d := 2) rfl i0) k0) trivial (perm_front 0 rfl)
 rintro fa2 ⟨-,-,-,-,-,-,-,-,-⟩ ⟨j0,-⟩
 refine f_re (L' := [pt b1 (.cells #[.pointer (some ⟨b,o,none⟩),.pointer (some ⟨b,o + 1,none⟩)] 83)]) (by rfl) (f_rebase (d := 2) j0 (ftr ?_))
 refine retG (m := [.agg #[.pointer (some ⟨b,o,none⟩),.pointer (some ⟨b,o + 1,none⟩)]]) Tryz.results40 ⟨rd_cell tf62.ok rfl (k_pt 0 rfl rfl) rfl,trivial⟩ rfl ?_
 intro w hw
 exact ⟨rfl,st_mask [false] rfl hw⟩
theorem shifted_ok (β : Base) (w : World) (hw : St β [] w) (b : KB) (y : Bool) (n : Int) (hb : -1099511627776 ≤ co y b ∧ co y b ≤ 1099511627776) (hn : -1099511627776 ≤ n ∧ n ≤ 1099511627776) : Ret Tryz.prog 95 #[.agg (bC b), Nx y.toNat, Ix n] β w (.agg (bC (sh y b n))) := by
 refine enter (n := 17) Tryz.func95 rfl Tryz.ntmps95 rfl ?_ hw
 refine csr (bxa fun b1 => ?_)
 refine alE fun b2 => lnc (lE ofp (lcR clA (fun w β1 sb kn hw1 => axes_ok β1 w hw1 b1 1) (lE omi ?_)))
 refine lv (v := .pointer (some ⟨b1,1 + y.toNat,none⟩)) (ev_eq (by cases y <;> rfl) (e_index_2 (u := pp b1 1) (v := pp b1 2) (y := y) rfl rfl tf61.ok tf64.ok)) ?_
 refine lE onp (lv (v := Ix (co y b)) (e_load1 tf2.ok rfl (k_pt 1 rfl (by cases y <;> rfl))) (lE omi (lE opl (lE onp ?_))))
 refine lu (m_store 1 tf2.ok (cs' := (bC (sh y b (n)))) rfl rfl rfl rfl (by cases y <;> rfl) rfl (by cases y <;> rfl)) (lnc (lE (olg 1) ?_))
 refine lu (mS 0 (bC (sh y b (n)))) (lnf (c_ret ?_))
 refine retG (m := [.agg (bC (sh y b (n)))]) Tryz.results95 ⟨rd_cell tf22.ok rfl (k_pt 0 rfl rfl) rfl,trivial⟩ rfl ?_
 intro w hw
 exact ⟨rfl,st_mask [false,false] rfl hw⟩
theorem at_ok (β : Base) (w : World) (hw : St β [] w) (v rv : Value) (gx gy : Int) (b : KB) (y : Bool) (s : Int) (hs : s = 1 ∨ s = -1) (hb : okB b) (n : Int) (hn : -1048576 ≤ n ∧ n ≤ 1048576) : Ret Tryz.prog 42 #[.agg (mC v rv gx gy b y s), Ix n] β w (.agg (bC (sh y b (s * n)))) := by
 have hsn := sgn_mul hs hn
 have hco := hb.co y
 refine enter (n := 14) Tryz.func42 rfl Tryz.ntmps42 rfl ?_ hw
 refine csr (bxa fun b1 => ?_)
 refine alE fun b2 => lnc (lE ofp (lE (olg 1) (lE ofp (lE (oli 1) (lE ofp (lE (oli 1) (lE omi (lE otm ?_))))))))
 refine lcR clA (fun w β1 sb kn hw1 => shifted_ok β1 w hw1 b y ((s) * (n)) (by omega) (by omega)) (lu (mS 0 (bC (sh y b ((s) * (n))))) (lnf (c_ret ?_)))
 refine retG (m := [.agg (bC (sh y b ((s) * (n))))]) Tryz.results42 ⟨rd_cell tf22.ok rfl (k_pt 0 rfl rfl) rfl,trivial⟩ rfl ?_
 intro w hw
 exact ⟨rfl,st_mask [false,false] rfl hw⟩
theorem sq_ok (β : Base) (w : World) (hw : St β [] w) (x : Int) (hx : 0 ≤ x * x ∧ x * x ≤ 1152921504606846976) : Ret Tryz.prog 146 #[Ix x] β w (Ix (x * x)) := by
 refine enter (n := 6) Tryz.func146 rfl Tryz.ntmps146 rfl ?_ hw
 refine csr (lE oai (lnc (lE omi (lE omi (lE otm (lE oai (lnf (c_ret (ret1 Tryz.results146 rfl ?_)))))))))
 intro w hw
 exact ⟨rfl,st_mask [] rfl hw⟩
theorem dist_ok (β : Base) (w : World) (hw : St β [] w) (a b : KB) (ha : midB a) (hb : midB b) : Ret Tryz.prog 92 #[.agg (bC a), .agg (bC b)] β w (Ix (dist a b)) := by
 obtain ⟨a1,a2⟩ := ha
 obtain ⟨b1,b2⟩ := hb
 have q1 := sq_bd (x := a.x - b.x) (B := 4194304) (by omega) (by omega)
 have q2 := sq_bd (x := a.y - b.y) (B := 4194304) (by omega) (by omega)
 refine enter (n := 22) Tryz.func92 rfl Tryz.ntmps92 rfl ?_ hw
 refine csr (bxa fun b1 => ?_)
 refine bxa fun b2 => ?_
 refine lE oai (lnf (c_seq (c_quiet (by kernel_rfl) (by kernel_rfl) (qE ofp (qE ofp (qE (oli 1) (qE ofp (qE ofp (qE (oli 0) (qE omn ?_))))))))))
 refine q_call (v := Ix (((a.x) - (b.x)) * ((a.x) - (b.x)))) rfl rfl rfl (cl0 (vs := [Ix ((a.x) - (b.x))]) tf69.ok rfl rfl) (fun w hw => ?_) ?_
 ·obtain ⟨β1,sb,kn,hw1,back⟩ := St.frame_all hw
  exact (sq_ok β1 w hw1 ((a.x) - (b.x)) (by omega)).mono (fun e w' ⟨he,hw'⟩ => ⟨he,st_mask [true,true] rfl (back _ _ hw')⟩)
 refine qE ofp (qE ofp (qE (oli 1) (qE ofp (qE ofp (qE (oli 0) (qE omn ?_))))))
 refine q_call (v := Ix (((a.y) - (b.y)) * ((a.y) - (b.y)))) rfl rfl rfl (cl0 (vs := [Ix ((a.y) - (b.y))]) tf69.ok rfl rfl) (fun w hw => ?_) ?_
 ·obtain ⟨β1,sb,kn,hw1,back⟩ := St.frame_all hw
  exact (sq_ok β1 w hw1 ((a.y) - (b.y)) (by omega)).mono (fun e w' ⟨he,hw'⟩ => ⟨he,st_mask [true,true] rfl (back _ _ hw')⟩)
 refine qE opl (qE oai (q_nil (ftr (ret1 Tryz.results92 rfl ?_))))
 intro w hw
 exact ⟨rfl,st_mask [false,false] rfl hw⟩
set_option maxHeartbeats 4000000 in
theorem search_ok (β : Base) (w : World) (hw : St β [] w) (fn : Value) (n : Nat) (hn : n ≤ 1048576) (p : Nat → Bool) (hm : ∀ i j, i ≤ j → j < n → p i = true → p j = true) (hfn : FnV Tryz.prog β fn (fun z : Nat => [Nx z]) (· < n) (fun z => .bool (p z))) : Ret Tryz.prog 147 #[Nx n, fn] β w (Nx (searchN p n 0)) := by
 obtain ⟨gg,fst,cap,rfl,hcf,hf⟩ := hfn
 refine enter (n := 26) Tryz.func147 rfl Tryz.ntmps147 rfl ?_ hw
 refine csr (lE oai (lnc (lE omi (lE oai (lE oai (lnf (c_seq (c_block ?_))))))))
 refine c_loop (fun (x_ : Nat × Nat) f L => match x_ with | (i,j) => (f 1 = .func (.func gg) fst.toArray cap.toArray ∧ f 5 = Nx (i) ∧ f 6 = Nx (j)) ∧ L = [] ∧ (i ≤ j ∧ j ≤ n ∧ (∀ t,t < i → p t = false) ∧ (j < n → p j = true))) (fun (i,j) => j - i) (0,n) ?_ ?_
 ·exact ⟨⟨rfl,rfl,rfl⟩,rfl,⟨by omega,by omega,fun t ht => by omega,fun h => by omega⟩⟩
 rintro ⟨i,j⟩ f0 L0 ⟨⟨hs1,hs5,hs6⟩,hL,⟨h1,h2,hp1,hp2⟩⟩
 subst L0
 refine rbs 1 hs1 (rbs 5 hs5 (rbs 6 hs6 ?_))
 obtain ⟨h,hh⟩ : ∃ h,h = (U (((i + j : Nat)) : Int) >>> (1 : UInt64)).toNat := ⟨_,rfl⟩
 have hh2 := half_toNat (m := i + j) (by omega)
 refine cs2 (c_region (lE omi (lE omi (lE olt (lnf (c_if _ rfl (fun hc1 => ?_) (fun hc1 => ?_)))))))
 ·refine csk (c_block (csr (lE omi (lE omi (lE opn ?_)))))
  refine lv (v := Ux (U ((i + j : Nat) : Int))) (e_conv (a := ((i + j : Nat) : Int)) rfl ⟨_,tf41⟩ tf42 (ux_of _)) ?_
  refine lv (v := Ux ((U ((i + j : Nat) : Int)) >>> (1 : UInt64))) (e_shr (a := ((U ((i + j : Nat) : Int)).toNat : Int)) (b := ((1 : Nat) : Int)) rfl rfl (by decide) (ux_shr _ 1 (by decide))) ?_
  refine lv (v := Nx (h)) (e_conv (a := (((U ((i + j : Nat) : Int)) >>> (1 : UInt64)).toNat : Int)) rfl ⟨_,tf42⟩ tf41 (i64n (by rw [hh]) (by omega))) ?_
  refine lE oai (lnc (lE omf (lE omi ?_)))
  refine l_call rfl rfl rfl (cl_value (fst := fst) (cap := cap) (vs := [Nx (h)]) (all := fst ++ [Nx (h)] ++ cap) hcf rfl rfl rfl) ?_
  intro w hw
  obtain ⟨β1,sb,kn,hw1,back⟩ := St.frame_all hw
  refine (hf β1 sb h (by omega) w hw1).mono ?_
  rintro e w' ⟨rfl,hw'⟩
  refine ⟨_,rfl,_,back _ _ hw',?_⟩
  clear hw hw1 hw' back kn sb
  refine lE ont (lnf (c_ifb (!(p h)) rfl (fun hc2 => ?_) (fun hc2 => ?_)))
  ·refine c_region (lE omi (lv (v := Nx (h + 1)) (e_add rfl rfl (i64n (by omega) (by omega))) (lE oai (l_nil (f_block ?_)))))
   exact f_cut ⟨(h + 1,j),⟨⟨rfl,rfl,rfl⟩,rfl,⟨by omega,by omega,fun t ht => by cases hq : p t with | false => rfl | true => exact absurd (hm t h (by omega) (by omega) hq) (by have q := hc2; simp_all),hp2⟩⟩,(show j - (h + 1) < j - i from by omega)⟩
  refine c_region (lE omi (lE oai (l_nil (f_block ?_))))
  exact f_cut ⟨(i,h),⟨⟨rfl,rfl,rfl⟩,rfl,⟨by omega,by omega,hp1,fun _ => by have q := hc2; simp_all⟩⟩,(show h - i < j - i from by omega)⟩
 refine c_exit (f_then_exit (f_then_exit (f_exit (ftc (lE omi (lE oai (lnf (c_ret (ret1 Tryz.results147 rfl ?_)))))))))
 intro w hw
 exact ⟨congrArg (fun z : Nat => Ending.returned (Nx z)) (searchN_eq (n := n) (i := 0) (by omega) (by omega) (fun t _ ht => hp1 t ht) (fun ht => by rw [show i = j by omega]; exact hp2 (by omega))).symm,st_mask [] rfl hw⟩
theorem least1_fn (β : Base) (c : Nat) (fn : Value) (n : Nat) (hn : n ≤ 1048576) (q : Nat → Bool) (hfn : FnV Tryz.prog β fn (fun z : Nat => [Nx z]) (fun z => 1 ≤ z ∧ z ≤ n) (fun z => .bool (q z))) (hc : Cs β.heap ⟨c, 0, none⟩ [fn]) : FnV Tryz.prog β (.func (.func 148) #[] #[pp c 0]) (fun z : Nat => [Nx z]) (· < n) (fun z => .bool (q (z + 1))) := by
 refine ⟨148,[],[.pointer (some (⟨c,0,none⟩))],rfl,by kernel_rfl,fun β₁ sb0 z_ hz_ w hw => ?_⟩
 have hc1 := Cs.mono _ _ _ _ sb0 hc
 obtain ⟨gg,fst,cap,rfl,hcf,hf⟩ := hfn.mono sb0
 obtain ⟨i,hi⟩ : ∃ i,i = z_ := ⟨_,rfl⟩
 subst hi
 refine enter (n := 8) Tryz.func148 rfl Tryz.ntmps148 rfl ?_ hw
 refine csr (lE oab (lnc (lv (v := .func (.func gg) fst.toArray cap.toArray) (e_load1 tf70.ok rfl (kB hc1)) (lE omi ?_))))
 refine lv (v := Nx (i + 1)) (e_add rfl rfl (i64n (by omega) (by omega))) ?_
 refine l_call rfl rfl rfl (cl_value (fst := fst) (cap := cap) (vs := [Nx (i + 1)]) (all := fst ++ [Nx (i + 1)] ++ cap) hcf rfl rfl rfl) ?_
 intro w hw
 obtain ⟨β1,sb,kn,hw1,back⟩ := St.frame_all hw
 refine (hf β1 sb (i + 1) (show 1 ≤ _ ∧ _ ≤ n by omega) w hw1).mono ?_
 rintro e w' ⟨rfl,hw'⟩
 refine ⟨_,rfl,_,back _ _ hw',?_⟩
 clear hw hw1 hw' back kn sb
 refine lE oab (lnf (c_ret (ret1 Tryz.results148 rfl ?_)))
 intro w hw
 exact ⟨rfl,st_mask [] rfl hw⟩
theorem least_ok (β : Base) (w : World) (hw : St β [] w) (fn : Value) (n : Nat) (hn : n ≤ 1048576) (q : Nat → Bool) (hm : ∀ i j, 1 ≤ i → i ≤ j → j ≤ n → q i = true → q j = true) (hfn : FnV Tryz.prog β fn (fun z : Nat => [Nx z]) (fun z => 1 ≤ z ∧ z ≤ n) (fun z => .bool (q z))) : Ret Tryz.prog 90 #[Nx n, fn] β w (Nx (leastN n q)) := by
 have hfn0 := hfn
 obtain ⟨gg,fst,cap,rfl,hcf,hf⟩ := hfn
 have hsb := (searchN_spec (p := fun z => q (z + 1)) n 0).2.1
 refine enter (n := 9) Tryz.func90 rfl Tryz.ntmps90 rfl ?_ hw
 refine csr (l_mv rfl rfl rfl (m_box (v := .func (.func gg) fst.toArray cap.toArray) rfl) ?_)
 rintro _ _ ⟨b1,rfl,rfl⟩
 refine lE oai (lnc (lE omi (lv (v := .func (.func 148) #[] #[pp b1 0]) (e_func (u := []) (v := [pp b1 0]) rfl rfl) ?_)))
 refine lcR clA (fun w β1 sb kn hw1 => search_ok β1 w hw1 _ n hn (fun z => q (z + 1)) (fun i j h1 h2 => hm (i + 1) (j + 1) (by omega) (by omega) (by omega)) (least1_fn β1 b1 _ n hn q (hfn0.mono sb) (kn _ (k_pt 0 (o := 0) rfl rfl)))) ?_
 refine lv (v := Nx (1 + (searchN (fun z => q (z + 1)) n 0))) (e_add rfl rfl (i64n (by omega) (by omega))) (lE oai (lnf (c_ret ?_)))
 refine ret1 Tryz.results90 rfl ?_
 intro w hw
 exact ⟨rfl,st_mask [false] rfl hw⟩
theorem blocked1_fn (β : Base) (hG : GR β) (c e : Nat) (v rv : Value) (gx gy : Int) (b : KB) (y : Bool) (s : Int) (hs : s = 1 ∨ s = -1) (hb : okB b) (o : KB) (n : Nat) (hn : n ≤ 1048576) (hc : Cs β.heap ⟨c, 0, none⟩ (mC v rv gx gy b y s).toList) (he : Cs β.heap ⟨e, 0, none⟩ (bodyE o)) : FnV Tryz.prog β (.func (.func 151) #[] #[pp c 0, pp e 0]) (fun z : Nat => [Nx z]) (fun z => 1 ≤ z ∧ z ≤ n) (fun z => .bool (decide (Stp.over (sh y b (s * z)) o))) := by
 refine ⟨151,[],[pp c 0,pp e 0],rfl,by kernel_rfl,fun β₁ sb0 z_ hz_ w hw => ?_⟩
 have hc1 := Cs.mono _ _ _ _ sb0 hc
 have he1 := Cs.mono _ _ _ _ sb0 he
 have hG := GR.mono sb0 hG
 obtain ⟨i,hi⟩ : ∃ i,i = z_ := ⟨_,rfl⟩
 subst hi
 refine enter (n := 10) Tryz.func151 rfl Tryz.ntmps151 rfl ?_ hw
 refine csr (lE oab (lnf (c_seq (c_quiet (by kernel_rfl) (by kernel_rfl) ?_))))
 refine q_val (v := .agg (mC v rv gx gy b y s)) rfl rfl rfl (e_load tf72.ok rfl (kB hc1) rfl) (qE omi ?_)
 refine q_call (v := .agg #[Ix ((sh y b (s * ((i : Nat) : Int))).id),Ix ((sh y b (s * ((i : Nat) : Int))).x),Ix ((sh y b (s * ((i : Nat) : Int))).y),Ix ((sh y b (s * ((i : Nat) : Int))).vx),Ix ((sh y b (s * ((i : Nat) : Int))).vy),Ix ((sh y b (s * ((i : Nat) : Int))).w),Ix ((sh y b (s * ((i : Nat) : Int))).h),.bool ((sh y b (s * ((i : Nat) : Int))).round),.bool ((sh y b (s * ((i : Nat) : Int))).fixed)]) rfl rfl rfl (cl0 (vs := [.agg (mC v rv gx gy b y s),Nx (i)]) tf73.ok rfl rfl) (fun w hw => ?_) ?_
 ·obtain ⟨β1,sb,kn,hw1,back⟩ := St.frame_all hw
  exact (at_ok β1 w hw1 _ _ _ _ b y s hs hb ((i : Nat) : Int) (by omega)).mono (fun e w' ⟨he,hw'⟩ => ⟨he,st_mask [] rfl (back _ _ hw')⟩)
 refine q_val (v := .agg (bC o)) rfl rfl rfl (e_load tf22.ok rfl (kB he1) rfl) ?_
 refine q_call (v := .bool (decide (Stp.over (sh y b (s * ((i : Nat) : Int))) o))) rfl rfl rfl (cl0 (vs := [.agg #[Ix ((sh y b (s * ((i : Nat) : Int))).id),Ix ((sh y b (s * ((i : Nat) : Int))).x),Ix ((sh y b (s * ((i : Nat) : Int))).y),Ix ((sh y b (s * ((i : Nat) : Int))).vx),Ix ((sh y b (s * ((i : Nat) : Int))).vy),Ix ((sh y b (s * ((i : Nat) : Int))).w),Ix ((sh y b (s * ((i : Nat) : Int))).h),.bool ((sh y b (s * ((i : Nat) : Int))).round),.bool ((sh y b (s * ((i : Nat) : Int))).fixed)],.agg (bC o)]) tf74.ok rfl rfl) (fun w hw => ?_) ?_
 ·obtain ⟨β1,sb,kn,hw1,back⟩ := St.frame_all hw
  have hG1 := GR.mono sb hG
  exact (over_ok β1 w hw1 hG1 (sh y b (s * ((i : Nat) : Int))) o).mono (fun e w' ⟨he,hw'⟩ => ⟨he,st_mask [] rfl (back _ _ hw')⟩)
 refine qE oab (q_nil (ftr (ret1 Tryz.results151 rfl ?_)))
 intro w hw
 exact ⟨rfl,st_mask [] rfl hw⟩
set_option maxHeartbeats 4000000 in
theorem blocked_ok (β : Base) (w : World) (hw : St β [] w) (hG : GR β) (v rv : Value) (gx gy : Int) (b : KB) (y : Bool) (s : Int) (hs : s = 1 ∨ s = -1) (hb : okB b) (o : KB) (ho : okB o) (hno : ¬ Stp.over b o) (most : Nat) (hmo : most ≤ 1048576) : Ret Tryz.prog 94 #[.agg (mC v rv gx gy b y s), .agg (bC o), Nx most] β w (Nx (blockN y b s most o)) := by
 have hco := hb.co y
 have hcp := ho.co y
 have hsn := sgn_mul (B := 2097152) (n := co y o - co y b) hs (by omega)
 have hsn2 := fun n : Nat => (leastN_least n (fun z => decide (Stp.over (sh y b (s * z)) o))).2.1
 refine enter (n := 45) Tryz.func94 rfl Tryz.ntmps94 rfl ?_ hw
 refine csr (bxa fun b1 => ?_)
 refine bxa fun b2 => ?_
 refine lE oai (lnf (c_seq (c_quiet (by kernel_rfl) (by kernel_rfl) (qE ofp (qE (oli 1) (qE ofp ?_))))))
 refine q_call (v := .agg #[pp b2 1,pp b2 2]) rfl rfl rfl (cl0 (vs := [pp b2 1]) tf63.ok rfl rfl) (fun w hw => ?_) ?_
 ·obtain ⟨β1,sb,kn,hw1,back⟩ := St.frame_all hw
  exact (axes_ok β1 w hw1 b2 1).mono (fun e w' ⟨he,hw'⟩ => ⟨he,st_mask [true,true] rfl (back _ _ hw')⟩)
 refine qE ofp (qE (oli 1) ?_)
 refine q_val (v := .pointer (some ⟨b2,1 + y.toNat,none⟩)) rfl rfl rfl (ev_eq (by cases y <;> rfl) (e_index_2 (u := pp b2 1) (v := pp b2 2) (y := y) rfl rfl tf61.ok tf64.ok)) ?_
 refine qE onp (q_val (v := Ix (co y o)) rfl rfl rfl (e_load1 tf2.ok rfl (k_pt 0 rfl (by cases y <;> rfl))) (qE ofp (qE ofp ?_)))
 refine q_call (v := .agg #[pp b1 5,pp b1 6]) rfl rfl rfl (cl0 (vs := [pp b1 5]) tf63.ok rfl rfl) (fun w hw => ?_) ?_
 ·obtain ⟨β1,sb,kn,hw1,back⟩ := St.frame_all hw
  exact (axes_ok β1 w hw1 b1 5).mono (fun e w' ⟨he,hw'⟩ => ⟨he,st_mask [true,true] rfl (back _ _ hw')⟩)
 refine qE ofp (qE (oli 1) ?_)
 refine q_val (v := .pointer (some ⟨b1,5 + y.toNat,none⟩)) rfl rfl rfl (ev_eq (by cases y <;> rfl) (e_index_2 (u := pp b1 5) (v := pp b1 6) (y := y) rfl rfl tf61.ok tf64.ok)) ?_
 refine qE onp (q_val (v := Ix (co y b)) rfl rfl rfl (e_load1 tf2.ok rfl (k_pt 1 rfl (by cases y <;> rfl))) (qE omn (qE otm (qE oai (q_nil (fts ?_))))))
 refine csr (lE omi (lE ole (lnf (c_if _ rfl (fun hc3 => ?_) (fun hc3 => ?_)))))
 ·refine csr (lE omi (lv (v := Nx (most + 1)) (e_add rfl rfl (i64n (by omega) (by omega))) (lE oai (lnf (c_ret (f_then_ret (ret1 Tryz.results94 rfl ?_)))))))
  intro w hw
  exact ⟨congrArg (fun z : Nat => Ending.returned (Nx z)) (blockN_eq (blocked_none hs hb hno hc3)).symm,st_mask [false,false] rfl hw⟩
 refine csk (c_seq ?_)
 obtain ⟨n,hn⟩ : ∃ n : Nat,min (s * (co y o - co y b)) ((most : Nat) : Int) = ((n : Nat) : Int) := ⟨(min (s * (co y o - co y b)) ((most : Nat) : Int)).toNat,by omega⟩
 refine c_region (lE omi (lE omi ?_))
 refine lv (v := Nx (n)) (ev_eq (congrArg (Value.int .i64) hn) (e_min (a := ((s) * ((co y o) - (co y b)))) (b := ((most : Nat) : Int)) rfl rfl)) ?_
 refine lE oai (lnf (cs2 (c_region (lE omi (lv (v := .func (.func 151) #[] #[pp b1 0,pp b2 0]) (e_func (u := []) (v := [pp b1 0,pp b2 0]) rfl rfl) ?_)))))
 refine lcR clA (fun w β1 sb kn hw1 => least_ok β1 w hw1 _ n (by omega) (fun z => decide (Stp.over (sh y b (s * z)) o)) (fun i j h1 h2 h3 h4 => decide_eq_true (over_on hs (by omega) (by omega) (by omega) (of_decide_eq_true h4))) (blocked1_fn β1 (GR.mono sb hG) b1 b2 _ _ _ _ b y s hs hb o n (by omega) (kn _ (k_pt 1 (o := 0) rfl rfl)) (kn _ (k_pt 0 (o := 0) rfl rfl)))) ?_
 refine lE oai (lnc (lE omi (lE omi (lE ole (lnf (c_if _ rfl (fun hc4 => ?_) (fun hc4 => ?_)))))))
 ·refine csr (lE omi (lE oai (lnf (c_ret (f_then_ret (ret1 Tryz.results94 rfl ?_))))))
  intro w hw
  exact ⟨congrArg (fun z : Nat => Ending.returned (Nx z)) (blockN_eq (by have h := blocked_some (most := most) hs hb ho (by omega) hn.symm (blockN_least y b s n o); rw [if_pos (show  blockN y b s n o ≤ n by unfold blockN; omega)] at h; exact h)).symm,st_mask [false,false] rfl hw⟩
 refine csk (csr (lE omi (lv (v := Nx (most + 1)) (e_add rfl rfl (i64n (by omega) (by omega))) (lE oai (lnf (c_ret (ret1 Tryz.results94 rfl ?_)))))))
 intro w hw
 exact ⟨congrArg (fun z : Nat => Ending.returned (Nx z)) (blockN_eq (by have h := blocked_some (most := most) hs hb ho (by omega) hn.symm (blockN_least y b s n o); rw [if_neg (show ¬  blockN y b s n o ≤ n by unfold blockN; omega)] at h; exact h)).symm,st_mask [false,false] rfl hw⟩
end Go.Proofs
