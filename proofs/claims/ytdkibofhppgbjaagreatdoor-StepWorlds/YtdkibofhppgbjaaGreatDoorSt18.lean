/-
 Scenes that are lent,kept,written over and compared; the law. Printed by a program of my own.
-/
import Derived.Test.YtdkibofhppgbjaaGreatDoorSt17
import Derived.Test.YtdkibofhppgbjaaGreatDoorStAwk
import Derived.Test.YtdkibofhppgbjaaGreatDoorSlB
namespace Go.Proofs
open Go Go.Sl Go.Stp
theorem el_same {α : Type} {xs : List α} {k : Nat} {a b : α} (h1 : xs[k]? = some a) (h2 : xs[k]? = some b) : a = b := by rw [h1] at h2; injection h2
instance tf140 : CfC Tryz.prog 55 := ⟨by kernel_rfl⟩
instance tf141 : CfC Tryz.prog 56 := ⟨by kernel_rfl⟩
instance tf142 : CfC Tryz.prog 58 := ⟨by kernel_rfl⟩
instance tf143 : CfC Tryz.prog 59 := ⟨by kernel_rfl⟩
instance tf144 : CfC Tryz.prog 13 := ⟨by kernel_rfl⟩
instance tf145 : CfC Tryz.prog 79 := ⟨by kernel_rfl⟩
instance tf146 : CfC Tryz.prog 80 := ⟨by kernel_rfl⟩
instance tf147 : CfC Tryz.prog 82 := ⟨by kernel_rfl⟩
instance tf148 : CfC Tryz.prog 83 := ⟨by kernel_rfl⟩
instance tf149 : CfC Tryz.prog 17 := ⟨by kernel_rfl⟩
instance tf150 : CfC Tryz.prog 75 := ⟨by kernel_rfl⟩
instance tf151 : CfC Tryz.prog 14 := ⟨by kernel_rfl⟩
instance tf152 : CfC Tryz.prog 28 := ⟨by kernel_rfl⟩
instance tf153 : CfC Tryz.prog 30 := ⟨by kernel_rfl⟩
instance tf154 : CfC Tryz.prog 23 := ⟨by kernel_rfl⟩
instance tf155 : CfC Tryz.prog 7 := ⟨by kernel_rfl⟩
set_option maxHeartbeats 4000000 in
theorem eqB_ok (β : Base) (w : World) (hw : St β [] w) (v u : Value) (xs : List KB) (hs : Sl KBR β.heap v xs) (hu : Sl KBR β.heap u xs) : Ret Tryz.prog 55 #[v, u] β w (.bool true) := by
 obtain ⟨va,vc,rfl,vl,vm,ve⟩ := hs.get
 obtain ⟨ua,uc,rfl,ul,um,ue⟩ := hu.get
 refine enter (n := 26) Tryz.func55 rfl Tryz.ntmps55 rfl ?_ hw
 refine csr (lE oab (lnf (cs2 (c_region (lE oms (lE oln (lE oms (lE oln (lE onq (lnf (c_if _ rfl (fun hc1 => ?_) (fun hc1 => ?_))))))))))))
 ·exact absurd hc1 (by omega)
 refine csk (cs2 (c_region (lE oai (lnf (c_block ?_)))))
 refine c_loop (fun (k : Nat) f L => (f 0 = sB va xs (vc) ∧ f 1 = sB ua xs (uc) ∧ f 5 = Nx (k)) ∧ L = [] ∧ (k ≤ xs.length)) (fun k => xs.length - k) 0 ?_ ?_
 ·exact ⟨⟨rfl,rfl,rfl⟩,rfl,(by omega)⟩
 rintro k f0 L0 ⟨⟨hs0,hs1,hs5⟩,hL,hk⟩
 subst L0
 refine rbs 0 hs0 (rbs 1 hs1 (rbs 5 hs5 (cs2 (c_region (lE omi (lE oms (lE oln (lE olt (lnf (c_if _ rfl (fun hc2 => ?_) (fun hc2 => ?_)))))))))))
 ·refine csk (c_seq (c_block (c_seq (c_quiet (by kernel_rfl) (by kernel_rfl) (qE oms (qE omi ?_))))))
  obtain ⟨x3,hx4⟩ := getx xs k (by omega)
  obtain ⟨ha5,cs6,hc7,rfl⟩ := ve _ _ hx4
  refine qE (oia tf43 ha5) (q_val (v := .agg (bC x3)) rfl rfl rfl (e_load tf22.ok rfl (kB hc7) rfl) (qE oms (qE omi ?_)))
  obtain ⟨x9,hx10⟩ := getx xs k (by omega)
  obtain ⟨ha11,cs12,hc13,rfl⟩ := ue _ _ hx10
  refine qE (oia tf43 ha11) (q_val (v := .agg (bC x9)) rfl rfl rfl (e_load tf22.ok rfl (kB hc13) rfl) ?_)
  refine q_val (v := .bool (decide (¬ (x3 = x9)))) rfl rfl rfl (e_neq_t (xs := (bodyE x3)) (ys := (bodyE x9)) tf133 tf134 tf135 rfl rfl rfl rfl (not_congr body_eq)) ?_
  refine q_nil (f_then (c_if _ rfl (fun hc15 => ?_) (fun hc15 => ?_)))
  ·exact absurd hc15 (Decidable.not_not.2 (el_same hx4 hx10))
  refine c_skip (f_block (f_then (c_region (lE omi (lv (v := Nx (k + 1)) (e_add rfl rfl (i64n (by omega) (by omega))) (lE oai (l_nil ?_)))))))
  exact f_cut ⟨k + 1,⟨⟨rfl,rfl,rfl⟩,rfl,(by omega)⟩,(show xs.length - (k + 1) < xs.length - k from by omega)⟩
 refine c_exit (f_then_exit (f_then_exit (f_exit (ftc (lE oab (lnf (c_ret (ret1 Tryz.results55 rfl ?_))))))))
 intro w hw
 exact ⟨rfl,st_mask [] rfl hw⟩
set_option maxHeartbeats 4000000 in
theorem eqR_ok (β : Base) (w : World) (hw : St β [] w) (v u : Value) (xs : List KR) (hs : Sl KRR β.heap v xs) (hu : Sl KRR β.heap u xs) : Ret Tryz.prog 56 #[v, u] β w (.bool true) := by
 obtain ⟨va,vc,rfl,vl,vm,ve⟩ := hs.get
 obtain ⟨ua,uc,rfl,ul,um,ue⟩ := hu.get
 refine enter (n := 26) Tryz.func56 rfl Tryz.ntmps56 rfl ?_ hw
 refine csr (lE oab (lnf (cs2 (c_region (lE oms (lE oln (lE oms (lE oln (lE onq (lnf (c_if _ rfl (fun hc1 => ?_) (fun hc1 => ?_))))))))))))
 ·exact absurd hc1 (by omega)
 refine csk (cs2 (c_region (lE oai (lnf (c_block ?_)))))
 refine c_loop (fun (k : Nat) f L => (f 0 = sB va xs (vc) ∧ f 1 = sB ua xs (uc) ∧ f 5 = Nx (k)) ∧ L = [] ∧ (k ≤ xs.length)) (fun k => xs.length - k) 0 ?_ ?_
 ·exact ⟨⟨rfl,rfl,rfl⟩,rfl,(by omega)⟩
 rintro k f0 L0 ⟨⟨hs0,hs1,hs5⟩,hL,hk⟩
 subst L0
 refine rbs 0 hs0 (rbs 1 hs1 (rbs 5 hs5 (cs2 (c_region (lE omi (lE oms (lE oln (lE olt (lnf (c_if _ rfl (fun hc2 => ?_) (fun hc2 => ?_)))))))))))
 ·refine csk (c_seq (c_block (c_seq (c_quiet (by kernel_rfl) (by kernel_rfl) (qE oms (qE omi ?_))))))
  obtain ⟨x3,hx4⟩ := getx xs k (by omega)
  obtain ⟨ha5,cs6,hc7,rfl⟩ := ve _ _ hx4
  refine qE (oia tf46 ha5) (q_val (v := .agg #[Ix (x3.a),Ix (x3.b),Ix (x3.len)]) rfl rfl rfl (e_load tf47.ok rfl (kB hc7) rfl) (qE oms (qE omi ?_)))
  obtain ⟨x9,hx10⟩ := getx xs k (by omega)
  obtain ⟨ha11,cs12,hc13,rfl⟩ := ue _ _ hx10
  refine qE (oia tf46 ha11) (q_val (v := .agg #[Ix (x9.a),Ix (x9.b),Ix (x9.len)]) rfl rfl rfl (e_load tf47.ok rfl (kB hc13) rfl) ?_)
  refine q_val (v := .bool (decide (¬ (x3 = x9)))) rfl rfl rfl (e_neq_t (xs := [Ix (x3.a),Ix (x3.b),Ix (x3.len)]) (ys := [Ix (x9.a),Ix (x9.b),Ix (x9.len)]) tf137 tf138 tf139 rfl rfl rfl rfl (not_congr rope_eq)) ?_
  refine q_nil (f_then (c_if _ rfl (fun hc15 => ?_) (fun hc15 => ?_)))
  ·exact absurd hc15 (Decidable.not_not.2 (el_same hx4 hx10))
  refine c_skip (f_block (f_then (c_region (lE omi (lv (v := Nx (k + 1)) (e_add rfl rfl (i64n (by omega) (by omega))) (lE oai (l_nil ?_)))))))
  exact f_cut ⟨k + 1,⟨⟨rfl,rfl,rfl⟩,rfl,(by omega)⟩,(show xs.length - (k + 1) < xs.length - k from by omega)⟩
 refine c_exit (f_then_exit (f_then_exit (f_exit (ftc (lE oab (lnf (c_ret (ret1 Tryz.results56 rfl ?_))))))))
 intro w hw
 exact ⟨rfl,st_mask [] rfl hw⟩
set_option maxHeartbeats 4000000 in
theorem eqS_ok (β : Base) (w : World) (hw : St β [] w) (v u : Value) (xs : List KS) (hs : Sl KSR β.heap v xs) (hu : Sl KSR β.heap u xs) : Ret Tryz.prog 14 #[v, u] β w (.bool true) := by
 obtain ⟨va,vc,rfl,vl,vm,ve⟩ := hs.get
 obtain ⟨ua,uc,rfl,ul,um,ue⟩ := hu.get
 refine enter (n := 26) Tryz.func14 rfl Tryz.ntmps14 rfl ?_ hw
 refine csr (lE oab (lnf (cs2 (c_region (lE oms (lE oln (lE oms (lE oln (lE onq (lnf (c_if _ rfl (fun hc1 => ?_) (fun hc1 => ?_))))))))))))
 ·exact absurd hc1 (by omega)
 refine csk (cs2 (c_region (lE oai (lnf (c_block ?_)))))
 refine c_loop (fun (k : Nat) f L => (f 0 = sB va xs (vc) ∧ f 1 = sB ua xs (uc) ∧ f 5 = Nx (k)) ∧ L = [] ∧ (k ≤ xs.length)) (fun k => xs.length - k) 0 ?_ ?_
 ·exact ⟨⟨rfl,rfl,rfl⟩,rfl,(by omega)⟩
 rintro k f0 L0 ⟨⟨hs0,hs1,hs5⟩,hL,hk⟩
 subst L0
 refine rbs 0 hs0 (rbs 1 hs1 (rbs 5 hs5 (cs2 (c_region (lE omi (lE oms (lE oln (lE olt (lnf (c_if _ rfl (fun hc2 => ?_) (fun hc2 => ?_)))))))))))
 ·refine csk (c_seq (c_block (c_seq (c_quiet (by kernel_rfl) (by kernel_rfl) (qE oms (qE omi ?_))))))
  obtain ⟨x3,hx4⟩ := getx xs k (by omega)
  obtain ⟨ha5,cs6,hc7,rfl⟩ := ve _ _ hx4
  refine qE (oia tf100 ha5) (q_val (v := .agg #[Ix (x3.id),Bx (x3.along),Ix (x3.by_)]) rfl rfl rfl (e_load tf106.ok rfl (kB hc7) rfl) (qE oms ?_))
  refine qE omi ?_
  obtain ⟨x9,hx10⟩ := getx xs k (by omega)
  obtain ⟨ha11,cs12,hc13,rfl⟩ := ue _ _ hx10
  refine qE (oia tf100 ha11) (q_val (v := .agg #[Ix (x9.id),Bx (x9.along),Ix (x9.by_)]) rfl rfl rfl (e_load tf106.ok rfl (kB hc13) rfl) ?_)
  refine q_val (v := .bool (decide (¬ (x3 = x9)))) rfl rfl rfl (e_neq_t (xs := [Ix (x3.id),Bx (x3.along),Ix (x3.by_)]) (ys := [Ix (x9.id),Bx (x9.along),Ix (x9.by_)]) tf111 tf112 tf113 rfl rfl rfl rfl (not_congr (stop_eq (x := x3) (y := x9)))) ?_
  refine q_nil (f_then (c_if _ rfl (fun hc15 => ?_) (fun hc15 => ?_)))
  ·exact absurd hc15 (Decidable.not_not.2 (el_same hx4 hx10))
  refine c_skip (f_block (f_then (c_region (lE omi (lv (v := Nx (k + 1)) (e_add rfl rfl (i64n (by omega) (by omega))) (lE oai (l_nil ?_)))))))
  exact f_cut ⟨k + 1,⟨⟨rfl,rfl,rfl⟩,rfl,(by omega)⟩,(show xs.length - (k + 1) < xs.length - k from by omega)⟩
 refine c_exit (f_then_exit (f_then_exit (f_exit (ftc (lE oab (lnf (c_ret (ret1 Tryz.results14 rfl ?_))))))))
 intro w hw
 exact ⟨rfl,st_mask [] rfl hw⟩
theorem eqScene_ok (β : Base) (w : World) (hw : St β [] w) (v rv u ru : Value) (gx gy : Int) (bs : List KB) (rs : List KR) (hs : Sl KBR β.heap v bs) (hr : Sl KRR β.heap rv rs) (hu : Sl KBR β.heap u bs) (hq : Sl KRR β.heap ru rs) : Ret Tryz.prog 13 #[.agg #[v, rv, Ix gx, Ix gy], .agg #[u, ru, Ix gx, Ix gy]] β w (.bool true) := by
 obtain ⟨va,vc,rfl,vl,vm,ve⟩ := hs.get
 obtain ⟨rva,rvc,rfl,rvl,rvm,rve⟩ := hr.get
 obtain ⟨ua,uc,rfl,ul,um,ue⟩ := hu.get
 obtain ⟨rua,ruc,rfl,rul,rum,rue⟩ := hq.get
 refine enter (n := 24) Tryz.func13 rfl Tryz.ntmps13 rfl ?_ hw
 refine csr (bxa fun b1 => ?_)
 refine bxa fun b2 => ?_
 refine lE oab (lnc (lE ofp (lE (ols 1) (lE ofp (lE (ols 0) ?_)))))
 refine lcR clA (fun w β1 sb kn hw1 => eqB_ok β1 w hw1 _ _ bs (Sl.mono _ _ _ _ _ sb (⟨⟨_,_,rfl,vl,vm,ve⟩⟩ : Sl KBR _ _ bs)) (Sl.mono _ _ _ _ _ sb (⟨⟨_,_,rfl,ul,um,ue⟩⟩ : Sl KBR _ _ bs))) ?_
 refine lE omb (gE ofp (gE (ols 1) (gE ofp (gE (ols 0) (g_call rfl rfl rfl rfl rfl (cl0 (vs := [sB rva rs (rvc),sB rua rs (ruc)]) tf141.ok rfl rfl) ?_)))))
 intro w hw
 obtain ⟨β1,sb,kn,hw1,back⟩ := St.frame_all hw
 refine (eqR_ok β1 w hw1 _ _ rs (Sl.mono _ _ _ _ _ sb (⟨⟨_,_,rfl,rvl,rvm,rve⟩⟩ : Sl KRR _ _ rs)) (Sl.mono _ _ _ _ _ sb (⟨⟨_,_,rfl,rul,rum,rue⟩⟩ : Sl KRR _ _ rs))).mono ?_
 rintro e w' ⟨rfl,hw'⟩
 refine ⟨_,rfl,_,back _ _ hw',?_⟩
 clear hw hw1 hw' back kn sb
 refine lE oktb (lE omb (gE ofp (gE (olg 1) (gE ofp (gE (olg 0) ?_)))))
 refine g_val (v := .bool (decide ((gx) = (gx) ∧ (gy) = (gy)))) rfl rfl rfl rfl rfl (e_eql_t (xs := [Ix (gx),Ix (gy)]) (ys := [Ix (gx),Ix (gy)]) tf18 tf19 tf20 rfl rfl rfl rfl vec_eq) ?_
 refine lE oktb (lE oab (lnf (c_ret (ret1 Tryz.results13 (v := .bool (decide ((gx) = (gx) ∧ (gy) = (gy)))) rfl ?_))))
 intro w hw
 exact ⟨by first | rfl | simp,st_mask [false,false] rfl hw⟩
theorem lentS_ok (β : Base) (w : World) (hw : St β [] w) (v rv : Value) (gx gy : Int) (bs : List KB) (rs : List KR) (hs : Sl KBR β.heap v bs) (hr : Sl KRR β.heap rv rs) (hbn : bs.length ≤ 1048576) (hrn : rs.length ≤ 1048576) : Calls Tryz.prog 17 #[.agg #[v, rv, Ix gx, Ix gy]] w fun r w' => ∃ p c q d, r = .returned (.agg #[sB p bs c, sB q rs d, Ix gx, Ix gy]) ∧ St β [rowF BodyF 52 p c (lentL (markB 1) bs), rowF RopeF 78 q d (lentL (markR 1) rs)] w' := by
 obtain ⟨va,vc,rfl,vl,vm,ve⟩ := hs.get
 obtain ⟨rva,rvc,rfl,rvl,rvm,rve⟩ := hr.get
 refine enter (n := 12) Tryz.func17 rfl Tryz.ntmps17 rfl ?_ hw
 refine csr (bxa fun b1 => ?_)
 refine alE fun b2 => lnc (lE ofp (lE (ols 1) ?_))
 refine lcf (cl0 (vs := [sB va bs (vc)]) tf142.ok rfl rfl) rfl fun w β1 sb kn hw1 back => (lentB_ok β1 w hw1 _ bs (Sl.mono _ _ _ _ _ sb (⟨⟨_,_,rfl,vl,vm,ve⟩⟩ : Sl KBR _ _ bs)) (by omega)).mono ?_
 rintro e w' ⟨p3,c4,rfl,hw'⟩
 refine ⟨_,rfl,_,back _ _ hw',?_⟩
 clear hw1 hw' back kn sb
 refine lE ofp (lu (mS 2 (#[sB p3 bs c4,sB rva rs (rvc),Ix (gx),Ix (gy)])) (lnc (lE ofp (lE (ols 2) ?_))))
 refine lcf (cl0 (vs := [sB rva rs (rvc)]) tf143.ok rfl rfl) rfl fun w β1 sb kn hw1 back => (lentR_ok β1 w hw1 _ rs (Sl.mono _ _ _ _ _ sb (⟨⟨_,_,rfl,rvl,rvm,rve⟩⟩ : Sl KRR _ _ rs)) (by omega)).mono ?_
 rintro e w' ⟨p5,c6,rfl,hw'⟩
 refine ⟨_,rfl,_,back _ _ hw',?_⟩
 clear hw1 hw' back kn sb
 refine lE ofp (lu (mS 3 (#[sB p3 bs c4,sB p5 rs c6,Ix (gx),Ix (gy)])) (lnc (lE (olg 3) (lu (mS 2 (#[sB p3 bs c4,sB p5 rs c6,Ix (gx),Ix (gy)])) ?_))))
 refine lnf (c_ret ?_)
 refine retG (m := [.agg #[sB p3 bs c4,sB p5 rs c6,Ix (gx),Ix (gy)]]) Tryz.results17 ⟨rd_cell tf86.ok rfl (k_pt 2 rfl rfl) rfl,trivial⟩ rfl ?_
 intro w hw
 have hw2 := st_mask (L' := [rowF RopeF 78 p5 c6 (lentL (markR 1) rs),rowF BodyF 52 p3 c4 (lentL (markB 1) bs)]) [true,true,false,false] rfl hw
 exact ⟨_,_,_,_,rfl,hw2.perm (perm_ix [1,0] 2 rfl (by kernel_rfl) (by kernel_rfl))⟩
theorem keptS_ok (β : Base) (w : World) (hw : St β [] w) (p q : Option Addr) (c d : Nat) (u ru : Value) (gx gy : Int) (bs : List KB) (rs : List KR) (hbn : bs.length ≤ 1048576) (hrn : rs.length ≤ 1048576) (hlb : Sl KBR β.heap (sB p (lentL (markB 1) bs) c) (lentL (markB 1) bs)) (hlr : Sl KRR β.heap (sB q (lentL (markR 1) rs) d) (lentL (markR 1) rs)) (hu : Sl KBR β.heap u bs) (hq : Sl KRR β.heap ru rs) : Ret Tryz.prog 28 #[.agg #[sB p bs c, sB q rs d, Ix gx, Ix gy], .agg #[u, ru, Ix gx, Ix gy]] β w (.bool true) := by
 obtain ⟨ua,uc,rfl,ul,um,ue⟩ := hu.get
 obtain ⟨rua,ruc,rfl,rul,rum,rue⟩ := hq.get
 refine enter (n := 22) Tryz.func28 rfl Tryz.ntmps28 rfl ?_ hw
 refine csr (bxa fun b1 => ?_)
 refine bxa fun b2 => ?_
 refine lE oab (lnc (lE (olg 1) (lE (olg 0) ?_)))
 refine lcR clA (fun w β1 sb kn hw1 => eqScene_ok β1 w hw1 _ _ _ _ (gx) (gy) bs rs (Sl.mono _ _ _ _ _ sb (sl_pre hlb)) (Sl.mono _ _ _ _ _ sb (sl_pre hlr)) (Sl.mono _ _ _ _ _ sb (⟨⟨_,_,rfl,ul,um,ue⟩⟩ : Sl KBR _ _ bs)) (Sl.mono _ _ _ _ _ sb (⟨⟨_,_,rfl,rul,rum,rue⟩⟩ : Sl KRR _ _ rs))) ?_
 refine lE omb (gE ofp (gE (ols 1) (gE ofp (gE (ols 0) (g_call rfl rfl rfl rfl rfl (cl0 (vs := [sB p bs (c),sB ua bs (uc)]) tf145.ok rfl rfl) ?_)))))
 intro w hw
 obtain ⟨β1,sb,kn,hw1,back⟩ := St.frame_all hw
 refine (keptB_ok β1 w hw1 _ _ _ bs (by omega) (Sl.mono _ _ _ _ _ sb hlb) (Sl.mono _ _ _ _ _ sb (⟨⟨_,_,rfl,ul,um,ue⟩⟩ : Sl KBR _ _ bs))).mono ?_
 rintro e w' ⟨rfl,hw'⟩
 refine ⟨_,rfl,_,back _ _ hw',?_⟩
 clear hw hw1 hw' back kn sb
 refine lE oktb (lE omb (gE ofp (gE (ols 1) (gE ofp (gE (ols 0) ?_)))))
 refine g_call rfl rfl rfl rfl rfl (cl0 (vs := [sB q rs (d),sB rua rs (ruc)]) tf146.ok rfl rfl) ?_
 intro w hw
 obtain ⟨β1,sb,kn,hw1,back⟩ := St.frame_all hw
 refine (keptR_ok β1 w hw1 _ _ _ rs (by omega) (Sl.mono _ _ _ _ _ sb hlr) (Sl.mono _ _ _ _ _ sb (⟨⟨_,_,rfl,rul,rum,rue⟩⟩ : Sl KRR _ _ rs))).mono ?_
 rintro e w' ⟨rfl,hw'⟩
 refine ⟨_,rfl,_,back _ _ hw',?_⟩
 clear hw hw1 hw' back kn sb
 refine lE oktb (lE oab (lnf (c_ret (ret1 Tryz.results28 rfl ?_))))
 intro w hw
 exact ⟨rfl,st_mask [false,false] rfl hw⟩
theorem overS_ok (β : Base) (w : World) (p q : Option Addr) (c d n m : Nat) (gx gy : Int) (ys : List KB) (us : List KR) (hlB : ys.length = n + 12) (hlR : us.length = m + 12) (hn : n ≤ 1000000) (hm : m ≤ 1000000) (hw : St β [rowF BodyF 52 p c ys, rowF RopeF 78 q d us] w) : Calls Tryz.prog 30 #[.agg #[.slice p n c, .slice q m d, Ix gx, Ix gy]] w fun r w' => ∃ zs ts, r = .returned (.tuple #[]) ∧ St β [rowF BodyF 52 p c zs, rowF RopeF 78 q d ts] w' := by
 refine enter (n := 8) Tryz.func30 rfl Tryz.ntmps30 rfl ?_ hw
 refine csr (bxa fun b1 => ?_)
 refine lnc (lE ofp (lE (ols 0) (l_call rfl rfl rfl (cl0 (vs := [.slice p (n) c]) tf147.ok rfl rfl) ?_)))
 intro w hw
 replace hw := hw.perm (L' := _ :: _ :: _ :: []) (by exact (((perm_front 2 rfl).trans (perm_front 1 rfl)).trans (perm_front 2 rfl)))
 obtain ⟨β1,sb,kn,hw1,back⟩ := St.frame (L := [_]) (M := _ :: _ :: []) hw
 refine (overB_ok β1 w _ _ _ ys hlB (by omega) hw1).mono ?_
 rintro e w' ⟨zs2,rfl,hw'⟩
 refine ⟨_,rfl,_,back _ _ hw',?_⟩
 clear hw hw1 hw' back kn sb
 refine lnr (lE ofp (lE (ols 1) (l_call rfl rfl rfl (cl0 (vs := [.slice q (m) d]) tf148.ok rfl rfl) ?_)))
 intro w hw
 replace hw := hw.perm (L' := _ :: _ :: _ :: []) (by exact (((perm_front 1 rfl).trans (perm_front 1 rfl)).trans (perm_front 2 rfl)))
 obtain ⟨β1,sb,kn,hw1,back⟩ := St.frame (L := [_]) (M := _ :: _ :: []) hw
 refine (overR_ok β1 w _ _ _ us hlR (by omega) hw1).mono ?_
 rintro e w' ⟨zs3,rfl,hw'⟩
 refine ⟨_,rfl,_,back _ _ hw',?_⟩
 clear hw hw1 hw' back kn sb
 refine l_nil (end0 Tryz.results30 ?_)
 intro w hw
 have hw2 := st_mask (L' := [rowF RopeF 78 q d zs3,rowF BodyF 52 p c zs2]) [true,true,false] rfl hw
 exact ⟨zs2,zs3,rfl,hw2.perm (perm_ix [1,0] 2 rfl (by kernel_rfl) (by kernel_rfl))⟩
set_option maxHeartbeats 4000000 in
theorem few_ok (β : Base) (w : World) (hw : St β [] w) (v rv : Value) (gx gy : Int) (bs : List KB) (rs : List KR) (hs : Sl KBR β.heap v bs) (hr : Sl KRR β.heap rv rs) : Calls Tryz.prog 23 #[.agg #[v, rv, Ix gx, Ix gy]] w fun r w' => ∃ b, r = .returned (.bool b) ∧ (b = true → bs.length ≤ 10 ∧ rs.length ≤ 6) ∧ St β [] w' := by
 obtain ⟨va,vc,rfl,vl,vm,ve⟩ := hs.get
 obtain ⟨rva,rvc,rfl,rvl,rvm,rve⟩ := hr.get
 refine enter (n := 48) Tryz.func23 rfl Tryz.ntmps23 rfl ?_ hw
 refine csr (bxa fun b1 => ?_)
 refine lE oab (lnf (cs2 (c_region (lE ofp (lE (ols 0) (lE oln (lE ogt (lE omb (l_split (s := 10) rfl (fun hg2 => ?_) (fun hg2 => ?_))))))))))
 ·refine skE (skE (skE (skE (lE oktb (lnf (c_yes rfl (csr (lE oab (lnf (c_ret (f_then_ret (ret1 Tryz.results23 rfl ?_))))))))))))
  intro w hw
  exact ⟨false,rfl,(fun h => by cases h),st_mask [false] rfl hw⟩
 refine gE ofp (gE (ols 0) (gE oln (gE ogt (lE okfb (lnf (c_if _ rfl (fun hc3 => ?_) (fun hc3 => ?_)))))))
 ·refine csr (lE oab (lnf (c_ret (f_then_ret (ret1 Tryz.results23 rfl ?_)))))
  intro w hw
  exact ⟨false,rfl,(fun h => by cases h),st_mask [false] rfl hw⟩
 refine csk (csr (lE oai (lnf (cs2 (c_region (lE oai (lnf (c_block (c_mask [true] rfl ?_)))))))))
 refine c_loop (fun (x_ : Nat × Int) f L => match x_ with | (k,t) => (f 1 = pp b1 0 ∧ f 3 = Ix (t) ∧ f 4 = Nx (k)) ∧ L = [pt b1 (.cells #[sB va bs (vc),sB rva rs (rvc),Ix (gx),Ix (gy)] 30)] ∧ (k ≤ bs.length ∧ 0 ≤ t ∧ t ≤ 8192 * ((k : Nat) : Int))) (fun (k,t) => bs.length - k) (0,0) ?_ ?_
 ·exact ⟨⟨rfl,rfl,rfl⟩,rfl,⟨by omega,by omega,by omega⟩⟩
 rintro ⟨k,t⟩ f0 L0 ⟨⟨hs1,hs3,hs4⟩,hL,⟨hk,ht1,ht2⟩⟩
 subst L0
 refine rbs 1 hs1 (rbs 3 hs3 (rbs 4 hs4 (cs2 (c_region (lE omi (lE ofp (lE (ols 0) (lE oln (lE olt (lnf (c_if _ rfl (fun hc4 => ?_) (fun hc4 => ?_))))))))))))
 ·refine csk (c_seq (c_block (c_seq ?_)))
  obtain ⟨x5,hx6⟩ := getx bs k (by omega)
  obtain ⟨ha7,cs8,hc9,rfl⟩ := ve _ _ hx6
  refine cny [sv 23 (pp b1 0) [] [] [0],sv 24 (sB va bs (vc)) [0] [0] [],sv 25 (Nx (k)) [] [] [1],sv 26 (.pointer (some ((ba va).add (k * 9)))) [0,1,2] [1,2] [],sv 27 (.agg (bC x5)) [0,1,2,3] [3] [],sv 28 (pp b1 2) [] [] [0],sv 29 (.agg #[Ix (gx),Ix (gy)]) [5] [5] [],sv 30 (.agg #[Ix (speedX x5 (gx) (gy)),Ix (speedY x5 (gx) (gy))]) (List.range 7) [4,6] [],⟨[],[],[],[5],fun f => f 5 = .pointer (some ⟨(blk (f 5)),0,none⟩)⟩,⟨(List.range 9),[8,7],[],[],fun _ => True⟩] [tk (pt b1 (.cells #[sB va bs (vc),sB rva rs (rvc),Ix (gx),Ix (gy)] 30)) [1,6],⟨(some 8),(some 9),[9],[5],fun f => pt (blk (f 5)) (.cells #[.int .i64 (0),.int .i64 (0)] 28)⟩,⟨(some 9),none,[],[5],fun f => pt (blk (f 5)) (.cells #[Ix (speedX x5 (gx) (gy)),Ix (speedY x5 (gx) (gy))] 28)⟩] [(1,pp b1 0),(4,Nx (k)),(3,Ix (t))] [0,2,1] [] ⟨rfl,rfl,rfl,trivial⟩ ⟨?_,?_,?_,?_,?_,?_,?_,?_,?_,?_,trivial⟩ ?_
  ·rintro f M - ⟨i0,-⟩
   exact obE ofp
  ·rintro f M ⟨k0,-⟩ -
   exact obE (ols 0)
  ·rintro f M - ⟨i0,-⟩
   exact obE omi
  ·rintro f M ⟨k0,k1,-⟩ -
   exact ob0 (up_cons (d := 25) (up_cons (d := 24) rfl k0) k1) rfl (e_indexAddr rfl rfl tf43 (by omega) ha7) (.refl _)
  ·rintro f M ⟨k0,-⟩ -
   exact ob0 (up_cons (d := 26) rfl k0) rfl (e_load tf22.ok rfl (kB hc9) rfl) (.refl _)
  ·rintro f M - ⟨i0,-⟩
   exact obE ofp
  ·rintro f M ⟨k0,-⟩ -
   exact obE (olg 0)
  ·rintro f M ⟨k0,k1,-⟩ -
   refine ob_start (L' := M) (by rfl) (up_cons (d := 29) (up_cons (d := 27) rfl k0) k1) ?_
   refine lcR clA (fun w β1 sb kn hw1 => speed7_ok β1 w hw1 x5 (gx) (gy)) (l_nil ?_)
   exact f_owes_d (up_cons (d := 29) (up_cons (d := 27) rfl k0) k1) rfl (List.Perm.refl _)
  ·rintro f M - -
   refine ob_start (L' := M) (by rfl) rfl (alE fun b12 => l_nil ?_)
   exact f_owes_d rfl rfl (perm_front 0 rfl)
  ·rintro f M ⟨k0,k1,-⟩ -
   have hs5 : f 5 = .pointer (some ⟨(blk (f 5)),0,none⟩) := k0
   refine ob_start (L' := pt (blk (f 5)) (.cells #[.int .i64 (0),.int .i64 (0)] 28) :: M) (by rfl) (up_cons (d := 30) (up_cons rfl hs5) k1) ?_
   refine lu (mS 0 (#[Ix (speedX x5 (gx) (gy)),Ix (speedY x5 (gx) (gy))])) (l_nil ?_)
   exact f_owes_n (up_cons (d := 30) (up_cons rfl hs5) k1) trivial (perm_front 0 rfl)
  rintro fa13 ⟨-,-,-,-,-,-,-,-,k8,-,-⟩ ⟨j0,j1,j2,-⟩
  refine f_re (L' := [pt b1 (.cells #[sB va bs (vc),sB rva rs (rvc),Ix (gx),Ix (gy)] 30),pt (blk (fa13 5)) (.cells #[Ix (speedX x5 (gx) (gy)),Ix (speedY x5 (gx) (gy))] 28)]) (by rfl) ?_
  refine f_rebase (d := 1) j0 (f_rebase (d := 3) j1 (f_rebase (d := 4) j2 (f_rebase (d := 5) k8 (f_then ?_))))
  have hsp := speed_bd x5 gx gy
  refine c_region (lE omi (lE ofp (lE (oli 1) (lE ofp (lE (oli 1) ?_)))))
  refine lv (v := Ix (0 - (speedX x5 (gx) (gy)))) (e_neg (a := (speedX x5 (gx) (gy))) rfl (i64w (by omega))) (lE omx (lE ofp (lE (oli 1) (lE ofp ?_))))
  refine lE (oli 1) (lv (v := Ix (0 - (speedY x5 (gx) (gy)))) (e_neg (a := (speedY x5 (gx) (gy))) rfl (i64w (by omega))) (lE omx (lE opl (lE opl ?_))))
  refine lE oai (l_nil (f_block (f_then (c_region (lE omi (lv (v := Nx (k + 1)) (e_add rfl rfl (i64n (by omega) (by omega))) (lE oai (l_nil ?_))))))))
  refine f_mask [true,false] rfl ?_
  exact f_cut ⟨(k + 1,(t) + ((max (speedX x5 (gx) (gy)) (0 - (speedX x5 (gx) (gy)))) + (max (speedY x5 (gx) (gy)) (0 - (speedY x5 (gx) (gy)))))),⟨⟨rfl,rfl,rfl⟩,rfl,⟨by omega,by omega,by omega⟩⟩,(show bs.length - (k + 1) < bs.length - k from by omega)⟩
 refine c_exit (f_then_exit (f_then_exit (f_exit (ftc (lE omi (lE ole (lE oab (lnf (c_ret (ret1 Tryz.results23 rfl ?_))))))))))
 intro w hw
 exact ⟨_,rfl,(fun _ => ⟨by omega,by omega⟩),st_mask [false] rfl hw⟩
theorem stepRY_ok (β : Base) (w : World) (hw : St β [] w) (v rv : Value) (gx gy : Int) (bs : List KB) (rs : List KR) (hs : Sl KBR β.heap v bs) (hr : Sl KRR β.heap rv rs) (h : okS bs rs gx gy) (B : List KB) (S : List KS) (hBS : stepsTo rs gx gy bs bs.length = (B, S)) : Calls Tryz.prog 75 #[.agg #[v, rv, Ix gx, Ix gy]] w fun r w' => ∃ p1 c1 p2 c2 sp sc, r = .returned (.tuple #[.agg #[sB p1 bs c1, sB p2 rs c2, Ix gx, Ix gy], sB sp S sc, .int .i64 (0)]) ∧ St β [rowF BodyF 52 p1 c1 B, rowF RopeF 78 p2 c2 rs, rowF StopF 55 sp sc S] w' := by
 refine (step8_ok β w hw v rv gx gy bs rs hs hr).mono ?_
 rintro r w' (⟨_,p1,c1,p2,c2,sp,sc,rfl,hw'⟩ | ⟨hn,_⟩)
 ·rw [hBS] at hw' ⊢; exact ⟨p1,c1,p2,c2,sp,sc,rfl,hw'⟩
 exact absurd h hn
theorem stepRN_ok (β : Base) (w : World) (hw : St β [] w) (v rv : Value) (gx gy : Int) (bs : List KB) (rs : List KR) (hs : Sl KBR β.heap v bs) (hr : Sl KRR β.heap rv rs) (h : ¬ okS bs rs gx gy) : Ret Tryz.prog 75 #[.agg #[v, rv, Ix gx, Ix gy]] β w (.tuple #[.agg #[.slice none 0 0, .slice none 0 0, .int .i64 (0), .int .i64 (0)], .slice none 0 0, .int .i64 (2)]) := by
 refine (step8_ok β w hw v rv gx gy bs rs hs hr).mono ?_
 rintro r w' (⟨hy,_⟩ | ⟨_,rfl,hw'⟩)
 ·exact absurd hy h
 exact ⟨rfl,hw'⟩
end Go.Proofs
