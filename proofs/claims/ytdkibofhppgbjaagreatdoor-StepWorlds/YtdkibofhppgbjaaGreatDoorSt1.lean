/-
 Shapes: what shape.Valid,far and Overlap answer. Printed by a program of my own.
-/
import Derived.Test.YtdkibofhppgbjaaGreatDoorProg
import Derived.Test.YtdkibofhppgbjaaGreatDoorStBase
import Derived.Test.YtdkibofhppgbjaaGreatDoorSlB
namespace Go.Proofs
open Go Go.Sl Go.Stp
theorem k_ptI {β : Base} {L : List Res} {b T : Nat} {fr : Nat × Nat} {xs : List Int} (i : Nat) (hi : L[i]? = some (pt b (.cells (xs.map fun x => Ix x).toArray T fr))) : Knows β L (fun h => Elems IntR h (some ⟨b, 0, none⟩) xs) := k_ptE (enc := fun x : Int => Ix x) i hi
instance tf0 : UndC Tryz.prog 46 3 := ⟨by kernel_rfl⟩
theorem tf1 : slB Tryz.prog 46 3 1 = true := by kernel_rfl
instance tf2 : TyC Tryz.prog 3 false 1 := ⟨by kernel_rfl⟩
instance tf3 : FldC Tryz.prog 52 0 0 1 false := ⟨by kernel_rfl⟩
instance tf4 : ZerC Tryz.prog 3 (.int .i64 (0)) := ⟨by kernel_rfl⟩
instance tf5 : CfC Tryz.prog 142 := ⟨by kernel_rfl⟩
instance tf6 : FldC Tryz.prog 52 1 1 2 true := ⟨by kernel_rfl⟩
instance tf7 : FldC Tryz.prog 28 0 0 1 false := ⟨by kernel_rfl⟩
instance tf8 : FldC Tryz.prog 28 1 1 1 false := ⟨by kernel_rfl⟩
instance tf9 : FldC Tryz.prog 52 2 3 2 true := ⟨by kernel_rfl⟩
instance tf10 : FldC Tryz.prog 52 3 5 1 false := ⟨by kernel_rfl⟩
instance tf11 : FldC Tryz.prog 52 4 6 1 false := ⟨by kernel_rfl⟩
instance tf12 : FldC Tryz.prog 52 5 7 1 false := ⟨by kernel_rfl⟩
instance tf13 : TyC Tryz.prog 4 false 1 := ⟨by kernel_rfl⟩
instance tf14 : FldC Tryz.prog 52 6 8 1 false := ⟨by kernel_rfl⟩
instance tf15 : TyC Tryz.prog 28 true 2 := ⟨by kernel_rfl⟩
theorem tf16 : stB Tryz.prog 28 [(0, 1), (1, 1)] = true := by kernel_rfl
instance tf17 : ZerC Tryz.prog 28 (.agg #[.int .i64 (0), .int .i64 (0)]) := ⟨by kernel_rfl⟩
theorem tf18 : lay Tryz.prog 10000 28 = some [.int .i64, .int .i64] := by kernel_rfl
theorem tf19 : isAggT Tryz.prog 28 = true := by kernel_rfl
theorem tf20 : Tryz.prog.eqGuardType Tryz.prog.depth 28 = false := by kernel_rfl
instance tf21 : CfC Tryz.prog 269 := ⟨by kernel_rfl⟩
instance tf22 : TyC Tryz.prog 52 true 9 := ⟨by kernel_rfl⟩
instance tf23 : CfC Tryz.prog 266 := ⟨by kernel_rfl⟩
instance tf24 : CfC Tryz.prog 85 := ⟨by kernel_rfl⟩
instance tf25 : CfC Tryz.prog 218 := ⟨by kernel_rfl⟩
instance tf26 : ArrC Tryz.prog 301 2 300 2 := ⟨by kernel_rfl⟩
instance tf27 : ArrC Tryz.prog 300 2 299 1 := ⟨by kernel_rfl⟩
instance tf28 : TyC Tryz.prog 299 false 1 := ⟨by kernel_rfl⟩
instance tf29 : CfC Tryz.prog 219 := ⟨by kernel_rfl⟩
instance tf30 : CfC Tryz.prog 265 := ⟨by kernel_rfl⟩
instance tf31 : CfC Tryz.prog 267 := ⟨by kernel_rfl⟩
instance tf32 : CfC Tryz.prog 268 := ⟨by kernel_rfl⟩
instance tf33 : CfC Tryz.prog 202 := ⟨by kernel_rfl⟩
set_option maxHeartbeats 4000000 in
theorem between_ok (β : Base) (w : World) (hw : St β [] w) (lo hi : Int) (v : Value) (xs : List Int) (hs : Sl IntR β.heap v xs) : Ret Tryz.prog 142 #[Ix lo, Ix hi, v] β w (.bool (decide (∀ z ∈ xs, lo ≤ z ∧ z ≤ hi))) := by
 obtain ⟨va,vc,rfl,vl,vm,ve⟩ := hs.get
 refine enter (n := 24) Tryz.func142 rfl Tryz.ntmps142 rfl ?_ hw
 refine csr (lE oab (lnf (cs2 (c_region (lE oms (lE oln (lE omi (lnf (c_block ?_)))))))))
 refine c_loop (fun (k : Nat) f L => (f 0 = Ix (lo) ∧ f 1 = Ix (hi) ∧ f 9 = sB va xs (vc) ∧ f 10 = Nx (xs.length) ∧ f 11 = Nx (k)) ∧ L = [] ∧ (k ≤ xs.length ∧ ∀ z ∈ xs.take k,lo ≤ z ∧ z ≤ hi)) (fun k => xs.length - k) 0 ?_ ?_
 ·exact ⟨⟨rfl,rfl,rfl,rfl,rfl⟩,rfl,⟨by omega,fun z hz => by simp at hz⟩⟩
 rintro k f0 L0 ⟨⟨hs0,hs1,hs9,hs10,hs11⟩,hL,⟨hk,hp⟩⟩
 subst L0
 refine rbs 0 hs0 (rbs 1 hs1 (rbs 9 hs9 (rbs 10 hs10 (rbs 11 hs11 (csr (lE olt (lnf (c_seq (c_if _ rfl (fun hc1 => ?_) (fun hc1 => ?_))))))))))
 ·refine csk (c_seq (c_block (csr ?_)))
  obtain ⟨x2,hx3⟩ := getx xs k (by omega)
  obtain ⟨ha4,cs5,hc6,rfl⟩ := ve _ _ hx3
  refine lE (oia tf1 ha4) (lv (v := Ix (x2)) (e_load1 tf2.ok rfl (kB hc6)) (lE oai (lnc (lE omi (lE omi (lE olt (lE omb ?_)))))))
  refine l_split (s := 18) rfl (fun hg8 => ?_) (fun hg8 => ?_)
  ·refine skE (skE (skE (lE oktb (lnf (c_yes rfl (csr (lE oab (lnf (c_ret (f_block_ret (f_then_ret (f_then_ret (f_block_ret (f_then_ret ?_))))))))))))))
   refine ret1 Tryz.results142 rfl ?_
   intro w hw
   exact ⟨congrArg (fun b : Bool => Ending.returned (.bool b)) (all_ite hx3 (by omega)).symm,st_mask [] rfl hw⟩
  refine gE omi (gE omi (gE ogt (lE okfb (lnf (c_if _ rfl (fun hc9 => ?_) (fun hc9 => ?_))))))
  ·refine csr (lE oab (lnf (c_ret (f_block_ret (f_then_ret (f_then_ret (f_block_ret (f_then_ret (ret1 Tryz.results142 rfl ?_)))))))))
   intro w hw
   exact ⟨congrArg (fun b : Bool => Ending.returned (.bool b)) (all_ite hx3 (by omega)).symm,st_mask [] rfl hw⟩
  refine c_skip (f_block (f_then (c_region (lv (v := Nx (k + 1)) (e_add rfl rfl (i64n (by omega) (by omega))) (lE omi (l_nil ?_))))))
  exact f_cut ⟨k + 1,⟨⟨rfl,rfl,rfl,rfl,rfl⟩,rfl,⟨by omega,all_next hx3 hp ⟨by omega,by omega⟩⟩⟩,(show xs.length - (k + 1) < xs.length - k from by omega)⟩
 refine c_exit (f_then_exit (f_then_exit (f_exit (ftc (lE oab (lnf (c_ret (ret1 Tryz.results142 rfl ?_))))))))
 intro w hw
 exact ⟨congrArg (fun b : Bool => Ending.returned (.bool b)) (all_end (by omega) hp).symm,st_mask [] rfl hw⟩
theorem between1_ok (β : Base) (w : World) (hw : St β [] w) (lo hi : Int) (v : Value) (x : Int) (hs : Sl IntR β.heap v [x]) : Ret Tryz.prog 142 #[Ix lo, Ix hi, v] β w (.bool (decide ((lo ≤ x ∧ x ≤ hi)))) := by
 refine (between_ok β w hw lo hi v _ hs).mono ?_
 rintro r w' ⟨rfl,hw'⟩
 exact ⟨congrArg (fun b : Bool => Ending.returned (.bool b)) (decide_eq_decide.2 (by simp)),hw'⟩
theorem between2_ok (β : Base) (w : World) (hw : St β [] w) (lo hi : Int) (v : Value) (x y : Int) (hs : Sl IntR β.heap v [x, y]) : Ret Tryz.prog 142 #[Ix lo, Ix hi, v] β w (.bool (decide ((lo ≤ x ∧ x ≤ hi) ∧ (lo ≤ y ∧ y ≤ hi)))) := by
 refine (between_ok β w hw lo hi v _ hs).mono ?_
 rintro r w' ⟨rfl,hw'⟩
 exact ⟨congrArg (fun b : Bool => Ending.returned (.bool b)) (decide_eq_decide.2 (by simp)),hw'⟩
set_option maxHeartbeats 4000000 in
theorem valid_ok (β : Base) (w : World) (hw : St β [] w) (b : KB) : Ret Tryz.prog 85 #[.agg (bC b)] β w (.bool (decide (okB b))) := by
 refine enter (n := 60) Tryz.func85 rfl Tryz.ntmps85 rfl ?_ hw
 refine csr (bxa fun b1 => ?_)
 refine lE oab (lnf (cs2 (c_region (lE ofp (lE (oli 0) (l_mv rfl rfl rfl (m_slices tf1 tf4.ok (cells := #[Ix (b.id)]) rfl rfl rfl rfl) ?_))))))
 rintro _ _ ⟨b2,rfl,rfl⟩
 refine lcR clA (fun w β1 sb kn hw1 => between1_ok β1 w hw1 (0) (65536) _ b.id (⟨⟨_,_,rfl,by simp,by simp,kn _ (k_ptI 0 (xs := [b.id]) rfl)⟩⟩ : Sl IntR _ _ [b.id])) ?_
 refine lE ond (lE omb (l_split (s := 8) rfl (fun hg3 => ?_) (fun hg3 => ?_)))
 ·iterate 9 refine skE ?_
  refine lE oktb (lE omb ?_)
  iterate 9 refine skE ?_
  refine lE oktb (lE omb ?_)
  iterate 7 refine skE ?_
  refine lE oktb (lnf (c_yes rfl (csr (lE oab (lnf (c_ret (f_then_ret (ret1 Tryz.results85 rfl ?_))))))))
  intro w hw
  exact ⟨congrArg (fun b : Bool => Ending.returned (.bool b)) (show false = decide (okB b) by first | (rw [eq_comm,decide_eq_false_iff_not]; intro hok; obtain ⟨h1,h2,h3,h4,h5,h6,h7,h8,h9⟩ := hok; simp_all) | (simp only [okB]; simp_all)),st_mask [false,false] rfl hw⟩
 refine gE ofp (gE ofp (gE (oli 1) (gE ofp (gE ofp (gE (oli 1) ?_)))))
 refine g_mv rfl rfl rfl rfl rfl (m_slices tf1 tf4.ok (cells := #[Ix (b.x),Ix (b.y)]) rfl rfl rfl rfl) ?_
 rintro _ _ ⟨b4,rfl,rfl⟩
 refine g_call rfl rfl rfl rfl rfl (cl0 (vs := [.int .i64 (-1048576),.int .i64 (1048576),.slice (some ⟨b4,0,none⟩) 2 2]) tf5.ok rfl rfl) ?_
 intro w hw
 obtain ⟨β1,sb,kn,hw1,back⟩ := St.frame_all hw
 refine (between2_ok β1 w hw1 (-1048576) (1048576) _ b.x b.y (⟨⟨_,_,rfl,by simp,by simp,kn _ (k_ptI 0 (xs := [b.x,b.y]) rfl)⟩⟩ : Sl IntR _ _ [b.x,b.y])).mono ?_
 rintro e w' ⟨rfl,hw'⟩
 refine ⟨_,rfl,_,back _ _ hw',?_⟩
 clear hw hw1 hw' back kn sb
 refine gE ond (lE okfb (lE omb (l_split (s := 19) rfl (fun hg5 => ?_) (fun hg5 => ?_))))
 ·iterate 9 refine skE ?_
  refine lE oktb (lE omb ?_)
  iterate 7 refine skE ?_
  refine lE oktb (lnf (c_yes rfl (csr (lE oab (lnf (c_ret (f_then_ret (ret1 Tryz.results85 rfl ?_))))))))
  intro w hw
  exact ⟨congrArg (fun b : Bool => Ending.returned (.bool b)) (show false = decide (okB b) by first | (rw [eq_comm,decide_eq_false_iff_not]; intro hok; obtain ⟨h1,h2,h3,h4,h5,h6,h7,h8,h9⟩ := hok; simp_all) | (simp only [okB]; simp_all)),st_mask [false,false,false] rfl hw⟩
 refine gE ofp (gE ofp (gE (oli 2) (gE ofp (gE ofp (gE (oli 2) ?_)))))
 refine g_mv rfl rfl rfl rfl rfl (m_slices tf1 tf4.ok (cells := #[Ix (b.vx),Ix (b.vy)]) rfl rfl rfl rfl) ?_
 rintro _ _ ⟨b6,rfl,rfl⟩
 refine g_call rfl rfl rfl rfl rfl (cl0 (vs := [.int .i64 (-4096),.int .i64 (4096),.slice (some ⟨b6,0,none⟩) 2 2]) tf5.ok rfl rfl) ?_
 intro w hw
 obtain ⟨β1,sb,kn,hw1,back⟩ := St.frame_all hw
 refine (between2_ok β1 w hw1 (-4096) (4096) _ b.vx b.vy (⟨⟨_,_,rfl,by simp,by simp,kn _ (k_ptI 0 (xs := [b.vx,b.vy]) rfl)⟩⟩ : Sl IntR _ _ [b.vx,b.vy])).mono ?_
 rintro e w' ⟨rfl,hw'⟩
 refine ⟨_,rfl,_,back _ _ hw',?_⟩
 clear hw hw1 hw' back kn sb
 refine gE ond (lE okfb (lE omb (l_split (s := 30) rfl (fun hg7 => ?_) (fun hg7 => ?_))))
 ·iterate 7 refine skE ?_
  refine lE oktb (lnf (c_yes rfl (csr (lE oab (lnf (c_ret (f_then_ret (ret1 Tryz.results85 rfl ?_))))))))
  intro w hw
  exact ⟨congrArg (fun b : Bool => Ending.returned (.bool b)) (show false = decide (okB b) by first | (rw [eq_comm,decide_eq_false_iff_not]; intro hok; obtain ⟨h1,h2,h3,h4,h5,h6,h7,h8,h9⟩ := hok; simp_all) | (simp only [okB]; simp_all)),st_mask [false,false,false,false] rfl hw⟩
 refine gE ofp (gE (oli 3) (gE ofp (gE (oli 3) (g_mv rfl rfl rfl rfl rfl (m_slices tf1 tf4.ok (cells := #[Ix (b.w),Ix (b.h)]) rfl rfl rfl rfl) ?_))))
 rintro _ _ ⟨b8,rfl,rfl⟩
 refine g_call rfl rfl rfl rfl rfl (cl0 (vs := [.int .i64 (1),.int .i64 (16384),.slice (some ⟨b8,0,none⟩) 2 2]) tf5.ok rfl rfl) ?_
 intro w hw
 obtain ⟨β1,sb,kn,hw1,back⟩ := St.frame_all hw
 refine (between2_ok β1 w hw1 (1) (16384) _ b.w b.h (⟨⟨_,_,rfl,by simp,by simp,kn _ (k_ptI 0 (xs := [b.w,b.h]) rfl)⟩⟩ : Sl IntR _ _ [b.w,b.h])).mono ?_
 rintro e w' ⟨rfl,hw'⟩
 refine ⟨_,rfl,_,back _ _ hw',?_⟩
 clear hw hw1 hw' back kn sb
 refine gE ond (lE okfb (lnf (c_if _ rfl (fun hc9 => ?_) (fun hc9 => ?_))))
 ·refine csr (lE oab (lnf (c_ret (f_then_ret (ret1 Tryz.results85 rfl ?_)))))
  intro w hw
  exact ⟨congrArg (fun b : Bool => Ending.returned (.bool b)) (show false = decide (okB b) by first | (rw [eq_comm,decide_eq_false_iff_not]; intro hok; obtain ⟨h1,h2,h3,h4,h5,h6,h7,h8,h9⟩ := hok; simp_all) | (simp only [okB]; simp_all)),st_mask [false,false,false,false,false] rfl hw⟩
 refine csk (csr (lE ofp (lE (olb 4) (lE ont (lE omb (l_splitb (s := 42) (b := !b.round) rfl (fun hg10 => ?_) (fun hg10 => ?_)))))))
 ·iterate 5 refine skE ?_
  refine lE oktb (lE omb (gE ofp (gE (olb 4) (gE ont (gE omb (l_splitb (s := 53) (b := !b.fixed) rfl (fun hg11 => ?_) (fun hg11 => ?_)))))))
  ·refine skE (skE (skE (skE (gE oktb (lE oktb (lE oab (lnf (c_ret (ret1 Tryz.results85 rfl ?_)))))))))
   intro w hw
   exact ⟨congrArg (fun b : Bool => Ending.returned (.bool b)) (show true = decide (okB b) by first | (rw [eq_comm,decide_eq_false_iff_not]; intro hok; obtain ⟨h1,h2,h3,h4,h5,h6,h7,h8,h9⟩ := hok; simp_all) | (simp only [okB]; simp_all)),st_mask [false,false,false,false,false] rfl hw⟩
  refine gE ofp (gE (olg 4) ?_)
  refine g_val (v := .agg #[.int .i64 (0),.int .i64 (0)]) rfl rfl rfl rfl rfl (e_build tf17.ok tf16 (vs := []) (cells := #[.int .i64 (0),.int .i64 (0)]) rfl rfl) ?_
  refine g_val (v := .bool (decide ((b.vx) = (0 : Int) ∧ (b.vy) = (0 : Int)))) rfl rfl rfl rfl rfl (e_eql_t (xs := [Ix (b.vx),Ix (b.vy)]) (ys := [.int .i64 (0),.int .i64 (0)]) tf18 tf19 tf20 rfl rfl rfl rfl vec_eq) ?_
  refine gE okfb (lE oktb (lE oab (lnf (c_ret (ret1 Tryz.results85 rfl ?_)))))
  intro w hw
  exact ⟨congrArg (fun b : Bool => Ending.returned (.bool b)) (show decide ((b.vx) = (0 : Int) ∧ (b.vy) = (0 : Int)) = decide (okB b) by first | (rw [eq_comm,decide_eq_false_iff_not]; intro hok; obtain ⟨h1,h2,h3,h4,h5,h6,h7,h8,h9⟩ := hok; simp_all) | (simp only [okB]; simp_all)),st_mask [false,false,false,false,false] rfl hw⟩
 refine gE ofp (gE (oli 4) (gE ofp (gE (oli 4) (gE oeq_ (lE okfb (lE omb (l_split (s := 49) rfl (fun hg12 => ?_) (fun hg12 => ?_))))))))
 ·refine gE ofp (gE (olb 4) (gE ont (gE omb (l_splitb (s := 53) (b := !b.fixed) rfl (fun hg13 => ?_) (fun hg13 => ?_)))))
  ·refine skE (skE (skE (skE (gE oktb (lE oktb (lE oab (lnf (c_ret (ret1 Tryz.results85 rfl ?_)))))))))
   intro w hw
   exact ⟨congrArg (fun b : Bool => Ending.returned (.bool b)) (show true = decide (okB b) by first | (rw [eq_comm,decide_eq_false_iff_not]; intro hok; obtain ⟨h1,h2,h3,h4,h5,h6,h7,h8,h9⟩ := hok; simp_all) | (simp only [okB]; simp_all)),st_mask [false,false,false,false,false] rfl hw⟩
  refine gE ofp (gE (olg 4) ?_)
  refine g_val (v := .agg #[.int .i64 (0),.int .i64 (0)]) rfl rfl rfl rfl rfl (e_build tf17.ok tf16 (vs := []) (cells := #[.int .i64 (0),.int .i64 (0)]) rfl rfl) ?_
  refine g_val (v := .bool (decide ((b.vx) = (0 : Int) ∧ (b.vy) = (0 : Int)))) rfl rfl rfl rfl rfl (e_eql_t (xs := [Ix (b.vx),Ix (b.vy)]) (ys := [.int .i64 (0),.int .i64 (0)]) tf18 tf19 tf20 rfl rfl rfl rfl vec_eq) ?_
  refine gE okfb (lE oktb (lE oab (lnf (c_ret (ret1 Tryz.results85 rfl ?_)))))
  intro w hw
  exact ⟨congrArg (fun b : Bool => Ending.returned (.bool b)) (show decide ((b.vx) = (0 : Int) ∧ (b.vy) = (0 : Int)) = decide (okB b) by first | (rw [eq_comm,decide_eq_false_iff_not]; intro hok; obtain ⟨h1,h2,h3,h4,h5,h6,h7,h8,h9⟩ := hok; simp_all) | (simp only [okB]; simp_all)),st_mask [false,false,false,false,false] rfl hw⟩
 refine skE (skE (skE (skE (l_skip_u rfl rfl rfl rfl rfl (l_skip_u rfl rfl rfl rfl rfl (l_skip_u rfl rfl rfl rfl rfl (l_skip_u rfl rfl rfl rfl rfl ?_)))))))
 refine skE (lE okfb (lE oab (lnf (c_ret (ret1 Tryz.results85 rfl ?_)))))
 intro w hw
 exact ⟨congrArg (fun b : Bool => Ending.returned (.bool b)) (show false = decide (okB b) by first | (rw [eq_comm,decide_eq_false_iff_not]; intro hok; obtain ⟨h1,h2,h3,h4,h5,h6,h7,h8,h9⟩ := hok; simp_all) | (simp only [okB]; simp_all)),st_mask [false,false,false,false,false] rfl hw⟩
theorem kind_ok (β : Base) (w : World) (hw : St β [] w) (b : KB) : Ret Tryz.prog 218 #[.agg (bC b)] β w (Nx b.round.toNat) := by
 refine enter (n := 5) Tryz.func218 rfl Tryz.ntmps218 rfl ?_ hw
 refine csr (bxa fun b1 => ?_)
 refine lE oai (lnf (cs2 (c_region (lE ofp (lE (olb 0) (lnf (c_ifb (b.round) rfl (fun hc2 => ?_) (fun hc2 => ?_))))))))
 ·refine csr (lE oai (lnf (c_ret (f_then_ret (ret1 Tryz.results218 rfl ?_)))))
  intro w hw
  exact ⟨by rw [hc2]; rfl,st_mask [false] rfl hw⟩
 refine csk (csr (lE oai (lnf (c_ret (ret1 Tryz.results218 rfl ?_)))))
 intro w hw
 exact ⟨by rw [hc2]; rfl,st_mask [false] rfl hw⟩
theorem kind0_ok (β : Base) (w : World) (hw : St β [] w) (b : KB) (h : b.round = false) : Ret Tryz.prog 218 #[.agg (bC b)] β w (.int .i64 (0)) := by
 refine (kind_ok β w hw b).mono ?_
 rintro r w' ⟨rfl,hw'⟩
 exact ⟨by rw [h]; rfl,hw'⟩
theorem kind1_ok (β : Base) (w : World) (hw : St β [] w) (b : KB) (h : b.round = true) : Ret Tryz.prog 218 #[.agg (bC b)] β w (.int .i64 (1)) := by
 refine (kind_ok β w hw b).mono ?_
 rintro r w' ⟨rfl,hw'⟩
 exact ⟨by rw [h]; rfl,hw'⟩
theorem abs_ok (β : Base) (w : World) (hw : St β [] w) (x : Int) (hx : -4611686018427387904 ≤ x ∧ x ≤ 4611686018427387904) : Ret Tryz.prog 219 #[Ix x] β w (Ix (Stp.abs x)) := by
 refine enter (n := 7) Tryz.func219 rfl Tryz.ntmps219 rfl ?_ hw
 refine csr (lE oai (lnc (lE omi (lE omi (lv (v := Ix (0 - (x))) (e_neg (a := (x)) rfl (i64w (by omega))) (lE omx (lE oai (lnf (c_ret ?_)))))))))
 refine ret1 Tryz.results219 rfl ?_
 intro w hw
 exact ⟨congrArg Ending.returned (congrArg (Value.int .i64) (show max x (0 - x) = Stp.abs x by unfold Stp.abs; omega)),st_mask [] rfl hw⟩
theorem sq2_ok (β : Base) (w : World) (hw : St β [] w) (x y : Int) (hx : 0 ≤ x * x ∧ x * x ≤ 1152921504606846976) (hy : 0 ≤ y * y ∧ y * y ≤ 1152921504606846976) : Ret Tryz.prog 269 #[Ix x, Ix y] β w (Ix (x * x + y * y)) := by
 refine enter (n := 12) Tryz.func269 rfl Tryz.ntmps269 rfl ?_ hw
 refine csr (lE oai (lnc (lE omi (lE omi (lE otm (lE omi (lE omi (lE otm (lE opl (lE oai (lnf (c_ret (ret1 Tryz.results269 rfl ?_)))))))))))))
 intro w hw
 exact ⟨rfl,st_mask [] rfl hw⟩
theorem boxes_ok (β : Base) (w : World) (hw : St β [] w) (a b : KB) (ha : okB a) (hb : okB b) (dx dy : Int) (hx : 0 ≤ dx ∧ dx ≤ 2097152) (hy : 0 ≤ dy ∧ dy ≤ 2097152) : Ret Tryz.prog 265 #[.agg (bC a), .agg (bC b), Ix dx, Ix dy] β w (Ix (max (dx - a.w - b.w) (dy - a.h - b.h))) := by
 have a6 := ha.2.2.2.2.2.1
 have a7 := ha.2.2.2.2.2.2.1
 have b6 := hb.2.2.2.2.2.1
 have b7 := hb.2.2.2.2.2.2.1
 refine enter (n := 24) Tryz.func265 rfl Tryz.ntmps265 rfl ?_ hw
 refine csr (bxa fun b1 => ?_)
 refine bxa fun b2 => ?_
 refine lE oai (lnc (lE omi (lE ofp (lE (oli 1) (lE omn (lE ofp (lE (oli 0) (lE omn (lE omi (lE ofp (lE (oli 1) (lE omn (lE ofp (lE (oli 0) (lE omn ?_)))))))))))))))
 refine lE omx (lE oai (lnf (c_ret (ret1 Tryz.results265 rfl ?_))))
 intro w hw
 exact ⟨rfl,st_mask [false,false] rfl hw⟩
theorem boxCircle_ok (β : Base) (w : World) (hw : St β [] w) (a b : KB) (ha : okB a) (hb : okB b) (dx dy : Int) (hx : 0 ≤ dx ∧ dx ≤ 2097152) (hy : 0 ≤ dy ∧ dy ≤ 2097152) : Ret Tryz.prog 266 #[.agg (bC a), .agg (bC b), Ix dx, Ix dy] β w (Ix (max (dx - a.w) 0 * max (dx - a.w) 0 + max (dy - a.h) 0 * max (dy - a.h) 0 - b.w * b.w)) := by
 have a6 := ha.2.2.2.2.2.1
 have a7 := ha.2.2.2.2.2.2.1
 have b6 := hb.2.2.2.2.2.1
 have b7 := hb.2.2.2.2.2.2.1
 have q1 := sq_bd (x := max (dx - a.w) 0) (B := 2097152) (by omega) (by omega)
 have q2 := sq_bd (x := max (dy - a.h) 0) (B := 2097152) (by omega) (by omega)
 have q3 := sq_bd (x := b.w) (B := 16384) (by omega) (by omega)
 refine enter (n := 26) Tryz.func266 rfl Tryz.ntmps266 rfl ?_ hw
 refine csr (bxa fun b1 => ?_)
 refine bxa fun b2 => ?_
 refine lE oai (lnf (c_seq (c_quiet (by kernel_rfl) (by kernel_rfl) (qE omi (qE ofp (qE (oli 1) (qE omn (qE omx (qE omi (qE ofp (qE (oli 1) (qE omn ?_))))))))))))
 refine qE omx ?_
 refine q_call (v := Ix ((max ((dx) - (a.w)) (0 : Int)) * (max ((dx) - (a.w)) (0 : Int)) + (max ((dy) - (a.h)) (0 : Int)) * (max ((dy) - (a.h)) (0 : Int)))) rfl rfl rfl (cl0 (vs := [Ix (max ((dx) - (a.w)) (0 : Int)),Ix (max ((dy) - (a.h)) (0 : Int))]) tf21.ok rfl rfl) (fun w hw => ?_) ?_
 ·obtain ⟨β1,sb,kn,hw1,back⟩ := St.frame_all hw
  exact (sq2_ok β1 w hw1 (max ((dx) - (a.w)) (0 : Int)) (max ((dy) - (a.h)) (0 : Int)) (by omega) (by omega)).mono (fun e w' ⟨he,hw'⟩ => ⟨he,st_mask [true,true] rfl (back _ _ hw')⟩)
 refine qE ofp (qE (oli 0) (qE ofp (qE (oli 0) (qE otm (qE omn (qE oai (q_nil (ftr (ret1 Tryz.results266 rfl ?_)))))))))
 intro w hw
 exact ⟨rfl,st_mask [false,false] rfl hw⟩
theorem circleBox_ok (β : Base) (w : World) (hw : St β [] w) (a b : KB) (ha : okB a) (hb : okB b) (dx dy : Int) (hx : 0 ≤ dx ∧ dx ≤ 2097152) (hy : 0 ≤ dy ∧ dy ≤ 2097152) : Ret Tryz.prog 267 #[.agg (bC a), .agg (bC b), Ix dx, Ix dy] β w (Ix (max (dx - b.w) 0 * max (dx - b.w) 0 + max (dy - b.h) 0 * max (dy - b.h) 0 - a.w * a.w)) := by
 refine enter (n := 14) Tryz.func267 rfl Tryz.ntmps267 rfl ?_ hw
 refine csr (bxa fun b1 => ?_)
 refine bxa fun b2 => ?_
 refine lE oai (lnc (lE (olg 0) (lE (olg 1) (lE omi (lE omi ?_)))))
 refine lcR clA (fun w β1 sb kn hw1 => boxCircle_ok β1 w hw1 b a hb ha (dx) (dy) ⟨by omega,by omega⟩ ⟨by omega,by omega⟩) (lE oai (lnf (c_ret ?_)))
 refine ret1 Tryz.results267 rfl ?_
 intro w hw
 exact ⟨rfl,st_mask [false,false] rfl hw⟩
theorem circles_ok (β : Base) (w : World) (hw : St β [] w) (a b : KB) (ha : okB a) (hb : okB b) (dx dy : Int) (hx : 0 ≤ dx ∧ dx ≤ 2097152) (hy : 0 ≤ dy ∧ dy ≤ 2097152) : Ret Tryz.prog 268 #[.agg (bC a), .agg (bC b), Ix dx, Ix dy] β w (Ix (dx * dx + dy * dy - (a.w + b.w) * (a.w + b.w))) := by
 have a6 := ha.2.2.2.2.2.1
 have a7 := ha.2.2.2.2.2.2.1
 have b6 := hb.2.2.2.2.2.1
 have b7 := hb.2.2.2.2.2.2.1
 have q1 := sq_bd (x := dx) (B := 2097152) (by omega) (by omega)
 have q2 := sq_bd (x := dy) (B := 2097152) (by omega) (by omega)
 have q3 := sq_bd (x := a.w + b.w) (B := 32768) (by omega) (by omega)
 refine enter (n := 24) Tryz.func268 rfl Tryz.ntmps268 rfl ?_ hw
 refine csr (bxa fun b1 => ?_)
 refine bxa fun b2 => ?_
 refine lE oai (lnf (c_seq (c_quiet (by kernel_rfl) (by kernel_rfl) (qE omi (qE omi ?_)))))
 refine q_call (v := Ix ((dx) * (dx) + (dy) * (dy))) rfl rfl rfl (cl0 (vs := [Ix (dx),Ix (dy)]) tf21.ok rfl rfl) (fun w hw => ?_) ?_
 ·obtain ⟨β1,sb,kn,hw1,back⟩ := St.frame_all hw
  exact (sq2_ok β1 w hw1 (dx) (dy) (by omega) (by omega)).mono (fun e w' ⟨he,hw'⟩ => ⟨he,st_mask [true,true] rfl (back _ _ hw')⟩)
 refine qE ofp (qE (oli 1) (qE ofp (qE (oli 0) (qE opl (qE ofp (qE (oli 1) (qE ofp (qE (oli 0) (qE opl (qE otm (qE omn (qE oai (q_nil (ftr ?_))))))))))))))
 refine ret1 Tryz.results268 rfl ?_
 intro w hw
 exact ⟨rfl,st_mask [false,false] rfl hw⟩
set_option maxHeartbeats 4000000 in
theorem far_ok (β : Base) (w : World) (hw : St β [] w) (hG : GR β) (a b : KB) : Ret Tryz.prog 202 #[.agg (bC a), .agg (bC b)] β w (.tuple (farV a b)) := by
 refine enter (n := 40) Tryz.func202 rfl Tryz.ntmps202 rfl ?_ hw
 refine csr (bxa fun b1 => ?_)
 refine bxa fun b2 => ?_
 refine lE oai (lE oab (lnf (cs2 (c_region (lE (olg 1) (lcR clA (fun w β1 sb kn hw1 => valid_ok β1 w hw1 a) (lE ond (lE omb ?_))))))))
 refine l_split (s := 9) rfl (fun hg3 => ?_) (fun hg3 => ?_)
 ·have hoa := hg3
  refine skE (skE (skE (lE oktb (lnf (c_yes rfl (csr (lE oai (lE oab (lnf (c_ret (f_then_ret ?_)))))))))))
  refine ret2 (v := .int .i64 (0)) (v' := .bool false) Tryz.results202 rfl rfl ?_
  intro w hw
  exact ⟨congrArg (fun z => Ending.returned (.tuple z)) (farV_noA hoa).symm,st_mask [false,false] rfl hw⟩
 have hoa := Decidable.not_not.1 hg3
 refine gE (olg 0) (g_call rfl rfl rfl rfl rfl (cl0 (vs := [.agg (bC b)]) tf24.ok rfl rfl) ?_)
 intro w hw
 obtain ⟨β1,sb,kn,hw1,back⟩ := St.frame_all hw
 refine (valid_ok β1 w hw1 b).mono ?_
 rintro e w' ⟨rfl,hw'⟩
 refine ⟨_,rfl,_,back _ _ hw',?_⟩
 clear hw hw1 hw' back kn sb
 refine gE ond (lE okfb (lnf (c_if _ rfl (fun hc4 => ?_) (fun hc4 => ?_))))
 ·have hob := hc4
  refine csr (lE oai (lE oab (lnf (c_ret (f_then_ret (ret2 (v := .int .i64 (0)) (v' := .bool false) Tryz.results202 rfl rfl ?_))))))
  intro w hw
  exact ⟨congrArg (fun z => Ending.returned (.tuple z)) (farV_noB hob).symm,st_mask [false,false] rfl hw⟩
 have hob := Decidable.not_not.1 hc4
 refine csk (c_seq ?_)
 have ga2 := hoa.2.1
 have ga3 := hoa.2.2.1
 have gb2 := hob.2.1
 have gb3 := hob.2.2.1
 have dX : 0 ≤ Stp.abs (a.x - b.x) ∧ Stp.abs (a.x - b.x) ≤ 2097152 := by unfold Stp.abs; omega
 have dY : 0 ≤ Stp.abs (a.y - b.y) ∧ Stp.abs (a.y - b.y) ≤ 2097152 := by unfold Stp.abs; omega
 cases ra : a.round
 ·cases rb : b.round
  ·refine cny [sv 14 (.agg (bC a)) [] [] [0],sv 15 (.int .i64 (0)) [0] [0] [],sv 16 (.agg (bC b)) [] [] [1],sv 17 (.int .i64 (0)) [0,1,2] [2] [],sv 18 (.pointer (some ((⟨0,0,none⟩ : Addr).add (0 * 2)))) [0,1] [1] [],sv 19 (.pointer (some (((⟨0,0,none⟩ : Addr).add (0 * 2) : Addr).add (0 * 1)))) [0,1,2,3,4] [4,3] [],sv 20 (.func (.func 265) #[] #[]) (List.range 6) [5] [],sv 21 (.agg (bC a)) [] [] [0],sv 22 (.agg (bC b)) [] [] [1],sv 23 (pp b1 1) [] [] [0],sv 24 (pp b1 1) [9] [9] [],sv 25 (Ix (a.x)) [9,10] [10] [],sv 26 (pp b2 1) [] [] [1],sv 27 (pp b2 1) [12] [12] [],sv 28 (Ix (b.x)) [12,13] [13] [],sv 29 (Ix ((a.x) - (b.x))) [9,10,11,12,13,14] [11,14] [],sv 30 (Ix (Stp.abs ((a.x) - (b.x)))) [0,1,2,3,9,10,11,12,13,14,15] [15] [],sv 31 (pp b1 1) [] [] [0],sv 32 (pp b1 2) [17] [17] [],sv 33 (Ix (a.y)) [17,18] [18] [],sv 34 (pp b2 1) [] [] [1],sv 35 (pp b2 2) [20] [20] [],sv 36 (Ix (b.y)) [20,21] [21] [],sv 37 (Ix ((a.y) - (b.y))) [17,18,19,20,21,22] [19,22] [],sv 38 (Ix (Stp.abs ((a.y) - (b.y)))) [0,1,2,3,9,10,11,12,13,14,15,16,17,18,19,20,21,22,23] [23] [],sv 39 (Ix (max ((Stp.abs ((a.x) - (b.x))) - a.w - b.w) ((Stp.abs ((a.y) - (b.y))) - a.h - b.h))) (List.range 25) [6,7,8,16,24] [],sv 4 (Ix (max ((Stp.abs ((a.x) - (b.x))) - a.w - b.w) ((Stp.abs ((a.y) - (b.y))) - a.h - b.h))) (List.range 26) [25] [],sv 5 (.bool true) (List.range 27) [] []] [tk (pt b2 (.cells (bC b) 52)) [2,8,14,22],tk (pt b1 (.cells (bC a) 52)) [0,7,11,19]] [(2,pp b1 0),(3,pp b2 0)] [] [] ⟨rfl,rfl,trivial⟩ ⟨?_,?_,?_,?_,?_,?_,?_,?_,?_,?_,?_,?_,?_,?_,?_,?_,?_,?_,?_,?_,?_,?_,?_,?_,?_,?_,?_,?_,trivial⟩ ?_
   ·rintro f M - ⟨i0,-⟩
    exact obE (olg 0)
   ·rintro f M ⟨k0,-⟩ -
    refine ob_start (L' := M) (by rfl) (up_cons (d := 14) rfl k0) (lcR clA (fun w β1 sb kn hw1 => kind0_ok β1 w hw1 a ra) (l_nil ?_))
    exact f_owes_d (up_cons (d := 14) rfl k0) rfl (List.Perm.refl _)
   ·rintro f M - ⟨i0,-⟩
    exact obE (olg 0)
   ·rintro f M ⟨k0,-⟩ -
    refine ob_start (L' := M) (by rfl) (up_cons (d := 16) rfl k0) (lcR clA (fun w β1 sb kn hw1 => kind0_ok β1 w hw1 b rb) (l_nil ?_))
    exact f_owes_d (up_cons (d := 16) rfl k0) rfl (List.Perm.refl _)
   ·rintro f M ⟨k0,-⟩ -
    exact ob0 (up_cons (d := 15) rfl k0) rfl (e_indexArr (a := ⟨0,0,none⟩) (k := 0) rfl rfl tf26.ok (by decide)) (.refl _)
   ·rintro f M ⟨k0,k1,-⟩ -
    exact ob0 (up_cons (d := 17) (up_cons (d := 18) rfl k0) k1) rfl (e_indexArr (a := (⟨0,0,none⟩ : Addr).add (0 * 2)) (k := 0) rfl rfl tf27.ok (by decide)) (.refl _)
   ·rintro f M ⟨k0,-⟩ -
    exact ob0 (up_cons (d := 19) rfl k0) rfl (e_load1 tf28.ok rfl (Knows.imp (Knows.imp (kB hG) (fun _ h => Cs.sub (vs := [.func (.func 265) #[] #[],.func (.func 266) #[] #[]]) (0 * 2) h rfl)) (fun _ h => Cs.sub (vs := [.func (.func 265) #[] #[]]) (0 * 1) h rfl))) (.refl _)
   ·rintro f M - ⟨i0,-⟩
    exact obE (olg 0)
   ·rintro f M - ⟨i0,-⟩
    exact obE (olg 0)
   ·rintro f M - ⟨i0,-⟩
    exact obE ofp
   ·rintro f M ⟨k0,-⟩ -
    exact obE ofp
   ·rintro f M ⟨k0,-⟩ -
    exact obE (oli 0)
   ·rintro f M - ⟨i0,-⟩
    exact obE ofp
   ·rintro f M ⟨k0,-⟩ -
    exact obE ofp
   ·rintro f M ⟨k0,-⟩ -
    exact obE (oli 0)
   ·rintro f M ⟨k0,k1,-⟩ -
    exact obE omn
   ·rintro f M ⟨k0,-⟩ -
    refine ob_start (L' := M) (by rfl) (up_cons (d := 29) rfl k0) (lcR clA (fun w β1 sb kn hw1 => abs_ok β1 w hw1 ((a.x) - (b.x)) (by omega)) (l_nil ?_))
    exact f_owes_d (up_cons (d := 29) rfl k0) rfl (List.Perm.refl _)
   ·rintro f M - ⟨i0,-⟩
    exact obE ofp
   ·rintro f M ⟨k0,-⟩ -
    exact obE ofp
   ·rintro f M ⟨k0,-⟩ -
    exact obE (oli 0)
   ·rintro f M - ⟨i0,-⟩
    exact obE ofp
   ·rintro f M ⟨k0,-⟩ -
    exact obE ofp
   ·rintro f M ⟨k0,-⟩ -
    exact obE (oli 0)
   ·rintro f M ⟨k0,k1,-⟩ -
    exact obE omn
   ·rintro f M ⟨k0,-⟩ -
    refine ob_start (L' := M) (by rfl) (up_cons (d := 37) rfl k0) (lcR clA (fun w β1 sb kn hw1 => abs_ok β1 w hw1 ((a.y) - (b.y)) (by omega)) (l_nil ?_))
    exact f_owes_d (up_cons (d := 37) rfl k0) rfl (List.Perm.refl _)
   ·rintro f M ⟨k0,k1,k2,k3,k4,-⟩ -
    refine ob_start (L' := M) (by rfl) (up_cons (d := 38) (up_cons (d := 30) (up_cons (d := 22) (up_cons (d := 21) (up_cons (d := 20) rfl k0) k1) k2) k3) k4) ?_
    refine lcR clA (fun w β1 sb kn hw1 => boxes_ok β1 w hw1 a b hoa hob (Stp.abs ((a.x) - (b.x))) (Stp.abs ((a.y) - (b.y))) dX dY) (l_nil ?_)
    exact f_owes_d (up_cons (d := 38) (up_cons (d := 30) (up_cons (d := 22) (up_cons (d := 21) (up_cons (d := 20) rfl k0) k1) k2) k3) k4) rfl (List.Perm.refl _)
   ·rintro f M ⟨k0,-⟩ -
    exact obE oai
   ·rintro f M - -
    exact obE oab
   rintro fa5 ⟨-,-,-,-,-,-,-,-,-,-,-,-,-,-,-,-,-,-,-,-,-,-,-,-,-,-,k26,k27,-⟩ -
   refine f_re (L' := [pt b2 (.cells (bC b) 52),pt b1 (.cells (bC a) 52)]) (by rfl) (f_rebase (d := 4) k26 (f_rebase (d := 5) k27 (ftr ?_)))
   refine ret2 (v := Ix (max ((Stp.abs ((a.x) - (b.x))) - a.w - b.w) ((Stp.abs ((a.y) - (b.y))) - a.h - b.h))) (v' := .bool true) Tryz.results202 rfl rfl ?_
   intro w hw
   exact ⟨congrArg (fun z => Ending.returned (.tuple z)) (farV_yes hoa hob (room_ff ra rb _ _)).symm,st_mask [false,false] rfl hw⟩
  refine cny [sv 14 (.agg (bC a)) [] [] [0],sv 15 (.int .i64 (0)) [0] [0] [],sv 16 (.agg (bC b)) [] [] [1],sv 17 (.int .i64 (1)) [0,1,2] [2] [],sv 18 (.pointer (some ((⟨0,0,none⟩ : Addr).add (0 * 2)))) [0,1] [1] [],sv 19 (.pointer (some (((⟨0,0,none⟩ : Addr).add (0 * 2) : Addr).add (1 * 1)))) [0,1,2,3,4] [4,3] [],sv 20 (.func (.func 266) #[] #[]) (List.range 6) [5] [],sv 21 (.agg (bC a)) [] [] [0],sv 22 (.agg (bC b)) [] [] [1],sv 23 (pp b1 1) [] [] [0],sv 24 (pp b1 1) [9] [9] [],sv 25 (Ix (a.x)) [9,10] [10] [],sv 26 (pp b2 1) [] [] [1],sv 27 (pp b2 1) [12] [12] [],sv 28 (Ix (b.x)) [12,13] [13] [],sv 29 (Ix ((a.x) - (b.x))) [9,10,11,12,13,14] [11,14] [],sv 30 (Ix (Stp.abs ((a.x) - (b.x)))) [0,1,2,3,9,10,11,12,13,14,15] [15] [],sv 31 (pp b1 1) [] [] [0],sv 32 (pp b1 2) [17] [17] [],sv 33 (Ix (a.y)) [17,18] [18] [],sv 34 (pp b2 1) [] [] [1],sv 35 (pp b2 2) [20] [20] [],sv 36 (Ix (b.y)) [20,21] [21] [],sv 37 (Ix ((a.y) - (b.y))) [17,18,19,20,21,22] [19,22] [],sv 38 (Ix (Stp.abs ((a.y) - (b.y)))) [0,1,2,3,9,10,11,12,13,14,15,16,17,18,19,20,21,22,23] [23] [],sv 39 (Ix (max ((Stp.abs ((a.x) - (b.x))) - a.w) 0 * max ((Stp.abs ((a.x) - (b.x))) - a.w) 0 + max ((Stp.abs ((a.y) - (b.y))) - a.h) 0 * max ((Stp.abs ((a.y) - (b.y))) - a.h) 0 - b.w * b.w)) (List.range 25) [6,7,8,16,24] [],sv 4 (Ix (max ((Stp.abs ((a.x) - (b.x))) - a.w) 0 * max ((Stp.abs ((a.x) - (b.x))) - a.w) 0 + max ((Stp.abs ((a.y) - (b.y))) - a.h) 0 * max ((Stp.abs ((a.y) - (b.y))) - a.h) 0 - b.w * b.w)) (List.range 26) [25] [],sv 5 (.bool true) (List.range 27) [] []] [tk (pt b2 (.cells (bC b) 52)) [2,8,14,22],tk (pt b1 (.cells (bC a) 52)) [0,7,11,19]] [(2,pp b1 0),(3,pp b2 0)] [] [] ⟨rfl,rfl,trivial⟩ ⟨?_,?_,?_,?_,?_,?_,?_,?_,?_,?_,?_,?_,?_,?_,?_,?_,?_,?_,?_,?_,?_,?_,?_,?_,?_,?_,?_,?_,trivial⟩ ?_
  ·rintro f M - ⟨i0,-⟩
   exact obE (olg 0)
  ·rintro f M ⟨k0,-⟩ -
   refine ob_start (L' := M) (by rfl) (up_cons (d := 14) rfl k0) (lcR clA (fun w β1 sb kn hw1 => kind0_ok β1 w hw1 a ra) (l_nil ?_))
   exact f_owes_d (up_cons (d := 14) rfl k0) rfl (List.Perm.refl _)
  ·rintro f M - ⟨i0,-⟩
   exact obE (olg 0)
  ·rintro f M ⟨k0,-⟩ -
   refine ob_start (L' := M) (by rfl) (up_cons (d := 16) rfl k0) (lcR clA (fun w β1 sb kn hw1 => kind1_ok β1 w hw1 b rb) (l_nil ?_))
   exact f_owes_d (up_cons (d := 16) rfl k0) rfl (List.Perm.refl _)
  ·rintro f M ⟨k0,-⟩ -
   exact ob0 (up_cons (d := 15) rfl k0) rfl (e_indexArr (a := ⟨0,0,none⟩) (k := 0) rfl rfl tf26.ok (by decide)) (.refl _)
  ·rintro f M ⟨k0,k1,-⟩ -
   exact ob0 (up_cons (d := 17) (up_cons (d := 18) rfl k0) k1) rfl (e_indexArr (a := (⟨0,0,none⟩ : Addr).add (0 * 2)) (k := 1) rfl rfl tf27.ok (by decide)) (.refl _)
  ·rintro f M ⟨k0,-⟩ -
   exact ob0 (up_cons (d := 19) rfl k0) rfl (e_load1 tf28.ok rfl (Knows.imp (Knows.imp (kB hG) (fun _ h => Cs.sub (vs := [.func (.func 265) #[] #[],.func (.func 266) #[] #[]]) (0 * 2) h rfl)) (fun _ h => Cs.sub (vs := [.func (.func 266) #[] #[]]) (1 * 1) h rfl))) (.refl _)
  ·rintro f M - ⟨i0,-⟩
   exact obE (olg 0)
  ·rintro f M - ⟨i0,-⟩
   exact obE (olg 0)
  ·rintro f M - ⟨i0,-⟩
   exact obE ofp
  ·rintro f M ⟨k0,-⟩ -
   exact obE ofp
  ·rintro f M ⟨k0,-⟩ -
   exact obE (oli 0)
  ·rintro f M - ⟨i0,-⟩
   exact obE ofp
  ·rintro f M ⟨k0,-⟩ -
   exact obE ofp
  ·rintro f M ⟨k0,-⟩ -
   exact obE (oli 0)
  ·rintro f M ⟨k0,k1,-⟩ -
   exact obE omn
  ·rintro f M ⟨k0,-⟩ -
   refine ob_start (L' := M) (by rfl) (up_cons (d := 29) rfl k0) (lcR clA (fun w β1 sb kn hw1 => abs_ok β1 w hw1 ((a.x) - (b.x)) (by omega)) (l_nil ?_))
   exact f_owes_d (up_cons (d := 29) rfl k0) rfl (List.Perm.refl _)
  ·rintro f M - ⟨i0,-⟩
   exact obE ofp
  ·rintro f M ⟨k0,-⟩ -
   exact obE ofp
  ·rintro f M ⟨k0,-⟩ -
   exact obE (oli 0)
  ·rintro f M - ⟨i0,-⟩
   exact obE ofp
  ·rintro f M ⟨k0,-⟩ -
   exact obE ofp
  ·rintro f M ⟨k0,-⟩ -
   exact obE (oli 0)
  ·rintro f M ⟨k0,k1,-⟩ -
   exact obE omn
  ·rintro f M ⟨k0,-⟩ -
   refine ob_start (L' := M) (by rfl) (up_cons (d := 37) rfl k0) (lcR clA (fun w β1 sb kn hw1 => abs_ok β1 w hw1 ((a.y) - (b.y)) (by omega)) (l_nil ?_))
   exact f_owes_d (up_cons (d := 37) rfl k0) rfl (List.Perm.refl _)
  ·rintro f M ⟨k0,k1,k2,k3,k4,-⟩ -
   refine ob_start (L' := M) (by rfl) (up_cons (d := 38) (up_cons (d := 30) (up_cons (d := 22) (up_cons (d := 21) (up_cons (d := 20) rfl k0) k1) k2) k3) k4) ?_
   refine lcR clA (fun w β1 sb kn hw1 => boxCircle_ok β1 w hw1 a b hoa hob (Stp.abs ((a.x) - (b.x))) (Stp.abs ((a.y) - (b.y))) dX dY) (l_nil ?_)
   exact f_owes_d (up_cons (d := 38) (up_cons (d := 30) (up_cons (d := 22) (up_cons (d := 21) (up_cons (d := 20) rfl k0) k1) k2) k3) k4) rfl (List.Perm.refl _)
  ·rintro f M ⟨k0,-⟩ -
   exact obE oai
  ·rintro f M - -
   exact obE oab
  rintro fa6 ⟨-,-,-,-,-,-,-,-,-,-,-,-,-,-,-,-,-,-,-,-,-,-,-,-,-,-,k26,k27,-⟩ -
  refine f_re (L' := [pt b2 (.cells (bC b) 52),pt b1 (.cells (bC a) 52)]) (by rfl) (f_rebase (d := 4) k26 (f_rebase (d := 5) k27 (ftr ?_)))
  refine ret2 (v := Ix (max ((Stp.abs ((a.x) - (b.x))) - a.w) 0 * max ((Stp.abs ((a.x) - (b.x))) - a.w) 0 + max ((Stp.abs ((a.y) - (b.y))) - a.h) 0 * max ((Stp.abs ((a.y) - (b.y))) - a.h) 0 - b.w * b.w)) (v' := .bool true) Tryz.results202 rfl rfl ?_
  intro w hw
  exact ⟨congrArg (fun z => Ending.returned (.tuple z)) (farV_yes hoa hob (room_ft ra rb _ _)).symm,st_mask [false,false] rfl hw⟩
 cases rb : b.round
 ·refine cny [sv 14 (.agg (bC a)) [] [] [0],sv 15 (.int .i64 (1)) [0] [0] [],sv 16 (.agg (bC b)) [] [] [1],sv 17 (.int .i64 (0)) [0,1,2] [2] [],sv 18 (.pointer (some ((⟨0,0,none⟩ : Addr).add (1 * 2)))) [0,1] [1] [],sv 19 (.pointer (some (((⟨0,0,none⟩ : Addr).add (1 * 2) : Addr).add (0 * 1)))) [0,1,2,3,4] [4,3] [],sv 20 (.func (.func 267) #[] #[]) (List.range 6) [5] [],sv 21 (.agg (bC a)) [] [] [0],sv 22 (.agg (bC b)) [] [] [1],sv 23 (pp b1 1) [] [] [0],sv 24 (pp b1 1) [9] [9] [],sv 25 (Ix (a.x)) [9,10] [10] [],sv 26 (pp b2 1) [] [] [1],sv 27 (pp b2 1) [12] [12] [],sv 28 (Ix (b.x)) [12,13] [13] [],sv 29 (Ix ((a.x) - (b.x))) [9,10,11,12,13,14] [11,14] [],sv 30 (Ix (Stp.abs ((a.x) - (b.x)))) [0,1,2,3,9,10,11,12,13,14,15] [15] [],sv 31 (pp b1 1) [] [] [0],sv 32 (pp b1 2) [17] [17] [],sv 33 (Ix (a.y)) [17,18] [18] [],sv 34 (pp b2 1) [] [] [1],sv 35 (pp b2 2) [20] [20] [],sv 36 (Ix (b.y)) [20,21] [21] [],sv 37 (Ix ((a.y) - (b.y))) [17,18,19,20,21,22] [19,22] [],sv 38 (Ix (Stp.abs ((a.y) - (b.y)))) [0,1,2,3,9,10,11,12,13,14,15,16,17,18,19,20,21,22,23] [23] [],sv 39 (Ix (max ((Stp.abs ((a.x) - (b.x))) - b.w) 0 * max ((Stp.abs ((a.x) - (b.x))) - b.w) 0 + max ((Stp.abs ((a.y) - (b.y))) - b.h) 0 * max ((Stp.abs ((a.y) - (b.y))) - b.h) 0 - a.w * a.w)) (List.range 25) [6,7,8,16,24] [],sv 4 (Ix (max ((Stp.abs ((a.x) - (b.x))) - b.w) 0 * max ((Stp.abs ((a.x) - (b.x))) - b.w) 0 + max ((Stp.abs ((a.y) - (b.y))) - b.h) 0 * max ((Stp.abs ((a.y) - (b.y))) - b.h) 0 - a.w * a.w)) (List.range 26) [25] [],sv 5 (.bool true) (List.range 27) [] []] [tk (pt b2 (.cells (bC b) 52)) [2,8,14,22],tk (pt b1 (.cells (bC a) 52)) [0,7,11,19]] [(2,pp b1 0),(3,pp b2 0)] [] [] ⟨rfl,rfl,trivial⟩ ⟨?_,?_,?_,?_,?_,?_,?_,?_,?_,?_,?_,?_,?_,?_,?_,?_,?_,?_,?_,?_,?_,?_,?_,?_,?_,?_,?_,?_,trivial⟩ ?_
  ·rintro f M - ⟨i0,-⟩
   exact obE (olg 0)
  ·rintro f M ⟨k0,-⟩ -
   refine ob_start (L' := M) (by rfl) (up_cons (d := 14) rfl k0) (lcR clA (fun w β1 sb kn hw1 => kind1_ok β1 w hw1 a ra) (l_nil ?_))
   exact f_owes_d (up_cons (d := 14) rfl k0) rfl (List.Perm.refl _)
  ·rintro f M - ⟨i0,-⟩
   exact obE (olg 0)
  ·rintro f M ⟨k0,-⟩ -
   refine ob_start (L' := M) (by rfl) (up_cons (d := 16) rfl k0) (lcR clA (fun w β1 sb kn hw1 => kind0_ok β1 w hw1 b rb) (l_nil ?_))
   exact f_owes_d (up_cons (d := 16) rfl k0) rfl (List.Perm.refl _)
  ·rintro f M ⟨k0,-⟩ -
   exact ob0 (up_cons (d := 15) rfl k0) rfl (e_indexArr (a := ⟨0,0,none⟩) (k := 1) rfl rfl tf26.ok (by decide)) (.refl _)
  ·rintro f M ⟨k0,k1,-⟩ -
   exact ob0 (up_cons (d := 17) (up_cons (d := 18) rfl k0) k1) rfl (e_indexArr (a := (⟨0,0,none⟩ : Addr).add (1 * 2)) (k := 0) rfl rfl tf27.ok (by decide)) (.refl _)
  ·rintro f M ⟨k0,-⟩ -
   exact ob0 (up_cons (d := 19) rfl k0) rfl (e_load1 tf28.ok rfl (Knows.imp (Knows.imp (kB hG) (fun _ h => Cs.sub (vs := [.func (.func 267) #[] #[],.func (.func 268) #[] #[]]) (1 * 2) h rfl)) (fun _ h => Cs.sub (vs := [.func (.func 267) #[] #[]]) (0 * 1) h rfl))) (.refl _)
  ·rintro f M - ⟨i0,-⟩
   exact obE (olg 0)
  ·rintro f M - ⟨i0,-⟩
   exact obE (olg 0)
  ·rintro f M - ⟨i0,-⟩
   exact obE ofp
  ·rintro f M ⟨k0,-⟩ -
   exact obE ofp
  ·rintro f M ⟨k0,-⟩ -
   exact obE (oli 0)
  ·rintro f M - ⟨i0,-⟩
   exact obE ofp
  ·rintro f M ⟨k0,-⟩ -
   exact obE ofp
  ·rintro f M ⟨k0,-⟩ -
   exact obE (oli 0)
  ·rintro f M ⟨k0,k1,-⟩ -
   exact obE omn
  ·rintro f M ⟨k0,-⟩ -
   refine ob_start (L' := M) (by rfl) (up_cons (d := 29) rfl k0) (lcR clA (fun w β1 sb kn hw1 => abs_ok β1 w hw1 ((a.x) - (b.x)) (by omega)) (l_nil ?_))
   exact f_owes_d (up_cons (d := 29) rfl k0) rfl (List.Perm.refl _)
  ·rintro f M - ⟨i0,-⟩
   exact obE ofp
  ·rintro f M ⟨k0,-⟩ -
   exact obE ofp
  ·rintro f M ⟨k0,-⟩ -
   exact obE (oli 0)
  ·rintro f M - ⟨i0,-⟩
   exact obE ofp
  ·rintro f M ⟨k0,-⟩ -
   exact obE ofp
  ·rintro f M ⟨k0,-⟩ -
   exact obE (oli 0)
  ·rintro f M ⟨k0,k1,-⟩ -
   exact obE omn
  ·rintro f M ⟨k0,-⟩ -
   refine ob_start (L' := M) (by rfl) (up_cons (d := 37) rfl k0) (lcR clA (fun w β1 sb kn hw1 => abs_ok β1 w hw1 ((a.y) - (b.y)) (by omega)) (l_nil ?_))
   exact f_owes_d (up_cons (d := 37) rfl k0) rfl (List.Perm.refl _)
  ·rintro f M ⟨k0,k1,k2,k3,k4,-⟩ -
   refine ob_start (L' := M) (by rfl) (up_cons (d := 38) (up_cons (d := 30) (up_cons (d := 22) (up_cons (d := 21) (up_cons (d := 20) rfl k0) k1) k2) k3) k4) ?_
   refine lcR clA (fun w β1 sb kn hw1 => circleBox_ok β1 w hw1 a b hoa hob (Stp.abs ((a.x) - (b.x))) (Stp.abs ((a.y) - (b.y))) dX dY) (l_nil ?_)
   exact f_owes_d (up_cons (d := 38) (up_cons (d := 30) (up_cons (d := 22) (up_cons (d := 21) (up_cons (d := 20) rfl k0) k1) k2) k3) k4) rfl (List.Perm.refl _)
  ·rintro f M ⟨k0,-⟩ -
   exact obE oai
  ·rintro f M - -
   exact obE oab
  rintro fa7 ⟨-,-,-,-,-,-,-,-,-,-,-,-,-,-,-,-,-,-,-,-,-,-,-,-,-,-,k26,k27,-⟩ -
  refine f_re (L' := [pt b2 (.cells (bC b) 52),pt b1 (.cells (bC a) 52)]) (by rfl) (f_rebase (d := 4) k26 (f_rebase (d := 5) k27 (ftr ?_)))
  refine ret2 (v := Ix (max ((Stp.abs ((a.x) - (b.x))) - b.w) 0 * max ((Stp.abs ((a.x) - (b.x))) - b.w) 0 + max ((Stp.abs ((a.y) - (b.y))) - b.h) 0 * max ((Stp.abs ((a.y) - (b.y))) - b.h) 0 - a.w * a.w)) (v' := .bool true) Tryz.results202 rfl rfl ?_
  intro w hw
  exact ⟨congrArg (fun z => Ending.returned (.tuple z)) (farV_yes hoa hob (room_tf ra rb _ _)).symm,st_mask [false,false] rfl hw⟩
 refine cny [sv 14 (.agg (bC a)) [] [] [0],sv 15 (.int .i64 (1)) [0] [0] [],sv 16 (.agg (bC b)) [] [] [1],sv 17 (.int .i64 (1)) [0,1,2] [2] [],sv 18 (.pointer (some ((⟨0,0,none⟩ : Addr).add (1 * 2)))) [0,1] [1] [],sv 19 (.pointer (some (((⟨0,0,none⟩ : Addr).add (1 * 2) : Addr).add (1 * 1)))) [0,1,2,3,4] [4,3] [],sv 20 (.func (.func 268) #[] #[]) (List.range 6) [5] [],sv 21 (.agg (bC a)) [] [] [0],sv 22 (.agg (bC b)) [] [] [1],sv 23 (pp b1 1) [] [] [0],sv 24 (pp b1 1) [9] [9] [],sv 25 (Ix (a.x)) [9,10] [10] [],sv 26 (pp b2 1) [] [] [1],sv 27 (pp b2 1) [12] [12] [],sv 28 (Ix (b.x)) [12,13] [13] [],sv 29 (Ix ((a.x) - (b.x))) [9,10,11,12,13,14] [11,14] [],sv 30 (Ix (Stp.abs ((a.x) - (b.x)))) [0,1,2,3,9,10,11,12,13,14,15] [15] [],sv 31 (pp b1 1) [] [] [0],sv 32 (pp b1 2) [17] [17] [],sv 33 (Ix (a.y)) [17,18] [18] [],sv 34 (pp b2 1) [] [] [1],sv 35 (pp b2 2) [20] [20] [],sv 36 (Ix (b.y)) [20,21] [21] [],sv 37 (Ix ((a.y) - (b.y))) [17,18,19,20,21,22] [19,22] [],sv 38 (Ix (Stp.abs ((a.y) - (b.y)))) [0,1,2,3,9,10,11,12,13,14,15,16,17,18,19,20,21,22,23] [23] [],sv 39 (Ix ((Stp.abs ((a.x) - (b.x))) * (Stp.abs ((a.x) - (b.x))) + (Stp.abs ((a.y) - (b.y))) * (Stp.abs ((a.y) - (b.y))) - (a.w + b.w) * (a.w + b.w))) (List.range 25) [6,7,8,16,24] [],sv 4 (Ix ((Stp.abs ((a.x) - (b.x))) * (Stp.abs ((a.x) - (b.x))) + (Stp.abs ((a.y) - (b.y))) * (Stp.abs ((a.y) - (b.y))) - (a.w + b.w) * (a.w + b.w))) (List.range 26) [25] [],sv 5 (.bool true) (List.range 27) [] []] [tk (pt b2 (.cells (bC b) 52)) [2,8,14,22],tk (pt b1 (.cells (bC a) 52)) [0,7,11,19]] [(2,pp b1 0),(3,pp b2 0)] [] [] ⟨rfl,rfl,trivial⟩ ⟨?_,?_,?_,?_,?_,?_,?_,?_,?_,?_,?_,?_,?_,?_,?_,?_,?_,?_,?_,?_,?_,?_,?_,?_,?_,?_,?_,?_,trivial⟩ ?_
 ·rintro f M - ⟨i0,-⟩
  exact obE (olg 0)
 ·rintro f M ⟨k0,-⟩ -
  refine ob_start (L' := M) (by rfl) (up_cons (d := 14) rfl k0) (lcR clA (fun w β1 sb kn hw1 => kind1_ok β1 w hw1 a ra) (l_nil ?_))
  exact f_owes_d (up_cons (d := 14) rfl k0) rfl (List.Perm.refl _)
 ·rintro f M - ⟨i0,-⟩
  exact obE (olg 0)
 ·rintro f M ⟨k0,-⟩ -
  refine ob_start (L' := M) (by rfl) (up_cons (d := 16) rfl k0) (lcR clA (fun w β1 sb kn hw1 => kind1_ok β1 w hw1 b rb) (l_nil ?_))
  exact f_owes_d (up_cons (d := 16) rfl k0) rfl (List.Perm.refl _)
 ·rintro f M ⟨k0,-⟩ -
  exact ob0 (up_cons (d := 15) rfl k0) rfl (e_indexArr (a := ⟨0,0,none⟩) (k := 1) rfl rfl tf26.ok (by decide)) (.refl _)
 ·rintro f M ⟨k0,k1,-⟩ -
  exact ob0 (up_cons (d := 17) (up_cons (d := 18) rfl k0) k1) rfl (e_indexArr (a := (⟨0,0,none⟩ : Addr).add (1 * 2)) (k := 1) rfl rfl tf27.ok (by decide)) (.refl _)
 ·rintro f M ⟨k0,-⟩ -
  exact ob0 (up_cons (d := 19) rfl k0) rfl (e_load1 tf28.ok rfl (Knows.imp (Knows.imp (kB hG) (fun _ h => Cs.sub (vs := [.func (.func 267) #[] #[],.func (.func 268) #[] #[]]) (1 * 2) h rfl)) (fun _ h => Cs.sub (vs := [.func (.func 268) #[] #[]]) (1 * 1) h rfl))) (.refl _)
 ·rintro f M - ⟨i0,-⟩
  exact obE (olg 0)
 ·rintro f M - ⟨i0,-⟩
  exact obE (olg 0)
 ·rintro f M - ⟨i0,-⟩
  exact obE ofp
 ·rintro f M ⟨k0,-⟩ -
  exact obE ofp
 ·rintro f M ⟨k0,-⟩ -
  exact obE (oli 0)
 ·rintro f M - ⟨i0,-⟩
  exact obE ofp
 ·rintro f M ⟨k0,-⟩ -
  exact obE ofp
 ·rintro f M ⟨k0,-⟩ -
  exact obE (oli 0)
 ·rintro f M ⟨k0,k1,-⟩ -
  exact obE omn
 ·rintro f M ⟨k0,-⟩ -
  refine ob_start (L' := M) (by rfl) (up_cons (d := 29) rfl k0) (lcR clA (fun w β1 sb kn hw1 => abs_ok β1 w hw1 ((a.x) - (b.x)) (by omega)) (l_nil ?_))
  exact f_owes_d (up_cons (d := 29) rfl k0) rfl (List.Perm.refl _)
 ·rintro f M - ⟨i0,-⟩
  exact obE ofp
 ·rintro f M ⟨k0,-⟩ -
  exact obE ofp
 ·rintro f M ⟨k0,-⟩ -
  exact obE (oli 0)
 ·rintro f M - ⟨i0,-⟩
  exact obE ofp
 ·rintro f M ⟨k0,-⟩ -
  exact obE ofp
 ·rintro f M ⟨k0,-⟩ -
  exact obE (oli 0)
 ·rintro f M ⟨k0,k1,-⟩ -
  exact obE omn
 ·rintro f M ⟨k0,-⟩ -
  refine ob_start (L' := M) (by rfl) (up_cons (d := 37) rfl k0) (lcR clA (fun w β1 sb kn hw1 => abs_ok β1 w hw1 ((a.y) - (b.y)) (by omega)) (l_nil ?_))
  exact f_owes_d (up_cons (d := 37) rfl k0) rfl (List.Perm.refl _)
 ·rintro f M ⟨k0,k1,k2,k3,k4,-⟩ -
  refine ob_start (L' := M) (by rfl) (up_cons (d := 38) (up_cons (d := 30) (up_cons (d := 22) (up_cons (d := 21) (up_cons (d := 20) rfl k0) k1) k2) k3) k4) ?_
  refine lcR clA (fun w β1 sb kn hw1 => circles_ok β1 w hw1 a b hoa hob (Stp.abs ((a.x) - (b.x))) (Stp.abs ((a.y) - (b.y))) dX dY) (l_nil ?_)
  exact f_owes_d (up_cons (d := 38) (up_cons (d := 30) (up_cons (d := 22) (up_cons (d := 21) (up_cons (d := 20) rfl k0) k1) k2) k3) k4) rfl (List.Perm.refl _)
 ·rintro f M ⟨k0,-⟩ -
  exact obE oai
 ·rintro f M - -
  exact obE oab
 rintro fa8 ⟨-,-,-,-,-,-,-,-,-,-,-,-,-,-,-,-,-,-,-,-,-,-,-,-,-,-,k26,k27,-⟩ -
 refine f_re (L' := [pt b2 (.cells (bC b) 52),pt b1 (.cells (bC a) 52)]) (by rfl) (f_rebase (d := 4) k26 (f_rebase (d := 5) k27 (ftr ?_)))
 refine ret2 (v := Ix ((Stp.abs ((a.x) - (b.x))) * (Stp.abs ((a.x) - (b.x))) + (Stp.abs ((a.y) - (b.y))) * (Stp.abs ((a.y) - (b.y))) - (a.w + b.w) * (a.w + b.w))) (v' := .bool true) Tryz.results202 rfl rfl ?_
 intro w hw
 exact ⟨congrArg (fun z => Ending.returned (.tuple z)) (farV_yes hoa hob (room_tt ra rb _ _)).symm,st_mask [false,false] rfl hw⟩
theorem farY_ok (β : Base) (w : World) (hw : St β [] w) (hG : GR β) (a b : KB) (ha : okB a) (hb : okB b) : Ret Tryz.prog 202 #[.agg (bC a), .agg (bC b)] β w (.tuple #[Ix (far a b), .bool true]) := by
 refine (far_ok β w hw hG a b).mono ?_
 rintro r w' ⟨rfl,hw'⟩
 exact ⟨by rw [farV_yes ha hb rfl]; rfl,hw'⟩
theorem farN_ok (β : Base) (w : World) (hw : St β [] w) (hG : GR β) (a b : KB) (h : ¬ (okB a ∧ okB b)) : Ret Tryz.prog 202 #[.agg (bC a), .agg (bC b)] β w (.tuple #[.int .i64 0, .bool false]) := by
 refine (far_ok β w hw hG a b).mono ?_
 rintro r w' ⟨rfl,hw'⟩
 exact ⟨by unfold farV; rw [if_neg h],hw'⟩
theorem over_ok (β : Base) (w : World) (hw : St β [] w) (hG : GR β) (a b : KB) : Ret Tryz.prog 150 #[.agg (bC a), .agg (bC b)] β w (.bool (decide (over a b))) := by
 refine enter (n := 18) Tryz.func150 rfl Tryz.ntmps150 rfl ?_ hw
 refine csr (bxa fun b1 => ?_)
 refine bxa fun b2 => ?_
 refine lE oab (lnf (c_seq ?_))
 by_cases hn : okB a ∧ okB b
 ·obtain ⟨ha,hb⟩ := hn
  refine c_region (lE (olg 1) (lE (olg 0) (l_call rfl rfl rfl (cl0 (vs := [.agg (bC a),.agg (bC b)]) tf33.ok rfl rfl) ?_)))
  intro w hw
  obtain ⟨β1,sb,kn,hw1,back⟩ := St.frame_all hw
  have hG1 := GR.mono sb hG
  refine (farY_ok β1 w hw1 hG1 a b ha hb).mono ?_
  rintro e w' ⟨rfl,hw'⟩
  refine ⟨_,rfl,_,back _ _ hw',?_⟩
  clear hw hw1 hw' back kn sb
  refine lE omt (lE oxi (lE oxb (lE oai (lE oab (lnc (lE omb (lE omb (gE omi (gE olt (lE oktb (lE oab (lnf (c_ret (ret1 Tryz.results150 rfl ?_))))))))))))))
  intro w hw
  exact ⟨congrArg (fun b : Bool => Ending.returned (.bool b)) (decide_eq_decide.2 ⟨fun h => ⟨ha,hb,h⟩,fun h => h.2.2⟩),st_mask [false,false] rfl hw⟩
 skip
 refine c_region (lE (olg 1) (lE (olg 0) (l_call rfl rfl rfl (cl0 (vs := [.agg (bC a),.agg (bC b)]) tf33.ok rfl rfl) ?_)))
 intro w hw
 obtain ⟨β1,sb,kn,hw1,back⟩ := St.frame_all hw
 have hG1 := GR.mono sb hG
 refine (farN_ok β1 w hw1 hG1 a b hn).mono ?_
 rintro e w' ⟨rfl,hw'⟩
 refine ⟨_,rfl,_,back _ _ hw',?_⟩
 clear hw hw1 hw' back kn sb
 refine lE omt (lE oxi (lE oxb (lE oai (lE oab (lnc (lE omb (lE omb (skE (skE (lE okfb (lE oab (lnf (c_ret (ret1 Tryz.results150 rfl ?_))))))))))))))
 intro w hw
 exact ⟨congrArg (fun b : Bool => Ending.returned (.bool b)) (decide_eq_false fun h => hn ⟨h.1,h.2.1⟩).symm,st_mask [false,false] rfl hw⟩
end Go.Proofs
