/-
 How far a mover can go: run. Printed by a program of my own.
-/
import Derived.Test.YtdkibofhppgbjaaGreatDoorSt5
import Derived.Test.YtdkibofhppgbjaaGreatDoorSlB
namespace Go.Proofs
open Go Go.Sl Go.Stp
theorem firstR_pos (y : Bool) (b : KB) (s : Int) (most m0 : Nat) (es : List (KB × Int)) : 1 ≤ firstR y b s most m0 es := by
 have key : ∀ (es : List (KB × Int)) (k : Nat),1 ≤ k → 1 ≤ es.foldl (fun k p => min k (ropeN y b s most p)) k := by
  intro es
  induction es with
  | nil => exact fun k h => h
  | cons e es ih => exact fun k h => ih _ (by have := (ropeN_least y b s most e).1; show 1 ≤ min k (ropeN y b s most e); omega)
 exact key es _ (by omega)
theorem firstR_le (y : Bool) (b : KB) (s : Int) (most m0 : Nat) (es : List (KB × Int)) : firstR y b s most m0 es ≤ m0 + 1 := by
 have key : ∀ (es : List (KB × Int)) (k : Nat),es.foldl (fun k p => min k (ropeN y b s most p)) k ≤ k := by
  intro es
  induction es with
  | nil => exact fun k => Nat.le_refl _
  | cons e es ih => exact fun k => Nat.le_trans (ih _) (Nat.min_le_left _ _)
 exact key es _
theorem firstO_le {y : Bool} {b : KB} {s : Int} {most k0 : Nat} (h : k0 ≤ most + 1) {os : List KB} : (firstO y b s most k0 os).1 ≤ most + 1 := by
 have key : ∀ (os : List KB) (q : Nat × Int),q.1 ≤ most + 1 → (os.foldl (stepO y b s most) q).1 ≤ most + 1 := by
  intro os
  induction os with
  | nil => exact fun q h => h
  | cons o os ih =>
   exact fun q h => ih _ (by
    unfold stepO
    split
    ·exact (blockN_least y b s most o).2.1
    ·exact h)
 exact key os _ h
theorem firstO_pos {y : Bool} {b : KB} {s : Int} {most k0 : Nat} (h : 1 ≤ k0) {os : List KB} : 1 ≤ (firstO y b s most k0 os).1 := by
 have key : ∀ (os : List KB) (q : Nat × Int),1 ≤ q.1 → 1 ≤ (os.foldl (stepO y b s most) q).1 := by
  intro os
  induction os with
  | nil => exact fun q h => h
  | cons o os ih =>
   exact fun q h => ih _ (by
    unfold stepO
    split
    ·exact (blockN_least y b s most o).1
    ·exact h)
 exact key os _ h
theorem run_eq {bs : List KB} {rs : List KR} {b : KB} {y : Bool} {s : Int} {most m0 : Nat} (h : min (most : Int) (1048576 - s * co y b) = (m0 : Int)) :
  runP bs rs b y s most = ((firstO y b s most (firstR y b s most m0 (ends bs rs b)) (others bs b)).1 - 1,(firstO y b s most (firstR y b s most m0 (ends bs rs b)) (others bs b)).2) := by
 unfold runP; rw [h]; rfl
instance tf80 : CfC Tryz.prog 89 := ⟨by kernel_rfl⟩
instance tf81 : CfC Tryz.prog 93 := ⟨by kernel_rfl⟩
instance tf82 : CfC Tryz.prog 94 := ⟨by kernel_rfl⟩
theorem ends_ok (β : Base) (w : World) (hw : St β [] w) (v rv : Value) (gx gy : Int) (b : KB) (y : Bool) (s : Int) : Calls Tryz.prog 89 #[.agg (mC v rv gx gy b y s)] w fun r w' => ∃ c, r = .returned (.func (.func 144) #[] #[pp c 0]) ∧ St β [pt c (.cells (mC v rv gx gy b y s) 87)] w' := by
 refine enter (n := 4) Tryz.func89 rfl Tryz.ntmps89 rfl ?_ hw
 refine csr (bxa fun b1 => ?_)
 refine lv e_assign (lnc (lv (v := .func (.func 144) #[] #[pp b1 0]) (e_func (u := []) (v := [pp b1 0]) rfl rfl) (lE oaf (lnf (c_ret ?_)))))
 refine ret1 Tryz.results89 rfl ?_
 intro w hw
 exact ⟨_,rfl,hw⟩
theorem bodies_ok (β : Base) (w : World) (hw : St β [] w) (v rv : Value) (gx gy : Int) (b : KB) (y : Bool) (s : Int) : Calls Tryz.prog 93 #[.agg (mC v rv gx gy b y s)] w fun r w' => ∃ c, r = .returned (.func (.func 149) #[] #[pp c 0]) ∧ St β [pt c (.cells (mC v rv gx gy b y s) 87)] w' := by
 refine enter (n := 4) Tryz.func93 rfl Tryz.ntmps93 rfl ?_ hw
 refine csr (bxa fun b1 => ?_)
 refine lv e_assign (lnc (lv (v := .func (.func 149) #[] #[pp b1 0]) (e_func (u := []) (v := [pp b1 0]) rfl rfl) (lE oaf (lnf (c_ret ?_)))))
 refine ret1 Tryz.results93 rfl ?_
 intro w hw
 exact ⟨_,rfl,hw⟩
theorem run1_fn (β : Base) (c e d : Nat) (v rv : Value) (gx gy : Int) (b : KB) (y : Bool) (s : Int) (hs : s = 1 ∨ s = -1) (hb : okB b) (o : KB) (ho : okB o) (lim : Int) (n : Nat) (hn : n ≤ 1048576) (hc : Cs β.heap ⟨c, 0, none⟩ (mC v rv gx gy b y s).toList) (he : Cs β.heap ⟨e, 0, none⟩ (bodyE o)) (hd : Cs β.heap ⟨d, 0, none⟩ [Ix lim]) : FnV Tryz.prog β (.func (.func 91) #[] #[pp c 0, pp e 0, pp d 0]) (fun z : Nat => [Nx z]) (fun z => 1 ≤ z ∧ z ≤ n) (fun z => .bool (decide (lim < Stp.dist (sh y b (s * z)) o))) := by
 refine ⟨91,[],[pp c 0,pp e 0,pp d 0],rfl,by kernel_rfl,fun β₁ sb0 z_ hz_ w hw => ?_⟩
 have hc1 := Cs.mono _ _ _ _ sb0 hc
 have he1 := Cs.mono _ _ _ _ sb0 he
 have hd1 := Cs.mono _ _ _ _ sb0 hd
 obtain ⟨i,hi⟩ : ∃ i,i = z_ := ⟨_,rfl⟩
 subst hi
 refine enter (n := 13) Tryz.func91 rfl Tryz.ntmps91 rfl ?_ hw
 refine csr (lE oab (lnf (c_seq (c_quiet (by kernel_rfl) (by kernel_rfl) ?_))))
 refine q_val (v := .agg (mC v rv gx gy b y s)) rfl rfl rfl (e_load tf72.ok rfl (kB hc1) rfl) (qE omi ?_)
 refine q_call (v := .agg #[Ix ((sh y b (s * ((i : Nat) : Int))).id),Ix ((sh y b (s * ((i : Nat) : Int))).x),Ix ((sh y b (s * ((i : Nat) : Int))).y),Ix ((sh y b (s * ((i : Nat) : Int))).vx),Ix ((sh y b (s * ((i : Nat) : Int))).vy),Ix ((sh y b (s * ((i : Nat) : Int))).w),Ix ((sh y b (s * ((i : Nat) : Int))).h),.bool ((sh y b (s * ((i : Nat) : Int))).round),.bool ((sh y b (s * ((i : Nat) : Int))).fixed)]) rfl rfl rfl (cl0 (vs := [.agg (mC v rv gx gy b y s),Nx (i)]) tf73.ok rfl rfl) (fun w hw => ?_) ?_
 ·obtain ⟨β1,sb,kn,hw1,back⟩ := St.frame_all hw
  exact (at_ok β1 w hw1 _ _ _ _ b y s hs hb ((i : Nat) : Int) (by omega)).mono (fun e w' ⟨he,hw'⟩ => ⟨he,st_mask [] rfl (back _ _ hw')⟩)
 refine q_val (v := .agg (bC o)) rfl rfl rfl (e_load tf22.ok rfl (kB he1) rfl) ?_
 refine q_call (v := Ix (Stp.dist (sh y b (s * ((i : Nat) : Int))) o)) rfl rfl rfl (cl0 (vs := [.agg #[Ix ((sh y b (s * ((i : Nat) : Int))).id),Ix ((sh y b (s * ((i : Nat) : Int))).x),Ix ((sh y b (s * ((i : Nat) : Int))).y),Ix ((sh y b (s * ((i : Nat) : Int))).vx),Ix ((sh y b (s * ((i : Nat) : Int))).vy),Ix ((sh y b (s * ((i : Nat) : Int))).w),Ix ((sh y b (s * ((i : Nat) : Int))).h),.bool ((sh y b (s * ((i : Nat) : Int))).round),.bool ((sh y b (s * ((i : Nat) : Int))).fixed)],.agg (bC o)]) tf79.ok rfl rfl) (fun w hw => ?_) ?_
 ·obtain ⟨β1,sb,kn,hw1,back⟩ := St.frame_all hw
  exact (dist_ok β1 w hw1 (sh y b (s * ((i : Nat) : Int))) o (mid_sh hb (sgn_mul hs (by omega))) ho.mid).mono (fun e w' ⟨he,hw'⟩ => ⟨he,st_mask [] rfl (back _ _ hw')⟩)
 refine q_val (v := Ix (lim)) rfl rfl rfl (e_load1 tf2.ok rfl (kB hd1)) (qE ogt (qE oab (q_nil (ftr (ret1 Tryz.results91 rfl ?_)))))
 intro w hw
 exact ⟨rfl,st_mask [] rfl hw⟩
set_option maxHeartbeats 4000000 in
theorem run_ok (β : Base) (w : World) (hw : St β [] w) (hG : GR β) (v rv : Value) (gx gy : Int) (b : KB) (y : Bool) (s : Int) (bs : List KB) (rs : List KR) (hs_ : Sl KBR β.heap v bs) (hr_ : Sl KRR β.heap rv rs) (hbs : ∀ o ∈ bs, okB o) (hrs : ∀ r ∈ rs, okR bs r) (hs : s = 1 ∨ s = -1) (hb : okB b) (hn : bs.length ≤ 1048576) (most : Nat) (hmo : most ≤ 1048576) : Ret Tryz.prog 41 #[.agg (mC v rv gx gy b y s), Nx most] β w (.tuple #[Nx (runP bs rs b y s most).1, Ix (runP bs rs b y s most).2]) := by
 have hco := hb.co y
 have hsn := sgn_mul (B := 1048576) (n := co y b) hs (by omega)
 refine enterM (n := 68) Tryz.func41 rfl Tryz.ntmps41 rfl ?_ hw
 refine csr (bxa fun b1 => ?_)
 refine bxi fun b2 => ?_
 refine lE oai (lE oai (lnf (c_seq (c_quiet (by kernel_rfl) (by kernel_rfl) (qE ofp (qE (oli 1) (qE ofp (qE ofp ?_))))))))
 refine q_call (v := .agg #[pp b1 5,pp b1 6]) rfl rfl rfl (cl0 (vs := [pp b1 5]) tf63.ok rfl rfl) (fun w hw => ?_) ?_
 ·obtain ⟨β1,sb,kn,hw1,back⟩ := St.frame_all hw
  exact (axes_ok β1 w hw1 b1 5).mono (fun e w' ⟨he,hw'⟩ => ⟨he,st_mask [true,true] rfl (back _ _ hw')⟩)
 refine qE ofp (qE (oli 1) ?_)
 refine q_val (v := .pointer (some ⟨b1,5 + y.toNat,none⟩)) rfl rfl rfl (ev_eq (by cases y <;> rfl) (e_index_2 (u := pp b1 5) (v := pp b1 6) (y := y) rfl rfl tf61.ok tf64.ok)) ?_
 refine qE onp (q_val (v := Ix (co y b)) rfl rfl rfl (e_load1 tf2.ok rfl (k_pt 1 rfl (by cases y <;> rfl))) (qE otm (qE omn (qE oai (q_nil (fts ?_))))))
 obtain ⟨m0,hm0⟩ : ∃ m0 : Nat,min ((most : Nat) : Int) (1048576 - s * co y b) = ((m0 : Nat) : Int) := ⟨(min ((most : Nat) : Int) (1048576 - s * co y b)).toNat,by omega⟩
 refine c_region (lE (oli 0) (lE omi ?_))
 refine lv (v := Nx (m0)) (ev_eq (congrArg (Value.int .i64) hm0) (e_min (a := ((most : Nat) : Int)) (b := ((1048576 : Int) - ((s) * (co y b)))) rfl rfl)) ?_
 refine lv (v := Nx (m0 + 1)) (e_add rfl rfl (i64n (by omega) (by omega))) (alE fun b3 => alE fun b4 => lu (mS 1 (#[Nx (m0 + 1)])) ?_)
 refine lu (mS 0 (#[.int .i64 (-1)])) (lnf (cs2 (c_region (lE (olg 3) ?_))))
 refine lcf (cl0 (vs := [.agg (mC v rv gx gy b y s)]) tf80.ok rfl rfl) rfl fun w β1 sb kn hw1 back => (ends_ok β1 w hw1 _ _ _ _ b y s).mono ?_
 rintro e w' ⟨c5,rfl,hw'⟩
 refine ⟨_,rfl,_,back _ _ hw',?_⟩
 clear hw1 hw' back kn sb
 refine lnf (c_block (c_pi [1,2,3,4,0] 5 rfl (by kernel_rfl) ?_))
 refine c_freeze2 (M := [pt b4 (.cells #[.int .i64 (-1)] 3),pt b3 (.cells #[Nx (m0 + 1)] 3),pt b2 (.cells #[Nx (most)] 3),pt b1 (.cells (mC v rv gx gy b y s) 87)]) (K := [pt c5 (.cells (mC v rv gx gy b y s) 87)]) rfl (fun βf1 ext1 kn1 bk1 => ?_)
 have hcE := kn1 _ (k_pt 0 (o := 0) (cs := (mC v rv gx gy b y s)) (vs := (mC v rv gx gy b y s).toList) rfl rfl)
 have hG := GR.mono ext1.sub hG
 have hs_ := Sl.mono _ _ _ _ _ ext1.sub hs_
 have hr_ := Sl.mono _ _ _ _ _ ext1.sub hr_
 refine c_range (α := KB × Int) (enc := fun z : KB × Int => [.agg (bC z.1),Ix z.2]) (S := (· = ends bs rs b)) (ps := [31,32]) (I := fun (pre : List (KB × Int)) (L : List Res) => L = [pt b4 (.cells #[.int .i64 (-1)] 3),pt b3 (.cells #[Nx (firstR y b s most m0 pre)] 3),pt b2 (.cells #[Nx (most)] 3),pt b1 (.cells (mC v rv gx gy b y s) 87)] ∧ True) (X := fun _ _ _ => False) rfl (ends1_seq βf1 hG c5 _ _ _ _ b y s bs rs hs_ hr_ hbs hrs hb hn hcE) (fun _ => rfl) rfl ⟨rfl,trivial⟩ ?_ ?_ ?_
 ·rintro l β1 pre x M ext hpre ⟨rfl,-⟩
  have hx := ends_mem hb hbs hrs (mem_pre hpre)
  refine csr (alE fun b6 => lu (mS 0 (bC x.1)) (lnr (alE fun b7 => lu (mS 0 (#[Ix (x.2)])) (l_nil (f_cut (fun β2 ext2 => ?_))))))
  refine c_block ?_
  refine cny [sv 33 (Nx (firstR y b s most m0 pre)) [] [] [0],sv 34 (Nx (most)) [] [] [1],sv 35 (.func (.func 91) #[] #[pp b1 0,pp b6 0,pp b7 0]) [] [] [2,3,4],sv 36 (Nx (ropeN y b s most x)) [1,2] [1,2] [],sv 37 (Nx (min (firstR y b s most m0 pre) (ropeN y b s most x))) [0,1,2,3] [0,3] [],⟨[0,1,2,3,4],[4],[0],[],fun _ => True⟩] [tk (pt b7 (.cells #[Ix (x.2)] 3)) [3],tk (pt b6 (.cells (bC x.1) 52)) [3],tk (pt b4 (.cells #[.int .i64 (-1)] 3)) [],⟨none,(some 5),[0,5],[],fun _ => pt b3 (.cells #[Nx (firstR y b s most m0 pre)] 3)⟩,tk (pt b2 (.cells #[Nx (most)] 3)) [1],tk (pt b1 (.cells (mC v rv gx gy b y s) 87)) [3],⟨(some 5),none,[],[],fun _ => pt b3 (.cells #[Nx (min (firstR y b s most m0 pre) (ropeN y b s most x))] 3)⟩] [(7,pp b3 0),(3,pp b2 0),(2,pp b1 0),(9,pp b6 0),(10,pp b7 0)] [] [] ⟨rfl,rfl,rfl,rfl,rfl,trivial⟩ ⟨?_,?_,?_,?_,?_,?_,trivial⟩ ?_
  ·rintro f M - ⟨i0,-⟩
   exact obE (oli 0)
  ·rintro f M - ⟨i0,-⟩
   exact obE (oli 0)
  ·rintro f M - ⟨i0,i1,i2,-⟩
   exact ob0 (up_cons (d := 10) (up_cons (d := 9) (up_cons (d := 2) rfl i0) i1) i2) rfl (e_func (u := []) (v := [pp b1 0,pp b6 0,pp b7 0]) rfl rfl) (.refl _)
  ·rintro f M ⟨k0,k1,-⟩ -
   refine ob_start (L' := pt b7 (.cells #[Ix (x.2)] 3) :: pt b6 (.cells (bC x.1) 52) :: pt b1 (.cells (mC v rv gx gy b y s) 87) :: M) (by rfl) (up_cons (d := 35) (up_cons (d := 34) rfl k0) k1) ?_
   refine lcR clA (fun w β1 sb kn hw1 => least_ok β1 w hw1 _ most hmo (fun z => decide (x.2 < Stp.dist (sh y b (s * z)) x.1)) (fun i j h1 h2 h3 h4 => decide_eq_true (dist_on hs h1 h2 hx.2.1 (of_decide_eq_true h4))) (run1_fn β1 b1 b6 b7 _ _ _ _ b y s hs hb x.1 hx.1 x.2 most hmo (kn _ (k_pt 2 (o := 0) rfl rfl)) (kn _ (k_pt 1 (o := 0) rfl rfl)) (kn _ (k_pt 0 (o := 0) rfl rfl)))) ?_
   refine l_nil ?_
   exact f_owes_d (up_cons (d := 35) (up_cons (d := 34) rfl k0) k1) rfl (((perm_front 2 rfl).trans (perm_front 2 rfl)).trans (perm_front 2 rfl))
  ·rintro f M ⟨k0,k1,-⟩ -
   exact ob0 (up_cons (d := 36) (up_cons (d := 33) rfl k0) k1) rfl (ev_eq (congrArg (Value.int .i64) (by omega)) (e_min (a := ((firstR y b s most m0 pre : Nat) : Int)) (b := ((ropeN y b s most x : Nat) : Int)) rfl rfl)) (.refl _)
  ·rintro f M ⟨k0,-⟩ ⟨i0,-⟩
   refine ob_start (L' := pt b3 (.cells #[Nx (firstR y b s most m0 pre)] 3) :: M) (by rfl) (up_cons (d := 37) (up_cons (d := 7) rfl i0) k0) ?_
   refine lu (mS 0 (#[Nx (min (firstR y b s most m0 pre) (ropeN y b s most x))])) (l_nil ?_)
   exact f_owes_n (up_cons (d := 37) (up_cons (d := 7) rfl i0) k0) trivial (perm_front 0 rfl)
  rintro fa8 ⟨-,-,-,-,-,-,-⟩ -
  refine f_re (L' := [pt b7 (.cells #[Ix (x.2)] 3),pt b6 (.cells (bC x.1) 52),pt b4 (.cells #[.int .i64 (-1)] 3),pt b2 (.cells #[Nx (most)] 3),pt b1 (.cells (mC v rv gx gy b y s) 87),pt b3 (.cells #[Nx (min (firstR y b s most m0 pre) (ropeN y b s most x))] 3)]) (by rfl) ?_
  refine f_block ?_
  refine f_perm (L' := [pt b4 (.cells #[.int .i64 (-1)] 3),pt b3 (.cells #[Nx (min (firstR y b s most m0 pre) (ropeN y b s most x))] 3),pt b2 (.cells #[Nx (most)] 3),pt b1 (.cells (mC v rv gx gy b y s) 87),pt b7 (.cells #[Ix (x.2)] 3),pt b6 (.cells (bC x.1) 52)]) (perm_ix [2,5,3,4,0,1] 6 rfl (by kernel_rfl) (by kernel_rfl)) ?_
  refine f_mask [true,true,true,true,false,false] rfl ?_
  exact fun a w ha hw => ⟨_,⟨(by rw [firstR_snoc]; try rfl),trivial⟩,hw⟩
 ·rintro D1 ys1 M hS1 ⟨rfl,-⟩
  refine f_block (fts (csr (lE (olg 3) ?_)))
  refine lcf (cl0 (vs := [.agg (mC v rv gx gy b y s)]) tf81.ok rfl rfl) rfl fun w β1 sb kn hw1 back => (bodies_ok β1 w hw1 _ _ _ _ b y s).mono ?_
  rintro e w' ⟨c9,rfl,hw'⟩
  refine ⟨_,rfl,_,back _ _ hw',?_⟩
  clear hw1 hw' back kn sb
  refine lnf (c_block (c_pi [1,2,3,4,5,0] 6 rfl (by kernel_rfl) ?_))
  refine c_freeze2 (M := [pt b4 (.cells #[.int .i64 (-1)] 3),pt b3 (.cells #[Nx (firstR y b s most m0 ys1)] 3),pt b2 (.cells #[Nx (most)] 3),pt b1 (.cells (mC v rv gx gy b y s) 87),pt D1 (.deferred (some []))]) (K := [pt c9 (.cells (mC v rv gx gy b y s) 87)]) rfl (fun βf2 ext1 kn1 bk2 => ?_)
  have hcE := kn1 _ (k_pt 0 (o := 0) (cs := (mC v rv gx gy b y s)) (vs := (mC v rv gx gy b y s).toList) rfl rfl)
  have hG := GR.mono ext1.sub hG
  have hs_ := Sl.mono _ _ _ _ _ ext1.sub hs_
  have hr_ := Sl.mono _ _ _ _ _ ext1.sub hr_
  refine c_range (α := KB) (enc := fun z : KB => [.agg (bC z)]) (S := (· = others bs b)) (ps := [40]) (I := fun (pre : List (KB)) (L : List Res) => L = [pt b4 (.cells #[Ix ((firstO y b s most (firstR y b s most m0 (ends bs rs b)) pre).2)] 3),pt b3 (.cells #[Nx ((firstO y b s most (firstR y b s most m0 (ends bs rs b)) pre).1)] 3),pt b2 (.cells #[Nx (most)] 3),pt b1 (.cells (mC v rv gx gy b y s) 87),pt D1 (.deferred (some []))] ∧ True) (X := fun _ _ _ => False) rfl (bodies1_seq βf2 hG c9 _ _ _ _ b y s bs rs hs_ hr_ hbs hrs hb hn hcE) (fun _ => rfl) rfl ⟨by rw [hS1]; rfl,trivial⟩ ?_ ?_ ?_
  ·rintro l β1 pre x M ext hpre ⟨rfl,-⟩
   have hx := others_mem hbs (mem_pre hpre)
   refine c_region (alE fun b10 => lu (mS 0 (bC x)) (l_nil (f_cut (fun β2 ext2 => ?_))))
   have hG := GR.mono ext2.sub hG
   have hs_ := Sl.mono _ _ _ _ _ ext2.sub hs_
   have hr_ := Sl.mono _ _ _ _ _ ext2.sub hr_
   refine c_block (csr (lE (olg 4) (lE (olg 0) (lE (oli 3) ?_))))
   refine l_call rfl rfl rfl (cl0 (vs := [.agg (mC v rv gx gy b y s),.agg (bC x),Nx (most)]) tf82.ok rfl rfl) ?_
   intro w hw
   obtain ⟨β1,sb,kn,hw1,back⟩ := St.frame_all hw
   have hG1 := GR.mono sb hG
   refine (blocked_ok β1 w hw1 hG1 _ _ _ _ b y s hs hb x hx.1 hx.2 most hmo).mono ?_
   rintro e w' ⟨rfl,hw'⟩
   refine ⟨_,rfl,_,back _ _ hw',?_⟩
   clear hw hw1 hw' back kn sb
   refine lE oai (lnc (lE omi (lE (oli 2) (lE olt (lE omb (l_split (s := 48) rfl (fun hg11 => ?_) (fun hg11 => ?_)))))))
   ·refine skE (skE (skE (skE (l_skip_u rfl rfl rfl rfl rfl (l_skip_u rfl rfl rfl rfl rfl (l_skip_u rfl rfl rfl rfl rfl (skE (skE ?_))))))))
    refine l_skip_u rfl rfl rfl rfl rfl (l_skip_u rfl rfl rfl rfl rfl (skE (lE oktb (lnf (c_yes rfl ?_)))))
    refine cny [sv 62 (Nx (blockN y b s most x)) [] [] [0],sv 63 (pp b10 0) [] [] [1],sv 64 (Ix (x.id)) [1] [1] [],⟨[0],[0],[2],[],fun _ => True⟩,⟨[0,1,2,3],[2],[3],[],fun _ => True⟩] [tk (pt b10 (.cells (bC x) 52)) [2],⟨none,(some 4),[4],[],fun _ => pt b4 (.cells #[Ix ((firstO y b s most (firstR y b s most m0 (ends bs rs b)) pre).2)] 3)⟩,⟨none,(some 3),[3],[],fun _ => pt b3 (.cells #[Nx ((firstO y b s most (firstR y b s most m0 (ends bs rs b)) pre).1)] 3)⟩,tk (pt b2 (.cells #[Nx (most)] 3)) [],tk (pt b1 (.cells (mC v rv gx gy b y s) 87)) [],tk (pt D1 (.deferred (some []))) [],⟨(some 3),none,[],[],fun _ => pt b3 (.cells #[Nx (blockN y b s most x)] 3)⟩,⟨(some 4),none,[],[],fun _ => pt b4 (.cells #[Ix (x.id)] 3)⟩] [(12,Nx (blockN y b s most x)),(11,pp b10 0),(7,pp b3 0),(8,pp b4 0)] [] [] ⟨rfl,rfl,rfl,rfl,trivial⟩ ⟨?_,?_,?_,?_,?_,trivial⟩ ?_
    ·rintro f M - ⟨i0,-⟩
     exact obE omi
    ·rintro f M - ⟨i0,-⟩
     exact obE ofp
    ·rintro f M ⟨k0,-⟩ -
     exact obE (oli 0)
    ·rintro f M ⟨k0,-⟩ ⟨i0,-⟩
     refine ob_start (L' := pt b3 (.cells #[Nx ((firstO y b s most (firstR y b s most m0 (ends bs rs b)) pre).1)] 3) :: M) (by rfl) (up_cons (d := 62) (up_cons (d := 7) rfl i0) k0) ?_
     refine lu (mS 0 (#[Nx (blockN y b s most x)])) (l_nil ?_)
     exact f_owes_n (up_cons (d := 62) (up_cons (d := 7) rfl i0) k0) trivial (perm_front 0 rfl)
    ·rintro f M ⟨k0,-⟩ ⟨i0,-⟩
     refine ob_start (L' := pt b4 (.cells #[Ix ((firstO y b s most (firstR y b s most m0 (ends bs rs b)) pre).2)] 3) :: M) (by rfl) (up_cons (d := 64) (up_cons (d := 8) rfl i0) k0) ?_
     refine lu (mS 0 (#[Ix (x.id)])) (l_nil ?_)
     exact f_owes_n (up_cons (d := 64) (up_cons (d := 8) rfl i0) k0) trivial (perm_front 0 rfl)
    rintro fa12 ⟨-,-,-,-,-,-⟩ -
    refine f_re (L' := [pt b10 (.cells (bC x) 52),pt b2 (.cells #[Nx (most)] 3),pt b1 (.cells (mC v rv gx gy b y s) 87),pt D1 (.deferred (some [])),pt b3 (.cells #[Nx (blockN y b s most x)] 3),pt b4 (.cells #[Ix (x.id)] 3)]) (by rfl) ?_
    refine f_block ?_
    refine f_perm (L' := [pt b4 (.cells #[Ix (x.id)] 3),pt b3 (.cells #[Nx (blockN y b s most x)] 3),pt b2 (.cells #[Nx (most)] 3),pt b1 (.cells (mC v rv gx gy b y s) 87),pt D1 (.deferred (some [])),pt b10 (.cells (bC x) 52)]) (perm_ix [5,4,1,2,3,0] 6 rfl (by kernel_rfl) (by kernel_rfl)) ?_
    refine f_mask [true,true,true,true,true,false] rfl ?_
    exact fun a w ha hw => ⟨_,⟨(by rw [firstO_yes (by omega)]; try rfl),trivial⟩,hw⟩
   refine gE omi (gE (oli 2) (gE oeq_ (gE omb (l_split (s := 52) rfl (fun hg13 => ?_) (fun hg13 => ?_)))))
   ·refine gE omi (gE (oli 3) (gE ole (gE oktb (gE omb (l_split (s := 57) rfl (fun hg14 => ?_) (fun hg14 => ?_))))))
    ·refine gE (oli 1) (gE olt (gE oktb (lE okfb (lnf (c_if _ rfl (fun hc15 => ?_) (fun hc15 => ?_))))))
     ·refine cny [sv 62 (Nx (blockN y b s most x)) [] [] [0],sv 63 (pp b10 0) [] [] [1],sv 64 (Ix (x.id)) [1] [1] [],⟨[0],[0],[2],[],fun _ => True⟩,⟨[0,1,2,3],[2],[3],[],fun _ => True⟩] [tk (pt b10 (.cells (bC x) 52)) [2],⟨none,(some 4),[4],[],fun _ => pt b4 (.cells #[Ix ((firstO y b s most (firstR y b s most m0 (ends bs rs b)) pre).2)] 3)⟩,⟨none,(some 3),[3],[],fun _ => pt b3 (.cells #[Nx ((firstO y b s most (firstR y b s most m0 (ends bs rs b)) pre).1)] 3)⟩,tk (pt b2 (.cells #[Nx (most)] 3)) [],tk (pt b1 (.cells (mC v rv gx gy b y s) 87)) [],tk (pt D1 (.deferred (some []))) [],⟨(some 3),none,[],[],fun _ => pt b3 (.cells #[Nx (blockN y b s most x)] 3)⟩,⟨(some 4),none,[],[],fun _ => pt b4 (.cells #[Ix (x.id)] 3)⟩] [(12,Nx (blockN y b s most x)),(11,pp b10 0),(7,pp b3 0),(8,pp b4 0)] [] [] ⟨rfl,rfl,rfl,rfl,trivial⟩ ⟨?_,?_,?_,?_,?_,trivial⟩ ?_
      ·rintro f M - ⟨i0,-⟩
       exact obE omi
      ·rintro f M - ⟨i0,-⟩
       exact obE ofp
      ·rintro f M ⟨k0,-⟩ -
       exact obE (oli 0)
      ·rintro f M ⟨k0,-⟩ ⟨i0,-⟩
       refine ob_start (L' := pt b3 (.cells #[Nx ((firstO y b s most (firstR y b s most m0 (ends bs rs b)) pre).1)] 3) :: M) (by rfl) (up_cons (d := 62) (up_cons (d := 7) rfl i0) k0) ?_
       refine lu (mS 0 (#[Nx (blockN y b s most x)])) (l_nil ?_)
       exact f_owes_n (up_cons (d := 62) (up_cons (d := 7) rfl i0) k0) trivial (perm_front 0 rfl)
      ·rintro f M ⟨k0,-⟩ ⟨i0,-⟩
       refine ob_start (L' := pt b4 (.cells #[Ix ((firstO y b s most (firstR y b s most m0 (ends bs rs b)) pre).2)] 3) :: M) (by rfl) (up_cons (d := 64) (up_cons (d := 8) rfl i0) k0) ?_
       refine lu (mS 0 (#[Ix (x.id)])) (l_nil ?_)
       exact f_owes_n (up_cons (d := 64) (up_cons (d := 8) rfl i0) k0) trivial (perm_front 0 rfl)
      rintro fa16 ⟨-,-,-,-,-,-⟩ -
      refine f_re (L' := [pt b10 (.cells (bC x) 52),pt b2 (.cells #[Nx (most)] 3),pt b1 (.cells (mC v rv gx gy b y s) 87),pt D1 (.deferred (some [])),pt b3 (.cells #[Nx (blockN y b s most x)] 3),pt b4 (.cells #[Ix (x.id)] 3)]) (by rfl) ?_
      refine f_block ?_
      refine f_perm (L' := [pt b4 (.cells #[Ix (x.id)] 3),pt b3 (.cells #[Nx (blockN y b s most x)] 3),pt b2 (.cells #[Nx (most)] 3),pt b1 (.cells (mC v rv gx gy b y s) 87),pt D1 (.deferred (some [])),pt b10 (.cells (bC x) 52)]) (perm_ix [5,4,1,2,3,0] 6 rfl (by kernel_rfl) (by kernel_rfl)) ?_
      refine f_mask [true,true,true,true,true,false] rfl ?_
      exact fun a w ha hw => ⟨_,⟨(by rw [firstO_yes (by omega)]; try rfl),trivial⟩,hw⟩
     refine c_skip (f_block (f_mask [false,true,true,true,true,true] rfl ?_))
     exact fun a w ha hw => ⟨_,⟨(by rw [firstO_no (by omega)]; try rfl),trivial⟩,hw⟩
    refine skE (skE (gE okfb (lE okfb (lnf (c_no rfl (c_skip (f_block (f_mask [false,true,true,true,true,true] rfl ?_))))))))
    exact fun a w ha hw => ⟨_,⟨(by rw [firstO_no (by omega)]; try rfl),trivial⟩,hw⟩
   refine skE (skE (skE (gE okfb (gE omb (skE (skE (gE okfb (lE okfb (lnf (c_no rfl (c_skip (f_block (f_mask [false,true,true,true,true,true] rfl ?_)))))))))))))
   exact fun a w ha hw => ⟨_,⟨(by rw [firstO_no (by omega)]; try rfl),trivial⟩,hw⟩
  ·rintro D2 ys2 M hS2 ⟨rfl,-⟩
   refine f_block (fts ?_)
   have hf1 : 1 ≤ (firstO y b s most (firstR y b s most m0 (ends bs rs b)) ys2).1 := by rw [hS2]; exact firstO_pos (firstR_pos _ _ _ _ _ _)
   have hf2 : (firstO y b s most (firstR y b s most m0 (ends bs rs b)) ys2).1 ≤ most + 1 := by rw [hS2]; exact firstO_le (Nat.le_trans (firstR_le _ _ _ _ _ _) (by omega))
   refine c_quiet (by kernel_rfl) (by kernel_rfl) (qE (oli 1) ?_)
   refine q_val (v := Nx (((firstO y b s most (firstR y b s most m0 (ends bs rs b)) ys2).1) - 1)) rfl rfl rfl (ev_eq (congrArg (Value.int .i64) (by omega)) (e_sub (a := (((firstO y b s most (firstR y b s most m0 (ends bs rs b)) ys2).1 : Nat) : Int)) (b := (1 : Int)) rfl rfl (i64w (by omega)))) ?_
   refine qE (oli 0) (qE oai (qE oai (q_nil (ftr ?_))))
   refine retM2 5 4 rfl rfl Tryz.results41 (v := Nx (((firstO y b s most (firstR y b s most m0 (ends bs rs b)) ys2).1) - 1)) (v' := Ix ((firstO y b s most (firstR y b s most m0 (ends bs rs b)) ys2).2)) rfl rfl ?_
   intro w hw
   exact ⟨by rw [run_eq hm0,← hS2] <;> rfl,st_mask [false] rfl (bk1 _ _ (st_mask [false,false,false,false,false,false,false] rfl (bk2 _ _ hw)))⟩
  intro D c pre M h; exact h.elim
 intro D c pre M h; exact h.elim
end Go.Proofs
