/-
 Scenes: what island.Valid and Speed answer. Printed by a program of my own.
-/
import Derived.Test.YtdkibofhppgbjaaGreatDoorSt1
import Derived.Test.YtdkibofhppgbjaaGreatDoorSlB
namespace Go.Proofs
open Go Go.Sl Go.Stp
instance tf34 : CfC Tryz.prog 84 := ⟨by kernel_rfl⟩
instance tf35 : CfC Tryz.prog 88 := ⟨by kernel_rfl⟩
instance tf36 : CfC Tryz.prog 161 := ⟨by kernel_rfl⟩
instance tf37 : TyC Tryz.prog 106 false 1 := ⟨by kernel_rfl⟩
instance tf38 : CfC Tryz.prog 49 := ⟨by kernel_rfl⟩
instance tf39 : CfC Tryz.prog 103 := ⟨by kernel_rfl⟩
instance tf40 : UndC Tryz.prog 25 52 := ⟨by kernel_rfl⟩
theorem tf41 : Tryz.prog.underlying 3 = some (.int .i64) := by kernel_rfl
theorem tf42 : Tryz.prog.underlying 185 = some (.int .u64) := by kernel_rfl
theorem tf43 : slB Tryz.prog 25 52 9 = true := by kernel_rfl
instance tf44 : CfC Tryz.prog 101 := ⟨by kernel_rfl⟩
theorem pull_ok (β : Base) (w : World) (hw : St β [] w) (x y : Int) (hx : -9223372036854775808 ≤ x ∧ x ≤ 9223372036854775807) (hy : -9223372036854775808 ≤ y ∧ y ≤ 9223372036854775807) : Ret Tryz.prog 84 #[.agg #[Ix x, Ix y]] β w (.bool (decide (okV x y))) := by
 refine enter (n := 23) Tryz.func84 rfl Tryz.ntmps84 rfl ?_ hw
 refine csr (bxa fun b1 => ?_)
 refine lE oab (lnc (lE ofp (lE (oli 0) (lE ofp (lE (oli 0) (lv (v := Ix (wneg (x))) (e_neg (a := (x)) rfl rfl) (lE ofp (lE (oli 0) (lE ofp ?_)))))))))
 refine lE (oli 0) (lv (v := Ix (wneg (y))) (e_neg (a := (y)) rfl rfl) ?_)
 refine lv (v := Ix (max (max (max ((x)) (wneg (x))) (y)) (wneg (y)))) (e_max4 (a := (x)) (b := (wneg (x))) (c := (y)) (e := (wneg (y))) rfl rfl rfl rfl) ?_
 refine lE ole (lE omb (l_split (s := 15) rfl (fun hg2 => ?_) (fun hg2 => ?_)))
 ·refine gE ofp (gE (oli 0) (gE ofp (gE (oli 0) (gE omz (gE oge (lE oktb (lE oab (lnf (c_ret (ret1 Tryz.results84 rfl ?_))))))))))
  intro w hw
  exact ⟨congrArg (fun b : Bool => Ending.returned (.bool b)) (decide_eq_decide.2 ⟨fun h => (pull_iff hx hy).1 ⟨hg2,h⟩,fun h => ((pull_iff hx hy).2 h).2⟩),st_mask [false] rfl hw⟩
 iterate 6 refine skE ?_
 refine lE okfb (lE oab (lnf (c_ret (ret1 Tryz.results84 rfl ?_))))
 intro w hw
 exact ⟨congrArg (fun b : Bool => Ending.returned (.bool b)) (decide_eq_false fun h => hg2 ((pull_iff hx hy).2 h).1).symm,st_mask [false] rfl hw⟩
theorem clamp_ok (β : Base) (w : World) (hw : St β [] w) (x : Int) : Ret Tryz.prog 88 #[Ix x] β w (Ix (clampS x)) := by
 refine enter (n := 6) Tryz.func88 rfl Tryz.ntmps88 rfl ?_ hw
 refine csr (lE oai (lnc (lE omi (lE omz (lE omx (lE oai (lnf (c_ret (ret1 Tryz.results88 rfl ?_)))))))))
 intro w hw
 exact ⟨rfl,st_mask [] rfl hw⟩
set_option maxHeartbeats 4000000 in
theorem speed_ok (β : Base) (w : World) (hw : St β [] w) (b : KB) (gx gy : Int) (hgx : -9223372036854775808 ≤ gx ∧ gx ≤ 9223372036854775807) (hgy : -9223372036854775808 ≤ gy ∧ gy ≤ 9223372036854775807) : Ret Tryz.prog 39 #[.agg (bC b), .agg #[Ix gx, Ix gy]] β w (.agg #[Ix (speedX b gx gy), Ix (speedY b gx gy)]) := by
 refine enter (n := 36) Tryz.func39 rfl Tryz.ntmps39 rfl ?_ hw
 refine csr (bxa fun b1 => ?_)
 refine bxa fun b2 => ?_
 refine alE fun b3 => lnf (cs2 (c_region (lE ofp (lE (olb 2) (lE omb (l_splitb (s := 8) (b := b.fixed) rfl (fun hg4 => ?_) (fun hg4 => ?_)))))))
 ·refine skE (skE (skE (lE oktb (lE omb (skE (skE (skE (lE oktb (lnf (c_yes rfl (csr ?_)))))))))))
  refine lv (v := .agg #[.int .i64 (0),.int .i64 (0)]) (e_build tf17.ok tf16 (vs := []) (cells := #[.int .i64 (0),.int .i64 (0)]) rfl rfl) ?_
  refine lu (mS 0 (#[.int .i64 (0),.int .i64 (0)])) (lnf (c_ret (f_then_ret ?_)))
  refine retG (m := [.agg #[.int .i64 (0),.int .i64 (0)]]) Tryz.results39 ⟨rd_cell tf15.ok rfl (k_pt 0 rfl rfl) rfl,trivial⟩ rfl ?_
  intro w hw
  exact ⟨by rw [show speedX b gx gy = 0 from if_pos (.inl hg4),show speedY b gx gy = 0 from if_pos (.inl hg4)] <;> rfl,st_mask [false,false,false] rfl hw⟩
 refine gE (olg 2) (g_call rfl rfl rfl rfl rfl (cl0 (vs := [.agg (bC b)]) tf24.ok rfl rfl) ?_)
 intro w hw
 obtain ⟨β1,sb,kn,hw1,back⟩ := St.frame_all hw
 refine (valid_ok β1 w hw1 b).mono ?_
 rintro e w' ⟨rfl,hw'⟩
 refine ⟨_,rfl,_,back _ _ hw',?_⟩
 clear hw hw1 hw' back kn sb
 refine gE ond (lE okfb (lE omb (l_split (s := 13) rfl (fun hg5 => ?_) (fun hg5 => ?_))))
 ·refine skE (skE (skE (lE oktb (lnf (c_yes rfl (csr ?_))))))
  refine lv (v := .agg #[.int .i64 (0),.int .i64 (0)]) (e_build tf17.ok tf16 (vs := []) (cells := #[.int .i64 (0),.int .i64 (0)]) rfl rfl) ?_
  refine lu (mS 0 (#[.int .i64 (0),.int .i64 (0)])) (lnf (c_ret (f_then_ret ?_)))
  refine retG (m := [.agg #[.int .i64 (0),.int .i64 (0)]]) Tryz.results39 ⟨rd_cell tf15.ok rfl (k_pt 0 rfl rfl) rfl,trivial⟩ rfl ?_
  intro w hw
  exact ⟨by rw [show speedX b gx gy = 0 from if_pos (.inr (.inl hg5)),show speedY b gx gy = 0 from if_pos (.inr (.inl hg5))] <;> rfl,st_mask [false,false,false] rfl hw⟩
 have hob := Decidable.not_not.1 hg5
 refine gE (olg 1) (g_call rfl rfl rfl rfl rfl (cl0 (vs := [.agg #[Ix (gx),Ix (gy)]]) tf34.ok rfl rfl) ?_)
 intro w hw
 obtain ⟨β1,sb,kn,hw1,back⟩ := St.frame_all hw
 refine (pull_ok β1 w hw1 (gx) (gy) (by omega) (by omega)).mono ?_
 rintro e w' ⟨rfl,hw'⟩
 refine ⟨_,rfl,_,back _ _ hw',?_⟩
 clear hw hw1 hw' back kn sb
 refine gE ond (lE okfb (lnf (c_if _ rfl (fun hc6 => ?_) (fun hc6 => ?_))))
 ·refine csr (lv (v := .agg #[.int .i64 (0),.int .i64 (0)]) (e_build tf17.ok tf16 (vs := []) (cells := #[.int .i64 (0),.int .i64 (0)]) rfl rfl) ?_)
  refine lu (mS 0 (#[.int .i64 (0),.int .i64 (0)])) (lnf (c_ret (f_then_ret ?_)))
  refine retG (m := [.agg #[.int .i64 (0),.int .i64 (0)]]) Tryz.results39 ⟨rd_cell tf15.ok rfl (k_pt 0 rfl rfl) rfl,trivial⟩ rfl ?_
  intro w hw
  exact ⟨by rw [show speedX b gx gy = 0 from if_pos (.inr (.inr hc6)),show speedY b gx gy = 0 from if_pos (.inr (.inr hc6))] <;> rfl,st_mask [false,false,false] rfl hw⟩
 have hov := Decidable.not_not.1 hc6
 refine csk (csr (lE oaf (lnf (c_seq ?_))))
 have v1 := hob.2.2.2.1
 have v2 := hob.2.2.2.2.1
 have v3 := hov.1
 have v4 := hov.2.1
 have v5 := hov.2.2.1
 have v6 := hov.2.2.2
 refine cny [sv 19 (.func (.func 88) #[] #[]) [] [] [0],sv 20 (pp b1 3) [] [] [1],sv 21 (pp b1 3) [1] [1] [],sv 22 (Ix (b.vx)) [1,2] [2] [],sv 23 (pp b2 0) [] [] [2],sv 24 (Ix (gx)) [4] [4] [],sv 25 (Ix ((b.vx) + (gx))) [1,2,3,4,5] [3,5] [],sv 26 (Ix (clampS ((b.vx) + (gx)))) (List.range 7) [0,6] [],sv 27 (.func (.func 88) #[] #[]) [] [] [0],sv 28 (pp b1 3) [] [] [1],sv 29 (pp b1 4) [9] [9] [],sv 30 (Ix (b.vy)) [9,10] [10] [],sv 31 (pp b2 1) [] [] [2],sv 32 (Ix (gy)) [12] [12] [],sv 33 (Ix ((b.vy) + (gy))) [9,10,11,12,13] [11,13] [],sv 34 (Ix (clampS ((b.vy) + (gy)))) (List.range 15) [8,14] [],sv 35 (.agg #[Ix (clampS ((b.vx) + (gx))),Ix (clampS ((b.vy) + (gy)))]) (List.range 16) [7,15] [],⟨(List.range 17),[16],[3],[],fun _ => True⟩] [⟨none,(some 17),[17],[],fun _ => pt b3 (.cells #[.int .i64 (0),.int .i64 (0)] 28)⟩,tk (pt b2 (.cells #[Ix (gx),Ix (gy)] 28)) [5,13],tk (pt b1 (.cells (bC b) 52)) [3,11],⟨(some 17),none,[],[],fun _ => pt b3 (.cells #[Ix (clampS ((b.vx) + (gx))),Ix (clampS ((b.vy) + (gy)))] 28)⟩] [(5,.func (.func 88) #[] #[]),(2,pp b1 0),(3,pp b2 0),(4,pp b3 0)] [3] [] ⟨rfl,rfl,rfl,rfl,trivial⟩ ⟨?_,?_,?_,?_,?_,?_,?_,?_,?_,?_,?_,?_,?_,?_,?_,?_,?_,?_,trivial⟩ ?_
 ·rintro f M - ⟨i0,-⟩
  exact obE omf
 ·rintro f M - ⟨i0,-⟩
  exact obE ofp
 ·rintro f M ⟨k0,-⟩ -
  exact obE ofp
 ·rintro f M ⟨k0,-⟩ -
  exact obE (oli 0)
 ·rintro f M - ⟨i0,-⟩
  exact obE ofp
 ·rintro f M ⟨k0,-⟩ -
  exact obE (oli 0)
 ·rintro f M ⟨k0,k1,-⟩ -
  exact obE opl
 ·rintro f M ⟨k0,k1,-⟩ -
  refine ob_start (L' := M) (by rfl) (up_cons (d := 25) (up_cons (d := 19) rfl k0) k1) ?_
  refine lcR clA (fun w β1 sb kn hw1 => clamp_ok β1 w hw1 ((b.vx) + (gx))) (l_nil ?_)
  exact f_owes_d (up_cons (d := 25) (up_cons (d := 19) rfl k0) k1) rfl (List.Perm.refl _)
 ·rintro f M - ⟨i0,-⟩
  exact obE omf
 ·rintro f M - ⟨i0,-⟩
  exact obE ofp
 ·rintro f M ⟨k0,-⟩ -
  exact obE ofp
 ·rintro f M ⟨k0,-⟩ -
  exact obE (oli 0)
 ·rintro f M - ⟨i0,-⟩
  exact obE ofp
 ·rintro f M ⟨k0,-⟩ -
  exact obE (oli 0)
 ·rintro f M ⟨k0,k1,-⟩ -
  exact obE opl
 ·rintro f M ⟨k0,k1,-⟩ -
  refine ob_start (L' := M) (by rfl) (up_cons (d := 33) (up_cons (d := 27) rfl k0) k1) ?_
  refine lcR clA (fun w β1 sb kn hw1 => clamp_ok β1 w hw1 ((b.vy) + (gy))) (l_nil ?_)
  exact f_owes_d (up_cons (d := 33) (up_cons (d := 27) rfl k0) k1) rfl (List.Perm.refl _)
 ·rintro f M ⟨k0,k1,-⟩ -
  exact ob0 (up_cons (d := 34) (up_cons (d := 26) rfl k0) k1) rfl (e_build tf17.ok tf16 (vs := [(0,Ix (clampS ((b.vx) + (gx)))),(1,Ix (clampS ((b.vy) + (gy))))]) (cells := #[Ix (clampS ((b.vx) + (gx))),Ix (clampS ((b.vy) + (gy)))]) rfl rfl) (.refl _)
 ·rintro f M ⟨k0,-⟩ ⟨i0,-⟩
  refine ob_start (L' := pt b3 (.cells #[.int .i64 (0),.int .i64 (0)] 28) :: M) (by rfl) (up_cons (d := 35) (up_cons (d := 4) rfl i0) k0) ?_
  refine lu (mS 0 (#[Ix (clampS ((b.vx) + (gx))),Ix (clampS ((b.vy) + (gy)))])) (l_nil ?_)
  exact f_owes_n (up_cons (d := 35) (up_cons (d := 4) rfl i0) k0) trivial (perm_front 0 rfl)
 rintro fa7 ⟨-,-,-,-,-,-,-,-,-,-,-,-,-,-,-,-,-,-,-⟩ ⟨j0,-⟩
 refine f_re (L' := [pt b2 (.cells #[Ix (gx),Ix (gy)] 28),pt b1 (.cells (bC b) 52),pt b3 (.cells #[Ix (clampS ((b.vx) + (gx))),Ix (clampS ((b.vy) + (gy)))] 28)]) (by rfl) ?_
 refine f_rebase (d := 4) j0 (ftr ?_)
 refine retG (m := [.agg #[Ix (clampS ((b.vx) + (gx))),Ix (clampS ((b.vy) + (gy)))]]) Tryz.results39 ⟨rd_cell tf15.ok rfl (k_pt 2 rfl rfl) rfl,trivial⟩ rfl ?_
 intro w hw
 have hno : ¬ (b.fixed = true ∨ ¬ okB b ∨ ¬ okV gx gy) := fun h => h.elim (fun h => by rw [hg4] at h; cases h) fun h => h.elim (fun h => h hob) fun h => h hov
 exact ⟨by rw [show speedX b gx gy = clampS (b.vx + gx) from if_neg hno,show speedY b gx gy = clampS (b.vy + gy) from if_neg hno] <;> rfl,st_mask [false,false,false] rfl hw⟩
theorem number_ok (β : Base) (w : World) (hw : St β [] w) (b : KB) : Ret Tryz.prog 49 #[.agg (bC b)] β w (Ix b.id) := by
 refine enter (n := 5) Tryz.func49 rfl Tryz.ntmps49 rfl ?_ hw
 refine csr (bxa fun b1 => ?_)
 refine lE oai (lnc (lE ofp (lE (oli 0) (lE oai (lnf (c_ret (ret1 Tryz.results49 rfl ?_)))))))
 intro w hw
 exact ⟨rfl,st_mask [false] rfl hw⟩
theorem isnanS_ok (β : Base) (w : World) (hw : St β [] w) (x : Int) : Ret Tryz.prog 161 #[Ix x] β w (.bool false) := by
 refine enter (n := 6) Tryz.func161 rfl Tryz.ntmps161 rfl ?_ hw
 refine csr (lE oab (lnc (lE omi (lE omi (lE onq (lE oab (lnf (c_ret (ret1 Tryz.results161 rfl ?_)))))))))
 intro w hw
 exact ⟨congrArg Ending.returned (congrArg Value.bool (decide_eq_false (by simp))),st_mask [] rfl hw⟩
set_option maxHeartbeats 4000000 in
theorem cmpS_ok (β : Base) (w : World) (hw : St β [] w) (x y : Int) : Ret Tryz.prog 103 #[Ix x, Ix y] β w (Ix (cmpI x y)) := by
 refine enter (n := 20) Tryz.func103 rfl Tryz.ntmps103 rfl ?_ hw
 refine csr (lE oai (lnc (lE omi (lcR clA (fun w β1 sb kn hw1 => isnanS_ok β1 w hw1 (x)) (lE oab (lnc (lE omi ?_)))))))
 refine lcR clA (fun w β1 sb kn hw1 => isnanS_ok β1 w hw1 (y)) (lE oab (lnf (cs2 (c_region (lE omb (lnf (c_no rfl (csk (cs2 (c_region (lE omb (lnf ?_))))))))))))
 refine c_no rfl (csk (cs2 (c_region (lE omi (lE omi (lE olt (lnf (c_if _ rfl (fun hc1 => ?_) (fun hc1 => ?_)))))))))
 ·refine csr (lE oai (lnf (c_ret (f_then_ret (ret1 Tryz.results103 rfl ?_)))))
  intro w hw
  exact ⟨congrArg Ending.returned (congrArg (Value.int .i64) (show (-1 : Int) = cmpI x y by unfold cmpI; split <;> (try split) <;> omega)),st_mask [] rfl hw⟩
 refine csk (cs2 (c_region (lE omi (lE omi (lE ogt (lnf (c_if _ rfl (fun hc2 => ?_) (fun hc2 => ?_))))))))
 ·refine csr (lE oai (lnf (c_ret (f_then_ret (ret1 Tryz.results103 rfl ?_)))))
  intro w hw
  exact ⟨congrArg Ending.returned (congrArg (Value.int .i64) (show (1 : Int) = cmpI x y by unfold cmpI; split <;> (try split) <;> omega)),st_mask [] rfl hw⟩
 refine csk (csr (lE oai (lnf (c_ret (ret1 Tryz.results103 rfl ?_)))))
 intro w hw
 exact ⟨congrArg Ending.returned (congrArg (Value.int .i64) (show (0 : Int) = cmpI x y by unfold cmpI; split <;> (try split) <;> omega)),st_mask [] rfl hw⟩
theorem find1_fn (β : Base) (c : Nat) (hc : Cs β.heap ⟨c, 0, none⟩ [.func (.func 49) #[] #[]]) : FnV Tryz.prog β (.func (.func 102) #[] #[pp c 0]) (fun z : KB × Int => [.agg (bC z.1), Ix z.2]) (fun _ => True) (fun z => Ix (cmpI z.1.id z.2)) := by
 refine ⟨102,[],[.pointer (some (⟨c,0,none⟩))],rfl,by kernel_rfl,fun β₁ sb0 z_ hz_ w hw => ?_⟩
 have hc1 := Cs.mono _ _ _ _ sb0 hc
 obtain ⟨b,i⟩ := z_
 refine enter (n := 11) Tryz.func102 rfl Tryz.ntmps102 rfl ?_ hw
 refine csr (bxa fun b1 => ?_)
 refine lE oai (lnc (lv (v := .func (.func 49) #[] #[]) (e_load1 tf37.ok rfl (kB hc1)) (lE (olg 0) ?_)))
 refine lcR clA (fun w β1 sb kn hw1 => number_ok β1 w hw1 b) (lE omi (lcR clA (fun w β1 sb kn hw1 => cmpS_ok β1 w hw1 (b.id) (i)) (lE oai (lnf ?_))))
 refine c_ret (ret1 Tryz.results102 rfl ?_)
 intro w hw
 exact ⟨rfl,st_mask [false] rfl hw⟩
set_option maxHeartbeats 4000000 in
theorem bsearch_ok (β : Base) (w : World) (hw : St β [] w) (v fn : Value) (bs : List KB) (hs : Sl KBR β.heap v bs) (id : Int) (ho : ordB bs) (hn : bs.length ≤ 1048576) (hfn : FnV Tryz.prog β fn (fun z : KB × Int => [.agg (bC z.1), Ix z.2]) (fun _ => True) (fun z => Ix (cmpI z.1.id z.2))) : Ret Tryz.prog 101 #[v, Ix id, fn] β w (.tuple #[Nx (lbN bs id), .bool (findB bs id).isSome]) := by
 obtain ⟨va,vc,rfl,vl,vm,ve⟩ := hs.get
 obtain ⟨gg,fst,cap,rfl,hcf,hf⟩ := hfn
 refine enter (n := 49) Tryz.func101 rfl Tryz.ntmps101 rfl ?_ hw
 refine csr (lE oai (lE oab (lnc (lE oms (lE oln (lE oai (lnc (lE omi (lE oai (lE oai (lnf (c_seq (c_block ?_)))))))))))))
 refine c_loop (fun (x_ : Nat × Nat) f L => match x_ with | (i,j) => (f 0 = sB va bs (vc) ∧ f 1 = Ix (id) ∧ f 2 = .func (.func gg) fst.toArray cap.toArray ∧ f 8 = Nx (bs.length) ∧ f 9 = Nx (i) ∧ f 10 = Nx (j)) ∧ L = [] ∧ (i ≤ j ∧ j ≤ bs.length ∧ (∀ t,t < i → idAt bs t < id) ∧ (j < bs.length → id ≤ idAt bs j))) (fun (i,j) => j - i) (0,bs.length) ?_ ?_
 ·exact ⟨⟨rfl,rfl,rfl,rfl,rfl,rfl⟩,rfl,⟨by omega,by omega,fun t ht => by omega,fun h => by omega⟩⟩
 rintro ⟨i,j⟩ f0 L0 ⟨⟨hs0,hs1,hs2,hs8,hs9,hs10⟩,hL,⟨h1,h2,hp1,hp2⟩⟩
 subst L0
 refine rbs 0 hs0 (rbs 1 hs1 (rbs 2 hs2 (rbs 8 hs8 (rbs 9 hs9 (rbs 10 hs10 ?_)))))
 obtain ⟨h,hh⟩ : ∃ h,h = (U (((i + j : Nat)) : Int) >>> (1 : UInt64)).toNat := ⟨_,rfl⟩
 have hh2 := half_toNat (m := i + j) (by omega)
 refine cs2 (c_region (lE omi (lE omi (lE olt (lnf (c_if _ rfl (fun hc1 => ?_) (fun hc1 => ?_)))))))
 ·refine csk (c_block (csr (lE omi (lE omi (lE opn ?_)))))
  refine lv (v := Ux (U ((i + j : Nat) : Int))) (e_conv (a := ((i + j : Nat) : Int)) rfl ⟨_,tf41⟩ tf42 (ux_of _)) ?_
  refine lv (v := Ux ((U ((i + j : Nat) : Int)) >>> (1 : UInt64))) (e_shr (a := ((U ((i + j : Nat) : Int)).toNat : Int)) (b := ((1 : Nat) : Int)) rfl rfl (by decide) (ux_shr _ 1 (by decide))) ?_
  refine lv (v := Nx (h)) (e_conv (a := (((U ((i + j : Nat) : Int)) >>> (1 : UInt64)).toNat : Int)) rfl ⟨_,tf42⟩ tf41 (i64n (by rw [hh]) (by omega))) ?_
  refine lE oai (lnc (lE omf (lE oms (lE omi ?_))))
  obtain ⟨x2,hx3⟩ := getx bs h (by omega)
  obtain ⟨ha4,cs5,hc6,rfl⟩ := ve _ _ hx3
  refine lE (oia tf43 ha4) (lv (v := .agg (bC x2)) (e_load tf22.ok rfl (kB hc6) rfl) (lE omi ?_))
  refine l_call rfl rfl rfl (cl_value (fst := fst) (cap := cap) (vs := [.agg (bC x2),Ix (id)]) (all := fst ++ [.agg (bC x2),Ix (id)] ++ cap) hcf rfl rfl rfl) ?_
  intro w hw
  obtain ⟨β1,sb,kn,hw1,back⟩ := St.frame_all hw
  refine (hf β1 sb (x2,(id)) trivial w hw1).mono ?_
  rintro e w' ⟨rfl,hw'⟩
  refine ⟨_,rfl,_,back _ _ hw',?_⟩
  clear hw hw1 hw' back kn sb
  refine lE olt (lnf (c_if ((cmpI x2.id (id)) < (0 : Int)) rfl (fun hc8 => ?_) (fun hc8 => ?_)))
  ·refine c_region (lE omi (lv (v := Nx (h + 1)) (e_add (a := ((h : Nat) : Int)) (b := (1 : Int)) rfl rfl (i64n (by omega) (by omega))) (lE oai ?_)))
   refine l_nil (f_block ?_)
   exact f_cut ⟨(h + 1,j),⟨⟨rfl,rfl,rfl,rfl,rfl,rfl⟩,rfl,⟨by omega,by omega,fun t ht => lb_next ho hx3 (by have q := hc8; unfold cmpI at q; split at q <;> (try split at q) <;> omega) ht,hp2⟩⟩,(show j - (h + 1) < j - i from by omega)⟩
  refine c_region (lE omi (lE oai (l_nil (f_block ?_))))
  exact f_cut ⟨(i,h),⟨⟨rfl,rfl,rfl,rfl,rfl,rfl⟩,rfl,⟨by omega,by omega,hp1,fun _ => by rw [idAt_eq hx3]; have q := hc8; unfold cmpI at q; split at q <;> (try split at q) <;> omega⟩⟩,(show h - i < j - i from by omega)⟩
 refine c_exit (f_then_exit (f_then_exit (f_exit (fts ?_))))
 have hij : i = j := by omega
 subst hij
 have hp2' := hp2
 refine c_region (lE omi (lE omi (lE omi (lE olt (lE omb (l_split (s := 39) rfl (fun hg9 => ?_) (fun hg9 => ?_)))))))
 ·refine gE omf (gE oms (gE omi ?_))
  obtain ⟨x10,hx11⟩ := getx bs i (by omega)
  obtain ⟨ha12,cs13,hc14,rfl⟩ := ve _ _ hx11
  refine gE (oia tf43 ha12) (g_val (v := .agg (bC x10)) rfl rfl rfl rfl rfl (e_load tf22.ok rfl (kB hc14) rfl) (gE omi ?_))
  refine g_call rfl rfl rfl rfl rfl (cl_value (fst := fst) (cap := cap) (vs := [.agg (bC x10),Ix (id)]) (all := fst ++ [.agg (bC x10),Ix (id)] ++ cap) hcf rfl rfl rfl) ?_
  intro w hw
  obtain ⟨β1,sb,kn,hw1,back⟩ := St.frame_all hw
  refine (hf β1 sb (x10,(id)) trivial w hw1).mono ?_
  rintro e w' ⟨rfl,hw'⟩
  refine ⟨_,rfl,_,back _ _ hw',?_⟩
  clear hw hw1 hw' back kn sb
  refine gE oeq_ (lE oktb (lE oai (lE oab (lnf (c_ret ?_)))))
  refine ret2 (v := Nx (i)) (v' := .bool (decide ((cmpI x10.id (id)) = (0 : Int)))) Tryz.results101 rfl rfl ?_
  intro w hw
  exact ⟨by rw [lb_eq (by omega) hp1 (fun _ => by rw [idAt_eq hx11]; have := hp2 (by omega); rwa [idAt_eq hx11] at this),show decide ((cmpI x10.id (id)) = (0 : Int)) = (findB bs id).isSome from (by have hle := hp2 (by omega); rw [idAt_eq hx11] at hle; have q := lb_found ho hp1 hx11 hle; rw [Bool.eq_iff_iff,decide_eq_true_iff,← q]; unfold cmpI; split <;> (try split) <;> omega)] <;> rfl,st_mask [] rfl hw⟩
 iterate 8 refine skE ?_
 refine lE okfb (lE oai (lE oab (lnf (c_ret (ret2 (v := Nx (i)) (v' := .bool false) Tryz.results101 rfl rfl ?_)))))
 intro w hw
 exact ⟨by rw [lb_eq (by omega) hp1 hp2',lb_none (by omega) hp1] <;> rfl,st_mask [] rfl hw⟩
theorem find_ok (β : Base) (w : World) (hw : St β [] w) (v : Value) (bs : List KB) (hs : Sl KBR β.heap v bs) (id : Int) (ho : ordB bs) (hn : bs.length ≤ 1048576) : Ret Tryz.prog 48 #[v, Ix id, .func (.func 49) #[] #[]] β w (.tuple #[Nx (lbN bs id), .bool (findB bs id).isSome]) := by
 refine enter (n := 14) Tryz.func48 rfl Tryz.ntmps48 rfl ?_ hw
 refine csr (l_mv rfl rfl rfl (m_box (v := .func (.func 49) #[] #[]) rfl) ?_)
 rintro _ _ ⟨b1,rfl,rfl⟩
 refine lE oai (lE oab (lnc (lv e_move (lE omi (lv (v := .func (.func 102) #[] #[pp b1 0]) (e_func (u := []) (v := [pp b1 0]) rfl rfl) ?_)))))
 refine lcR clA (fun w β1 sb kn hw1 => bsearch_ok β1 w hw1 _ _ bs (Sl.mono _ _ _ _ _ sb hs) (id) ho (by omega) (find1_fn β1 b1 (kn _ (k_pt 0 (o := 0) rfl rfl)))) ?_
 refine lE oxi (lE oxb (lE oai (lE oab (lnf (c_ret (ret2 (v := Nx (lbN bs (id))) (v' := .bool ((findB bs (id)).isSome)) Tryz.results48 rfl rfl ?_))))))
 intro w hw
 exact ⟨rfl,st_mask [false] rfl hw⟩
end Go.Proofs
