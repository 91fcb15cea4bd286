/-
 The reference's step of a scene. Printed by a program of my own.
-/
import Derived.Test.YtdkibofhppgbjaaGreatDoorSt15
import Derived.Test.YtdkibofhppgbjaaGreatDoorStWorld
import Derived.Test.YtdkibofhppgbjaaGreatDoorSlB
namespace Go.Proofs
open Go Go.Sl Go.Stp
instance tf128 : CfC Tryz.prog 117 := ⟨by kernel_rfl⟩
instance tf129 : CfC Tryz.prog 74 := ⟨by kernel_rfl⟩
instance tf130 : CfC Tryz.prog 118 := ⟨by kernel_rfl⟩
set_option maxHeartbeats 4000000 in
theorem valid7_ok (β : Base) (w : World) (hw : St β [] w) (v rv : Value) (gx gy : Int) (bs : List KB) (rs : List KR) (hs : Sl KBR β.heap v bs) (hr : Sl KRR β.heap rv rs) : Ret Tryz.prog 117 #[.agg #[v, rv, Ix gx, Ix gy]] β w (.bool (decide (okS bs rs gx gy))) := by
 obtain ⟨va,vc,rfl,vl,vm,ve⟩ := hs.get
 obtain ⟨rva,rvc,rfl,rvl,rvm,rve⟩ := hr.get
 refine enter (n := 99) Tryz.func117 rfl Tryz.ntmps117 rfl ?_ hw
 refine csr (bxa fun b1 => ?_)
 refine lE oab (lnf (cs2 (c_region (lE ofp (lE (ols 0) (lE oln (lE ogt (lE omb (l_split (s := 10) rfl (fun hg2 => ?_) (fun hg2 => ?_))))))))))
 ·refine skE (skE (skE (skE (lE oktb (lE omb (skE (skE (skE (skE (lE oktb (lnf (c_yes rfl (csr (lE oab (lnf (c_ret (f_then_ret ?_)))))))))))))))))
  refine ret1 Tryz.results117 rfl ?_
  intro w hw
  exact ⟨congrArg (fun b : Bool => Ending.returned (.bool b)) (decide_eq_false fun h => by have q1 := h.1; have q2 := h.2.1; omega).symm,st_mask [false] rfl hw⟩
 refine gE ofp (gE (ols 0) (gE oln (gE ogt (lE okfb (lE omb (l_split (s := 16) rfl (fun hg3 => ?_) (fun hg3 => ?_)))))))
 ·refine skE (skE (skE (skE (lE oktb (lnf (c_yes rfl (csr (lE oab (lnf (c_ret (f_then_ret (ret1 Tryz.results117 rfl ?_))))))))))))
  intro w hw
  exact ⟨congrArg (fun b : Bool => Ending.returned (.bool b)) (decide_eq_false fun h => by have q1 := h.1; have q2 := h.2.1; omega).symm,st_mask [false] rfl hw⟩
 refine gE ofp (gE (olg 0) (g_call rfl rfl rfl rfl rfl (cl0 (vs := [.agg #[Ix (gx),Ix (gy)]]) tf119.ok rfl rfl) ?_))
 intro w hw
 obtain ⟨β1,sb,kn,hw1,back⟩ := St.frame_all hw
 refine (pull7_ok β1 w hw1 (gx) (gy)).mono ?_
 rintro e w' ⟨rfl,hw'⟩
 refine ⟨_,rfl,_,back _ _ hw',?_⟩
 clear hw hw1 hw' back kn sb
 refine gE ond (lE okfb (lnf (c_if _ rfl (fun hc4 => ?_) (fun hc4 => ?_))))
 ·refine csr (lE oab (lnf (c_ret (f_then_ret (ret1 Tryz.results117 rfl ?_)))))
  intro w hw
  exact ⟨congrArg (fun b : Bool => Ending.returned (.bool b)) (decide_eq_false fun h => by have q1 := h.1; have q2 := h.2.1; exact hc4 h.2.2.1).symm,st_mask [false] rfl hw⟩
 refine csk (cs2 ?_)
 have hov := Decidable.not_not.1 hc4
 refine c_region (lE oai (lnf (c_block (c_mask [true] rfl ?_))))
 refine c_loop (fun (k : Nat) f L => (f 1 = pp b1 0 ∧ f 3 = Nx (k)) ∧ L = [pt b1 (.cells #[sB va bs (vc),sB rva rs (rvc),Ix (gx),Ix (gy)] 30)] ∧ (k ≤ bs.length ∧ (∀ b ∈ bs.take k,okB b) ∧ ∀ i a b,i + 1 < k → bs[i]? = some a → bs[i + 1]? = some b → a.id < b.id)) (fun k => bs.length - k) 0 ?_ ?_
 ·exact ⟨⟨rfl,rfl⟩,rfl,⟨by omega,fun y hy => by simp at hy,fun i a b h => by omega⟩⟩
 rintro k f0 L0 ⟨⟨hs1,hs3⟩,hL,⟨hk,hp1,hp2⟩⟩
 subst L0
 refine rbs 1 hs1 (rbs 3 hs3 (cs2 (c_region (lE omi (lE ofp (lE (ols 0) (lE oln (lE olt (lnf (c_if _ rfl (fun hc5 => ?_) (fun hc5 => ?_)))))))))))
 ·refine csk (c_seq (c_block (c_seq (c_quiet (by kernel_rfl) (by kernel_rfl) (qE ofp (qE (ols 0) (qE omi ?_)))))))
  obtain ⟨x6,hx7⟩ := getx bs k (by omega)
  obtain ⟨ha8,cs9,hc10,rfl⟩ := ve _ _ hx7
  refine qE (oia tf43 ha8) (q_val (v := .agg (bC x6)) rfl rfl rfl (e_load tf22.ok rfl (kB hc10) rfl) ?_)
  refine q_call (v := .bool (decide (okB x6))) rfl rfl rfl (cl0 (vs := [.agg (bC x6)]) tf115.ok rfl rfl) (fun w hw => ?_) ?_
  ·obtain ⟨β1,sb,kn,hw1,back⟩ := St.frame_all hw
   exact (valid5_ok β1 w hw1 x6).mono (fun e w' ⟨he,hw'⟩ => ⟨he,st_mask [true] rfl (back _ _ hw')⟩)
  refine qE ond (qE omb (q_split (s := 36) rfl (fun hg12 => ?_) (fun hg12 => ?_)))
  ·refine qsE (qsE (qsE (q_skip_u rfl rfl rfl rfl rfl (q_skip_u rfl rfl rfl rfl rfl (q_skip_u rfl rfl rfl rfl rfl (q_skip_u rfl rfl rfl rfl rfl ?_))))))
   refine q_skip_u rfl rfl rfl rfl rfl (q_skip_u rfl rfl rfl rfl rfl (q_skip_u rfl rfl rfl rfl rfl (q_skip_u rfl rfl rfl rfl rfl ?_)))
   refine q_skip_u rfl rfl rfl rfl rfl (q_skip_u rfl rfl rfl rfl rfl (q_skip_u rfl rfl rfl rfl rfl (q_skip_u rfl rfl rfl rfl rfl ?_)))
   refine q_skip_u rfl rfl rfl rfl rfl (q_skip_u rfl rfl rfl rfl rfl (qsE (qE oktb (q_nil (f_then (c_yes rfl (csr (lE oab (lnf (c_ret (f_block_ret ?_)))))))))))
   refine f_then_ret (f_then_ret (f_block_ret (f_then_ret (ret1 Tryz.results117 rfl ?_))))
   intro w hw
   exact ⟨congrArg (fun b : Bool => Ending.returned (.bool b)) (decide_eq_false fun h => hg12 (h.2.2.2.1 _ (List.mem_of_getElem? hx7))).symm,st_mask [false] rfl hw⟩
  have hok := Decidable.not_not.1 hg12
  refine rE omi (rE ogt (rE omb (q_split (s := 39) rfl (fun hg13 => ?_) (fun hg13 => ?_))))
  ·have hk0 : 0 < k := by omega
   refine rE ofp (rE (ols 0) (rE omi (rE (oia tf43 ha8) (rE ofa ?_))))
   refine qg_val (v := Ix (x6.id)) rfl rfl rfl rfl rfl (e_load1 tf2.ok rfl (Knows.imp (kB hc10) (fun _ h => Cs.sub (vs := [Ix (x6.id)]) 0 h rfl))) ?_
   refine rE ofp (rE (ols 0) (rE omi ?_))
   refine qg_val (v := Nx (k - 1)) rfl rfl rfl rfl rfl (ev_eq (congrArg (Value.int .i64) (by omega)) (e_sub (a := ((k : Nat) : Int)) (b := (1 : Int)) rfl rfl (i64w (by omega)))) ?_
   obtain ⟨x14,hx15⟩ := getx bs (k - 1) (by omega)
   obtain ⟨ha16,cs17,hc18,rfl⟩ := ve _ _ hx15
   refine rE (oia tf43 ha16) (rE ofa ?_)
   refine qg_val (v := Ix (x14.id)) rfl rfl rfl rfl rfl (e_load1 tf2.ok rfl (Knows.imp (kB hc18) (fun _ h => Cs.sub (vs := [Ix (x14.id)]) 0 h rfl))) ?_
   refine rE ole (rE oktb (qE okfb (q_nil (f_then (c_if _ rfl (fun hc20 => ?_) (fun hc20 => ?_))))))
   ·refine csr (lE oab (lnf (c_ret (f_block_ret (f_then_ret (f_then_ret (f_block_ret (f_then_ret (ret1 Tryz.results117 rfl ?_)))))))))
    intro w hw
    exact ⟨congrArg (fun b : Bool => Ending.returned (.bool b)) (decide_eq_false fun h => absurd (h.2.2.2.2.1 (k - 1) x14 x6 hx15 (by rw [show k - 1 + 1 = k by omega]; exact hx7)) (by omega)).symm,st_mask [false] rfl hw⟩
   refine c_skip (f_block (f_then (c_region (lE omi (lv (v := Nx (k + 1)) (e_add rfl rfl (i64n (by omega) (by omega))) (lE oai (l_nil ?_)))))))
   exact f_cut ⟨k + 1,⟨⟨rfl,rfl⟩,rfl,⟨by omega,okS_next hx7 hp1 hok,ord_next hx7 hp2 (fun _ z hz => by rw [hx15] at hz; injection hz with hz; rw [← hz]; omega)⟩⟩,(show bs.length - (k + 1) < bs.length - k from by omega)⟩
  iterate 14 refine qsE ?_
  refine rE okfb (qE okfb (q_nil (f_then (c_no rfl (c_skip (f_block (f_then (c_region (lE omi ?_)))))))))
  refine lv (v := Nx (k + 1)) (e_add rfl rfl (i64n (by omega) (by omega))) (lE oai (l_nil ?_))
  exact f_cut ⟨k + 1,⟨⟨rfl,rfl⟩,rfl,⟨by omega,okS_next hx7 hp1 hok,ord_next hx7 hp2 (fun hk' => absurd hk' (by omega))⟩⟩,(show bs.length - (k + 1) < bs.length - k from by omega)⟩
 refine c_exit (f_then_exit (f_then_exit (f_exit (fts (csr (lE oai (lnf (c_block (c_mask [true] rfl ?_)))))))))
 refine c_loop (fun (j : Nat) f L => (f 1 = pp b1 0 ∧ f 4 = Nx (j)) ∧ L = [pt b1 (.cells #[sB va bs (vc),sB rva rs (rvc),Ix (gx),Ix (gy)] 30)] ∧ (j ≤ rs.length ∧ ∀ r ∈ rs.take j,okR bs r)) (fun j => rs.length - j) 0 ?_ ?_
 ·exact ⟨⟨rfl,rfl⟩,rfl,⟨by omega,fun y hy => by simp at hy⟩⟩
 rintro j f0 L0 ⟨⟨hs1,hs4⟩,hL,⟨hj,hp3⟩⟩
 subst L0
 refine rbs 1 hs1 (rbs 4 hs4 (cs2 (c_region (lE omi (lE ofp (lE (ols 0) (lE oln (lE olt (lnf (c_if _ rfl (fun hc21 => ?_) (fun hc21 => ?_)))))))))))
 ·refine csk (c_seq (c_block (csr (lE ofp (lE (ols 0) (lE omi ?_))))))
  obtain ⟨x22,hx23⟩ := getx rs j (by omega)
  obtain ⟨ha24,cs25,hc26,rfl⟩ := rve _ _ hx23
  refine lE (oia tf46 ha24) (lv (v := .agg #[Ix (x22.a),Ix (x22.b),Ix (x22.len)]) (e_load tf47.ok rfl (kB hc26) rfl) (alE fun b28 => ?_))
  refine lu (mS 0 (#[Ix (x22.a),Ix (x22.b),Ix (x22.len)])) (lnc (lE ofp (lE (oli 0) (lE ofp (lE (oli 0) (lE oge (lE omb ?_)))))))
  refine l_split (s := 73) rfl (fun hg29 => ?_) (fun hg29 => ?_)
  ·iterate 6 refine skE ?_
   refine lE oktb (lE omb ?_)
   iterate 6 refine skE ?_
   refine lE oktb (lE omb (skE (skE (skE (lE oktb (lE omb (skE (skE (skE (lE oktb (lnf (c_yes rfl (csr (lE oab (lnf (c_ret (f_block_ret (f_then_ret ?_))))))))))))))))))
   refine f_then_ret (f_block_ret (f_then_ret (ret1 Tryz.results117 rfl ?_)))
   intro w hw
   exact ⟨congrArg (fun b : Bool => Ending.returned (.bool b)) (decide_eq_false fun h => by obtain ⟨q1,q2,q3,q4,q5⟩ := h.2.2.2.2.2 _ (List.mem_of_getElem? hx23); omega).symm,st_mask [false,false] rfl hw⟩
  refine gE ofp (gE (ols 1) (gE ofp (gE (oli 0) (g_call rfl rfl rfl rfl rfl (cl0 (vs := [sB va bs (vc),Ix (x22.a)]) tf122.ok rfl rfl) ?_))))
  intro w hw
  obtain ⟨β1,sb,kn,hw1,back⟩ := St.frame_all hw
  refine (find7_ok β1 w hw1 _ bs (Sl.mono _ _ _ _ _ sb (⟨⟨_,_,rfl,vl,vm,ve⟩⟩ : Sl KBR _ _ bs)) (x22.a)).mono ?_
  rintro e w' ⟨rfl,hw'⟩
  refine ⟨_,rfl,_,back _ _ hw',?_⟩
  clear hw hw1 hw' back kn sb
  refine gE olt (lE okfb (lE omb (l_split (s := 81) rfl (fun hg30 => ?_) (fun hg30 => ?_))))
  ·iterate 6 refine skE ?_
   refine lE oktb (lE omb (skE (skE (skE (lE oktb (lE omb (skE (skE (skE (lE oktb (lnf (c_yes rfl (csr (lE oab (lnf (c_ret (f_block_ret (f_then_ret ?_))))))))))))))))))
   refine f_then_ret (f_block_ret (f_then_ret (ret1 Tryz.results117 rfl ?_)))
   intro w hw
   exact ⟨congrArg (fun b : Bool => Ending.returned (.bool b)) (decide_eq_false fun h => by obtain ⟨q1,q2,q3,q4,q5⟩ := h.2.2.2.2.2 _ (List.mem_of_getElem? hx23); rw [idx_neg.1 hg30] at q1; cases q1).symm,st_mask [false,false] rfl hw⟩
  refine gE ofp (gE (ols 1) (gE ofp (gE (oli 0) (g_call rfl rfl rfl rfl rfl (cl0 (vs := [sB va bs (vc),Ix (x22.b)]) tf122.ok rfl rfl) ?_))))
  intro w hw
  obtain ⟨β1,sb,kn,hw1,back⟩ := St.frame_all hw
  refine (find7_ok β1 w hw1 _ bs (Sl.mono _ _ _ _ _ sb (⟨⟨_,_,rfl,vl,vm,ve⟩⟩ : Sl KBR _ _ bs)) (x22.b)).mono ?_
  rintro e w' ⟨rfl,hw'⟩
  refine ⟨_,rfl,_,back _ _ hw',?_⟩
  clear hw hw1 hw' back kn sb
  refine gE olt (lE okfb (lE omb (l_split (s := 89) rfl (fun hg31 => ?_) (fun hg31 => ?_))))
  ·refine skE (skE (skE (lE oktb (lE omb (skE (skE (skE (lE oktb (lnf (c_yes rfl (csr (lE oab (lnf (c_ret (f_block_ret (f_then_ret (f_then_ret ?_)))))))))))))))))
   refine f_block_ret (f_then_ret (ret1 Tryz.results117 rfl ?_))
   intro w hw
   exact ⟨congrArg (fun b : Bool => Ending.returned (.bool b)) (decide_eq_false fun h => by obtain ⟨q1,q2,q3,q4,q5⟩ := h.2.2.2.2.2 _ (List.mem_of_getElem? hx23); rw [idx_neg.1 hg31] at q2; cases q2).symm,st_mask [false,false] rfl hw⟩
  refine gE ofp (gE (oli 0) (gE olt (lE okfb (lE omb (l_split (s := 94) rfl (fun hg32 => ?_) (fun hg32 => ?_))))))
  ·refine skE (skE (skE (lE oktb (lnf (c_yes rfl (csr (lE oab (lnf (c_ret (f_block_ret (f_then_ret (f_then_ret (f_block_ret (f_then_ret ?_))))))))))))))
   refine ret1 Tryz.results117 rfl ?_
   intro w hw
   exact ⟨congrArg (fun b : Bool => Ending.returned (.bool b)) (decide_eq_false fun h => by obtain ⟨q1,q2,q3,q4,q5⟩ := h.2.2.2.2.2 _ (List.mem_of_getElem? hx23); omega).symm,st_mask [false,false] rfl hw⟩
  refine gE ofp (gE (oli 0) (gE ogt (lE okfb (lnf (c_if _ rfl (fun hc33 => ?_) (fun hc33 => ?_))))))
  ·refine csr (lE oab (lnf (c_ret (f_block_ret (f_then_ret (f_then_ret (f_block_ret (f_then_ret (ret1 Tryz.results117 rfl ?_)))))))))
   intro w hw
   exact ⟨congrArg (fun b : Bool => Ending.returned (.bool b)) (decide_eq_false fun h => by obtain ⟨q1,q2,q3,q4,q5⟩ := h.2.2.2.2.2 _ (List.mem_of_getElem? hx23); omega).symm,st_mask [false,false] rfl hw⟩
  refine c_skip (f_block (f_then (c_region (lE omi (lv (v := Nx (j + 1)) (e_add rfl rfl (i64n (by omega) (by omega))) (lE oai (l_nil ?_)))))))
  refine f_mask [false,true] rfl ?_
  exact f_cut ⟨j + 1,⟨⟨rfl,rfl⟩,rfl,⟨by omega,al_next hx23 hp3 (show okR bs x22 from ⟨idx_pos hg30,idx_pos hg31,by omega,by omega,by omega⟩)⟩⟩,(show rs.length - (j + 1) < rs.length - j from by omega)⟩
 refine c_exit (f_then_exit (f_then_exit (f_exit (ftc (lE oab (lnf (c_ret (ret1 Tryz.results117 rfl ?_))))))))
 intro w hw
 exact ⟨congrArg (fun b : Bool => Ending.returned (.bool b)) (decide_eq_true (show okS bs rs gx gy from ⟨by omega,by omega,hov,ok_all (by omega) hp1,ord_all (by omega) hp2,al_all (by omega) hp3⟩)).symm,st_mask [false] rfl hw⟩
theorem moveU_ok (β : Base) (w : World) (hw : St β [] w) (v rv : Value) (gx gy : Int) (bs : List KB) (rs : List KR) (hs : Sl KBR β.heap v bs) (hr : Sl KRR β.heap rv rs) (ho : ordB bs) (hbs : ∀ o ∈ bs, okB o) (hrs : ∀ r ∈ rs, okR bs r) (k : Nat) (b : KB) (hk : bs[k]? = some b) (y : Bool) (al : UInt8) (hal : al = if y then 2 else 1) (n : Int) (hn : -4096 ≤ n ∧ n ≤ 4096) (u : Nat × Option Int) (hu : runM bs rs b y n = u) (C : KB) (hC : sh y b (sgn n * (u.1 : Nat)) = C) : Ret Tryz.prog 118 #[.agg #[v, rv, Ix gx, Ix gy], Nx k, Bx al, Ix n] β w (.tuple #[.agg (bC C), .bool u.2.isSome, Ix (u.2.getD 0)]) := by
 subst hC
 subst hu
 exact move8_ok β w hw v rv gx gy bs rs hs hr ho hbs hrs k b hk y al hal n hn
set_option maxHeartbeats 4000000 in
theorem step8_ok (β : Base) (w : World) (hw : St β [] w) (v rv : Value) (gx gy : Int) (bs : List KB) (rs : List KR) (hs : Sl KBR β.heap v bs) (hr : Sl KRR β.heap rv rs) : Calls Tryz.prog 75 #[.agg #[v, rv, Ix gx, Ix gy]] w fun r w' => (okS bs rs gx gy ∧ ∃ p1 c1 p2 c2 sp sc, r = .returned (.tuple #[.agg #[sB p1 bs c1, sB p2 rs c2, Ix gx, Ix gy], sB sp (stepsTo rs gx gy bs bs.length).2 sc, .int .i64 (0)]) ∧ St β [rowF BodyF 52 p1 c1 (stepsTo rs gx gy bs bs.length).1, rowF RopeF 78 p2 c2 rs, rowF StopF 55 sp sc (stepsTo rs gx gy bs bs.length).2] w') ∨ (¬ okS bs rs gx gy ∧ r = .returned (.tuple #[.agg #[.slice none 0 0, .slice none 0 0, .int .i64 (0), .int .i64 (0)], .slice none 0 0, .int .i64 (2)]) ∧ St β [] w') := by
 obtain ⟨va,vc,rfl,vl,vm,ve⟩ := hs.get
 obtain ⟨rva,rvc,rfl,rvl,rvm,rve⟩ := hr.get
 refine enter (n := 103) Tryz.func75 rfl Tryz.ntmps75 rfl ?_ hw
 refine csr (bxa fun b1 => ?_)
 refine alE fun b2 => lE oas (lE oai (lnf (cs2 (c_region (lE (olg 1) ?_)))))
 refine lcR clA (fun w β1 sb kn hw1 => valid7_ok β1 w hw1 _ _ gx gy bs rs (Sl.mono _ _ _ _ _ sb (⟨⟨_,_,rfl,vl,vm,ve⟩⟩ : Sl KBR _ _ bs)) (Sl.mono _ _ _ _ _ sb (⟨⟨_,_,rfl,rvl,rvm,rve⟩⟩ : Sl KRR _ _ rs))) ?_
 refine lE ond (lnf (c_if _ rfl (fun hc3 => ?_) (fun hc3 => ?_)))
 ·refine csr ?_
  refine lv (v := .agg #[.slice none 0 0,.slice none 0 0,.int .i64 (0),.int .i64 (0)]) (e_build tf85.ok tf88 (vs := []) (cells := #[.slice none 0 0,.slice none 0 0,.int .i64 (0),.int .i64 (0)]) rfl rfl) ?_
  refine lu (mS 0 (#[.slice none 0 0,.slice none 0 0,.int .i64 (0),.int .i64 (0)])) (lE oas (lE oai (lnf (c_ret (f_then_ret ?_)))))
  refine retG (m := [.agg #[.slice none 0 0,.slice none 0 0,.int .i64 (0),.int .i64 (0)],.slice none 0 0,.int .i64 (2)]) Tryz.results75 ⟨rd_cell tf86.ok rfl (k_pt 0 rfl rfl) rfl,rd_tmp (v := .slice none 0 0) rfl,rd_tmp (v := .int .i64 (2)) rfl,trivial⟩ rfl ?_
  intro w hw
  exact .inr ⟨hc3,rfl,st_mask [false,false] rfl hw⟩
 refine csk (c_seq ?_)
 have hok := Decidable.not_not.1 hc3
 obtain ⟨o1,o2,o3,o4,o5,o6⟩ := hok
 refine cny [⟨[],[],[],[19],fun f => f 19 = .slice (some ⟨(blk (f 19)),0,none⟩) 0 0⟩,sv 20 (pp b1 0) [] [] [0],sv 21 (sB va bs (vc)) [1] [1] [],⟨[0,1,2],[0,2],[],[22],fun f => f 22 = sB (sla (f 22)) bs (slc (f 22))⟩,⟨[],[],[],[23],fun f => f 23 = .slice (some ⟨(blk (f 23)),0,none⟩) 0 0⟩,sv 24 (pp b1 1) [] [] [0],sv 25 (sB rva rs (rvc)) [5] [5] [],⟨(List.range 7),[4,6],[],[26],fun f => f 26 = sB (sla (f 26)) rs (slc (f 26))⟩,sv 27 (pp b1 2) [] [] [0],sv 28 (.agg #[Ix (gx),Ix (gy)]) [8] [8] [],⟨(List.range 10),[3,7,9],[],[22,26,29],fun f => f 29 = .agg #[sB (sla (f 22)) bs (slc (f 22)),sB (sla (f 26)) rs (slc (f 26)),Ix (gx),Ix (gy)]⟩,⟨[],[],[],[5],fun f => f 5 = .pointer (some ⟨(blk (f 5)),0,none⟩)⟩,⟨(List.range 12),[11,10],[],[],fun _ => True⟩] [tk (pt b2 (.cells #[.slice none 0 0,.slice none 0 0,.int .i64 (0),.int .i64 (0)] 30)) [],tk (pt b1 (.cells #[sB va bs (vc),sB rva rs (rvc),Ix (gx),Ix (gy)] 30)) [2,6,9],⟨(some 0),(some 3),[3],[19],fun f => pt (blk (f 19)) (.cells #[] 52)⟩,⟨(some 3),none,[],[22],fun f => rowF BodyF 52 (sla (f 22)) (slc (f 22)) bs⟩,⟨(some 4),(some 7),[7],[23],fun f => pt (blk (f 23)) (.cells #[] 78)⟩,⟨(some 7),none,[],[26],fun f => rowF RopeF 78 (sla (f 26)) (slc (f 26)) rs⟩,⟨(some 11),(some 12),[12],[5],fun f => pt (blk (f 5)) (.cells #[.slice none 0 0,.slice none 0 0,.int .i64 (0),.int .i64 (0)] 30)⟩,⟨(some 12),none,[],[5,22,26],fun f => pt (blk (f 5)) (.cells #[sB (sla (f 22)) bs (slc (f 22)),sB (sla (f 26)) rs (slc (f 26)),Ix (gx),Ix (gy)] 30)⟩] [(1,pp b1 0),(2,pp b2 0)] [0,1] [] ⟨rfl,rfl,trivial⟩ ⟨?_,?_,?_,?_,?_,?_,?_,?_,?_,?_,?_,?_,?_,trivial⟩ ?_
 ·rintro f M - -
  refine ob_start (L' := M) (by rfl) rfl (l_mv rfl rfl rfl (m_slice0 tf43) ?_)
  rintro _ _ ⟨b5,rfl,rfl⟩
  refine l_nil ?_
  exact f_owes_d rfl rfl (perm_front 0 rfl)
 ·rintro f M - ⟨i0,-⟩
  exact obE ofp
 ·rintro f M ⟨k0,-⟩ -
  exact obE (ols 0)
 ·rintro f M ⟨k0,k1,-⟩ -
  have hs19 : f 19 = .slice (some ⟨(blk (f 19)),0,none⟩) 0 0 := k0
  refine ob_start (L' := pt (blk (f 19)) (.cells #[] 52) :: M) (by rfl) (up_cons (d := 21) (up_cons rfl hs19) k1) ?_
  refine l_conseq 0 (r' := rowF BodyF 52 (some ⟨(blk (f 19)),0,none⟩) 0 []) rfl (fun a h => pt_row (m := 0) (by decide) rfl a h) ?_
  refine l_mv rfl rfl rfl (m_appendFlN (F := BodyF) 0 tf43 tf83 (p := (some ⟨(blk (f 19)),0,none⟩)) (m := 0) (xs := []) (ys := bs) (ao := va) (k := bs.length) (c := vc) rfl rfl rfl rfl rfl (Knows.of_base (Elems.mono _ _ _) ve) (by first | omega | simp only [List.length_nil,List.length_cons,List.length_append,List.length_set]; omega) (by first | omega | simp only [List.length_nil,List.length_cons,List.length_append,List.length_set]; omega)) ?_
  rintro _ _ ⟨rp8,rc9,rfl,rfl⟩
  refine l_nil ?_
  exact f_owes_d (up_cons (d := 21) (up_cons rfl hs19) k1) rfl (perm_front 0 rfl)
 ·rintro f M - -
  refine ob_start (L' := M) (by rfl) rfl (l_mv rfl rfl rfl (m_slice0 tf46) ?_)
  rintro _ _ ⟨b11,rfl,rfl⟩
  refine l_nil ?_
  exact f_owes_d rfl rfl (perm_front 0 rfl)
 ·rintro f M - ⟨i0,-⟩
  exact obE ofp
 ·rintro f M ⟨k0,-⟩ -
  exact obE (ols 0)
 ·rintro f M ⟨k0,k1,-⟩ -
  have hs23 : f 23 = .slice (some ⟨(blk (f 23)),0,none⟩) 0 0 := k0
  refine ob_start (L' := pt (blk (f 23)) (.cells #[] 78) :: M) (by rfl) (up_cons (d := 25) (up_cons rfl hs23) k1) ?_
  refine l_conseq 0 (r' := rowF RopeF 78 (some ⟨(blk (f 23)),0,none⟩) 0 []) rfl (fun a h => pt_row (m := 0) (by decide) rfl a h) ?_
  refine l_mv rfl rfl rfl (m_appendFlN (F := RopeF) 0 tf46 tf84 (p := (some ⟨(blk (f 23)),0,none⟩)) (m := 0) (xs := []) (ys := rs) (ao := rva) (k := rs.length) (c := rvc) rfl rfl rfl rfl rfl (Knows.of_base (Elems.mono _ _ _) rve) (by first | omega | simp only [List.length_nil,List.length_cons,List.length_append,List.length_set]; omega) (by first | omega | simp only [List.length_nil,List.length_cons,List.length_append,List.length_set]; omega)) ?_
  rintro _ _ ⟨rp14,rc15,rfl,rfl⟩
  refine l_nil ?_
  exact f_owes_d (up_cons (d := 25) (up_cons rfl hs23) k1) rfl (perm_front 0 rfl)
 ·rintro f M - ⟨i0,-⟩
  exact obE ofp
 ·rintro f M ⟨k0,-⟩ -
  exact obE (olg 0)
 ·rintro f M ⟨k0,k1,k2,-⟩ -
  have hs22 : f 22 = sB (sla (f 22)) bs (slc (f 22)) := k0
  have hs26 : f 26 = sB (sla (f 26)) rs (slc (f 26)) := k1
  exact ob0 (up_cons (d := 28) (up_cons (up_cons rfl hs22) hs26) k2) rfl (e_build tf85.ok tf88 (vs := [(0,sB (sla (f 22)) bs (slc (f 22))),(1,sB (sla (f 26)) rs (slc (f 26))),(2,.agg #[Ix (gx),Ix (gy)])]) (cells := #[sB (sla (f 22)) bs (slc (f 22)),sB (sla (f 26)) rs (slc (f 26)),Ix (gx),Ix (gy)]) rfl rfl) (.refl _)
 ·rintro f M - -
  refine ob_start (L' := M) (by rfl) rfl (alE fun b17 => l_nil ?_)
  exact f_owes_d rfl rfl (perm_front 0 rfl)
 ·rintro f M ⟨k0,k1,-⟩ -
  have hs5 : f 5 = .pointer (some ⟨(blk (f 5)),0,none⟩) := k0
  have hs29 : f 29 = .agg #[sB (sla (f 22)) bs (slc (f 22)),sB (sla (f 26)) rs (slc (f 26)),Ix (gx),Ix (gy)] := k1
  refine ob_start (L' := pt (blk (f 5)) (.cells #[.slice none 0 0,.slice none 0 0,.int .i64 (0),.int .i64 (0)] 30) :: M) (by rfl) (up_cons (up_cons rfl hs5) hs29) ?_
  refine lu (mS 0 (#[sB (sla (f 22)) bs (slc (f 22)),sB (sla (f 26)) rs (slc (f 26)),Ix (gx),Ix (gy)])) (l_nil ?_)
  exact f_owes_n (up_cons (up_cons rfl hs5) hs29) trivial (perm_front 0 rfl)
 rintro fa18 ⟨-,-,-,-,-,-,-,-,-,-,-,k11,-,-⟩ ⟨j0,j1,-⟩
 refine f_re (L' := [pt b2 (.cells #[.slice none 0 0,.slice none 0 0,.int .i64 (0),.int .i64 (0)] 30),pt b1 (.cells #[sB va bs (vc),sB rva rs (rvc),Ix (gx),Ix (gy)] 30),rowF BodyF 52 (sla (fa18 22)) (slc (fa18 22)) bs,rowF RopeF 78 (sla (fa18 26)) (slc (fa18 26)) rs,pt (blk (fa18 5)) (.cells #[sB (sla (fa18 22)) bs (slc (fa18 22)),sB (sla (fa18 26)) rs (slc (fa18 26)),Ix (gx),Ix (gy)] 30)]) (by rfl) ?_
 refine f_rebase (d := 1) j0 (f_rebase (d := 2) j1 (f_rebase (d := 5) k11 (fts ?_)))
 generalize (sla (fa18 22)) = p1
 generalize (slc (fa18 22)) = c1
 generalize (sla (fa18 26)) = p2
 generalize (slc (fa18 26)) = c2
 refine c_region (lE oas (lnf (cs2 (c_emp (r := rowF StopF 55 none 0 []) (row_nil _ _ _) (c_region (lE oai (lnf (c_block ?_))))))))
 refine c_loop (fun (x_ : Nat × List KB × List KS × Option Addr × Nat) f L => match x_ with | (k,B,S,sp,sc) => (f 1 = pp b1 0 ∧ f 2 = pp b2 0 ∧ f 5 = .pointer (some ⟨(blk (fa18 5)),0,none⟩) ∧ f 6 = sB sp S sc ∧ f 7 = Nx (k)) ∧ L = [rowF StopF 55 sp sc S,pt b2 (.cells #[.slice none 0 0,.slice none 0 0,.int .i64 (0),.int .i64 (0)] 30),pt b1 (.cells #[sB va bs (vc),sB rva rs (rvc),Ix (gx),Ix (gy)] 30),rowF BodyF 52 p1 c1 B,rowF RopeF 78 p2 c2 rs,pt (blk (fa18 5)) (.cells #[sB p1 bs c1,sB p2 rs c2,Ix (gx),Ix (gy)] 30)] ∧ (k ≤ bs.length ∧ B = (stepsTo rs gx gy bs k).1 ∧ S = (stepsTo rs gx gy bs k).2 ∧ SameIds B bs ∧ (∀ o ∈ B,okB o) ∧ S.length ≤ 2 * k)) (fun (k,B,S,sp,sc) => bs.length - k) (0,bs,[],none,0) ?_ ?_
 ·exact ⟨⟨rfl,rfl,rfl,rfl,rfl⟩,rfl,⟨by omega,rfl,rfl,rfl,o4,by simp⟩⟩
 rintro ⟨k,B,S,sp,sc⟩ f0 L0 ⟨⟨hs1,hs2,hs5,hs6,hs7⟩,hL,⟨hk,hB,hS,hid,hBok,hSl⟩⟩
 subst L0
 refine rbs 1 hs1 (rbs 2 hs2 (rbs 5 hs5 (rbs 6 hs6 (rbs 7 hs7 ?_))))
 have hl := hid.len
 refine cs2 (c_region (lE omi (lE ofp (lE (ols 5) (lE oln (lE olt (lnf (c_if _ rfl (fun hc19 => ?_) (fun hc19 => ?_)))))))))
 ·refine csk (c_seq (c_block (cs2 (c_region (lE ofp (lE (ols 5) (lE omi ?_)))))))
  refine lv (v := .pointer (some ((ba p1).add (k * 9)))) (e_indexFlN 3 (F := BodyF) rfl (by omega) rfl tf43 (by omega) rfl) (lE ofd ?_)
  obtain ⟨x,hx⟩ := getx B k (by omega)
  refine lv (v := .bool (x.fixed)) (e_load1 tf13.ok rfl (k_flPart 3 (F := BodyF) (o := 8) (us := [.bool (x.fixed)]) rfl hx rfl)) (lnf ?_)
  refine c_ifb (x.fixed) rfl (fun hc20 => ?_) (fun hc20 => ?_)
  ·refine c_exit (f_then_exit (f_exit (f_then (c_region (lE omi (lv (v := Nx (k + 1)) (e_add rfl rfl (i64n (by omega) (by omega))) (lE oai (l_nil ?_))))))))
   exact f_cut ⟨(k + 1,B,S,sp,sc),⟨⟨rfl,rfl,rfl,rfl,rfl⟩,rfl,⟨by omega,(next_fixed hB hS hx hc20).1,(next_fixed hB hS hx hc20).2,hid,hBok,by omega⟩⟩,(show bs.length - (k + 1) < bs.length - k from by omega)⟩
  refine csk (c_seq ?_)
  refine cny [sv 43 (.pointer (some ⟨(blk (fa18 5)),0,none⟩)) [] [] [0],sv 44 (sB p1 bs c1) [0] [0] [],sv 45 (Nx (k)) [] [] [1],sv 46 (.pointer (some ((ba p1).add (k * 9)))) [0,1,2] [1,2] [],sv 47 (.agg (bC x)) [0,1,2,3] [3] [],sv 48 (pp b1 2) [] [] [2],sv 49 (.agg #[Ix (gx),Ix (gy)]) [5] [5] [],sv 50 (.agg #[Ix (speedX x (gx) (gy)),Ix (speedY x (gx) (gy))]) (List.range 7) [4,6] [],⟨[],[],[],[8],fun f => f 8 = .pointer (some ⟨(blk (f 8)),0,none⟩)⟩,⟨(List.range 9),[8,7],[],[],fun _ => True⟩] [tk (rowF StopF 55 sp sc S) [],tk (pt b2 (.cells #[.slice none 0 0,.slice none 0 0,.int .i64 (0),.int .i64 (0)] 30)) [],tk (pt b1 (.cells #[sB va bs (vc),sB rva rs (rvc),Ix (gx),Ix (gy)] 30)) [6],tk (rowF BodyF 52 p1 c1 B) [3,4],tk (rowF RopeF 78 p2 c2 rs) [],tk (pt (blk (fa18 5)) (.cells #[sB p1 bs c1,sB p2 rs c2,Ix (gx),Ix (gy)] 30)) [1],⟨(some 8),(some 9),[9],[8],fun f => pt (blk (f 8)) (.cells #[.int .i64 (0),.int .i64 (0)] 28)⟩,⟨(some 9),none,[],[8],fun f => pt (blk (f 8)) (.cells #[Ix (speedX x (gx) (gy)),Ix (speedY x (gx) (gy))] 28)⟩] [(5,.pointer (some ⟨(blk (fa18 5)),0,none⟩)),(7,Nx (k)),(1,pp b1 0),(2,pp b2 0),(6,sB sp S sc)] [2,3,0,4,1] [] ⟨rfl,rfl,rfl,rfl,rfl,trivial⟩ ⟨?_,?_,?_,?_,?_,?_,?_,?_,?_,?_,trivial⟩ ?_
  ·rintro f M - ⟨i0,-⟩
   exact obE ofp
  ·rintro f M ⟨k0,-⟩ -
   exact obE (ols 0)
  ·rintro f M - ⟨i0,-⟩
   exact obE omi
  ·rintro f M ⟨k0,k1,-⟩ -
   exact obv (L' := rowF BodyF 52 p1 c1 B :: M) (up_cons (d := 45) (up_cons (d := 44) rfl k0) k1) rfl (e_indexFlN 0 (F := BodyF) (j := k) (m := bs.length) (xs := B) rfl (by omega) rfl tf43 (by omega) rfl) (perm_front 0 rfl) (by rfl)
  ·rintro f M ⟨k0,-⟩ -
   exact obv (L' := rowF BodyF 52 p1 c1 B :: M) (up_cons (d := 46) rfl k0) rfl (e_load tf22.ok rfl (k_flAt 0 (F := BodyF) rfl hx) rfl) (perm_front 0 rfl) (by rfl)
  ·rintro f M - ⟨i0,-⟩
   exact obE ofp
  ·rintro f M ⟨k0,-⟩ -
   exact obE (olg 0)
  ·rintro f M ⟨k0,k1,-⟩ -
   refine ob_start (L' := M) (by rfl) (up_cons (d := 49) (up_cons (d := 47) rfl k0) k1) ?_
   refine lcR clA (fun w β1 sb kn hw1 => speed7_ok β1 w hw1 x (gx) (gy)) (l_nil ?_)
   exact f_owes_d (up_cons (d := 49) (up_cons (d := 47) rfl k0) k1) rfl (List.Perm.refl _)
  ·rintro f M - -
   refine ob_start (L' := M) (by rfl) rfl (alE fun b22 => l_nil ?_)
   exact f_owes_d rfl rfl (perm_front 0 rfl)
  ·rintro f M ⟨k0,k1,-⟩ -
   have hs8 : f 8 = .pointer (some ⟨(blk (f 8)),0,none⟩) := k0
   refine ob_start (L' := pt (blk (f 8)) (.cells #[.int .i64 (0),.int .i64 (0)] 28) :: M) (by rfl) (up_cons (d := 50) (up_cons rfl hs8) k1) ?_
   refine lu (mS 0 (#[Ix (speedX x (gx) (gy)),Ix (speedY x (gx) (gy))])) (l_nil ?_)
   exact f_owes_n (up_cons (d := 50) (up_cons rfl hs8) k1) trivial (perm_front 0 rfl)
  rintro fa23 ⟨-,-,-,-,-,-,-,-,k8,-,-⟩ ⟨j0,j1,j2,j3,j4,-⟩
  refine f_re (L' := [rowF StopF 55 sp sc S,pt b2 (.cells #[.slice none 0 0,.slice none 0 0,.int .i64 (0),.int .i64 (0)] 30),pt b1 (.cells #[sB va bs (vc),sB rva rs (rvc),Ix (gx),Ix (gy)] 30),rowF BodyF 52 p1 c1 B,rowF RopeF 78 p2 c2 rs,pt (blk (fa18 5)) (.cells #[sB p1 bs c1,sB p2 rs c2,Ix (gx),Ix (gy)] 30),pt (blk (fa23 8)) (.cells #[Ix (speedX x (gx) (gy)),Ix (speedY x (gx) (gy))] 28)]) (by rfl) ?_
  refine f_rebase (d := 1) j0 (f_rebase (d := 2) j1 (f_rebase (d := 5) j2 (f_rebase (d := 6) j3 (f_rebase (d := 7) j4 (f_rebase (d := 8) k8 (fts ?_))))))
  obtain ⟨nx,hnx⟩ : ∃ z,z = speedX x gx gy := ⟨_,rfl⟩
  obtain ⟨ny,hny⟩ : ∃ z,z = speedY x gx gy := ⟨_,rfl⟩
  have hsp := speed_bd x gx gy
  rw [← hnx,← hny] at hsp
  have hxok := hBok _ (List.mem_of_getElem? hx)
  rw [← hnx,← hny]
  have hBo : ordB B := ordB_ids hid o5
  have hBr : ∀ r ∈ rs,okR B r := fun r hr => okR_ids hid (o6 r hr)
  refine c_region (lE (olg 5) (lE omi (lE ofp (lE (oli 6) ?_))))
  refine l_call rfl rfl rfl (cl0 (vs := [.agg #[sB p1 bs c1,sB p2 rs c2,Ix (gx),Ix (gy)],Nx (k),.int .u8 (1),Ix (nx)]) tf130.ok rfl rfl) ?_
  intro w hw
  obtain ⟨β1,sb,kn,hw1,back⟩ := St.frame_all hw
  obtain ⟨u,hu⟩ : ∃ z,runM B rs x false nx = z := ⟨_,rfl⟩
  obtain ⟨C1,hC1⟩ : ∃ z,sh false x (sgn nx * (u.1 : Nat)) = z := ⟨_,rfl⟩
  refine (moveU_ok β1 w hw1 _ _ gx gy B rs (kn _ (k_flN 3 (F := BodyF) (m := bs.length) (xs := B) rfl (by omega))) (kn _ (k_flN 4 (F := RopeF) (m := rs.length) (xs := rs) rfl rfl)) hBo hBok hBr k x hx false 1 rfl nx (by omega) u hu C1 hC1).mono ?_
  rintro e w' ⟨rfl,hw'⟩
  refine ⟨_,rfl,_,back _ _ hw',?_⟩
  clear hw hw1 hw' back kn sb
  have hC1ok : okB C1 := by rw [← hC1,← hu]; exact runM_ok hxok
  have hC1id : C1.id = x.id := by rw [← hC1,sh_id]
  have hC1f : C1.fixed = x.fixed := by rw [← hC1,(sh_vel _ _ _).2.2]
  refine lE omt (lE oxa (lE oxb (lE oxi (alE fun b24 => lu (mS 0 (bC C1)) (lE oab (lE oai (lnf ?_)))))))
  refine c_seq_cut (fun (f : Fm) (L : List Res) => ∃ (S1 : List KS) (spa : Option Addr) (sca : Nat),(f 1 = pp b1 0 ∧ f 2 = pp b2 0 ∧ f 5 = .pointer (some ⟨(blk (fa18 5)),0,none⟩) ∧ f 6 = sB spa S1 sca ∧ f 7 = Nx (k) ∧ f 8 = .pointer (some ⟨(blk (fa23 8)),0,none⟩) ∧ f 9 = pp b24 0 ∧ f 10 = .bool (u.2.isSome)) ∧ L = [pt b24 (.cells (bC C1) 52),rowF StopF 55 spa sca S1,pt b2 (.cells #[.slice none 0 0,.slice none 0 0,.int .i64 (0),.int .i64 (0)] 30),pt b1 (.cells #[sB va bs (vc),sB rva rs (rvc),Ix (gx),Ix (gy)] 30),rowF BodyF 52 p1 c1 B,rowF RopeF 78 p2 c2 rs,pt (blk (fa18 5)) (.cells #[sB p1 bs c1,sB p2 rs c2,Ix (gx),Ix (gy)] 30),pt (blk (fa23 8)) (.cells #[Ix (nx),Ix (ny)] 28)] ∧ (S1 = S ++ stopL x.id 1 u.2 ∧ S1.length ≤ S.length + 1)) ?_ ?_
  ·refine csr (lE omb (lnf (c_ifb (u.2.isSome) rfl (fun hc25 => ?_) (fun hc25 => ?_))))
   ·refine c_region (lE oms (lE ofp (lE (oli 0) (lE omi ?_))))
    refine lv (v := .agg #[Ix (C1.id),.int .u8 (1),Ix (u.2.getD 0)]) (e_build tf99.ok tf98 (vs := [(0,Ix (C1.id)),(1,.int .u8 (1)),(2,Ix (u.2.getD 0))]) (cells := #[Ix (C1.id),.int .u8 (1),Ix (u.2.getD 0)]) rfl rfl) ?_
    refine l_mv rfl rfl rfl (m_slices tf100 tf99.ok (cells := #[Ix (C1.id),.int .u8 (1),Ix (u.2.getD 0)]) rfl rfl rfl rfl) ?_
    rintro _ _ ⟨b26,rfl,rfl⟩
    refine l_mv rfl rfl rfl (m_appendFlN (F := StopF) 2 tf100 tf101 (p := sp) (m := S.length) (xs := S) (ys := [(⟨C1.id,1,u.2.getD 0⟩ : KS)]) (ao := (some ⟨b26,0,none⟩)) (k := 1) (c := 1) rfl rfl rfl rfl rfl (k_ptFl (z := (⟨C1.id,1,u.2.getD 0⟩ : KS)) 0 rfl rfl) (by first | omega | simp only [List.length_nil,List.length_cons,List.length_append,List.length_set]; omega) (by first | omega | simp only [List.length_nil,List.length_cons,List.length_append,List.length_set]; omega)) ?_
    rintro _ _ ⟨rp27,rc28,rfl,rfl⟩
    refine lE oas (l_nil (f_mask [false,true,true,true,true,true,true,true,true] rfl ?_))
    exact f_cut ⟨(S ++ [(⟨C1.id,1,u.2.getD 0⟩ : KS)]),rp27,rc28,⟨rfl,rfl,rfl,rfl,rfl,rfl,rfl,rfl⟩,rfl,⟨by rw [stop_yes hc25 hC1id],by simp⟩⟩
   refine c_skip ?_
   exact f_cut ⟨S,sp,sc,⟨rfl,rfl,rfl,rfl,rfl,rfl,rfl,rfl⟩,rfl,⟨by rw [stop_none hc25,List.append_nil],by omega⟩⟩
  rintro f0 L0 ⟨S1,spa,sca,⟨hs1,hs2,hs5,hs6,hs7,hs8,hs9,hs10⟩,hL,⟨hS1,hS1l⟩⟩
  subst L0
  refine rbs 1 hs1 (rbs 2 hs2 (rbs 5 hs5 (rbs 6 hs6 (rbs 7 hs7 (rbs 8 hs8 (rbs 9 hs9 (rbs 10 hs10 (csr (lE ofp (lE (ols 6) (lE omi (lE (olg 0) ?_))))))))))))
  refine lv (v := .pointer (some ((ba p1).add (k * 9)))) (e_indexFlN 4 (F := BodyF) rfl (by omega) rfl tf43 (by omega) rfl) ?_
  refine lu (m_storeFl 4 (F := BodyF) (p := p1) (k := k) (xs := B) (z := C1) tf22.ok rfl rfl rfl rfl (by omega)) (lnf (c_seq ?_))
  have hsC := hid.set hx hC1id
  have hBok1 := okB_set (k := k) hBok hC1ok
  have hBo1 : ordB (B.set k C1) := ordB_ids hsC o5
  have hBr1 : ∀ r ∈ rs,okR (B.set k C1) r := fun r hr => okR_ids hsC (o6 r hr)
  have hsk := get_set (xs := B) C1 (by omega : k < B.length)
  refine c_region (lE (olg 6) (lE omi (lE ofp (lE (oli 7) ?_))))
  refine l_call rfl rfl rfl (cl0 (vs := [.agg #[sB p1 bs c1,sB p2 rs c2,Ix (gx),Ix (gy)],Nx (k),.int .u8 (2),Ix (ny)]) tf130.ok rfl rfl) ?_
  intro w hw
  obtain ⟨β1,sb,kn,hw1,back⟩ := St.frame_all hw
  obtain ⟨v,hv⟩ : ∃ z,runM (B.set k C1) rs C1 true ny = z := ⟨_,rfl⟩
  obtain ⟨C2,hC2⟩ : ∃ z,sh true C1 (sgn ny * (v.1 : Nat)) = z := ⟨_,rfl⟩
  refine (moveU_ok β1 w hw1 _ _ gx gy (B.set k C1) rs (kn _ (k_flN 4 (F := BodyF) (m := bs.length) (xs := (B.set k C1)) rfl (by simp only [sB,List.length_set]; omega))) (kn _ (k_flN 5 (F := RopeF) (m := rs.length) (xs := rs) rfl rfl)) hBo1 hBok1 hBr1 k C1 hsk true 2 rfl ny (by omega) v hv C2 hC2).mono ?_
  rintro e w' ⟨rfl,hw'⟩
  refine ⟨_,rfl,_,back _ _ hw',?_⟩
  clear hw hw1 hw' back kn sb
  have hC2ok : okB C2 := by rw [← hC2,← hv]; exact runM_ok hC1ok
  have hC2id : C2.id = x.id := by rw [← hC2,sh_id]; exact hC1id
  have hC2f : C2.fixed = x.fixed := by rw [← hC2,(sh_vel _ _ _).2.2]; exact hC1f
  refine lE omt (lE oxa (lE oxb (lE oxi (alE fun b29 => lu (mS 0 (bC C2)) (lE oab (lE oai (lnf ?_)))))))
  refine c_seq_cut (fun (f : Fm) (L : List Res) => ∃ (S2 : List KS) (spb : Option Addr) (scb : Nat),(f 1 = pp b1 0 ∧ f 2 = pp b2 0 ∧ f 5 = .pointer (some ⟨(blk (fa18 5)),0,none⟩) ∧ f 6 = sB spb S2 scb ∧ f 7 = Nx (k) ∧ f 8 = .pointer (some ⟨(blk (fa23 8)),0,none⟩) ∧ f 10 = .bool (u.2.isSome) ∧ f 12 = pp b29 0 ∧ f 13 = .bool (v.2.isSome)) ∧ L = [pt b29 (.cells (bC C2) 52),pt b24 (.cells (bC C1) 52),rowF StopF 55 spb scb S2,pt b2 (.cells #[.slice none 0 0,.slice none 0 0,.int .i64 (0),.int .i64 (0)] 30),pt b1 (.cells #[sB va bs (vc),sB rva rs (rvc),Ix (gx),Ix (gy)] 30),rowF BodyF 52 p1 c1 (B.set k C1),rowF RopeF 78 p2 c2 rs,pt (blk (fa18 5)) (.cells #[sB p1 bs c1,sB p2 rs c2,Ix (gx),Ix (gy)] 30),pt (blk (fa23 8)) (.cells #[Ix (nx),Ix (ny)] 28)] ∧ (S2 = S1 ++ stopL x.id 2 v.2 ∧ S2.length ≤ S1.length + 1)) ?_ ?_
  ·refine csr (lE omb (lnf (c_ifb (v.2.isSome) rfl (fun hc30 => ?_) (fun hc30 => ?_))))
   ·refine c_region (lE oms (lE ofp (lE (oli 1) (lE omi ?_))))
    refine lv (v := .agg #[Ix (C1.id),.int .u8 (2),Ix (v.2.getD 0)]) (e_build tf99.ok tf98 (vs := [(0,Ix (C1.id)),(1,.int .u8 (2)),(2,Ix (v.2.getD 0))]) (cells := #[Ix (C1.id),.int .u8 (2),Ix (v.2.getD 0)]) rfl rfl) ?_
    refine l_mv rfl rfl rfl (m_slices tf100 tf99.ok (cells := #[Ix (C1.id),.int .u8 (2),Ix (v.2.getD 0)]) rfl rfl rfl rfl) ?_
    rintro _ _ ⟨b31,rfl,rfl⟩
    refine l_mv rfl rfl rfl (m_appendFlN (F := StopF) 3 tf100 tf101 (p := spa) (m := S1.length) (xs := S1) (ys := [(⟨C1.id,2,v.2.getD 0⟩ : KS)]) (ao := (some ⟨b31,0,none⟩)) (k := 1) (c := 1) rfl rfl rfl rfl rfl (k_ptFl (z := (⟨C1.id,2,v.2.getD 0⟩ : KS)) 0 rfl rfl) (by first | omega | simp only [List.length_nil,List.length_cons,List.length_append,List.length_set]; omega) (by first | omega | simp only [List.length_nil,List.length_cons,List.length_append,List.length_set]; omega)) ?_
    rintro _ _ ⟨rp32,rc33,rfl,rfl⟩
    refine lE oas (l_nil (f_mask [false,true,true,true,true,true,true,true,true,true] rfl ?_))
    exact f_cut ⟨(S1 ++ [(⟨C1.id,2,v.2.getD 0⟩ : KS)]),rp32,rc33,⟨rfl,rfl,rfl,rfl,rfl,rfl,rfl,rfl,rfl⟩,rfl,⟨by rw [stop_yes hc30 hC1id],by simp⟩⟩
   refine c_skip ?_
   exact f_cut ⟨S1,spa,sca,⟨rfl,rfl,rfl,rfl,rfl,rfl,rfl,rfl,rfl⟩,rfl,⟨by rw [stop_none hc30,List.append_nil],by omega⟩⟩
  rintro f0 L0 ⟨S2,spb,scb,⟨hs1,hs2,hs5,hs6,hs7,hs8,hs10,hs12,hs13⟩,hL,⟨hS2,hS2l⟩⟩
  subst L0
  refine rbs 1 hs1 (rbs 2 hs2 (rbs 5 hs5 (rbs 6 hs6 (rbs 7 hs7 (rbs 8 hs8 (rbs 10 hs10 (rbs 12 hs12 (rbs 13 hs13 ?_))))))))
  refine c_seq_cut (fun (f : Fm) (L : List Res) => ∃ (wx : Int),(f 1 = pp b1 0 ∧ f 2 = pp b2 0 ∧ f 5 = .pointer (some ⟨(blk (fa18 5)),0,none⟩) ∧ f 6 = sB spb S2 scb ∧ f 7 = Nx (k) ∧ f 8 = .pointer (some ⟨(blk (fa23 8)),0,none⟩) ∧ f 12 = pp b29 0 ∧ f 13 = .bool (v.2.isSome)) ∧ L = [pt b29 (.cells (bC C2) 52),pt b24 (.cells (bC C1) 52),rowF StopF 55 spb scb S2,pt b2 (.cells #[.slice none 0 0,.slice none 0 0,.int .i64 (0),.int .i64 (0)] 30),pt b1 (.cells #[sB va bs (vc),sB rva rs (rvc),Ix (gx),Ix (gy)] 30),rowF BodyF 52 p1 c1 (B.set k C1),rowF RopeF 78 p2 c2 rs,pt (blk (fa18 5)) (.cells #[sB p1 bs c1,sB p2 rs c2,Ix (gx),Ix (gy)] 30),pt (blk (fa23 8)) (.cells #[Ix (wx),Ix (ny)] 28)] ∧ (wx = keepV nx u.2)) ?_ ?_
  ·refine csr (lE omb (lnf (c_ifb (u.2.isSome) rfl (fun hc34 => ?_) (fun hc34 => ?_))))
   ·refine c_region (lE ofp (lu (mS 8 (#[.int .i64 (0),Ix (ny)])) (l_nil ?_)))
    exact f_cut ⟨0,⟨rfl,rfl,rfl,rfl,rfl,rfl,rfl,rfl⟩,rfl,(keep_yes hc34)⟩
   refine c_skip ?_
   exact f_cut ⟨nx,⟨rfl,rfl,rfl,rfl,rfl,rfl,rfl,rfl⟩,rfl,(keep_no hc34)⟩
  rintro f0 L0 ⟨wx,⟨hs1,hs2,hs5,hs6,hs7,hs8,hs12,hs13⟩,hL,hwx⟩
  subst L0
  refine rbs 1 hs1 (rbs 2 hs2 (rbs 5 hs5 (rbs 6 hs6 (rbs 7 hs7 (rbs 8 hs8 (rbs 12 hs12 (rbs 13 hs13 ?_)))))))
  refine c_seq_cut (fun (f : Fm) (L : List Res) => ∃ (wy : Int),(f 1 = pp b1 0 ∧ f 2 = pp b2 0 ∧ f 5 = .pointer (some ⟨(blk (fa18 5)),0,none⟩) ∧ f 6 = sB spb S2 scb ∧ f 7 = Nx (k) ∧ f 8 = .pointer (some ⟨(blk (fa23 8)),0,none⟩) ∧ f 12 = pp b29 0) ∧ L = [pt b29 (.cells (bC C2) 52),pt b24 (.cells (bC C1) 52),rowF StopF 55 spb scb S2,pt b2 (.cells #[.slice none 0 0,.slice none 0 0,.int .i64 (0),.int .i64 (0)] 30),pt b1 (.cells #[sB va bs (vc),sB rva rs (rvc),Ix (gx),Ix (gy)] 30),rowF BodyF 52 p1 c1 (B.set k C1),rowF RopeF 78 p2 c2 rs,pt (blk (fa18 5)) (.cells #[sB p1 bs c1,sB p2 rs c2,Ix (gx),Ix (gy)] 30),pt (blk (fa23 8)) (.cells #[Ix (wx),Ix (wy)] 28)] ∧ (wy = keepV ny v.2)) ?_ ?_
  ·refine csr (lE omb (lnf (c_ifb (v.2.isSome) rfl (fun hc35 => ?_) (fun hc35 => ?_))))
   ·refine c_region (lE ofp (lu (mS 8 (#[Ix (wx),.int .i64 (0)])) (l_nil ?_)))
    exact f_cut ⟨0,⟨rfl,rfl,rfl,rfl,rfl,rfl,rfl⟩,rfl,(keep_yes hc35)⟩
   refine c_skip ?_
   exact f_cut ⟨ny,⟨rfl,rfl,rfl,rfl,rfl,rfl,rfl⟩,rfl,(keep_no hc35)⟩
  rintro f0 L0 ⟨wy,⟨hs1,hs2,hs5,hs6,hs7,hs8,hs12⟩,hL,hwy⟩
  subst L0
  refine rbs 1 hs1 (rbs 2 hs2 (rbs 5 hs5 (rbs 6 hs6 (rbs 7 hs7 (rbs 8 hs8 (rbs 12 hs12 (csr (lE (olg 8) (lE ofp ?_)))))))))
  refine lu (mS 0 (#[Ix (C2.id),Ix (C2.x),Ix (C2.y),Ix (wx),Ix (wy),Ix (C2.w),Ix (C2.h),.bool (C2.round),.bool (C2.fixed)])) (lnr (lE ofp ?_))
  refine lE (ols 7) (lE omi (lE (olg 0) ?_))
  refine lv (v := .pointer (some ((ba p1).add (k * 9)))) (e_indexFlN 5 (F := BodyF) rfl (by simp only [sB,List.length_set]; omega) rfl tf43 (by omega) rfl) ?_
  refine lu (m_storeFl 5 (F := BodyF) (p := p1) (k := k) (xs := (B.set k C1)) (z := (withV C2 wx wy)) tf22.ok rfl rfl rfl rfl (by simp only [sB,List.length_set]; omega)) ?_
  refine l_re (L' := [pt b29 (.cells #[Ix (C2.id),Ix (C2.x),Ix (C2.y),Ix (wx),Ix (wy),Ix (C2.w),Ix (C2.h),.bool (C2.round),.bool (C2.fixed)] 52),pt b24 (.cells (bC C1) 52),rowF StopF 55 spb scb S2,pt b2 (.cells #[.slice none 0 0,.slice none 0 0,.int .i64 (0),.int .i64 (0)] 30),pt b1 (.cells #[sB va bs (vc),sB rva rs (rvc),Ix (gx),Ix (gy)] 30),rowF BodyF 52 p1 c1 (B.set k (withV C2 wx wy)),rowF RopeF 78 p2 c2 rs,pt (blk (fa18 5)) (.cells #[sB p1 bs c1,sB p2 rs c2,Ix (gx),Ix (gy)] 30),pt (blk (fa23 8)) (.cells #[Ix (wx),Ix (wy)] 28)]) (by show (_ :: _ : List Res) = _; simp only [sB,rB,List.set_set,List.set_cons_zero,List.set_cons_succ]) ?_
  refine l_nil (f_block (f_then (c_region (lE omi (lv (v := Nx (k + 1)) (e_add rfl rfl (i64n (by omega) (by omega))) (lE oai (l_nil ?_)))))))
  refine f_mask [false,false,true,true,true,true,true,true,false] rfl ?_
  have hnext := next8 (T := S2) hB hS hx hc20 hnx hny hu hC1 hv hC2 hwx hwy (by rw [hS2,hS1])
  have hwxb := keepV_bd u.2 hsp.1
  have hwyb := keepV_bd v.2 hsp.2
  rw [← hwx] at hwxb
  rw [← hwy] at hwyb
  exact f_cut ⟨(k + 1,(B.set k (withV C2 wx wy)),S2,spb,scb),⟨⟨rfl,rfl,rfl,rfl,rfl⟩,rfl,⟨by omega,hnext.1,hnext.2,hid.set hx (show (withV C2 wx wy).id = x.id from hC2id),okB_set hBok (okB_withV hC2ok (by rw [hC2f]; exact hc20) hwxb hwyb),by omega⟩⟩,(show bs.length - (k + 1) < bs.length - k from by omega)⟩
 refine c_exit (f_then_exit (f_then_exit (f_exit (ftc (lE (olg 5) (lE oms (lu (mS 1 (#[sB p1 bs c1,sB p2 rs c2,Ix (gx),Ix (gy)])) (lE oas (lE oai ?_)))))))))
 refine lnf (c_ret ?_)
 refine retG (m := [.agg #[sB p1 bs c1,sB p2 rs c2,Ix (gx),Ix (gy)],sB sp S sc,.int .i64 (0)]) Tryz.results75 ⟨rd_cell tf86.ok rfl (k_pt 1 rfl rfl) rfl,rd_tmp (v := sB sp S sc) rfl,rd_tmp (v := .int .i64 (0)) rfl,trivial⟩ rfl ?_
 intro w hw
 obtain rfl : k = bs.length := by omega
 subst hS
 refine .inl ⟨⟨o1,o2,o3,o4,o5,o6⟩,p1,c1,p2,c2,sp,sc,rfl,?_⟩
 have hw2 := st_mask (L' := [rowF StopF 55 sp sc ((stepsTo rs gx gy bs bs.length).2),rowF BodyF 52 p1 c1 B,rowF RopeF 78 p2 c2 rs]) [true,false,false,true,true,false] rfl hw
 rw [hB] at hw2
 exact hw2.perm (perm_ix [1,2,0] 3 rfl (by kernel_rfl) (by kernel_rfl))
end Go.Proofs
