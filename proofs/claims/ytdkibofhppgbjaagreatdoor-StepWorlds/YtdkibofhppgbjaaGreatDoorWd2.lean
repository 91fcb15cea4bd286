/-
 The reference's free,Back and World. Printed by a program of my own.
-/
import Derived.Test.YtdkibofhppgbjaaGreatDoorWd1
import Derived.Test.YtdkibofhppgbjaaGreatDoorWdRef
import Derived.Test.YtdkibofhppgbjaaGreatDoorSlB
namespace Go.Proofs
open Go Go.Sl Go.Stp
instance tw45 : ZerC Tryz.prog 24 (.agg #[.int .i64 (0), .slice none 0 0]) := ⟨by kernel_rfl⟩
instance tw46 : FldC Tryz.prog 24 0 0 1 false := ⟨by kernel_rfl⟩
theorem tw47 : stB Tryz.prog 24 [(0, 1), (1, 1)] = true := by kernel_rfl
instance tw48 : TyC Tryz.prog 24 true 2 := ⟨by kernel_rfl⟩
theorem tw49 : elB Tryz.prog 120 5 40 = true := by kernel_rfl
theorem tw50 : stB Tryz.prog 59 [(0, 1), (1, 1)] = true := by kernel_rfl
instance tw51 : ZerC Tryz.prog 59 (.agg #[.int .i64 (0), .slice none 0 0]) := ⟨by kernel_rfl⟩
instance tw52 : CfC Tryz.prog 73 := ⟨by kernel_rfl⟩
theorem tw53 : elB Tryz.prog 59 2 32 = true := by kernel_rfl
instance tw54 : FldC Tryz.prog 52 1 1 2 true := ⟨by kernel_rfl⟩
instance tw55 : FldC Tryz.prog 28 0 0 1 false := ⟨by kernel_rfl⟩
instance tw56 : FldC Tryz.prog 28 1 1 1 false := ⟨by kernel_rfl⟩
instance tw57 : CfC Tryz.prog 20 := ⟨by kernel_rfl⟩
instance tw58 : CfC Tryz.prog 75 := ⟨by kernel_rfl⟩
instance tw59 : CfC Tryz.prog 22 := ⟨by kernel_rfl⟩
instance tw60 : CfC Tryz.prog 64 := ⟨by kernel_rfl⟩
instance tw61 : CfC Tryz.prog 65 := ⟨by kernel_rfl⟩
instance tw62 : CfC Tryz.prog 60 := ⟨by kernel_rfl⟩
theorem tw63 : Tryz.prog.underlying 121 = some (.pointer (Tryz.prog.pointee 121)) := by kernel_rfl
instance tw64 : CfC Tryz.prog 66 := ⟨by kernel_rfl⟩
instance tw65 : CfC Tryz.prog 67 := ⟨by kernel_rfl⟩
instance tw66 : CfC Tryz.prog 18 := ⟨by kernel_rfl⟩
instance tw67 : CfC Tryz.prog 9 := ⟨by kernel_rfl⟩
instance tw68 : CfC Tryz.prog 19 := ⟨by kernel_rfl⟩
theorem rfirstN_ok (β : Base) (w : World) (hw : St β [] w) (id : Int) (va : Option Addr) (vc : Nat) (cm : List KComp) {m : Nat} (hm : m = cm.length) (hs : Sl CompR β.heap (.slice va m vc) cm) (kd : UInt8) : Calls Tryz.prog 72 #[.agg #[Ix id, .slice va m vc], Bx kd] w fun r w' => r = .returned (Ix (idxI (fun c : KComp => decide (c.kind = kd)) cm)) ∧ St β [] w' := by subst hm; exact rfirst_ok β w hw id va vc cm hs kd
set_option maxHeartbeats 4000000 in
theorem rfree_ok (β : Base) (w : World) (id : Int) (p : Option Addr) (c : Nat) (cs : List KComp) (hw : St β [rowF CompF 120 p c cs] w) : Calls Tryz.prog 73 #[.agg #[Ix id, sB p cs c]] w fun r w' => r = .returned (.tuple #[]) ∧ St β [rowF CompF 120 p c (freeC cs)] w' := by
 refine enter (n := 106) Tryz.func73 rfl Tryz.ntmps73 rfl ?_ hw
 refine csr (bxa fun b1 => ?_)
 refine lnf (c_seq (c_quiet (by kernel_rfl) (by kernel_rfl) (qE (olg 0) ?_)))
 refine q_call (v := Ix ((idxI (fun c : KComp => decide (c.kind = 1)) cs))) rfl rfl rfl (cl0 (vs := [.agg #[Ix (id),sB p cs c],.int .u8 (1)]) tw8.ok rfl rfl) (fun w hw => ?_) ?_
 ·obtain ⟨β1,sb,kn,hw1,back⟩ := St.frame_all hw
  exact (rfirstN_ok β1 w hw1 (id) p c cs (m := cs.length) rfl (kn _ (k_flN 1 (F := CompF) (m := cs.length) (xs := cs) rfl rfl)) 1).mono (fun e w' ⟨he,hw'⟩ => ⟨he,st_mask [true,true] rfl (back _ _ hw')⟩)
 refine qE (olg 0) ?_
 refine q_call (v := Ix ((idxI (fun c : KComp => decide (c.kind = 2)) cs))) rfl rfl rfl (cl0 (vs := [.agg #[Ix (id),sB p cs c],.int .u8 (2)]) tw8.ok rfl rfl) (fun w hw => ?_) ?_
 ·obtain ⟨β1,sb,kn,hw1,back⟩ := St.frame_all hw
  exact (rfirstN_ok β1 w hw1 (id) p c cs (m := cs.length) rfl (kn _ (k_flN 1 (F := CompF) (m := cs.length) (xs := cs) rfl rfl)) 2).mono (fun e w' ⟨he,hw'⟩ => ⟨he,st_mask [true,true] rfl (back _ _ hw')⟩)
 refine qE oai (qE oai (q_nil (fts (c_seq ?_))))
 rcases idxK_cases cs 1 with ⟨hn1,hf1⟩ | ⟨i1,c1,hi1,hx1,hf1,hl1⟩
 ·refine c_region (lE omi (lE olt (lE omb (l_split (s := 15) rfl (fun h => ?_) (fun h => ?_)))))
  rotate_left; exact absurd hn1 h
  refine skE (skE (lE oktb (lE omb (skE (skE (skE (lE oktb (lnf (c_yes rfl (c_ret (f_then_ret (ret0 Tryz.results73 ?_))))))))))))
  intro w hw
  exact ⟨rfl,by rw [free_no (.inl (idxK_none hn1))]; exact st_mask [false,true] rfl hw⟩
 rw [hi1]
 rcases idxK_cases cs 2 with ⟨hn2,hf2⟩ | ⟨i2,c2,hi2,hx2,hf2,hl2⟩
 ·refine c_region (lE omi (lE olt (lE omb (l_split (s := 15) rfl (fun h => ?_) (fun h => ?_)))))
  exact absurd h (by omega)
  refine gE omi (gE olt (lE okfb (lE omb (l_split (s := 19) rfl (fun h => ?_) (fun h => ?_)))))
  rotate_left; exact absurd hn2 h
  refine skE (skE (skE (lE oktb (lnf (c_yes rfl (c_ret (f_then_ret (ret0 Tryz.results73 ?_))))))))
  intro w hw
  exact ⟨rfl,by rw [free_no (.inr (.inl (idxK_none hn2)))]; exact st_mask [false,true] rfl hw⟩
 rw [hi2]
 rcases idxK_cases cs 3 with ⟨hn3,hf3⟩ | ⟨i3,c3,hi3,hx3,hf3,hl3⟩
 ·refine c_region (lE omi (lE olt (lE omb (l_split (s := 15) rfl (fun h => ?_) (fun h => ?_)))))
  exact absurd h (by omega)
  refine gE omi (gE olt (lE okfb (lE omb (l_split (s := 19) rfl (fun h => ?_) (fun h => ?_)))))
  exact absurd h (by omega)
  refine gE (olg 0) (g_call rfl rfl rfl rfl rfl (cl0 (vs := [.agg #[Ix (id),sB p cs c],.int .u8 (3)]) tw8.ok rfl rfl) ?_)
  intro w hw
  obtain ⟨β1,sb,kn,hw1,back⟩ := St.frame_all hw
  refine (rfirstN_ok β1 w hw1 (id) p c cs (m := cs.length) rfl (kn _ (k_flN 1 (F := CompF) (m := cs.length) (xs := cs) rfl rfl)) 3).mono ?_
  rintro e w' ⟨rfl,hw'⟩
  refine ⟨_,rfl,_,back _ _ hw',?_⟩
  clear hw hw1 hw' back kn sb
  refine gE oge (lE okfb (lnf (c_if _ rfl (fun hc2 => ?_) (fun hc2 => ?_))))
  ·exact absurd hc2 (by omega)
  refine csk (cs2 ?_)
  have hij : i1 ≠ i2 := idx_ne hx1 hx2 (idxK_kind (idxC_found hi1) hx1) (idxK_kind (idxC_found hi2) hx2)
  refine c_region (lE oai (lnf (c_block (c_unroll 3 (un_succ 2 (cs2 (c_region (lE omi (lE olt (lnf (c_yes rfl (csk (c_seq (c_block (c_seq ?_)))))))))))))))
  refine c_quiet (by kernel_rfl) (by kernel_rfl) (qE ofp (qE (ols 0) (qE omi (qE omi ?_))))
  refine q_val (v := .pointer (some ((ba p).add (i1 * 5)))) rfl rfl rfl (e_indexFlN 1 (F := CompF) rfl rfl rfl tw3 (by omega) rfl) (qE ofd ?_)
  refine qE (oxd 0) (q_val (v := Ix (c1.v0)) rfl rfl rfl (e_load1 tw15.ok rfl (k_flPart 1 (F := CompF) (o := 1) (us := [Ix (c1.v0)]) rfl hx1 rfl)) ?_)
  refine qE ofp (qE (ols 0) (qE omi (qE omi ?_)))
  refine q_val (v := .pointer (some ((ba p).add (i2 * 5)))) rfl rfl rfl (e_indexFlN 1 (F := CompF) rfl rfl rfl tw3 (by omega) rfl) (qE ofd ?_)
  refine qE (oxd 0) (q_val (v := Ix (c2.v0)) rfl rfl rfl (e_load1 tw15.ok rfl (k_flPart 1 (F := CompF) (o := 1) (us := [Ix (c2.v0)]) rfl hx2 rfl)) ?_)
  refine qE oai (qE oai (q_nil (fts ?_)))
  rcases Decidable.em (c1.v0 < -1099511627776) with hpL0 | hpL0
  ·refine c_region (lE omi (lE olt (lE omb (l_split (s := 46) rfl (fun h => ?_) (fun h => ?_)))))
   rotate_left; exact absurd hpL0 h
   refine skE (skE (lE oktb (lE omb (skE (skE (lE oktb (lE omb (skE (skE (lE oktb (lnf (c_yes rfl (c_ret (f_block_ret (f_then_ret (f_then_ret ?_))))))))))))))))
   refine f_block_ret (f_then_ret (ret0 Tryz.results73 ?_))
   intro w hw
   have e0 := free_fly (idxC_found hi1) hf1 (idxC_found hi2) hf2 (idxK_none hn3)
   exact ⟨rfl,by rw [e0,fly_no hx1 hx2 (fun h => by have a := h.1.1; have b := h.1.2; have c := h.2.1; have d := h.2.2; omega)]; exact st_mask [false,true] rfl hw⟩
  rcases Decidable.em (1099511627776 < c1.v0) with hpG0 | hpG0
  ·refine c_region (lE omi (lE olt (lE omb (l_split (s := 46) rfl (fun h => ?_) (fun h => ?_)))))
   exact absurd h hpL0
   refine gE omi (gE ogt (lE okfb (lE omb (l_split (s := 50) rfl (fun h => ?_) (fun h => ?_)))))
   rotate_left; exact absurd hpG0 h
   refine skE (skE (lE oktb (lE omb (skE (skE (lE oktb (lnf (c_yes rfl (c_ret (f_block_ret (f_then_ret (f_then_ret (f_block_ret (f_then_ret ?_))))))))))))))
   refine ret0 Tryz.results73 ?_
   intro w hw
   have e0 := free_fly (idxC_found hi1) hf1 (idxC_found hi2) hf2 (idxK_none hn3)
   exact ⟨rfl,by rw [e0,fly_no hx1 hx2 (fun h => by have a := h.1.1; have b := h.1.2; have c := h.2.1; have d := h.2.2; omega)]; exact st_mask [false,true] rfl hw⟩
  rcases Decidable.em (c2.v0 < -1099511627776) with hvL0 | hvL0
  ·refine c_region (lE omi (lE olt (lE omb (l_split (s := 46) rfl (fun h => ?_) (fun h => ?_)))))
   exact absurd h hpL0
   refine gE omi (gE ogt (lE okfb (lE omb (l_split (s := 50) rfl (fun h => ?_) (fun h => ?_)))))
   exact absurd h hpG0
   refine gE omi (gE olt (lE okfb (lE omb (l_split (s := 54) rfl (fun h => ?_) (fun h => ?_)))))
   rotate_left; exact absurd hvL0 h
   refine skE (skE (lE oktb (lnf (c_yes rfl (c_ret (f_block_ret (f_then_ret (f_then_ret (f_block_ret (f_then_ret (ret0 Tryz.results73 ?_)))))))))))
   intro w hw
   have e0 := free_fly (idxC_found hi1) hf1 (idxC_found hi2) hf2 (idxK_none hn3)
   exact ⟨rfl,by rw [e0,fly_no hx1 hx2 (fun h => by have a := h.1.1; have b := h.1.2; have c := h.2.1; have d := h.2.2; omega)]; exact st_mask [false,true] rfl hw⟩
  rcases Decidable.em (1099511627776 < c2.v0) with hvG0 | hvG0
  ·refine c_region (lE omi (lE olt (lE omb (l_split (s := 46) rfl (fun h => ?_) (fun h => ?_)))))
   exact absurd h hpL0
   refine gE omi (gE ogt (lE okfb (lE omb (l_split (s := 50) rfl (fun h => ?_) (fun h => ?_)))))
   exact absurd h hpG0
   refine gE omi (gE olt (lE okfb (lE omb (l_split (s := 54) rfl (fun h => ?_) (fun h => ?_)))))
   exact absurd h hvL0
   refine gE omi (gE ogt (lE okfb (lnf (c_if _ rfl (fun hc3 => ?_) (fun hc3 => ?_)))))
   ·refine c_ret (f_block_ret (f_then_ret (f_then_ret (f_block_ret (f_then_ret (ret0 Tryz.results73 ?_))))))
    intro w hw
    have e0 := free_fly (idxC_found hi1) hf1 (idxC_found hi2) hf2 (idxK_none hn3)
    exact ⟨rfl,by rw [e0,fly_no hx1 hx2 (fun h => by have a := h.1.1; have b := h.1.2; have c := h.2.1; have d := h.2.2; omega)]; exact st_mask [false,true] rfl hw⟩
   exact absurd hvG0 hc3
  refine c_region (lE omi (lE olt (lE omb (l_split (s := 46) rfl (fun h => ?_) (fun h => ?_)))))
  exact absurd h hpL0
  refine gE omi (gE ogt (lE okfb (lE omb (l_split (s := 50) rfl (fun h => ?_) (fun h => ?_)))))
  exact absurd h hpG0
  refine gE omi (gE olt (lE okfb (lE omb (l_split (s := 54) rfl (fun h => ?_) (fun h => ?_)))))
  exact absurd h hvL0
  refine gE omi (gE ogt (lE okfb (lnf (c_if _ rfl (fun hc4 => ?_) (fun hc4 => ?_)))))
  ·exact absurd hc4 hvG0
  refine c_skip (f_block (f_then (c_region (lE omi (lE opl (lE oai (l_nil (f_cut (un_succ 1 (cs2 (c_region (lE omi (lE olt (lnf (c_yes rfl (csk ?_))))))))))))))))
  refine c_seq (c_block (c_seq (c_quiet (by kernel_rfl) (by kernel_rfl) (qE ofp (qE (ols 0) (qE omi (qE omi ?_)))))))
  refine q_val (v := .pointer (some ((ba p).add (i1 * 5)))) rfl rfl rfl (e_indexFlN 1 (F := CompF) rfl rfl rfl tw3 (by omega) rfl) (qE ofd ?_)
  refine qE (oxd 1) (q_val (v := Ix (c1.v1)) rfl rfl rfl (e_load1 tw15.ok rfl (k_flPart 1 (F := CompF) (o := 2) (us := [Ix (c1.v1)]) rfl hx1 rfl)) ?_)
  refine qE ofp (qE (ols 0) (qE omi (qE omi ?_)))
  refine q_val (v := .pointer (some ((ba p).add (i2 * 5)))) rfl rfl rfl (e_indexFlN 1 (F := CompF) rfl rfl rfl tw3 (by omega) rfl) (qE ofd ?_)
  refine qE (oxd 1) (q_val (v := Ix (c2.v1)) rfl rfl rfl (e_load1 tw15.ok rfl (k_flPart 1 (F := CompF) (o := 2) (us := [Ix (c2.v1)]) rfl hx2 rfl)) ?_)
  refine qE oai (qE oai (q_nil (fts ?_)))
  rcases Decidable.em (c1.v1 < -1099511627776) with hpL1 | hpL1
  ·refine c_region (lE omi (lE olt (lE omb (l_split (s := 46) rfl (fun h => ?_) (fun h => ?_)))))
   rotate_left; exact absurd hpL1 h
   refine skE (skE (lE oktb (lE omb (skE (skE (lE oktb (lE omb (skE (skE (lE oktb (lnf (c_yes rfl (c_ret (f_block_ret (f_then_ret (f_then_ret ?_))))))))))))))))
   refine f_block_ret (f_then_ret (ret0 Tryz.results73 ?_))
   intro w hw
   have e0 := free_fly (idxC_found hi1) hf1 (idxC_found hi2) hf2 (idxK_none hn3)
   exact ⟨rfl,by rw [e0,fly_no hx1 hx2 (fun h => by have a := h.1.1; have b := h.1.2; have c := h.2.1; have d := h.2.2; omega)]; exact st_mask [false,true] rfl hw⟩
  rcases Decidable.em (1099511627776 < c1.v1) with hpG1 | hpG1
  ·refine c_region (lE omi (lE olt (lE omb (l_split (s := 46) rfl (fun h => ?_) (fun h => ?_)))))
   exact absurd h hpL1
   refine gE omi (gE ogt (lE okfb (lE omb (l_split (s := 50) rfl (fun h => ?_) (fun h => ?_)))))
   rotate_left; exact absurd hpG1 h
   refine skE (skE (lE oktb (lE omb (skE (skE (lE oktb (lnf (c_yes rfl (c_ret (f_block_ret (f_then_ret (f_then_ret (f_block_ret (f_then_ret ?_))))))))))))))
   refine ret0 Tryz.results73 ?_
   intro w hw
   have e0 := free_fly (idxC_found hi1) hf1 (idxC_found hi2) hf2 (idxK_none hn3)
   exact ⟨rfl,by rw [e0,fly_no hx1 hx2 (fun h => by have a := h.1.1; have b := h.1.2; have c := h.2.1; have d := h.2.2; omega)]; exact st_mask [false,true] rfl hw⟩
  rcases Decidable.em (c2.v1 < -1099511627776) with hvL1 | hvL1
  ·refine c_region (lE omi (lE olt (lE omb (l_split (s := 46) rfl (fun h => ?_) (fun h => ?_)))))
   exact absurd h hpL1
   refine gE omi (gE ogt (lE okfb (lE omb (l_split (s := 50) rfl (fun h => ?_) (fun h => ?_)))))
   exact absurd h hpG1
   refine gE omi (gE olt (lE okfb (lE omb (l_split (s := 54) rfl (fun h => ?_) (fun h => ?_)))))
   rotate_left; exact absurd hvL1 h
   refine skE (skE (lE oktb (lnf (c_yes rfl (c_ret (f_block_ret (f_then_ret (f_then_ret (f_block_ret (f_then_ret (ret0 Tryz.results73 ?_)))))))))))
   intro w hw
   have e0 := free_fly (idxC_found hi1) hf1 (idxC_found hi2) hf2 (idxK_none hn3)
   exact ⟨rfl,by rw [e0,fly_no hx1 hx2 (fun h => by have a := h.1.1; have b := h.1.2; have c := h.2.1; have d := h.2.2; omega)]; exact st_mask [false,true] rfl hw⟩
  rcases Decidable.em (1099511627776 < c2.v1) with hvG1 | hvG1
  ·refine c_region (lE omi (lE olt (lE omb (l_split (s := 46) rfl (fun h => ?_) (fun h => ?_)))))
   exact absurd h hpL1
   refine gE omi (gE ogt (lE okfb (lE omb (l_split (s := 50) rfl (fun h => ?_) (fun h => ?_)))))
   exact absurd h hpG1
   refine gE omi (gE olt (lE okfb (lE omb (l_split (s := 54) rfl (fun h => ?_) (fun h => ?_)))))
   exact absurd h hvL1
   refine gE omi (gE ogt (lE okfb (lnf (c_if _ rfl (fun hc5 => ?_) (fun hc5 => ?_)))))
   ·refine c_ret (f_block_ret (f_then_ret (f_then_ret (f_block_ret (f_then_ret (ret0 Tryz.results73 ?_))))))
    intro w hw
    have e0 := free_fly (idxC_found hi1) hf1 (idxC_found hi2) hf2 (idxK_none hn3)
    exact ⟨rfl,by rw [e0,fly_no hx1 hx2 (fun h => by have a := h.1.1; have b := h.1.2; have c := h.2.1; have d := h.2.2; omega)]; exact st_mask [false,true] rfl hw⟩
   exact absurd hvG1 hc5
  refine c_region (lE omi (lE olt (lE omb (l_split (s := 46) rfl (fun h => ?_) (fun h => ?_)))))
  exact absurd h hpL1
  refine gE omi (gE ogt (lE okfb (lE omb (l_split (s := 50) rfl (fun h => ?_) (fun h => ?_)))))
  exact absurd h hpG1
  refine gE omi (gE olt (lE okfb (lE omb (l_split (s := 54) rfl (fun h => ?_) (fun h => ?_)))))
  exact absurd h hvL1
  refine gE omi (gE ogt (lE okfb (lnf (c_if _ rfl (fun hc6 => ?_) (fun hc6 => ?_)))))
  ·exact absurd hc6 hvG1
  refine c_skip (f_block (f_then (c_region (lE omi (lE opl (lE oai (l_nil (f_cut (un_succ 0 (cs2 (c_region (lE omi (lE olt (lnf (c_no rfl (c_exit ?_))))))))))))))))
  refine f_then_exit (f_then_exit (f_exit (ftc (lE oai (lnf (c_block (c_unroll 3 (un_succ 2 (cs2 (c_region (lE omi (lE olt (lnf (c_yes rfl (csk ?_)))))))))))))))
  refine c_seq (c_block (c_seq (c_quiet (by kernel_rfl) (by kernel_rfl) (qE ofp (qE (ols 0) (qE omi (qE omi ?_)))))))
  refine q_val (v := .pointer (some ((ba p).add (i1 * 5)))) rfl rfl rfl (e_indexFlN 1 (F := CompF) rfl rfl rfl tw3 (by omega) rfl) (qE ofd ?_)
  refine qE (oxd 0) (q_val (v := Ix (c1.v0)) rfl rfl rfl (e_load1 tw15.ok rfl (k_flPart 1 (F := CompF) (o := 1) (us := [Ix (c1.v0)]) rfl hx1 rfl)) ?_)
  refine qE ofp (qE (ols 0) (qE omi (qE omi ?_)))
  refine q_val (v := .pointer (some ((ba p).add (i2 * 5)))) rfl rfl rfl (e_indexFlN 1 (F := CompF) rfl rfl rfl tw3 (by omega) rfl) (qE ofd ?_)
  refine qE (oxd 0) (q_val (v := Ix (c2.v0)) rfl rfl rfl (e_load1 tw15.ok rfl (k_flPart 1 (F := CompF) (o := 1) (us := [Ix (c2.v0)]) rfl hx2 rfl)) ?_)
  refine qE opl (qE oai (q_nil (ftc (lE ofp (lE (ols 0) (lE omi (lE omi (lE omi (lE omx (lE omz ?_))))))))))
  refine lv (v := .pointer (some ((ba p).add (i1 * 5)))) (e_indexFlN 1 (F := CompF) rfl rfl rfl tw3 (by omega) rfl) (lE ofd (lE (oxd 0) ?_))
  refine lu (m_storeFlPart 1 (F := CompF) (p := p) (k := i1) (o := 1) (xs := cs) (z0 := c1) (z := (setV0 c1 (min (max ((c1.v0) + (c2.v0)) (-1048576 : Int)) (1048576 : Int)))) tw15.ok rfl rfl rfl rfl rfl hx1 (by decide) rfl) ?_
  refine lnc (lE ofp (lE (ols 0) (lE omi (lE omi ?_))))
  refine lv (v := .pointer (some ((ba p).add (i1 * 5)))) (e_indexFlN 1 (F := CompF) rfl (by simp only [List.length_set]) rfl tw3 (by omega) rfl) ?_
  refine lE ofd (lE (oxd 0) ?_)
  refine lv (v := Ix (min (max ((c1.v0) + (c2.v0)) (-1048576 : Int)) (1048576 : Int))) (e_load1 tw15.ok rfl (k_flPart 1 (F := CompF) (o := 1) (us := [Ix (min (max ((c1.v0) + (c2.v0)) (-1048576 : Int)) (1048576 : Int))]) rfl (get_set (setV0 c1 (min (max ((c1.v0) + (c2.v0)) (-1048576 : Int)) (1048576 : Int))) (by first | omega | (simp only [List.length_set]; omega))) rfl)) ?_
  refine lE omi (lE onq (lnf (c_if _ rfl (fun hc7 => ?_) (fun hc7 => ?_))))
  ·refine c_region (lE ofp (lE (ols 0) (lE omi (lE omi ?_))))
   refine lv (v := .pointer (some ((ba p).add (i2 * 5)))) (e_indexFlN 1 (F := CompF) rfl (by simp only [List.length_set]) rfl tw3 (by omega) rfl) ?_
   refine lE ofd (lE (oxd 0) ?_)
   refine lu (m_storeFlPart 1 (F := CompF) (p := p) (k := i2) (o := 1) (xs := (cs.set i1 (setV0 c1 (min (max ((c1.v0) + (c2.v0)) (-1048576 : Int)) (1048576 : Int))))) (z0 := c2) (z := (setV0 c2 0)) tw15.ok rfl rfl rfl rfl rfl (set_ne (by first | assumption | (apply Ne.symm; assumption)) hx2) (by decide) rfl) ?_
   refine l_nil (f_block (f_then (c_region (lE omi (lE opl (lE oai (l_nil (f_cut (un_succ 1 (cs2 (c_region (lE omi (lE olt (lnf (c_yes rfl (csk ?_))))))))))))))))
   refine c_seq (c_block (c_seq (c_quiet (by kernel_rfl) (by kernel_rfl) (qE ofp (qE (ols 0) (qE omi (qE omi ?_)))))))
   refine q_val (v := .pointer (some ((ba p).add (i1 * 5)))) rfl rfl rfl (e_indexFlN 1 (F := CompF) rfl (by simp only [List.length_set]) rfl tw3 (by omega) rfl) ?_
   refine qE ofd (qE (oxd 1) ?_)
   refine q_val (v := Ix (c1.v1)) rfl rfl rfl (e_load1 tw15.ok rfl (k_flPart 1 (F := CompF) (o := 2) (us := [Ix (c1.v1)]) rfl (set_ne (by first | assumption | (apply Ne.symm; assumption)) (get_set (setV0 c1 (min (max ((c1.v0) + (c2.v0)) (-1048576 : Int)) (1048576 : Int))) (by first | omega | (simp only [List.length_set]; omega)))) rfl)) ?_
   refine qE ofp (qE (ols 0) (qE omi (qE omi ?_)))
   refine q_val (v := .pointer (some ((ba p).add (i2 * 5)))) rfl rfl rfl (e_indexFlN 1 (F := CompF) rfl (by simp only [List.length_set]) rfl tw3 (by omega) rfl) ?_
   refine qE ofd (qE (oxd 1) ?_)
   refine q_val (v := Ix (c2.v1)) rfl rfl rfl (e_load1 tw15.ok rfl (k_flPart 1 (F := CompF) (o := 2) (us := [Ix (c2.v1)]) rfl (get_set (setV0 c2 0) (by first | omega | (simp only [List.length_set]; omega))) rfl)) ?_
   refine qE opl (qE oai (q_nil (ftc (lE ofp (lE (ols 0) (lE omi (lE omi (lE omi (lE omx (lE omz ?_))))))))))
   refine lv (v := .pointer (some ((ba p).add (i1 * 5)))) (e_indexFlN 1 (F := CompF) rfl (by simp only [List.length_set]) rfl tw3 (by omega) rfl) ?_
   refine lE ofd (lE (oxd 1) ?_)
   refine lu (m_storeFlPart 1 (F := CompF) (p := p) (k := i1) (o := 2) (xs := ((cs.set i1 (setV0 c1 (min (max ((c1.v0) + (c2.v0)) (-1048576 : Int)) (1048576 : Int)))).set i2 (setV0 c2 0))) (z0 := (setV0 c1 (min (max ((c1.v0) + (c2.v0)) (-1048576 : Int)) (1048576 : Int)))) (z := (setV1 (setV0 c1 (min (max ((c1.v0) + (c2.v0)) (-1048576 : Int)) (1048576 : Int))) (min (max ((c1.v1) + (c2.v1)) (-1048576 : Int)) (1048576 : Int)))) tw15.ok rfl rfl rfl rfl rfl (set_ne (by first | assumption | (apply Ne.symm; assumption)) (get_set (setV0 c1 (min (max ((c1.v0) + (c2.v0)) (-1048576 : Int)) (1048576 : Int))) (by first | omega | (simp only [List.length_set]; omega)))) (by decide) rfl) ?_
   refine lnc (lE ofp (lE (ols 0) (lE omi (lE omi ?_))))
   refine lv (v := .pointer (some ((ba p).add (i1 * 5)))) (e_indexFlN 1 (F := CompF) rfl (by simp only [List.length_set]) rfl tw3 (by omega) rfl) ?_
   refine lE ofd (lE (oxd 1) ?_)
   refine lv (v := Ix (min (max ((c1.v1) + (c2.v1)) (-1048576 : Int)) (1048576 : Int))) (e_load1 tw15.ok rfl (k_flPart 1 (F := CompF) (o := 2) (us := [Ix (min (max ((c1.v1) + (c2.v1)) (-1048576 : Int)) (1048576 : Int))]) rfl (get_set (setV1 (setV0 c1 (min (max ((c1.v0) + (c2.v0)) (-1048576 : Int)) (1048576 : Int))) (min (max ((c1.v1) + (c2.v1)) (-1048576 : Int)) (1048576 : Int))) (by first | omega | (simp only [List.length_set]; omega))) rfl)) ?_
   refine lE omi (lE onq (lnf (c_if _ rfl (fun hc8 => ?_) (fun hc8 => ?_))))
   ·refine c_region (lE ofp (lE (ols 0) (lE omi (lE omi ?_))))
    refine lv (v := .pointer (some ((ba p).add (i2 * 5)))) (e_indexFlN 1 (F := CompF) rfl (by simp only [List.length_set]) rfl tw3 (by omega) rfl) ?_
    refine lE ofd (lE (oxd 1) ?_)
    refine lu (m_storeFlPart 1 (F := CompF) (p := p) (k := i2) (o := 2) (xs := (((cs.set i1 (setV0 c1 (min (max ((c1.v0) + (c2.v0)) (-1048576 : Int)) (1048576 : Int)))).set i2 (setV0 c2 0)).set i1 (setV1 (setV0 c1 (min (max ((c1.v0) + (c2.v0)) (-1048576 : Int)) (1048576 : Int))) (min (max ((c1.v1) + (c2.v1)) (-1048576 : Int)) (1048576 : Int))))) (z0 := (setV0 c2 0)) (z := (setV1 (setV0 c2 0) 0)) tw15.ok rfl rfl rfl rfl rfl (set_ne (by first | assumption | (apply Ne.symm; assumption)) (get_set (setV0 c2 0) (by first | omega | (simp only [List.length_set]; omega)))) (by decide) rfl) ?_
    refine l_nil (f_block (f_then (c_region (lE omi (lE opl (lE oai (l_nil (f_cut (un_succ 0 (cs2 (c_region (lE omi (lE olt (lnf (c_no rfl (c_exit ?_))))))))))))))))
    refine f_then_exit (f_then_exit (f_exit (end0 Tryz.results73 ?_)))
    intro w hw
    have e0 := free_fly (idxC_found hi1) hf1 (idxC_found hi2) hf2 (idxK_none hn3)
    simp only [clamp_eq] at hc7
    simp only [clamp_eq] at hc8
    have e : freeC cs = ((((cs.set i1 (setV0 c1 (min (max ((c1.v0) + (c2.v0)) (-1048576 : Int)) (1048576 : Int)))).set i2 (setV0 c2 0)).set i1 (setV1 (setV0 c1 (min (max ((c1.v0) + (c2.v0)) (-1048576 : Int)) (1048576 : Int))) (min (max ((c1.v1) + (c2.v1)) (-1048576 : Int)) (1048576 : Int)))).set i2 (setV1 (setV0 c2 0) 0)) := by
     rw [e0,fly_yes ⟨⟨by omega,by omega⟩,by omega,by omega⟩]
     simp only [sB,rB,clamp_eq]
     rw [if_neg hc7,if_neg hc8]
     try simp only [set_swap hij,List.set_set]
     try rfl
    exact ⟨rfl,by rw [e]; exact st_mask [false,true] rfl hw⟩
   refine c_skip (f_block (f_then (c_region (lE omi (lE opl (lE oai (l_nil (f_cut (un_succ 0 (cs2 (c_region (lE omi (lE olt (lnf (c_no rfl (c_exit ?_))))))))))))))))
   refine f_then_exit (f_then_exit (f_exit (end0 Tryz.results73 ?_)))
   intro w hw
   have e0 := free_fly (idxC_found hi1) hf1 (idxC_found hi2) hf2 (idxK_none hn3)
   simp only [clamp_eq] at hc7
   simp only [clamp_eq] at hc8
   have e : freeC cs = (((cs.set i1 (setV0 c1 (min (max ((c1.v0) + (c2.v0)) (-1048576 : Int)) (1048576 : Int)))).set i2 (setV0 c2 0)).set i1 (setV1 (setV0 c1 (min (max ((c1.v0) + (c2.v0)) (-1048576 : Int)) (1048576 : Int))) (min (max ((c1.v1) + (c2.v1)) (-1048576 : Int)) (1048576 : Int)))) := by
    rw [e0,fly_yes ⟨⟨by omega,by omega⟩,by omega,by omega⟩]
    simp only [sB,rB,clamp_eq]
    rw [if_neg hc7,if_pos (Decidable.not_not.1 hc8)]
    try simp only [set_swap hij,List.set_set]
    try rfl
   exact ⟨rfl,by rw [e]; exact st_mask [false,true] rfl hw⟩
  refine c_skip (f_block (f_then (c_region (lE omi (lE opl (lE oai (l_nil (f_cut (un_succ 1 (cs2 (c_region (lE omi (lE olt (lnf (c_yes rfl (csk ?_))))))))))))))))
  refine c_seq (c_block (c_seq (c_quiet (by kernel_rfl) (by kernel_rfl) (qE ofp (qE (ols 0) (qE omi (qE omi ?_)))))))
  refine q_val (v := .pointer (some ((ba p).add (i1 * 5)))) rfl rfl rfl (e_indexFlN 1 (F := CompF) rfl (by simp only [List.length_set]) rfl tw3 (by omega) rfl) ?_
  refine qE ofd (qE (oxd 1) ?_)
  refine q_val (v := Ix (c1.v1)) rfl rfl rfl (e_load1 tw15.ok rfl (k_flPart 1 (F := CompF) (o := 2) (us := [Ix (c1.v1)]) rfl (get_set (setV0 c1 (min (max ((c1.v0) + (c2.v0)) (-1048576 : Int)) (1048576 : Int))) (by first | omega | (simp only [List.length_set]; omega))) rfl)) ?_
  refine qE ofp (qE (ols 0) (qE omi (qE omi ?_)))
  refine q_val (v := .pointer (some ((ba p).add (i2 * 5)))) rfl rfl rfl (e_indexFlN 1 (F := CompF) rfl (by simp only [List.length_set]) rfl tw3 (by omega) rfl) ?_
  refine qE ofd (qE (oxd 1) ?_)
  refine q_val (v := Ix (c2.v1)) rfl rfl rfl (e_load1 tw15.ok rfl (k_flPart 1 (F := CompF) (o := 2) (us := [Ix (c2.v1)]) rfl (set_ne (by first | assumption | (apply Ne.symm; assumption)) hx2) rfl)) ?_
  refine qE opl (qE oai (q_nil (ftc (lE ofp (lE (ols 0) (lE omi (lE omi (lE omi (lE omx (lE omz ?_))))))))))
  refine lv (v := .pointer (some ((ba p).add (i1 * 5)))) (e_indexFlN 1 (F := CompF) rfl (by simp only [List.length_set]) rfl tw3 (by omega) rfl) ?_
  refine lE ofd (lE (oxd 1) ?_)
  refine lu (m_storeFlPart 1 (F := CompF) (p := p) (k := i1) (o := 2) (xs := (cs.set i1 (setV0 c1 (min (max ((c1.v0) + (c2.v0)) (-1048576 : Int)) (1048576 : Int))))) (z0 := (setV0 c1 (min (max ((c1.v0) + (c2.v0)) (-1048576 : Int)) (1048576 : Int)))) (z := (setV1 (setV0 c1 (min (max ((c1.v0) + (c2.v0)) (-1048576 : Int)) (1048576 : Int))) (min (max ((c1.v1) + (c2.v1)) (-1048576 : Int)) (1048576 : Int)))) tw15.ok rfl rfl rfl rfl rfl (get_set (setV0 c1 (min (max ((c1.v0) + (c2.v0)) (-1048576 : Int)) (1048576 : Int))) (by first | omega | (simp only [List.length_set]; omega))) (by decide) rfl) ?_
  refine l_re (L' := [pt b1 (.cells #[Ix (id),sB p cs c] 59),rowF CompF 120 p c (cs.set i1 (setV1 (setV0 c1 (min (max ((c1.v0) + (c2.v0)) (-1048576 : Int)) (1048576 : Int))) (min (max ((c1.v1) + (c2.v1)) (-1048576 : Int)) (1048576 : Int))))]) (by show (_ :: _ : List Res) = _; simp only [sB,rB,List.set_set,List.set_cons_zero,List.set_cons_succ] <;> rfl) ?_
  refine lnc (lE ofp (lE (ols 0) (lE omi (lE omi ?_))))
  refine lv (v := .pointer (some ((ba p).add (i1 * 5)))) (e_indexFlN 1 (F := CompF) rfl (by simp only [List.length_set]) rfl tw3 (by omega) rfl) ?_
  refine lE ofd (lE (oxd 1) ?_)
  refine lv (v := Ix (min (max ((c1.v1) + (c2.v1)) (-1048576 : Int)) (1048576 : Int))) (e_load1 tw15.ok rfl (k_flPart 1 (F := CompF) (o := 2) (us := [Ix (min (max ((c1.v1) + (c2.v1)) (-1048576 : Int)) (1048576 : Int))]) rfl (get_set (setV1 (setV0 c1 (min (max ((c1.v0) + (c2.v0)) (-1048576 : Int)) (1048576 : Int))) (min (max ((c1.v1) + (c2.v1)) (-1048576 : Int)) (1048576 : Int))) (by first | omega | (simp only [List.length_set]; omega))) rfl)) ?_
  refine lE omi (lE onq (lnf (c_if _ rfl (fun hc9 => ?_) (fun hc9 => ?_))))
  ·refine c_region (lE ofp (lE (ols 0) (lE omi (lE omi ?_))))
   refine lv (v := .pointer (some ((ba p).add (i2 * 5)))) (e_indexFlN 1 (F := CompF) rfl (by simp only [List.length_set]) rfl tw3 (by omega) rfl) ?_
   refine lE ofd (lE (oxd 1) ?_)
   refine lu (m_storeFlPart 1 (F := CompF) (p := p) (k := i2) (o := 2) (xs := (cs.set i1 (setV1 (setV0 c1 (min (max ((c1.v0) + (c2.v0)) (-1048576 : Int)) (1048576 : Int))) (min (max ((c1.v1) + (c2.v1)) (-1048576 : Int)) (1048576 : Int))))) (z0 := c2) (z := (setV1 c2 0)) tw15.ok rfl rfl rfl rfl rfl (set_ne (by first | assumption | (apply Ne.symm; assumption)) hx2) (by decide) rfl) ?_
   refine l_nil (f_block (f_then (c_region (lE omi (lE opl (lE oai (l_nil (f_cut (un_succ 0 (cs2 (c_region (lE omi (lE olt (lnf (c_no rfl (c_exit ?_))))))))))))))))
   refine f_then_exit (f_then_exit (f_exit (end0 Tryz.results73 ?_)))
   intro w hw
   have e0 := free_fly (idxC_found hi1) hf1 (idxC_found hi2) hf2 (idxK_none hn3)
   simp only [clamp_eq] at hc7
   simp only [clamp_eq] at hc9
   have e : freeC cs = ((cs.set i1 (setV1 (setV0 c1 (min (max ((c1.v0) + (c2.v0)) (-1048576 : Int)) (1048576 : Int))) (min (max ((c1.v1) + (c2.v1)) (-1048576 : Int)) (1048576 : Int)))).set i2 (setV1 c2 0)) := by
    rw [e0,fly_yes ⟨⟨by omega,by omega⟩,by omega,by omega⟩]
    simp only [sB,rB,clamp_eq]
    rw [if_pos (Decidable.not_not.1 hc7),if_neg hc9]
    try simp only [set_swap hij,List.set_set]
    try rfl
   exact ⟨rfl,by rw [e]; exact st_mask [false,true] rfl hw⟩
  refine c_skip (f_block (f_then (c_region (lE omi (lE opl (lE oai (l_nil (f_cut (un_succ 0 (cs2 (c_region (lE omi (lE olt (lnf (c_no rfl (c_exit ?_))))))))))))))))
  refine f_then_exit (f_then_exit (f_exit (end0 Tryz.results73 ?_)))
  intro w hw
  have e0 := free_fly (idxC_found hi1) hf1 (idxC_found hi2) hf2 (idxK_none hn3)
  simp only [clamp_eq] at hc7
  simp only [clamp_eq] at hc9
  have e : freeC cs = (cs.set i1 (setV1 (setV0 c1 (min (max ((c1.v0) + (c2.v0)) (-1048576 : Int)) (1048576 : Int))) (min (max ((c1.v1) + (c2.v1)) (-1048576 : Int)) (1048576 : Int)))) := by
   rw [e0,fly_yes ⟨⟨by omega,by omega⟩,by omega,by omega⟩]
   simp only [sB,rB,clamp_eq]
   rw [if_pos (Decidable.not_not.1 hc7),if_pos (Decidable.not_not.1 hc9)]
   exact set_self (set_ne (Ne.symm hij) hx2)
  exact ⟨rfl,by rw [e]; exact st_mask [false,true] rfl hw⟩
 refine c_region (lE omi (lE olt (lE omb (l_split (s := 15) rfl (fun h => ?_) (fun h => ?_)))))
 exact absurd h (by omega)
 refine gE omi (gE olt (lE okfb (lE omb (l_split (s := 19) rfl (fun h => ?_) (fun h => ?_)))))
 exact absurd h (by omega)
 refine gE (olg 0) (g_call rfl rfl rfl rfl rfl (cl0 (vs := [.agg #[Ix (id),sB p cs c],.int .u8 (3)]) tw8.ok rfl rfl) ?_)
 intro w hw
 obtain ⟨β1,sb,kn,hw1,back⟩ := St.frame_all hw
 refine (rfirstN_ok β1 w hw1 (id) p c cs (m := cs.length) rfl (kn _ (k_flN 1 (F := CompF) (m := cs.length) (xs := cs) rfl rfl)) 3).mono ?_
 rintro e w' ⟨rfl,hw'⟩
 refine ⟨_,rfl,_,back _ _ hw',?_⟩
 clear hw hw1 hw' back kn sb
 refine gE oge (lE okfb (lnf (c_if _ rfl (fun hc10 => ?_) (fun hc10 => ?_))))
 ·refine c_ret (f_then_ret (ret0 Tryz.results73 ?_))
  intro w hw
  exact ⟨rfl,by rw [free_no (.inr (.inr ⟨i3,idxC_found hi3⟩))]; exact st_mask [false,true] rfl hw⟩
 exact absurd (by omega) hc10
theorem rfreeN_ok (β : Base) (w : World) (id : Int) (p : Option Addr) (c : Nat) (cs : List KComp) {m : Nat} (hm : m = cs.length) (hw : St β [rowF CompF 120 p c cs] w) : Calls Tryz.prog 73 #[.agg #[Ix id, .slice p m c]] w fun r w' => r = .returned (.tuple #[]) ∧ St β [rowF CompF 120 p c (freeC cs)] w' := by subst hm; exact rfree_ok β w id p c cs hw
set_option maxHeartbeats 4000000 in
theorem rback_ok (β : Base) (w : World) (hw : St β [] w) (tick : Int) (v bv rv : Value) (gx gy : Int) (es : List KEnt) (B : List KB) (hs : Sl EntR β.heap v es) (hb : Sl KBR β.heap bv B) (hn : es.length ≤ 65536) (hcl : ∀ e ∈ es, e.comps.length ≤ 65536) : Calls Tryz.prog 22 #[.agg #[Ix tick, v], .agg #[bv, rv, Ix gx, Ix gy]] w fun r w' => ∃ p c, r = .returned (.agg #[Ix tick, sB p es c]) ∧ St β [entsR p c (es.map (backE B))] w' := by
 obtain ⟨va,vc,rfl,vl,vm,ve⟩ := hs.get
 obtain ⟨bva,bvc,rfl,bvl,bvm,bve⟩ := hb.get
 refine enter (n := 111) Tryz.func22 rfl Tryz.ntmps22 rfl ?_ hw
 refine csr (bxa fun b1 => ?_)
 refine bxa fun b2 => ?_
 refine alE fun b3 => lnc (lE ofp (lE (oli 2) ?_))
 refine lv (v := .agg #[Ix (tick),.slice none 0 0]) (e_build tw45.ok tw47 (vs := [(0,Ix (tick))]) (cells := #[Ix (tick),.slice none 0 0]) rfl rfl) ?_
 refine alE fun b4 => lu (mS 0 (#[Ix (tick),.slice none 0 0])) (lnf (cs2 (c_emp (r := rowF HdF 59 none 0 []) (row_nil _ _ _) ?_)))
 refine c_emp (r := goodR [] []) good_nil (c_region (lE oai (lnf (c_block (c_mask [true,true,true,true,true,true] rfl ?_)))))
 refine c_loop (fun (x_ : Nat × List KHd × Option Addr × Nat) f L => match x_ with | (k,hd,p,c) => (f 2 = pp b1 0 ∧ f 3 = pp b2 0 ∧ f 4 = pp b3 0 ∧ f 5 = pp b4 0 ∧ f 6 = Nx (k)) ∧ L = [goodR hd ((es.take k).map (backE B)),rowF HdF 59 p c hd,pt b4 (.cells #[Ix (tick),sB p hd c] 24),pt b3 (.cells #[.int .i64 (0),.slice none 0 0] 24),pt b2 (.cells #[sB bva B (bvc),rv,Ix (gx),Ix (gy)] 30),pt b1 (.cells #[Ix (tick),sB va es (vc)] 24)] ∧ (k ≤ es.length ∧ hd.length = k)) (fun (k,hd,p,c) => es.length - k) (0,[],none,0) ?_ ?_
 ·exact ⟨⟨rfl,rfl,rfl,rfl,rfl⟩,rfl,⟨by omega,rfl⟩⟩
 rintro ⟨k,hd,p,c⟩ f0 L0 ⟨⟨hs2,hs3,hs4,hs5,hs6⟩,hL,⟨hk,hdl⟩⟩
 subst L0
 refine rbs 2 hs2 (rbs 3 hs3 (rbs 4 hs4 (rbs 5 hs5 (rbs 6 hs6 (cs2 (c_region (lE omi (lE ofp (lE (ols 5) (lE oln (lE olt (lnf ?_))))))))))))
 refine c_if _ rfl (fun hc5 => ?_) (fun hc5 => ?_)
 ·refine csk (c_seq (c_block (c_seq ?_)))
  obtain ⟨x6,hx7⟩ := getx es k (by omega)
  obtain ⟨ha8,cs9,hc10,hr11⟩ := ve _ _ hx7
  obtain ⟨v12,rfl,hv13⟩ := hr11
  obtain ⟨v12a,v12c,rfl,v12l,v12m,v12e⟩ := hv13.get
  have hcx := hcl x6 (List.mem_of_getElem? hx7)
  refine cny [sv 24 (pp b1 1) [] [] [0],sv 25 (sB va es (vc)) [0] [0] [],sv 26 (Nx (k)) [] [] [1],sv 27 (.pointer (some ((ba va).add (k * 2)))) [0,1,2] [1,2] [],sv 28 (.pointer (some (((ba va).add (k * 2) : Addr).add 0))) [0,1,2,3] [3] [],sv 29 (Ix (x6.id)) [0,1,2,3,4] [4] [],⟨[],[],[],[30],fun f => f 30 = .slice (some ⟨(blk (f 30)),0,none⟩) 0 0⟩,sv 31 (pp b1 1) [] [] [0],sv 32 (sB va es (vc)) [7] [7] [],sv 33 (Nx (k)) [] [] [1],sv 34 (.pointer (some ((ba va).add (k * 2)))) [7,8,9] [8,9] [],sv 35 (.pointer (some (((ba va).add (k * 2) : Addr).add 1))) [7,8,9,10] [10] [],sv 36 (sB v12a x6.comps (v12c)) [7,8,9,10,11] [11] [],⟨[6,7,8,9,10,11,12],[6,12],[],[37],fun f => f 37 = sB (sla (f 37)) x6.comps (slc (f 37))⟩,⟨(List.range 14),[5,13],[],[37,38],fun f => f 38 = .agg #[Ix (x6.id),sB (sla (f 37)) x6.comps (slc (f 37))]⟩,⟨[],[],[],[7],fun f => f 7 = .pointer (some ⟨(blk (f 7)),0,none⟩)⟩,⟨(List.range 16),[15,14],[],[],fun _ => True⟩] [tk (goodR hd ((es.take k).map (backE B))) [],tk (rowF HdF 59 p c hd) [],tk (pt b4 (.cells #[Ix (tick),sB p hd c] 24)) [],tk (pt b3 (.cells #[.int .i64 (0),.slice none 0 0] 24)) [],tk (pt b2 (.cells #[sB bva B (bvc),rv,Ix (gx),Ix (gy)] 30)) [],tk (pt b1 (.cells #[Ix (tick),sB va es (vc)] 24)) [1,8],⟨(some 6),(some 13),[13],[30],fun f => pt (blk (f 30)) (.cells #[] 120)⟩,⟨(some 13),none,[],[37],fun f => rowF CompF 120 (sla (f 37)) (slc (f 37)) x6.comps⟩,⟨(some 15),(some 16),[16],[7],fun f => pt (blk (f 7)) (.cells #[.int .i64 (0),.slice none 0 0] 59)⟩,⟨(some 16),none,[],[7,37],fun f => pt (blk (f 7)) (.cells #[Ix (x6.id),sB (sla (f 37)) x6.comps (slc (f 37))] 59)⟩] [(2,pp b1 0),(6,Nx (k)),(3,pp b2 0),(4,pp b3 0),(5,pp b4 0)] [0,2,3,4,1] [] ⟨rfl,rfl,rfl,rfl,rfl,trivial⟩ ⟨?_,?_,?_,?_,?_,?_,?_,?_,?_,?_,?_,?_,?_,?_,?_,?_,?_,trivial⟩ ?_
  ·rintro f M - ⟨i0,-⟩
   exact obE ofp
  ·rintro f M ⟨k0,-⟩ -
   exact obE (ols 0)
  ·rintro f M - ⟨i0,-⟩
   exact obE omi
  ·rintro f M ⟨k0,k1,-⟩ -
   exact ob0 (up_cons (d := 26) (up_cons (d := 25) rfl k0) k1) rfl (e_indexAddr rfl rfl tw29 (by omega) ha8) (.refl _)
  ·rintro f M ⟨k0,-⟩ -
   exact obE ofa
  ·rintro f M ⟨k0,-⟩ -
   exact ob0 (up_cons (d := 28) rfl k0) rfl (e_load1 tw15.ok rfl (Knows.imp (kB hc10) (fun _ h => Cs.sub (vs := [Ix (x6.id)]) 0 h rfl))) (.refl _)
  ·rintro f M - -
   refine ob_start (L' := M) (by rfl) rfl (l_mv rfl rfl rfl (m_slice0 tw3) ?_)
   rintro _ _ ⟨b15,rfl,rfl⟩
   refine l_nil ?_
   exact f_owes_d rfl rfl (perm_front 0 rfl)
  ·rintro f M - ⟨i0,-⟩
   exact obE ofp
  ·rintro f M ⟨k0,-⟩ -
   exact obE (ols 0)
  ·rintro f M - ⟨i0,-⟩
   exact obE omi
  ·rintro f M ⟨k0,k1,-⟩ -
   exact ob0 (up_cons (d := 33) (up_cons (d := 32) rfl k0) k1) rfl (e_indexAddr rfl rfl tw29 (by omega) ha8) (.refl _)
  ·rintro f M ⟨k0,-⟩ -
   exact obE ofa
  ·rintro f M ⟨k0,-⟩ -
   exact ob0 (up_cons (d := 35) rfl k0) rfl (e_load1 tw1.ok rfl (Knows.imp (kB hc10) (fun _ h => Cs.sub (vs := [sB v12a x6.comps (v12c)]) 1 h rfl))) (.refl _)
  ·rintro f M ⟨k0,k1,-⟩ -
   have hs30 : f 30 = .slice (some ⟨(blk (f 30)),0,none⟩) 0 0 := k0
   refine ob_start (L' := pt (blk (f 30)) (.cells #[] 120) :: M) (by rfl) (up_cons (d := 36) (up_cons rfl hs30) k1) ?_
   refine l_conseq 0 (r' := rowF CompF 120 (some ⟨(blk (f 30)),0,none⟩) 0 []) rfl (fun a h => pt_row (m := 0) (by decide) rfl a h) ?_
   refine l_mv rfl rfl rfl (m_appendFlN (F := CompF) 0 tw3 tw49 (p := (some ⟨(blk (f 30)),0,none⟩)) (m := 0) (xs := []) (ys := x6.comps) (ao := v12a) (k := x6.comps.length) (c := v12c) rfl rfl rfl rfl rfl (Knows.of_base (Elems.mono _ _ _) v12e) (by first | omega | simp only [List.length_nil,List.length_cons,List.length_append,List.length_set]; omega) (by first | omega | simp only [List.length_nil,List.length_cons,List.length_append,List.length_set]; omega)) ?_
   rintro _ _ ⟨rp18,rc19,rfl,rfl⟩
   refine l_nil ?_
   exact f_owes_d (up_cons (d := 36) (up_cons rfl hs30) k1) rfl (perm_front 0 rfl)
  ·rintro f M ⟨k0,k1,-⟩ -
   have hs37 : f 37 = sB (sla (f 37)) x6.comps (slc (f 37)) := k1
   exact ob0 (up_cons (up_cons (d := 29) rfl k0) hs37) rfl (e_build tw51.ok tw50 (vs := [(0,Ix (x6.id)),(1,sB (sla (f 37)) x6.comps (slc (f 37)))]) (cells := #[Ix (x6.id),sB (sla (f 37)) x6.comps (slc (f 37))]) rfl rfl) (.refl _)
  ·rintro f M - -
   refine ob_start (L' := M) (by rfl) rfl (alE fun b21 => l_nil ?_)
   exact f_owes_d rfl rfl (perm_front 0 rfl)
  ·rintro f M ⟨k0,k1,-⟩ -
   have hs7 : f 7 = .pointer (some ⟨(blk (f 7)),0,none⟩) := k0
   have hs38 : f 38 = .agg #[Ix (x6.id),sB (sla (f 37)) x6.comps (slc (f 37))] := k1
   refine ob_start (L' := pt (blk (f 7)) (.cells #[.int .i64 (0),.slice none 0 0] 59) :: M) (by rfl) (up_cons (up_cons rfl hs7) hs38) ?_
   refine lu (mS 0 (#[Ix (x6.id),sB (sla (f 37)) x6.comps (slc (f 37))])) (l_nil ?_)
   exact f_owes_n (up_cons (up_cons rfl hs7) hs38) trivial (perm_front 0 rfl)
  rintro fa22 ⟨-,-,-,-,-,-,-,-,-,-,-,-,-,-,-,k15,-,-⟩ ⟨j0,j1,j2,j3,j4,-⟩
  refine f_re (L' := [goodR hd ((es.take k).map (backE B)),rowF HdF 59 p c hd,pt b4 (.cells #[Ix (tick),sB p hd c] 24),pt b3 (.cells #[.int .i64 (0),.slice none 0 0] 24),pt b2 (.cells #[sB bva B (bvc),rv,Ix (gx),Ix (gy)] 30),pt b1 (.cells #[Ix (tick),sB va es (vc)] 24),rowF CompF 120 (sla (fa22 37)) (slc (fa22 37)) x6.comps,pt (blk (fa22 7)) (.cells #[Ix (x6.id),sB (sla (fa22 37)) x6.comps (slc (fa22 37))] 59)]) (by rfl) ?_
  refine f_rebase (d := 2) j0 (f_rebase (d := 3) j1 (f_rebase (d := 4) j2 (f_rebase (d := 5) j3 (f_rebase (d := 6) j4 (f_rebase (d := 7) k15 (ftc ?_))))))
  refine lE (olg 7) ?_
  refine lcR clA (fun w β1 sb kn hw1 => rbody_ok β1 w hw1 (x6.id) (sla (fa22 37)) (slc (fa22 37)) x6.comps (kn _ (k_flN 6 (F := CompF) (m := x6.comps.length) (xs := x6.comps) rfl rfl))) ?_
  refine lE omt (lE oxa (lE oxb (alE fun b23 => lu (mS 0 (bC (bodyD (x6.id) x6.comps))) (lE oab (lnc (lE ofp (lE (ols 5) (lE ofp (lE (oli 8) ?_)))))))))
  refine lcR clA (fun w β1 sb kn hw1 => find7_ok β1 w hw1 _ B (Sl.mono _ _ _ _ _ sb hb) (x6.id)) (lE oai (lnf (cs2 ?_)))
  cases h0 : (bodyOf x6.id x6.comps).isSome
  ·refine c_region (lE omb (lE omb (skE (skE (lE okfb (lnf (c_no rfl (csk (csr (lE (olg 8) ?_))))))))))
   refine l_call rfl rfl rfl (cl0 (vs := [.agg #[Ix (x6.id),sB (sla (fa22 37)) x6.comps (slc (fa22 37))]]) tw52.ok rfl rfl) ?_
   intro w hw
   replace hw := hw.perm (L' := _ :: _ :: _ :: _ :: _ :: _ :: _ :: _ :: _ :: []) (by exact (((((((((perm_front 8 rfl).trans (perm_front 7 rfl)).trans (perm_front 7 rfl)).trans (perm_front 7 rfl)).trans (perm_front 7 rfl)).trans (perm_front 7 rfl)).trans (perm_front 7 rfl)).trans (perm_front 7 rfl)).trans (perm_front 8 rfl)))
   obtain ⟨β1,sb,kn,hw1,back⟩ := St.frame (L := [_]) (M := _ :: _ :: _ :: _ :: _ :: _ :: _ :: _ :: []) hw
   refine (rfreeN_ok β1 w (x6.id) _ _ x6.comps (m := x6.comps.length) rfl hw1).mono ?_
   rintro e w' ⟨rfl,hw'⟩
   refine ⟨_,rfl,_,back _ _ hw',?_⟩
   clear hw hw1 hw' back kn sb
   refine lnr (lE ofp (lE (ols 4) (lE (olg 8) ?_)))
   refine l_mv rfl rfl rfl (m_slices tw29 tw51.ok (cells := #[Ix (x6.id),sB (sla (fa22 37)) x6.comps (slc (fa22 37))]) rfl rfl rfl rfl) ?_
   rintro _ _ ⟨b24,rfl,rfl⟩
   refine l_mv rfl rfl rfl (m_appendFlN (F := HdF) 4 tw29 tw53 (p := p) (m := hd.length) (xs := hd) (ys := [(⟨(x6.id),(sla (fa22 37)),x6.comps.length,(slc (fa22 37))⟩ : KHd)]) (ao := (some ⟨b24,0,none⟩)) (k := 1) (c := 1) rfl rfl rfl rfl rfl (k_ptFl (z := (⟨(x6.id),(sla (fa22 37)),x6.comps.length,(slc (fa22 37))⟩ : KHd)) 0 rfl rfl) (by first | omega | simp only [List.length_nil,List.length_cons,List.length_append,List.length_set]; omega) (by first | omega | simp only [List.length_nil,List.length_cons,List.length_append,List.length_set]; omega)) ?_
   rintro _ _ ⟨rp25,rc26,rfl,rfl⟩
   refine lE ofp (lu (mS 5 (#[Ix (tick),sB rp25 (hd ++ [(⟨(x6.id),(sla (fa22 37)),x6.comps.length,(slc (fa22 37))⟩ : KHd)]) rc26])) (l_nil (f_block ?_)))
   refine f_then (c_region (lE omi (lv (v := Nx (k + 1)) (e_add rfl rfl (i64n (by omega) (by omega))) (lE oai (l_nil ?_)))))
   have hY : (freeC x6.comps) = backC B x6.id x6.comps := free_none h0
   refine f_pi [1,3,0,2,4,5,6,7,8,9] 10 rfl (by kernel_rfl) ?_
   refine f_merge (L := [rowF CompF 120 (sla (fa22 37)) (slc (fa22 37)) (freeC x6.comps),goodR hd ((es.take k).map (backE B))]) (M := [pt b24 (.cells #[Ix (x6.id),sB (sla (fa22 37)) x6.comps (slc (fa22 37))] 59),pt b23 (.cells (bC (bodyD (x6.id) x6.comps)) 52),rowF HdF 59 rp25 rc26 (hd ++ [(⟨(x6.id),(sla (fa22 37)),x6.comps.length,(slc (fa22 37))⟩ : KHd)]),pt b4 (.cells #[Ix (tick),sB rp25 (hd ++ [(⟨(x6.id),(sla (fa22 37)),x6.comps.length,(slc (fa22 37))⟩ : KHd)]) rc26] 24),pt b3 (.cells #[.int .i64 (0),.slice none 0 0] 24),pt b2 (.cells #[sB bva B (bvc),rv,Ix (gx),Ix (gy)] 30),pt b1 (.cells #[Ix (tick),sB va es (vc)] 24),pt (blk (fa22 7)) (.cells #[Ix (x6.id),sB (sla (fa22 37)) x6.comps (slc (fa22 37))] 59)]) (r := goodR (hd ++ [(⟨(x6.id),(sla (fa22 37)),x6.comps.length,(slc (fa22 37))⟩ : KHd)]) ((es.take (k + 1)).map (backE B))) (by rw [← back_next hx7 hY]; exact good_merge (by rw [hY,back_len])) ?_
   refine f_mask [true,false,false,true,true,true,true,true,false] rfl ?_
   exact f_cut ⟨(k + 1,(hd ++ [(⟨(x6.id),(sla (fa22 37)),x6.comps.length,(slc (fa22 37))⟩ : KHd)]),rp25,rc26),⟨⟨rfl,rfl,rfl,rfl,rfl⟩,rfl,⟨by omega,by rw [List.length_append]; simp only [sB,rB,List.length_cons,List.length_nil]; omega⟩⟩,(show es.length - (k + 1) < es.length - k from by omega)⟩
  rcases idxB_cases B x6.id with ⟨hn,hfn⟩ | ⟨ib,hib,hlb,hfo⟩
  ·refine c_region (lE omb (lE omb (gE omi (gE oge (lE oktb (lnf (c_if _ rfl (fun hc27 => ?_) (fun hc27 => ?_))))))))
   ·exact absurd hc27 (by omega)
   refine csk (csr (lE (olg 8) (l_call rfl rfl rfl (cl0 (vs := [.agg #[Ix (x6.id),sB (sla (fa22 37)) x6.comps (slc (fa22 37))]]) tw52.ok rfl rfl) ?_)))
   intro w hw
   replace hw := hw.perm (L' := _ :: _ :: _ :: _ :: _ :: _ :: _ :: _ :: _ :: []) (by exact (((((((((perm_front 8 rfl).trans (perm_front 7 rfl)).trans (perm_front 7 rfl)).trans (perm_front 7 rfl)).trans (perm_front 7 rfl)).trans (perm_front 7 rfl)).trans (perm_front 7 rfl)).trans (perm_front 7 rfl)).trans (perm_front 8 rfl)))
   obtain ⟨β1,sb,kn,hw1,back⟩ := St.frame (L := [_]) (M := _ :: _ :: _ :: _ :: _ :: _ :: _ :: _ :: []) hw
   refine (rfreeN_ok β1 w (x6.id) _ _ x6.comps (m := x6.comps.length) rfl hw1).mono ?_
   rintro e w' ⟨rfl,hw'⟩
   refine ⟨_,rfl,_,back _ _ hw',?_⟩
   clear hw hw1 hw' back kn sb
   refine lnr (lE ofp (lE (ols 4) (lE (olg 8) ?_)))
   refine l_mv rfl rfl rfl (m_slices tw29 tw51.ok (cells := #[Ix (x6.id),sB (sla (fa22 37)) x6.comps (slc (fa22 37))]) rfl rfl rfl rfl) ?_
   rintro _ _ ⟨b28,rfl,rfl⟩
   refine l_mv rfl rfl rfl (m_appendFlN (F := HdF) 4 tw29 tw53 (p := p) (m := hd.length) (xs := hd) (ys := [(⟨(x6.id),(sla (fa22 37)),x6.comps.length,(slc (fa22 37))⟩ : KHd)]) (ao := (some ⟨b28,0,none⟩)) (k := 1) (c := 1) rfl rfl rfl rfl rfl (k_ptFl (z := (⟨(x6.id),(sla (fa22 37)),x6.comps.length,(slc (fa22 37))⟩ : KHd)) 0 rfl rfl) (by first | omega | simp only [List.length_nil,List.length_cons,List.length_append,List.length_set]; omega) (by first | omega | simp only [List.length_nil,List.length_cons,List.length_append,List.length_set]; omega)) ?_
   rintro _ _ ⟨rp29,rc30,rfl,rfl⟩
   refine lE ofp (lu (mS 5 (#[Ix (tick),sB rp29 (hd ++ [(⟨(x6.id),(sla (fa22 37)),x6.comps.length,(slc (fa22 37))⟩ : KHd)]) rc30])) (l_nil (f_block ?_)))
   refine f_then (c_region (lE omi (lv (v := Nx (k + 1)) (e_add rfl rfl (i64n (by omega) (by omega))) (lE oai (l_nil ?_)))))
   have hY : (freeC x6.comps) = backC B x6.id x6.comps := (free_body h0 rfl).trans (back_lost h0 hfn)
   refine f_pi [1,3,0,2,4,5,6,7,8,9] 10 rfl (by kernel_rfl) ?_
   refine f_merge (L := [rowF CompF 120 (sla (fa22 37)) (slc (fa22 37)) (freeC x6.comps),goodR hd ((es.take k).map (backE B))]) (M := [pt b28 (.cells #[Ix (x6.id),sB (sla (fa22 37)) x6.comps (slc (fa22 37))] 59),pt b23 (.cells (bC (bodyD (x6.id) x6.comps)) 52),rowF HdF 59 rp29 rc30 (hd ++ [(⟨(x6.id),(sla (fa22 37)),x6.comps.length,(slc (fa22 37))⟩ : KHd)]),pt b4 (.cells #[Ix (tick),sB rp29 (hd ++ [(⟨(x6.id),(sla (fa22 37)),x6.comps.length,(slc (fa22 37))⟩ : KHd)]) rc30] 24),pt b3 (.cells #[.int .i64 (0),.slice none 0 0] 24),pt b2 (.cells #[sB bva B (bvc),rv,Ix (gx),Ix (gy)] 30),pt b1 (.cells #[Ix (tick),sB va es (vc)] 24),pt (blk (fa22 7)) (.cells #[Ix (x6.id),sB (sla (fa22 37)) x6.comps (slc (fa22 37))] 59)]) (r := goodR (hd ++ [(⟨(x6.id),(sla (fa22 37)),x6.comps.length,(slc (fa22 37))⟩ : KHd)]) ((es.take (k + 1)).map (backE B))) (by rw [← back_next hx7 hY]; exact good_merge (by rw [hY,back_len])) ?_
   refine f_mask [true,false,false,true,true,true,true,true,false] rfl ?_
   exact f_cut ⟨(k + 1,(hd ++ [(⟨(x6.id),(sla (fa22 37)),x6.comps.length,(slc (fa22 37))⟩ : KHd)]),rp29,rc30),⟨⟨rfl,rfl,rfl,rfl,rfl⟩,rfl,⟨by omega,by rw [List.length_append]; simp only [sB,rB,List.length_cons,List.length_nil]; omega⟩⟩,(show es.length - (k + 1) < es.length - k from by omega)⟩
  rw [hib]
  obtain ⟨i1,c1,hx1,hk1,hc1,hf1⟩ := body_at1 h0
  have hl1 := (List.getElem?_eq_some_iff.1 hx1).1
  refine c_region (lE omb (lE omb (gE omi (gE oge (lE oktb (lnf (c_if _ rfl (fun hc31 => ?_) (fun hc31 => ?_))))))))
  ·refine c_seq ?_
   obtain ⟨ob,hob⟩ := getx B ib (by omega)
   obtain ⟨hao,co,hco,rfl⟩ := bve _ _ hob
   refine c_region (lE ofp (lE (ols 5) (lE omi (lE (oia tw33 hao) (lv (v := .agg (bC ob)) (e_load tw10.ok rfl (kB hco) rfl) (alE fun b32 => ?_))))))
   refine lu (mS 0 (bC ob)) (lnc (lE (olg 9) ?_))
   refine lcR clA (fun w β1 sb kn hw1 => rfirstN_ok β1 w hw1 (x6.id) (sla (fa22 37)) (slc (fa22 37)) x6.comps (m := x6.comps.length) rfl (kn _ (k_flN 8 (F := CompF) (m := x6.comps.length) (xs := x6.comps) rfl rfl)) 1) ?_
   refine lE oai (lnf (c_seq ?_))
   rw [idxK_some hc1]
   refine c_rowsome 8 (F := CompF) rfl hx1 (fun hps33 => ?_)
   refine cny [sv 61 (.pointer (some ⟨(blk (fa22 7)),1,none⟩)) [] [] [0],sv 62 (sB (sla (fa22 37)) x6.comps (slc (fa22 37))) [0] [0] [],sv 63 (Nx (i1)) [] [] [1],sv 64 (.pointer (some ⟨(blk (fa22 7)),1,none⟩)) [] [] [0],sv 65 (sB (sla (fa22 37)) x6.comps (slc (fa22 37))) [3] [3] [],sv 66 (Nx (i1)) [] [] [1],sv 67 (pp b32 1) [] [] [2],sv 68 (pp b32 1) [6] [6] [],sv 69 (Ix (ob.x)) [6,7] [7] [],sv 70 (pp b32 1) [] [] [2],sv 71 (pp b32 2) [9] [9] [],sv 72 (Ix (ob.y)) [9,10] [10] [],sv 73 (.pointer (some ((ba (sla (fa22 37))).add (i1 * 5)))) [0,1,2] [1,2] [],sv 74 (.pointer (some ((ba (sla (fa22 37))).add (i1 * 5 + 1)))) [0,1,2,12] [12] [],sv 75 (.pointer (some ((ba (sla (fa22 37))).add (i1 * 5 + 1)))) [0,1,2,6,7,8,12,13] [13] [],⟨[0,1,2,6,7,8,12,13,14],[14,8],[],[],fun _ => True⟩,sv 76 (.pointer (some ((ba (sla (fa22 37))).add (i1 * 5)))) [3,4,5] [4,5] [],sv 77 (.pointer (some ((ba (sla (fa22 37))).add (i1 * 5 + 1)))) [3,4,5,16] [16] [],sv 78 (.pointer (some ((ba (sla (fa22 37))).add (i1 * 5 + 2)))) (List.range 18) [17] [],⟨(List.range 19),[18,11],[],[],fun _ => True⟩] [tk (pt b32 (.cells (bC ob) 52)) [8,11],tk (pt b23 (.cells (bC (bodyD (x6.id) x6.comps)) 52)) [],tk (goodR hd ((es.take k).map (backE B))) [],tk (rowF HdF 59 p c hd) [],tk (pt b4 (.cells #[Ix (tick),sB p hd c] 24)) [],tk (pt b3 (.cells #[.int .i64 (0),.slice none 0 0] 24)) [],tk (pt b2 (.cells #[sB bva B (bvc),rv,Ix (gx),Ix (gy)] 30)) [],tk (pt b1 (.cells #[Ix (tick),sB va es (vc)] 24)) [],⟨none,(some 15),[15],[],fun _ => rowF CompF 120 (sla (fa22 37)) (slc (fa22 37)) x6.comps⟩,tk (pt (blk (fa22 7)) (.cells #[Ix (x6.id),sB (sla (fa22 37)) x6.comps (slc (fa22 37))] 59)) [1,4],⟨(some 15),(some 19),[19],[],fun _ => rowF CompF 120 (sla (fa22 37)) (slc (fa22 37)) (x6.comps.set i1 (setV0 c1 ob.x))⟩,⟨(some 19),none,[],[],fun _ => rowF CompF 120 (sla (fa22 37)) (slc (fa22 37)) ((x6.comps.set i1 (setV0 c1 ob.x)).set i1 (setV1 (setV0 c1 ob.x) ob.y))⟩] [(7,.pointer (some ⟨(blk (fa22 7)),0,none⟩)),(12,Nx (i1)),(11,pp b32 0),(2,pp b1 0),(3,pp b2 0),(4,pp b3 0),(5,pp b4 0),(6,Nx (k)),(8,pp b23 0)] [3,4,5,6,7,0,8,2] [] ⟨rfl,rfl,rfl,rfl,rfl,rfl,rfl,rfl,rfl,trivial⟩ ⟨?_,?_,?_,?_,?_,?_,?_,?_,?_,?_,?_,?_,?_,?_,?_,?_,?_,?_,?_,?_,trivial⟩ ?_
   ·rintro f M - ⟨i0,-⟩
    exact obE ofp
   ·rintro f M ⟨k0,-⟩ -
    exact obE (ols 0)
   ·rintro f M - ⟨i0,-⟩
    exact obE omi
   ·rintro f M - ⟨i0,-⟩
    exact obE ofp
   ·rintro f M ⟨k0,-⟩ -
    exact obE (ols 0)
   ·rintro f M - ⟨i0,-⟩
    exact obE omi
   ·rintro f M - ⟨i0,-⟩
    exact obE ofp
   ·rintro f M ⟨k0,-⟩ -
    exact obE ofp
   ·rintro f M ⟨k0,-⟩ -
    exact obE (oli 0)
   ·rintro f M - ⟨i0,-⟩
    exact obE ofp
   ·rintro f M ⟨k0,-⟩ -
    exact obE ofp
   ·rintro f M ⟨k0,-⟩ -
    exact obE (oli 0)
   ·rintro f M ⟨k0,k1,-⟩ -
    exact ob0 (up_cons (d := 63) (up_cons (d := 62) rfl k0) k1) rfl (e_indexAddr rfl rfl tw3 (by omega) hps33) (.refl _)
   ·rintro f M ⟨k0,-⟩ -
    exact ob0 (up_cons (d := 73) rfl k0) rfl (e_fd rfl tw11.ok) (.refl _)
   ·rintro f M ⟨k0,-⟩ -
    exact ob0 (up_cons (d := 74) rfl k0) rfl (e_xd 0 rfl rfl tw16.ok (by decide)) (.refl _)
   ·rintro f M ⟨k0,k1,-⟩ -
    refine ob_start (L' := rowF CompF 120 (sla (fa22 37)) (slc (fa22 37)) x6.comps :: M) (by rfl) (up_cons (d := 69) (up_cons (d := 75) rfl k0) k1) ?_
    refine lu (m_storeFlPart 0 (F := CompF) (p := (sla (fa22 37))) (k := i1) (o := 1) (xs := x6.comps) (z0 := c1) (z := (setV0 c1 ob.x)) tw15.ok rfl rfl rfl rfl rfl hx1 (by decide) rfl) ?_
    refine l_nil ?_
    exact f_owes_n (up_cons (d := 69) (up_cons (d := 75) rfl k0) k1) trivial (perm_front 0 rfl)
   ·rintro f M ⟨k0,k1,-⟩ -
    exact ob0 (up_cons (d := 66) (up_cons (d := 65) rfl k0) k1) rfl (e_indexAddr rfl rfl tw3 (by omega) hps33) (.refl _)
   ·rintro f M ⟨k0,-⟩ -
    exact ob0 (up_cons (d := 76) rfl k0) rfl (e_fd rfl tw11.ok) (.refl _)
   ·rintro f M ⟨k0,-⟩ -
    exact ob0 (up_cons (d := 77) rfl k0) rfl (e_xd 1 rfl rfl tw16.ok (by decide)) (.refl _)
   ·rintro f M ⟨k0,k1,-⟩ -
    refine ob_start (L' := rowF CompF 120 (sla (fa22 37)) (slc (fa22 37)) (x6.comps.set i1 (setV0 c1 ob.x)) :: M) (by rfl) (up_cons (d := 72) (up_cons (d := 78) rfl k0) k1) ?_
    refine lu (m_storeFlPart 0 (F := CompF) (p := (sla (fa22 37))) (k := i1) (o := 2) (xs := (x6.comps.set i1 (setV0 c1 ob.x))) (z0 := (setV0 c1 ob.x)) (z := (setV1 (setV0 c1 ob.x) ob.y)) tw15.ok rfl rfl rfl rfl rfl (get_set (setV0 c1 ob.x) (by first | omega | (simp only [List.length_set]; omega))) (by decide) rfl) ?_
    refine l_nil ?_
    exact f_owes_n (up_cons (d := 72) (up_cons (d := 78) rfl k0) k1) trivial (perm_front 0 rfl)
   rintro fa34 ⟨-,-,-,-,-,-,-,-,-,-,-,-,-,-,-,-,-,-,-,-,-⟩ ⟨j0,j1,j2,j3,j4,j5,j6,j7,-⟩
   refine f_re (L' := [pt b32 (.cells (bC ob) 52),pt b23 (.cells (bC (bodyD (x6.id) x6.comps)) 52),goodR hd ((es.take k).map (backE B)),rowF HdF 59 p c hd,pt b4 (.cells #[Ix (tick),sB p hd c] 24),pt b3 (.cells #[.int .i64 (0),.slice none 0 0] 24),pt b2 (.cells #[sB bva B (bvc),rv,Ix (gx),Ix (gy)] 30),pt b1 (.cells #[Ix (tick),sB va es (vc)] 24),pt (blk (fa22 7)) (.cells #[Ix (x6.id),sB (sla (fa22 37)) x6.comps (slc (fa22 37))] 59),rowF CompF 120 (sla (fa22 37)) (slc (fa22 37)) ((x6.comps.set i1 (setV0 c1 ob.x)).set i1 (setV1 (setV0 c1 ob.x) ob.y))]) (by rfl) ?_
   refine f_rebase (d := 2) j0 (f_rebase (d := 3) j1 (f_rebase (d := 4) j2 (f_rebase (d := 5) j3 (f_rebase (d := 6) j4 (f_rebase (d := 7) j5 ?_)))))
   refine f_rebase (d := 8) j6 (f_rebase (d := 11) j7 (ftc (lE ofp (lE (olb 1) (lE ont (lnf ?_))))))
   refine c_ifb (!((bodyD (x6.id) x6.comps).fixed)) rfl (fun hc35 => ?_) (fun hc35 => ?_)
   ·have hfx : (bodyD x6.id x6.comps).fixed = false := by simpa using hc35
    obtain ⟨i2,c2,hx2,hk2,hc2,hf2⟩ := body_at2 h0 hfx
    have hl2 := (List.getElem?_eq_some_iff.1 hx2).1
    have hij : i1 ≠ i2 := idx_ne hx1 hx2 hk1 hk2
    refine csr (lE (olg 8) ?_)
    refine lcR clA (fun w β1 sb kn hw1 => rfirstN_ok β1 w hw1 (x6.id) (sla (fa22 37)) (slc (fa22 37)) ((x6.comps.set i1 (setV0 c1 ob.x)).set i1 (setV1 (setV0 c1 ob.x) ob.y)) (m := x6.comps.length) (by simp only [List.length_set]) (kn _ (k_flN 9 (F := CompF) (m := x6.comps.length) (xs := ((x6.comps.set i1 (setV0 c1 ob.x)).set i1 (setV1 (setV0 c1 ob.x) ob.y))) rfl (by simp only [List.length_set]))) 2) ?_
    refine lE oai (lnf ?_)
    have hK1 : ((x6.comps.set i1 (setV0 c1 ob.x)).set i1 (setV1 (setV0 c1 ob.x) ob.y)).map (·.kind) = x6.comps.map (·.kind) := by simp only [List.set_set]; exact kinds_set hx1 rfl
    rw [idxI_kinds hK1,idxK_some hc2]
    refine cny [sv 84 (.pointer (some ⟨(blk (fa22 7)),1,none⟩)) [] [] [0],sv 85 (sB (sla (fa22 37)) x6.comps (slc (fa22 37))) [0] [0] [],sv 86 (Nx (i2)) [] [] [1],sv 87 (.pointer (some ⟨(blk (fa22 7)),1,none⟩)) [] [] [0],sv 88 (sB (sla (fa22 37)) x6.comps (slc (fa22 37))) [3] [3] [],sv 89 (Nx (i2)) [] [] [1],sv 90 (pp b32 3) [] [] [2],sv 91 (pp b32 3) [6] [6] [],sv 92 (Ix (ob.vx)) [6,7] [7] [],sv 93 (pp b32 3) [] [] [2],sv 94 (pp b32 4) [9] [9] [],sv 95 (Ix (ob.vy)) [9,10] [10] [],sv 96 (.pointer (some ((ba (sla (fa22 37))).add (i2 * 5)))) [0,1,2] [1,2] [],sv 97 (.pointer (some ((ba (sla (fa22 37))).add (i2 * 5 + 1)))) [0,1,2,12] [12] [],sv 98 (.pointer (some ((ba (sla (fa22 37))).add (i2 * 5 + 1)))) [0,1,2,6,7,8,12,13] [13] [],⟨[0,1,2,6,7,8,12,13,14],[14,8],[],[],fun _ => True⟩,sv 99 (.pointer (some ((ba (sla (fa22 37))).add (i2 * 5)))) [3,4,5] [4,5] [],sv 100 (.pointer (some ((ba (sla (fa22 37))).add (i2 * 5 + 1)))) [3,4,5,16] [16] [],sv 101 (.pointer (some ((ba (sla (fa22 37))).add (i2 * 5 + 2)))) (List.range 18) [17] [],⟨(List.range 19),[18,11],[],[],fun _ => True⟩] [tk (pt b32 (.cells (bC ob) 52)) [8,11],tk (pt b23 (.cells (bC (bodyD (x6.id) x6.comps)) 52)) [],tk (goodR hd ((es.take k).map (backE B))) [],tk (rowF HdF 59 p c hd) [],tk (pt b4 (.cells #[Ix (tick),sB p hd c] 24)) [],tk (pt b3 (.cells #[.int .i64 (0),.slice none 0 0] 24)) [],tk (pt b2 (.cells #[sB bva B (bvc),rv,Ix (gx),Ix (gy)] 30)) [],tk (pt b1 (.cells #[Ix (tick),sB va es (vc)] 24)) [],tk (pt (blk (fa22 7)) (.cells #[Ix (x6.id),sB (sla (fa22 37)) x6.comps (slc (fa22 37))] 59)) [1,4],⟨none,(some 15),[15],[],fun _ => rowF CompF 120 (sla (fa22 37)) (slc (fa22 37)) ((x6.comps.set i1 (setV0 c1 ob.x)).set i1 (setV1 (setV0 c1 ob.x) ob.y))⟩,⟨(some 15),(some 19),[19],[],fun _ => rowF CompF 120 (sla (fa22 37)) (slc (fa22 37)) (((x6.comps.set i1 (setV0 c1 ob.x)).set i1 (setV1 (setV0 c1 ob.x) ob.y)).set i2 (setV0 c2 ob.vx))⟩,⟨(some 19),none,[],[],fun _ => rowF CompF 120 (sla (fa22 37)) (slc (fa22 37)) ((((x6.comps.set i1 (setV0 c1 ob.x)).set i1 (setV1 (setV0 c1 ob.x) ob.y)).set i2 (setV0 c2 ob.vx)).set i2 (setV1 (setV0 c2 ob.vx) ob.vy))⟩] [(7,.pointer (some ⟨(blk (fa22 7)),0,none⟩)),(13,Nx (i2)),(11,pp b32 0),(2,pp b1 0),(3,pp b2 0),(4,pp b3 0),(5,pp b4 0),(6,Nx (k))] [3,4,5,6,7,0] [] ⟨rfl,rfl,rfl,rfl,rfl,rfl,rfl,rfl,trivial⟩ ⟨?_,?_,?_,?_,?_,?_,?_,?_,?_,?_,?_,?_,?_,?_,?_,?_,?_,?_,?_,?_,trivial⟩ ?_
    ·rintro f M - ⟨i0,-⟩
     exact obE ofp
    ·rintro f M ⟨k0,-⟩ -
     exact obE (ols 0)
    ·rintro f M - ⟨i0,-⟩
     exact obE omi
    ·rintro f M - ⟨i0,-⟩
     exact obE ofp
    ·rintro f M ⟨k0,-⟩ -
     exact obE (ols 0)
    ·rintro f M - ⟨i0,-⟩
     exact obE omi
    ·rintro f M - ⟨i0,-⟩
     exact obE ofp
    ·rintro f M ⟨k0,-⟩ -
     exact obE ofp
    ·rintro f M ⟨k0,-⟩ -
     exact obE (oli 0)
    ·rintro f M - ⟨i0,-⟩
     exact obE ofp
    ·rintro f M ⟨k0,-⟩ -
     exact obE ofp
    ·rintro f M ⟨k0,-⟩ -
     exact obE (oli 0)
    ·rintro f M ⟨k0,k1,-⟩ -
     exact ob0 (up_cons (d := 86) (up_cons (d := 85) rfl k0) k1) rfl (e_indexAddr rfl rfl tw3 (by omega) hps33) (.refl _)
    ·rintro f M ⟨k0,-⟩ -
     exact ob0 (up_cons (d := 96) rfl k0) rfl (e_fd rfl tw11.ok) (.refl _)
    ·rintro f M ⟨k0,-⟩ -
     exact ob0 (up_cons (d := 97) rfl k0) rfl (e_xd 0 rfl rfl tw16.ok (by decide)) (.refl _)
    ·rintro f M ⟨k0,k1,-⟩ -
     refine ob_start (L' := rowF CompF 120 (sla (fa22 37)) (slc (fa22 37)) ((x6.comps.set i1 (setV0 c1 ob.x)).set i1 (setV1 (setV0 c1 ob.x) ob.y)) :: M) (by rfl) (up_cons (d := 92) (up_cons (d := 98) rfl k0) k1) ?_
     refine lu (m_storeFlPart 0 (F := CompF) (p := (sla (fa22 37))) (k := i2) (o := 1) (xs := ((x6.comps.set i1 (setV0 c1 ob.x)).set i1 (setV1 (setV0 c1 ob.x) ob.y))) (z0 := c2) (z := (setV0 c2 ob.vx)) tw15.ok rfl rfl rfl rfl rfl (set_ne (by first | assumption | (apply Ne.symm; assumption)) (set_ne (by first | assumption | (apply Ne.symm; assumption)) hx2)) (by decide) rfl) ?_
     refine l_nil ?_
     exact f_owes_n (up_cons (d := 92) (up_cons (d := 98) rfl k0) k1) trivial (perm_front 0 rfl)
    ·rintro f M ⟨k0,k1,-⟩ -
     exact ob0 (up_cons (d := 89) (up_cons (d := 88) rfl k0) k1) rfl (e_indexAddr rfl rfl tw3 (by omega) hps33) (.refl _)
    ·rintro f M ⟨k0,-⟩ -
     exact ob0 (up_cons (d := 99) rfl k0) rfl (e_fd rfl tw11.ok) (.refl _)
    ·rintro f M ⟨k0,-⟩ -
     exact ob0 (up_cons (d := 100) rfl k0) rfl (e_xd 1 rfl rfl tw16.ok (by decide)) (.refl _)
    ·rintro f M ⟨k0,k1,-⟩ -
     refine ob_start (L' := rowF CompF 120 (sla (fa22 37)) (slc (fa22 37)) (((x6.comps.set i1 (setV0 c1 ob.x)).set i1 (setV1 (setV0 c1 ob.x) ob.y)).set i2 (setV0 c2 ob.vx)) :: M) (by rfl) (up_cons (d := 95) (up_cons (d := 101) rfl k0) k1) ?_
     refine lu (m_storeFlPart 0 (F := CompF) (p := (sla (fa22 37))) (k := i2) (o := 2) (xs := (((x6.comps.set i1 (setV0 c1 ob.x)).set i1 (setV1 (setV0 c1 ob.x) ob.y)).set i2 (setV0 c2 ob.vx))) (z0 := (setV0 c2 ob.vx)) (z := (setV1 (setV0 c2 ob.vx) ob.vy)) tw15.ok rfl rfl rfl rfl rfl (get_set (setV0 c2 ob.vx) (by first | omega | (simp only [List.length_set]; omega))) (by decide) rfl) ?_
     refine l_nil ?_
     exact f_owes_n (up_cons (d := 95) (up_cons (d := 101) rfl k0) k1) trivial (perm_front 0 rfl)
    rintro fa36 ⟨-,-,-,-,-,-,-,-,-,-,-,-,-,-,-,-,-,-,-,-,-⟩ ⟨j0,j1,j2,j3,j4,j5,-⟩
    refine f_re (L' := [pt b32 (.cells (bC ob) 52),pt b23 (.cells (bC (bodyD (x6.id) x6.comps)) 52),goodR hd ((es.take k).map (backE B)),rowF HdF 59 p c hd,pt b4 (.cells #[Ix (tick),sB p hd c] 24),pt b3 (.cells #[.int .i64 (0),.slice none 0 0] 24),pt b2 (.cells #[sB bva B (bvc),rv,Ix (gx),Ix (gy)] 30),pt b1 (.cells #[Ix (tick),sB va es (vc)] 24),pt (blk (fa22 7)) (.cells #[Ix (x6.id),sB (sla (fa22 37)) x6.comps (slc (fa22 37))] 59),rowF CompF 120 (sla (fa22 37)) (slc (fa22 37)) ((((x6.comps.set i1 (setV0 c1 ob.x)).set i1 (setV1 (setV0 c1 ob.x) ob.y)).set i2 (setV0 c2 ob.vx)).set i2 (setV1 (setV0 c2 ob.vx) ob.vy))]) (by rfl) ?_
    refine f_rebase (d := 2) j0 (f_rebase (d := 3) j1 (f_rebase (d := 4) j2 (f_rebase (d := 5) j3 (f_rebase (d := 6) j4 (f_rebase (d := 7) j5 (ftc ?_))))))
    refine lE (olg 8) (l_call rfl rfl rfl (cl0 (vs := [.agg #[Ix (x6.id),sB (sla (fa22 37)) x6.comps (slc (fa22 37))]]) tw52.ok rfl rfl) ?_)
    intro w hw
    replace hw := hw.perm (L' := _ :: _ :: _ :: _ :: _ :: _ :: _ :: _ :: _ :: _ :: []) (by exact ((((((((((perm_front 8 rfl).trans (perm_front 8 rfl)).trans (perm_front 8 rfl)).trans (perm_front 8 rfl)).trans (perm_front 8 rfl)).trans (perm_front 8 rfl)).trans (perm_front 8 rfl)).trans (perm_front 8 rfl)).trans (perm_front 8 rfl)).trans (perm_front 9 rfl)))
    obtain ⟨β1,sb,kn,hw1,back⟩ := St.frame (L := [_]) (M := _ :: _ :: _ :: _ :: _ :: _ :: _ :: _ :: _ :: []) hw
    refine (rfreeN_ok β1 w (x6.id) _ _ ((((x6.comps.set i1 (setV0 c1 ob.x)).set i1 (setV1 (setV0 c1 ob.x) ob.y)).set i2 (setV0 c2 ob.vx)).set i2 (setV1 (setV0 c2 ob.vx) ob.vy)) (m := x6.comps.length) (by simp only [List.length_set]) hw1).mono ?_
    rintro e w' ⟨rfl,hw'⟩
    refine ⟨_,rfl,_,back _ _ hw',?_⟩
    clear hw hw1 hw' back kn sb
    refine lnr (lE ofp (lE (ols 5) (lE (olg 9) ?_)))
    refine l_mv rfl rfl rfl (m_slices tw29 tw51.ok (cells := #[Ix (x6.id),sB (sla (fa22 37)) x6.comps (slc (fa22 37))]) rfl rfl rfl rfl) ?_
    rintro _ _ ⟨b37,rfl,rfl⟩
    refine l_mv rfl rfl rfl (m_appendFlN (F := HdF) 5 tw29 tw53 (p := p) (m := hd.length) (xs := hd) (ys := [(⟨(x6.id),(sla (fa22 37)),x6.comps.length,(slc (fa22 37))⟩ : KHd)]) (ao := (some ⟨b37,0,none⟩)) (k := 1) (c := 1) rfl rfl rfl rfl rfl (k_ptFl (z := (⟨(x6.id),(sla (fa22 37)),x6.comps.length,(slc (fa22 37))⟩ : KHd)) 0 rfl rfl) (by first | omega | simp only [List.length_nil,List.length_cons,List.length_append,List.length_set]; omega) (by first | omega | simp only [List.length_nil,List.length_cons,List.length_append,List.length_set]; omega)) ?_
    rintro _ _ ⟨rp38,rc39,rfl,rfl⟩
    refine lE ofp (lu (mS 6 (#[Ix (tick),sB rp38 (hd ++ [(⟨(x6.id),(sla (fa22 37)),x6.comps.length,(slc (fa22 37))⟩ : KHd)]) rc39])) (l_nil (f_block ?_)))
    refine f_then (c_region (lE omi (lv (v := Nx (k + 1)) (e_add rfl rfl (i64n (by omega) (by omega))) (lE oai (l_nil ?_)))))
    have hK : ((((x6.comps.set i1 (setV0 c1 ob.x)).set i1 (setV1 (setV0 c1 ob.x) ob.y)).set i2 (setV0 c2 ob.vx)).set i2 (setV1 (setV0 c2 ob.vx) ob.vy)).map (·.kind) = x6.comps.map (·.kind) := by simp only [List.set_set]; exact kinds_set2 hij hx1 hx2 rfl rfl
    have hY : (freeC ((((x6.comps.set i1 (setV0 c1 ob.x)).set i1 (setV1 (setV0 c1 ob.x) ob.y)).set i2 (setV0 c2 ob.vx)).set i2 (setV1 (setV0 c2 ob.vx) ob.vy))) = backC B x6.id x6.comps := (free_body h0 hK).trans (by simp only [List.set_set]; exact back_mov h0 (hfo _ hob) hfx hc1 hf1 hc2 hf2)
    refine f_pi [1,4,0,2,3,5,6,7,8,9,10] 11 rfl (by kernel_rfl) ?_
    refine f_merge (L := [rowF CompF 120 (sla (fa22 37)) (slc (fa22 37)) (freeC ((((x6.comps.set i1 (setV0 c1 ob.x)).set i1 (setV1 (setV0 c1 ob.x) ob.y)).set i2 (setV0 c2 ob.vx)).set i2 (setV1 (setV0 c2 ob.vx) ob.vy))),goodR hd ((es.take k).map (backE B))]) (M := [pt b37 (.cells #[Ix (x6.id),sB (sla (fa22 37)) x6.comps (slc (fa22 37))] 59),pt b32 (.cells (bC ob) 52),pt b23 (.cells (bC (bodyD (x6.id) x6.comps)) 52),rowF HdF 59 rp38 rc39 (hd ++ [(⟨(x6.id),(sla (fa22 37)),x6.comps.length,(slc (fa22 37))⟩ : KHd)]),pt b4 (.cells #[Ix (tick),sB rp38 (hd ++ [(⟨(x6.id),(sla (fa22 37)),x6.comps.length,(slc (fa22 37))⟩ : KHd)]) rc39] 24),pt b3 (.cells #[.int .i64 (0),.slice none 0 0] 24),pt b2 (.cells #[sB bva B (bvc),rv,Ix (gx),Ix (gy)] 30),pt b1 (.cells #[Ix (tick),sB va es (vc)] 24),pt (blk (fa22 7)) (.cells #[Ix (x6.id),sB (sla (fa22 37)) x6.comps (slc (fa22 37))] 59)]) (r := goodR (hd ++ [(⟨(x6.id),(sla (fa22 37)),x6.comps.length,(slc (fa22 37))⟩ : KHd)]) ((es.take (k + 1)).map (backE B))) (by rw [← back_next hx7 hY]; exact good_merge (by rw [hY,back_len])) ?_
    refine f_mask [true,false,false,false,true,true,true,true,true,false] rfl ?_
    exact f_cut ⟨(k + 1,(hd ++ [(⟨(x6.id),(sla (fa22 37)),x6.comps.length,(slc (fa22 37))⟩ : KHd)]),rp38,rc39),⟨⟨rfl,rfl,rfl,rfl,rfl⟩,rfl,⟨by omega,by rw [List.length_append]; simp only [sB,rB,List.length_cons,List.length_nil]; omega⟩⟩,(show es.length - (k + 1) < es.length - k from by omega)⟩
   have hfx : (bodyD x6.id x6.comps).fixed = true := by simpa using hc35
   refine csk (csr (lE (olg 8) (l_call rfl rfl rfl (cl0 (vs := [.agg #[Ix (x6.id),sB (sla (fa22 37)) x6.comps (slc (fa22 37))]]) tw52.ok rfl rfl) ?_)))
   intro w hw
   replace hw := hw.perm (L' := _ :: _ :: _ :: _ :: _ :: _ :: _ :: _ :: _ :: _ :: []) (by exact ((((((((((perm_front 8 rfl).trans (perm_front 8 rfl)).trans (perm_front 8 rfl)).trans (perm_front 8 rfl)).trans (perm_front 8 rfl)).trans (perm_front 8 rfl)).trans (perm_front 8 rfl)).trans (perm_front 8 rfl)).trans (perm_front 8 rfl)).trans (perm_front 9 rfl)))
   obtain ⟨β1,sb,kn,hw1,back⟩ := St.frame (L := [_]) (M := _ :: _ :: _ :: _ :: _ :: _ :: _ :: _ :: _ :: []) hw
   refine (rfreeN_ok β1 w (x6.id) _ _ ((x6.comps.set i1 (setV0 c1 ob.x)).set i1 (setV1 (setV0 c1 ob.x) ob.y)) (m := x6.comps.length) (by simp only [List.length_set]) hw1).mono ?_
   rintro e w' ⟨rfl,hw'⟩
   refine ⟨_,rfl,_,back _ _ hw',?_⟩
   clear hw hw1 hw' back kn sb
   refine lnr (lE ofp (lE (ols 5) (lE (olg 9) ?_)))
   refine l_mv rfl rfl rfl (m_slices tw29 tw51.ok (cells := #[Ix (x6.id),sB (sla (fa22 37)) x6.comps (slc (fa22 37))]) rfl rfl rfl rfl) ?_
   rintro _ _ ⟨b40,rfl,rfl⟩
   refine l_mv rfl rfl rfl (m_appendFlN (F := HdF) 5 tw29 tw53 (p := p) (m := hd.length) (xs := hd) (ys := [(⟨(x6.id),(sla (fa22 37)),x6.comps.length,(slc (fa22 37))⟩ : KHd)]) (ao := (some ⟨b40,0,none⟩)) (k := 1) (c := 1) rfl rfl rfl rfl rfl (k_ptFl (z := (⟨(x6.id),(sla (fa22 37)),x6.comps.length,(slc (fa22 37))⟩ : KHd)) 0 rfl rfl) (by first | omega | simp only [List.length_nil,List.length_cons,List.length_append,List.length_set]; omega) (by first | omega | simp only [List.length_nil,List.length_cons,List.length_append,List.length_set]; omega)) ?_
   rintro _ _ ⟨rp41,rc42,rfl,rfl⟩
   refine lE ofp (lu (mS 6 (#[Ix (tick),sB rp41 (hd ++ [(⟨(x6.id),(sla (fa22 37)),x6.comps.length,(slc (fa22 37))⟩ : KHd)]) rc42])) (l_nil (f_block ?_)))
   refine f_then (c_region (lE omi (lv (v := Nx (k + 1)) (e_add rfl rfl (i64n (by omega) (by omega))) (lE oai (l_nil ?_)))))
   have hK : ((x6.comps.set i1 (setV0 c1 ob.x)).set i1 (setV1 (setV0 c1 ob.x) ob.y)).map (·.kind) = x6.comps.map (·.kind) := by simp only [List.set_set]; exact kinds_set hx1 rfl
   have hY : (freeC ((x6.comps.set i1 (setV0 c1 ob.x)).set i1 (setV1 (setV0 c1 ob.x) ob.y))) = backC B x6.id x6.comps := (free_body h0 hK).trans (by simp only [List.set_set]; exact back_fix h0 (hfo _ hob) hfx hc1 hf1)
   refine f_pi [1,4,0,2,3,5,6,7,8,9,10] 11 rfl (by kernel_rfl) ?_
   refine f_merge (L := [rowF CompF 120 (sla (fa22 37)) (slc (fa22 37)) (freeC ((x6.comps.set i1 (setV0 c1 ob.x)).set i1 (setV1 (setV0 c1 ob.x) ob.y))),goodR hd ((es.take k).map (backE B))]) (M := [pt b40 (.cells #[Ix (x6.id),sB (sla (fa22 37)) x6.comps (slc (fa22 37))] 59),pt b32 (.cells (bC ob) 52),pt b23 (.cells (bC (bodyD (x6.id) x6.comps)) 52),rowF HdF 59 rp41 rc42 (hd ++ [(⟨(x6.id),(sla (fa22 37)),x6.comps.length,(slc (fa22 37))⟩ : KHd)]),pt b4 (.cells #[Ix (tick),sB rp41 (hd ++ [(⟨(x6.id),(sla (fa22 37)),x6.comps.length,(slc (fa22 37))⟩ : KHd)]) rc42] 24),pt b3 (.cells #[.int .i64 (0),.slice none 0 0] 24),pt b2 (.cells #[sB bva B (bvc),rv,Ix (gx),Ix (gy)] 30),pt b1 (.cells #[Ix (tick),sB va es (vc)] 24),pt (blk (fa22 7)) (.cells #[Ix (x6.id),sB (sla (fa22 37)) x6.comps (slc (fa22 37))] 59)]) (r := goodR (hd ++ [(⟨(x6.id),(sla (fa22 37)),x6.comps.length,(slc (fa22 37))⟩ : KHd)]) ((es.take (k + 1)).map (backE B))) (by rw [← back_next hx7 hY]; exact good_merge (by rw [hY,back_len])) ?_
   refine f_mask [true,false,false,false,true,true,true,true,true,false] rfl ?_
   exact f_cut ⟨(k + 1,(hd ++ [(⟨(x6.id),(sla (fa22 37)),x6.comps.length,(slc (fa22 37))⟩ : KHd)]),rp41,rc42),⟨⟨rfl,rfl,rfl,rfl,rfl⟩,rfl,⟨by omega,by rw [List.length_append]; simp only [sB,rB,List.length_cons,List.length_nil]; omega⟩⟩,(show es.length - (k + 1) < es.length - k from by omega)⟩
  exact absurd (by omega) hc31
 refine c_exit (f_then_exit (f_then_exit (f_exit (ftc (lE (olg 2) (lu (mS 3 (#[Ix (tick),sB p hd c])) (lnf (c_ret ?_))))))))
 refine retG (m := [.agg #[Ix (tick),sB p hd c]]) Tryz.results22 ⟨rd_cell tw48.ok rfl (k_pt 3 rfl rfl) rfl,trivial⟩ rfl ?_
 intro w hw
 have hw2 := st_mask (L' := [goodR hd ((es.take k).map (backE B)),rowF HdF 59 p c hd]) [true,true,false,false,false,false] rfl hw
 replace hw2 := hw2.perm (List.Perm.swap _ _ _)
 have hw3 := St.merge (M := []) hw2 ents_merge
 rw [List.take_of_length_le (by omega)] at hw3
 exact ⟨p,c,congrArg (fun n => Ending.returned (.agg #[Ix tick,.slice p n c])) (show hd.length = es.length by omega),hw3⟩
theorem rworldY_ok (β : Base) (w : World) (hw : St β [] w) (tick : Int) (v rv : Value) (gx gy : Int) (es : List KEnt) (rs : List KR) (hs : Sl EntR β.heap v es) (hr : Sl KRR β.heap rv rs) (hn : es.length ≤ 65536) (hrn : rs.length ≤ 65536) (hcl : ∀ e ∈ es, e.comps.length ≤ 65536) (hokS : okS (bodiesOf es) (ropesOf (bodiesOf es) rs) gx gy) (T : List KB) (S : List KS) (hTS : stepsTo (ropesOf (bodiesOf es) rs) gx gy (bodiesOf es) (bodiesOf es).length = (T, S)) : Calls Tryz.prog 25 #[.agg #[Ix tick, v], rv, .agg #[Ix gx, Ix gy]] w fun r w' => ∃ p c sp sc, r = .returned (.tuple #[.agg #[Ix tick, sB p es c], sB sp S sc, .int .i64 (0)]) ∧ St β [entsR p c (es.map (backE T)), rowF StopF 55 sp sc S] w' := by
 have hTl : T.length = (bodiesOf es).length := by have h := (step_keeps (rs := ropesOf (bodiesOf es) rs) (gx := gx) (gy := gy) hokS.2.2.2.1 (bodiesOf es).length).1.len; rw [hTS] at h; exact h
 refine enter (n := 29) Tryz.func25 rfl Tryz.ntmps25 rfl ?_ hw
 refine csr (bxa fun b1 => ?_)
 refine bxa fun b2 => ?_
 refine alE fun b3 => lE oas (lE oai (lnc (lE (olg 2) (lv e_move (lE (olg 1) ?_)))))
 refine lcf (cl0 (vs := [.agg #[Ix (tick),v],rv,.agg #[Ix (gx),Ix (gy)]]) tw57.ok rfl rfl) rfl fun w β1 sb kn hw1 back => (rbodies_ok β1 w hw1 _ _ _ (gx) (gy) es rs (Sl.mono _ _ _ _ _ sb hs) (Sl.mono _ _ _ _ _ sb hr) hn hrn).mono ?_
 rintro e w' ⟨p4,c5,p6,c7,rfl,hw'⟩
 refine ⟨_,rfl,_,back _ _ hw',?_⟩
 clear hw1 hw' back kn sb
 refine lcf (cl0 (vs := [.agg #[sB p4 (bodiesOf es) c5,sB p6 (ropesOf (bodiesOf es) rs) c7,Ix (gx),Ix (gy)]]) tw58.ok rfl rfl) rfl fun w β1 sb kn hw1 back => (stepRY_ok β1 w hw1 _ _ gx gy (bodiesOf es) (ropesOf (bodiesOf es) rs) (kn _ (k_flN 0 (F := BodyF) (m := (bodiesOf es).length) (xs := (bodiesOf es)) rfl rfl)) (kn _ (k_flN 1 (F := RopeF) (m := (ropesOf (bodiesOf es) rs).length) (xs := (ropesOf (bodiesOf es) rs)) rfl rfl)) hokS T S hTS).mono ?_
 rintro e w' ⟨p8,c9,p10,c11,p12,c13,rfl,hw'⟩
 refine ⟨_,rfl,_,back _ _ hw',?_⟩
 clear hw1 hw' back kn sb
 refine lE omt (lE oxa (lE oxs (lE oxi (alE fun b14 => lu (mS 0 (#[sB p8 (bodiesOf es) c9,sB p10 (ropesOf (bodiesOf es) rs) c11,Ix (gx),Ix (gy)])) ?_))))
 refine lE oas (lE oai (lnf (cs2 (c_region (lE omi (lE onq (lnf (c_no rfl (csk (csr (lE (olg 8) (lE (olg 0) ?_))))))))))))
 refine lcf (cl0 (vs := [.agg #[Ix (tick),v],.agg #[sB p8 (bodiesOf es) c9,sB p10 (ropesOf (bodiesOf es) rs) c11,Ix (gx),Ix (gy)]]) tw59.ok rfl rfl) rfl fun w β1 sb kn hw1 back => (rback_ok β1 w hw1 _ _ _ _ _ _ es T (Sl.mono _ _ _ _ _ sb hs) (kn _ (k_flN 1 (F := BodyF) (m := (bodiesOf es).length) (xs := T) rfl hTl.symm)) hn hcl).mono ?_
 rintro e w' ⟨p15,c16,rfl,hw'⟩
 refine ⟨_,rfl,_,back _ _ hw',?_⟩
 clear hw1 hw' back kn sb
 refine lE oms (lu (mS 7 (#[Ix (tick),sB p15 es c16])) (lE oas (lE oai (lnf (c_ret ?_)))))
 refine retG (m := [.agg #[Ix (tick),sB p15 es c16],sB p12 S c13,.int .i64 (0)]) Tryz.results25 ⟨rd_cell tw48.ok rfl (k_pt 7 rfl rfl) rfl,rd_tmp (v := sB p12 S c13) rfl,rd_tmp (v := .int .i64 (0)) rfl,trivial⟩ rfl ?_
 intro w hw
 have hw2 := st_mask (L' := [entsR p15 c16 (es.map (backE T)),rowF StopF 55 p12 c13 S]) [true,false,false,false,true,false,false,false,false,false] rfl hw
 exact ⟨p15,c16,p12,c13,rfl,hw2⟩
theorem rworldN_ok (β : Base) (w : World) (hw : St β [] w) (tick : Int) (v rv : Value) (gx gy : Int) (es : List KEnt) (rs : List KR) (hs : Sl EntR β.heap v es) (hr : Sl KRR β.heap rv rs) (hn : es.length ≤ 65536) (hrn : rs.length ≤ 65536) (hcl : ∀ e ∈ es, e.comps.length ≤ 65536) (hno : ¬ okS (bodiesOf es) (ropesOf (bodiesOf es) rs) gx gy) : Ret Tryz.prog 25 #[.agg #[Ix tick, v], rv, .agg #[Ix gx, Ix gy]] β w (.tuple #[.agg #[.int .i64 (0), .slice none 0 0], .slice none 0 0, .int .i64 (2)]) := by
 refine enter (n := 29) Tryz.func25 rfl Tryz.ntmps25 rfl ?_ hw
 refine csr (bxa fun b1 => ?_)
 refine bxa fun b2 => ?_
 refine alE fun b3 => lE oas (lE oai (lnc (lE (olg 2) (lv e_move (lE (olg 1) ?_)))))
 refine lcf (cl0 (vs := [.agg #[Ix (tick),v],rv,.agg #[Ix (gx),Ix (gy)]]) tw57.ok rfl rfl) rfl fun w β1 sb kn hw1 back => (rbodies_ok β1 w hw1 _ _ _ (gx) (gy) es rs (Sl.mono _ _ _ _ _ sb hs) (Sl.mono _ _ _ _ _ sb hr) hn hrn).mono ?_
 rintro e w' ⟨p4,c5,p6,c7,rfl,hw'⟩
 refine ⟨_,rfl,_,back _ _ hw',?_⟩
 clear hw1 hw' back kn sb
 refine lcR clA (fun w β1 sb kn hw1 => stepRN_ok β1 w hw1 _ _ gx gy (bodiesOf es) (ropesOf (bodiesOf es) rs) (kn _ (k_flN 0 (F := BodyF) (m := (bodiesOf es).length) (xs := (bodiesOf es)) rfl rfl)) (kn _ (k_flN 1 (F := RopeF) (m := (ropesOf (bodiesOf es) rs).length) (xs := (ropesOf (bodiesOf es) rs)) rfl rfl)) hno) ?_
 refine lE omt (lE oxa (lE oxs (lE oxi (alE fun b8 => lu (mS 0 (#[.slice none 0 0,.slice none 0 0,.int .i64 (0),.int .i64 (0)])) (lE oas (lE oai ?_))))))
 refine lnf (cs2 (c_region (lE omi (lE onq (lnf (c_yes rfl (csr ?_)))))))
 refine lv (v := .agg #[.int .i64 (0),.slice none 0 0]) (e_build tw45.ok tw47 (vs := []) (cells := #[.int .i64 (0),.slice none 0 0]) rfl rfl) ?_
 refine lE omi (lu (mS 3 (#[.int .i64 (0),.slice none 0 0])) (lE oas (lE oai (lnf (c_ret (f_then_ret ?_))))))
 refine retG (m := [.agg #[.int .i64 (0),.slice none 0 0],.slice none 0 0,.int .i64 (2)]) Tryz.results25 ⟨rd_cell tw48.ok rfl (k_pt 3 rfl rfl) rfl,rd_tmp (v := .slice none 0 0) rfl,rd_tmp (v := .int .i64 (2)) rfl,trivial⟩ rfl ?_
 intro w hw
 exact ⟨rfl,st_mask [false,false,false,false,false,false] rfl hw⟩
set_option maxHeartbeats 4000000 in
theorem backO_ok (β : Base) (w : World) (hw : St β [] w) (tick : Int) (v bv rv : Value) (gx gy : Int) (es : List KEnt) (B : List KB) (hs : Sl EntR β.heap v es) (hb : Sl KBR β.heap bv B) (hn : es.length ≤ 65536) (hcl : ∀ e ∈ es, e.comps.length ≤ 65536) : Calls Tryz.prog 19 #[.agg #[Ix tick, v], .agg #[bv, rv, Ix gx, Ix gy]] w fun r w' => ∃ p c hd, hd.length = es.length ∧ r = .returned (.agg #[Ix tick, sB p es c]) ∧ St β [rowF HdF 59 p c hd, goodO 120 hd (es.map (backE B))] w' := by
 obtain ⟨va,vc,rfl,vl,vm,ve⟩ := hs.get
 obtain ⟨bva,bvc,rfl,bvl,bvm,bve⟩ := hb.get
 refine enter (n := 113) Tryz.func19 rfl Tryz.ntmps19 rfl ?_ hw
 refine csr (bxa fun b1 => ?_)
 refine bxa fun b2 => ?_
 refine alE fun b3 => lnc (lE ofp (lE (oli 2) ?_))
 refine lv (v := .agg #[Ix (tick),.slice none 0 0]) (e_build tw45.ok tw47 (vs := [(0,Ix (tick))]) (cells := #[Ix (tick),.slice none 0 0]) rfl rfl) ?_
 refine alE fun b4 => lu (mS 0 (#[Ix (tick),.slice none 0 0])) (lnf (cs2 (c_emp (r := rowF HdF 59 none 0 []) (row_nil _ _ _) ?_)))
 refine c_emp (r := goodO 120 [] []) goodO_nil (c_region (lE ofp (lE (ols 5) (lE oln (lE omi (lnf (c_block ?_)))))))
 refine c_mask [true,true,true,true,true,true] rfl ?_
 refine c_loop (fun (x_ : Nat × List KHd × Option Addr × Nat) f L => match x_ with | (k,hd,p,c) => (f 3 = pp b2 0 ∧ f 4 = pp b3 0 ∧ f 5 = pp b4 0 ∧ f 17 = sB va es (vc) ∧ f 18 = Nx (es.length) ∧ f 19 = Nx (k)) ∧ L = [goodO 120 hd ((es.take k).map (backE B)),rowF HdF 59 p c hd,pt b4 (.cells #[Ix (tick),sB p hd c] 24),pt b3 (.cells #[.int .i64 (0),.slice none 0 0] 24),pt b2 (.cells #[sB bva B (bvc),rv,Ix (gx),Ix (gy)] 30),pt b1 (.cells #[Ix (tick),sB va es (vc)] 24)] ∧ (k ≤ es.length ∧ hd.length = k)) (fun (k,hd,p,c) => es.length - k) (0,[],none,0) ?_ ?_
 ·exact ⟨⟨rfl,rfl,rfl,rfl,rfl,rfl⟩,rfl,⟨by omega,rfl⟩⟩
 rintro ⟨k,hd,p,c⟩ f0 L0 ⟨⟨hs3,hs4,hs5,hs17,hs18,hs19⟩,hL,⟨hk,hdl⟩⟩
 subst L0
 refine rbs 3 hs3 (rbs 4 hs4 (rbs 5 hs5 (rbs 17 hs17 (rbs 18 hs18 (rbs 19 hs19 (csr (lE olt (lnf (c_seq (c_if _ rfl (fun hc5 => ?_) (fun hc5 => ?_)))))))))))
 ·refine csk (c_seq (c_block (csr ?_)))
  obtain ⟨x6,hx7⟩ := getx es k (by omega)
  obtain ⟨ha8,cs9,hc10,hr11⟩ := ve _ _ hx7
  obtain ⟨v12,rfl,hv13⟩ := hr11
  obtain ⟨v12a,v12c,rfl,v12l,v12m,v12e⟩ := hv13.get
  refine lE (oia tw29 ha8) (lv (v := .agg #[Ix (x6.id),sB v12a x6.comps (v12c)]) (e_load tw7.ok rfl (kB hc10) rfl) (alE fun b14 => ?_))
  refine lu (mS 0 (#[Ix (x6.id),sB v12a x6.comps (v12c)])) (lnf (c_seq ?_))
  have hcx := hcl x6 (List.mem_of_getElem? hx7)
  refine c_region (lE ofp (lE (ols 0) ?_))
  refine lcf (cl0 (vs := [sB v12a x6.comps (v12c)]) tw60.ok rfl rfl) rfl fun w β1 sb kn hw1 back => (cloneC_ok β1 w hw1 _ x6.comps (Sl.mono _ _ _ _ _ sb (⟨⟨_,_,rfl,v12l,v12m,v12e⟩⟩ : Sl CompR _ _ x6.comps)) (by omega)).mono ?_
  rintro e w' ⟨p15,c16,rfl,hw'⟩
  refine ⟨_,rfl,_,back _ _ hw',?_⟩
  clear hw1 hw' back kn sb
  refine lE ofp (lu (mS 1 (#[Ix (x6.id),sB p15 x6.comps c16])) (lnc (lE ofp (lE (ols 4) (lE (olg 1) ?_)))))
  refine l_mv rfl rfl rfl (m_slices tw29 tw51.ok (cells := #[Ix (x6.id),sB p15 x6.comps c16]) rfl rfl rfl rfl) ?_
  rintro _ _ ⟨b17,rfl,rfl⟩
  refine l_mv rfl rfl rfl (m_appendFlN (F := HdF) 4 tw29 tw53 (p := p) (m := hd.length) (xs := hd) (ys := [(⟨(x6.id),p15,x6.comps.length,c16⟩ : KHd)]) (ao := (some ⟨b17,0,none⟩)) (k := 1) (c := 1) rfl rfl rfl rfl rfl (k_ptFl (z := (⟨(x6.id),p15,x6.comps.length,c16⟩ : KHd)) 0 rfl rfl) (by first | omega | simp only [List.length_nil,List.length_cons,List.length_append,List.length_set]; omega) (by first | omega | simp only [List.length_nil,List.length_cons,List.length_append,List.length_set]; omega)) ?_
  rintro _ _ ⟨rp18,rc19,rfl,rfl⟩
  refine lE ofp (lu (mS 5 (#[Ix (tick),sB rp18 (hd ++ [(⟨(x6.id),p15,x6.comps.length,c16⟩ : KHd)]) rc19])) (lnf (c_seq ?_)))
  refine c_quiet (by kernel_rfl) (by kernel_rfl) (qE (olg 2) ?_)
  refine q_call (v := .pointer (optP p15 x6.comps 1)) rfl rfl rfl (cl0 (vs := [.agg #[Ix (x6.id),sB p15 x6.comps c16],.int .u8 (1)]) tw61.ok rfl rfl) (fun w hw => ?_) ?_
  ·obtain ⟨β1,sb,kn,hw1,back⟩ := St.frame_all hw
   exact (first_ok β1 w hw1 (x6.id) p15 c16 x6.comps (kn _ (k_flN 1 (F := CompF) (m := x6.comps.length) (xs := x6.comps) rfl rfl)) 1).mono (fun e w' ⟨he,hw'⟩ => ⟨he,st_mask [true,true,true,true,true,true,true,true,true] rfl (back _ _ hw')⟩)
  refine qE (olg 2) ?_
  refine q_call (v := .pointer (optP p15 x6.comps 2)) rfl rfl rfl (cl0 (vs := [.agg #[Ix (x6.id),sB p15 x6.comps c16],.int .u8 (2)]) tw61.ok rfl rfl) (fun w hw => ?_) ?_
  ·obtain ⟨β1,sb,kn,hw1,back⟩ := St.frame_all hw
   exact (first_ok β1 w hw1 (x6.id) p15 c16 x6.comps (kn _ (k_flN 1 (F := CompF) (m := x6.comps.length) (xs := x6.comps) rfl rfl)) 2).mono (fun e w' ⟨he,hw'⟩ => ⟨he,st_mask [true,true,true,true,true,true,true,true,true] rfl (back _ _ hw')⟩)
  refine qE oap (qE oap (q_nil (ftc (lE (olg 2) ?_))))
  refine lcR clA (fun w β1 sb kn hw1 => body_ok β1 w hw1 (x6.id) p15 c16 x6.comps (kn _ (k_flN 1 (F := CompF) (m := x6.comps.length) (xs := x6.comps) rfl rfl))) ?_
  refine lE omt (lE oxa (lE oxb (alE fun b20 => lu (mS 0 (bC (bodyD (x6.id) x6.comps))) (lE oab (lnf (cs2 (c_region (lE omb (lE ont (lnf ?_))))))))))
  refine c_ifb (!((bodyOf (x6.id) x6.comps).isSome)) rfl (fun hc21 => ?_) (fun hc21 => ?_)
  ·have h0 : (bodyOf x6.id x6.comps).isSome = false := by simpa using hc21
   refine cs2 (c_region (lE omp (lv (v := .bool (!(optP p15 x6.comps 1).isNone)) (e_neq_pnil (p := optP p15 x6.comps 1) rfl rfl tw63) (lE omb ?_))))
   refine l_splitb (s := 46) (b := !(optP p15 x6.comps 1).isNone) rfl (fun hg22 => ?_) (fun hg22 => ?_)
   ·have hq23 : (optP p15 x6.comps 1).isNone = false := by simpa using hg22
    obtain ⟨i1,c1,hi1,hk1,hx1,hp1,hf1⟩ := optP_some hq23
    have hl1 := (List.getElem?_eq_some_iff.1 hi1).1
    rw [hp1]
    refine gE omp (g_val (v := .bool (!(optP p15 x6.comps 2).isNone)) rfl rfl rfl rfl rfl (e_neq_pnil (p := optP p15 x6.comps 2) rfl rfl tw63) ?_)
    refine lE oktb (lE omb (l_splitb (s := 50) (b := !(optP p15 x6.comps 2).isNone) rfl (fun hg24 => ?_) (fun hg24 => ?_)))
    ·have hq25 : (optP p15 x6.comps 2).isNone = false := by simpa using hg24
     obtain ⟨i2,c2,hi2,hk2,hx2,hp2,hf2⟩ := optP_some hq25
     have hl2 := (List.getElem?_eq_some_iff.1 hi2).1
     rw [hp2]
     have hij : i1 ≠ i2 := idx_ne hi1 hi2 hk1 hk2
     refine gE (olg 3) (g_call rfl rfl rfl rfl rfl (cl0 (vs := [.agg #[Ix (x6.id),sB p15 x6.comps c16],.int .u8 (3)]) tw61.ok rfl rfl) ?_)
     intro w hw
     obtain ⟨β1,sb,kn,hw1,back⟩ := St.frame_all hw
     refine (first_ok β1 w hw1 (x6.id) p15 c16 x6.comps (kn _ (k_flN 2 (F := CompF) (m := x6.comps.length) (xs := x6.comps) rfl rfl)) 3).mono ?_
     rintro e w' ⟨rfl,hw'⟩
     refine ⟨_,rfl,_,back _ _ hw',?_⟩
     clear hw hw1 hw' back kn sb
     refine g_val (v := .bool ((optP p15 x6.comps 3).isNone)) rfl rfl rfl rfl rfl (e_eql_pnil (p := optP p15 x6.comps 3) rfl rfl tw63) (lE oktb (lnf ?_))
     refine c_ifb ((optP p15 x6.comps 3).isNone) rfl (fun hc26 => ?_) (fun hc26 => ?_)
     ·have hq27 : (optP p15 x6.comps 3).isNone = true := by simpa using hc26
      have hn3 := (optP_none hq27).1
      refine c_region (lE omp (lE omp ?_))
      refine l_call rfl rfl rfl (cl0 (vs := [.pointer (some ((ba p15).add (i1 * 5))),.pointer (some ((ba p15).add (i2 * 5)))]) tw64.ok rfl rfl) ?_
      intro w hw
      replace hw := hw.perm (L' := _ :: _ :: _ :: _ :: _ :: _ :: _ :: _ :: _ :: _ :: []) (by exact ((((((((((perm_front 9 rfl).trans (perm_front 9 rfl)).trans (perm_front 9 rfl)).trans (perm_front 9 rfl)).trans (perm_front 9 rfl)).trans (perm_front 9 rfl)).trans (perm_front 9 rfl)).trans (perm_front 8 rfl)).trans (perm_front 8 rfl)).trans (perm_front 9 rfl)))
      obtain ⟨β1,sb,kn,hw1,back⟩ := St.frame (L := [_]) (M := _ :: _ :: _ :: _ :: _ :: _ :: _ :: _ :: _ :: []) hw
      refine (fly_ok β1 w _ _ x6.comps i1 i2 c1 c2 hi1 hi2 hij hw1).mono ?_
      rintro e w' ⟨rfl,hw'⟩
      refine ⟨_,rfl,_,back _ _ hw',?_⟩
      clear hw hw1 hw' back kn sb
      refine lnf (c_exit (f_then_exit (f_exit (f_then (c_region (lv (v := Nx (k + 1)) (e_add rfl rfl (i64n (by omega) (by omega))) (lE omi (l_nil ?_))))))))
      have hY : (flyC x6.comps i1 i2 c1 c2) = backC B x6.id x6.comps := (back_fly h0 hx1 hf1 hx2 hf2 hn3)
      refine f_pi [0,4,1,2,3,5,6,7,8,9] 10 rfl (by kernel_rfl) ?_
      refine f_merge (L := [rowF CompF 120 p15 c16 (flyC x6.comps i1 i2 c1 c2),goodO 120 hd ((es.take k).map (backE B))]) (M := [pt b20 (.cells (bC (bodyD (x6.id) x6.comps)) 52),pt b17 (.cells #[Ix (x6.id),sB p15 x6.comps c16] 59),pt b14 (.cells #[Ix (x6.id),sB p15 x6.comps c16] 59),rowF HdF 59 rp18 rc19 (hd ++ [(⟨(x6.id),p15,x6.comps.length,c16⟩ : KHd)]),pt b4 (.cells #[Ix (tick),sB rp18 (hd ++ [(⟨(x6.id),p15,x6.comps.length,c16⟩ : KHd)]) rc19] 24),pt b3 (.cells #[.int .i64 (0),.slice none 0 0] 24),pt b2 (.cells #[sB bva B (bvc),rv,Ix (gx),Ix (gy)] 30),pt b1 (.cells #[Ix (tick),sB va es (vc)] 24)]) (r := goodO 120 (hd ++ [(⟨(x6.id),p15,x6.comps.length,c16⟩ : KHd)]) ((es.take (k + 1)).map (backE B))) (by rw [← back_next hx7 hY]; exact goodO_merge (cs := (flyC x6.comps i1 i2 c1 c2)) (m := x6.comps.length) (by rw [hY,back_len])) ?_
      refine f_mask [true,false,false,false,true,true,true,true,true] rfl ?_
      exact f_cut ⟨(k + 1,(hd ++ [(⟨(x6.id),p15,x6.comps.length,c16⟩ : KHd)]),rp18,rc19),⟨⟨rfl,rfl,rfl,rfl,rfl,rfl⟩,rfl,⟨by omega,by rw [List.length_append]; simp only [sB,rB,List.length_cons,List.length_nil]; omega⟩⟩,(show es.length - (k + 1) < es.length - k from by omega)⟩
     have hq28 : (optP p15 x6.comps 3).isNone = false := by simpa using hc26
     obtain ⟨i3,c3,-,-,hx3,-,-⟩ := optP_some hq28
     refine csk (c_exit (f_then_exit (f_exit (f_then (c_region (lv (v := Nx (k + 1)) (e_add rfl rfl (i64n (by omega) (by omega))) (lE omi (l_nil ?_))))))))
     have hY : x6.comps = backC B x6.id x6.comps := (back_no h0 (.inr (.inr ⟨_,hx3⟩)))
     refine f_pi [2,4,0,1,3,5,6,7,8,9] 10 rfl (by kernel_rfl) ?_
     refine f_merge (L := [rowF CompF 120 p15 c16 x6.comps,goodO 120 hd ((es.take k).map (backE B))]) (M := [pt b20 (.cells (bC (bodyD (x6.id) x6.comps)) 52),pt b17 (.cells #[Ix (x6.id),sB p15 x6.comps c16] 59),pt b14 (.cells #[Ix (x6.id),sB p15 x6.comps c16] 59),rowF HdF 59 rp18 rc19 (hd ++ [(⟨(x6.id),p15,x6.comps.length,c16⟩ : KHd)]),pt b4 (.cells #[Ix (tick),sB rp18 (hd ++ [(⟨(x6.id),p15,x6.comps.length,c16⟩ : KHd)]) rc19] 24),pt b3 (.cells #[.int .i64 (0),.slice none 0 0] 24),pt b2 (.cells #[sB bva B (bvc),rv,Ix (gx),Ix (gy)] 30),pt b1 (.cells #[Ix (tick),sB va es (vc)] 24)]) (r := goodO 120 (hd ++ [(⟨(x6.id),p15,x6.comps.length,c16⟩ : KHd)]) ((es.take (k + 1)).map (backE B))) (by rw [← back_next hx7 hY]; exact goodO_merge (cs := x6.comps) (m := x6.comps.length) (by rw [hY,back_len])) ?_
     refine f_mask [true,false,false,false,true,true,true,true,true] rfl ?_
     exact f_cut ⟨(k + 1,(hd ++ [(⟨(x6.id),p15,x6.comps.length,c16⟩ : KHd)]),rp18,rc19),⟨⟨rfl,rfl,rfl,rfl,rfl,rfl⟩,rfl,⟨by omega,by rw [List.length_append]; simp only [sB,rB,List.length_cons,List.length_nil]; omega⟩⟩,(show es.length - (k + 1) < es.length - k from by omega)⟩
    have hq29 : (optP p15 x6.comps 2).isNone = true := by simpa using hg24
    refine skE (skE (skE (lE okfb (lnf (c_no rfl (csk (c_exit (f_then_exit (f_exit (f_then (c_region ?_)))))))))))
    refine lv (v := Nx (k + 1)) (e_add rfl rfl (i64n (by omega) (by omega))) (lE omi (l_nil ?_))
    have hY : x6.comps = backC B x6.id x6.comps := (back_no h0 (.inr (.inl (optP_none hq29).1)))
    refine f_pi [2,4,0,1,3,5,6,7,8,9] 10 rfl (by kernel_rfl) ?_
    refine f_merge (L := [rowF CompF 120 p15 c16 x6.comps,goodO 120 hd ((es.take k).map (backE B))]) (M := [pt b20 (.cells (bC (bodyD (x6.id) x6.comps)) 52),pt b17 (.cells #[Ix (x6.id),sB p15 x6.comps c16] 59),pt b14 (.cells #[Ix (x6.id),sB p15 x6.comps c16] 59),rowF HdF 59 rp18 rc19 (hd ++ [(⟨(x6.id),p15,x6.comps.length,c16⟩ : KHd)]),pt b4 (.cells #[Ix (tick),sB rp18 (hd ++ [(⟨(x6.id),p15,x6.comps.length,c16⟩ : KHd)]) rc19] 24),pt b3 (.cells #[.int .i64 (0),.slice none 0 0] 24),pt b2 (.cells #[sB bva B (bvc),rv,Ix (gx),Ix (gy)] 30),pt b1 (.cells #[Ix (tick),sB va es (vc)] 24)]) (r := goodO 120 (hd ++ [(⟨(x6.id),p15,x6.comps.length,c16⟩ : KHd)]) ((es.take (k + 1)).map (backE B))) (by rw [← back_next hx7 hY]; exact goodO_merge (cs := x6.comps) (m := x6.comps.length) (by rw [hY,back_len])) ?_
    refine f_mask [true,false,false,false,true,true,true,true,true] rfl ?_
    exact f_cut ⟨(k + 1,(hd ++ [(⟨(x6.id),p15,x6.comps.length,c16⟩ : KHd)]),rp18,rc19),⟨⟨rfl,rfl,rfl,rfl,rfl,rfl⟩,rfl,⟨by omega,by rw [List.length_append]; simp only [sB,rB,List.length_cons,List.length_nil]; omega⟩⟩,(show es.length - (k + 1) < es.length - k from by omega)⟩
   have hq30 : (optP p15 x6.comps 1).isNone = true := by simpa using hg22
   refine skE (skE (lE okfb (lE omb (skE (skE (skE (lE okfb (lnf (c_no rfl (csk (c_exit (f_then_exit (f_exit (f_then (c_region ?_)))))))))))))))
   refine lv (v := Nx (k + 1)) (e_add rfl rfl (i64n (by omega) (by omega))) (lE omi (l_nil ?_))
   have hY : x6.comps = backC B x6.id x6.comps := (back_no h0 (.inl (optP_none hq30).1))
   refine f_pi [2,4,0,1,3,5,6,7,8,9] 10 rfl (by kernel_rfl) ?_
   refine f_merge (L := [rowF CompF 120 p15 c16 x6.comps,goodO 120 hd ((es.take k).map (backE B))]) (M := [pt b20 (.cells (bC (bodyD (x6.id) x6.comps)) 52),pt b17 (.cells #[Ix (x6.id),sB p15 x6.comps c16] 59),pt b14 (.cells #[Ix (x6.id),sB p15 x6.comps c16] 59),rowF HdF 59 rp18 rc19 (hd ++ [(⟨(x6.id),p15,x6.comps.length,c16⟩ : KHd)]),pt b4 (.cells #[Ix (tick),sB rp18 (hd ++ [(⟨(x6.id),p15,x6.comps.length,c16⟩ : KHd)]) rc19] 24),pt b3 (.cells #[.int .i64 (0),.slice none 0 0] 24),pt b2 (.cells #[sB bva B (bvc),rv,Ix (gx),Ix (gy)] 30),pt b1 (.cells #[Ix (tick),sB va es (vc)] 24)]) (r := goodO 120 (hd ++ [(⟨(x6.id),p15,x6.comps.length,c16⟩ : KHd)]) ((es.take (k + 1)).map (backE B))) (by rw [← back_next hx7 hY]; exact goodO_merge (cs := x6.comps) (m := x6.comps.length) (by rw [hY,back_len])) ?_
   refine f_mask [true,false,false,false,true,true,true,true,true] rfl ?_
   exact f_cut ⟨(k + 1,(hd ++ [(⟨(x6.id),p15,x6.comps.length,c16⟩ : KHd)]),rp18,rc19),⟨⟨rfl,rfl,rfl,rfl,rfl,rfl⟩,rfl,⟨by omega,by rw [List.length_append]; simp only [sB,rB,List.length_cons,List.length_nil]; omega⟩⟩,(show es.length - (k + 1) < es.length - k from by omega)⟩
  have h0 : (bodyOf x6.id x6.comps).isSome = true := by simpa using hc21
  have hN1 := body_has1 (a := p15) h0
  obtain ⟨i1,c1,hi1,hk1,hx1,hp1,hf1⟩ := optP_some hN1
  have hl1 := (List.getElem?_eq_some_iff.1 hi1).1
  rw [hp1]
  refine csk (csr (lE ofp (lE (ols 8) (lv (v := .func (.func 68) #[] #[pp b14 0]) (e_func (u := []) (v := [pp b14 0]) rfl rfl) ?_))))
  refine lcR clA (fun w β1 sb kn hw1 => indexB_ok β1 w hw1 _ _ B (Sl.mono _ _ _ _ _ sb hb) (fun b => decide (b.id = (x6.id))) (fnv_all (back1_fn β1 b14 (x6.id) _ (kn _ (k_pt 3 (o := 0) rfl rfl))))) ?_
  refine lE oai (lnf (cs2 ?_))
  rcases idxB_cases B x6.id with ⟨hn,hfn⟩ | ⟨ib,hib,hlb,hfo⟩
  ·refine c_region (lE omi (lE olt (lnf (c_if _ rfl (fun hc31 => ?_) (fun hc31 => ?_)))))
   ·refine c_exit (f_then_exit (f_exit (f_then (c_region (lv (v := Nx (k + 1)) (e_add rfl rfl (i64n (by omega) (by omega))) (lE omi (l_nil ?_)))))))
    have hY : x6.comps = backC B x6.id x6.comps := (back_lost h0 hfn)
    refine f_pi [2,4,0,1,3,5,6,7,8,9] 10 rfl (by kernel_rfl) ?_
    refine f_merge (L := [rowF CompF 120 p15 c16 x6.comps,goodO 120 hd ((es.take k).map (backE B))]) (M := [pt b20 (.cells (bC (bodyD (x6.id) x6.comps)) 52),pt b17 (.cells #[Ix (x6.id),sB p15 x6.comps c16] 59),pt b14 (.cells #[Ix (x6.id),sB p15 x6.comps c16] 59),rowF HdF 59 rp18 rc19 (hd ++ [(⟨(x6.id),p15,x6.comps.length,c16⟩ : KHd)]),pt b4 (.cells #[Ix (tick),sB rp18 (hd ++ [(⟨(x6.id),p15,x6.comps.length,c16⟩ : KHd)]) rc19] 24),pt b3 (.cells #[.int .i64 (0),.slice none 0 0] 24),pt b2 (.cells #[sB bva B (bvc),rv,Ix (gx),Ix (gy)] 30),pt b1 (.cells #[Ix (tick),sB va es (vc)] 24)]) (r := goodO 120 (hd ++ [(⟨(x6.id),p15,x6.comps.length,c16⟩ : KHd)]) ((es.take (k + 1)).map (backE B))) (by rw [← back_next hx7 hY]; exact goodO_merge (cs := x6.comps) (m := x6.comps.length) (by rw [hY,back_len])) ?_
    refine f_mask [true,false,false,false,true,true,true,true,true] rfl ?_
    exact f_cut ⟨(k + 1,(hd ++ [(⟨(x6.id),p15,x6.comps.length,c16⟩ : KHd)]),rp18,rc19),⟨⟨rfl,rfl,rfl,rfl,rfl,rfl⟩,rfl,⟨by omega,by rw [List.length_append]; simp only [sB,rB,List.length_cons,List.length_nil]; omega⟩⟩,(show es.length - (k + 1) < es.length - k from by omega)⟩
   exact absurd hn hc31
  rw [hib]
  refine c_region (lE omi (lE olt (lnf (c_if _ rfl (fun hc32 => ?_) (fun hc32 => ?_)))))
  ·exact absurd hc32 (by omega)
  refine csk (c_seq ?_)
  obtain ⟨ob,hob⟩ := getx B ib (by omega)
  obtain ⟨hao,co,hco,rfl⟩ := bve _ _ hob
  refine cny [sv 64 (.pointer (some ((ba p15).add (i1 * 5)))) [] [] [0],sv 65 (.pointer (some ((ba p15).add (i1 * 5)))) [] [] [0],sv 66 (pp b2 0) [] [] [1],sv 67 (sB bva B (bvc)) [2] [2] [],sv 68 (Nx (ib)) [] [] [2],sv 69 (.pointer (some ((ba bva).add (ib * 9)))) [2,3,4] [3,4] [],sv 70 (.pointer (some (((ba bva).add (ib * 9) : Addr).add 1))) [2,3,4,5] [5] [],sv 71 (.pointer (some ((((ba bva).add (ib * 9) : Addr).add 1 : Addr).add 0))) [2,3,4,5,6] [6] [],sv 72 (Ix (ob.x)) [2,3,4,5,6,7] [7] [],sv 73 (pp b2 0) [] [] [1],sv 74 (sB bva B (bvc)) [9] [9] [],sv 75 (Nx (ib)) [] [] [2],sv 76 (.pointer (some ((ba bva).add (ib * 9)))) [9,10,11] [10,11] [],sv 77 (.pointer (some (((ba bva).add (ib * 9) : Addr).add 1))) [9,10,11,12] [12] [],sv 78 (.pointer (some ((((ba bva).add (ib * 9) : Addr).add 1 : Addr).add 1))) [9,10,11,12,13] [13] [],sv 79 (Ix (ob.y)) [9,10,11,12,13,14] [14] [],sv 80 (.pointer (some ((ba p15).add (i1 * 5)))) [0] [0] [],sv 81 (.pointer (some ((ba p15).add (i1 * 5 + 1)))) [0,16] [16] [],sv 82 (.pointer (some ((ba p15).add (i1 * 5 + 1)))) [0,2,3,4,5,6,7,8,9,10,11,12,13,14,15,16,17] [17] [],⟨[0,2,3,4,5,6,7,8,9,10,11,12,13,14,15,16,17,18],[18,8],[],[],fun _ => True⟩,sv 83 (.pointer (some ((ba p15).add (i1 * 5)))) [1] [1] [],sv 84 (.pointer (some ((ba p15).add (i1 * 5 + 1)))) [1,20] [20] [],sv 85 (.pointer (some ((ba p15).add (i1 * 5 + 2)))) (List.range 22) [21] [],⟨(List.range 23),[22,15],[],[],fun _ => True⟩] [tk (pt b20 (.cells (bC (bodyD (x6.id) x6.comps)) 52)) [],tk (pt b17 (.cells #[Ix (x6.id),sB p15 x6.comps c16] 59)) [],⟨none,(some 19),[19],[],fun _ => rowF CompF 120 p15 c16 x6.comps⟩,tk (pt b14 (.cells #[Ix (x6.id),sB p15 x6.comps c16] 59)) [],tk (goodO 120 hd ((es.take k).map (backE B))) [],tk (rowF HdF 59 rp18 rc19 (hd ++ [(⟨(x6.id),p15,x6.comps.length,c16⟩ : KHd)])) [],tk (pt b4 (.cells #[Ix (tick),sB rp18 (hd ++ [(⟨(x6.id),p15,x6.comps.length,c16⟩ : KHd)]) rc19] 24)) [],tk (pt b3 (.cells #[.int .i64 (0),.slice none 0 0] 24)) [],tk (pt b2 (.cells #[sB bva B (bvc),rv,Ix (gx),Ix (gy)] 30)) [3,10],tk (pt b1 (.cells #[Ix (tick),sB va es (vc)] 24)) [],⟨(some 19),(some 23),[23],[],fun _ => rowF CompF 120 p15 c16 (x6.comps.set i1 (setV0 c1 ob.x))⟩,⟨(some 23),none,[],[],fun _ => rowF CompF 120 p15 c16 ((x6.comps.set i1 (setV0 c1 ob.x)).set i1 (setV1 (setV0 c1 ob.x) ob.y))⟩] [(8,.pointer (some ((ba p15).add (i1 * 5)))),(3,pp b2 0),(12,Nx (ib)),(4,pp b3 0),(5,pp b4 0),(9,.pointer (optP p15 x6.comps 2)),(10,pp b20 0),(17,sB va es (vc)),(18,Nx (es.length)),(19,Nx (k))] [1,3,4,5,6,2,7,8,9] [] ⟨rfl,rfl,rfl,rfl,rfl,rfl,rfl,rfl,rfl,rfl,trivial⟩ ⟨?_,?_,?_,?_,?_,?_,?_,?_,?_,?_,?_,?_,?_,?_,?_,?_,?_,?_,?_,?_,?_,?_,?_,?_,trivial⟩ ?_
  ·rintro f M - ⟨i0,-⟩
   exact obE omp
  ·rintro f M - ⟨i0,-⟩
   exact obE omp
  ·rintro f M - ⟨i0,-⟩
   exact obE ofp
  ·rintro f M ⟨k0,-⟩ -
   exact obE (ols 0)
  ·rintro f M - ⟨i0,-⟩
   exact obE omi
  ·rintro f M ⟨k0,k1,-⟩ -
   exact ob0 (up_cons (d := 68) (up_cons (d := 67) rfl k0) k1) rfl (e_indexAddr rfl rfl tw33 (by omega) hao) (.refl _)
  ·rintro f M ⟨k0,-⟩ -
   exact obE ofa
  ·rintro f M ⟨k0,-⟩ -
   exact obE ofa
  ·rintro f M ⟨k0,-⟩ -
   exact ob0 (up_cons (d := 71) rfl k0) rfl (e_load1 tw15.ok rfl (Knows.imp (Knows.imp (kB hco) (fun _ h => Cs.sub (vs := [Ix (ob.x),Ix (ob.y)]) 1 h rfl)) (fun _ h => Cs.sub (vs := [Ix (ob.x)]) 0 h rfl))) (.refl _)
  ·rintro f M - ⟨i0,-⟩
   exact obE ofp
  ·rintro f M ⟨k0,-⟩ -
   exact obE (ols 0)
  ·rintro f M - ⟨i0,-⟩
   exact obE omi
  ·rintro f M ⟨k0,k1,-⟩ -
   exact ob0 (up_cons (d := 75) (up_cons (d := 74) rfl k0) k1) rfl (e_indexAddr rfl rfl tw33 (by omega) hao) (.refl _)
  ·rintro f M ⟨k0,-⟩ -
   exact obE ofa
  ·rintro f M ⟨k0,-⟩ -
   exact obE ofa
  ·rintro f M ⟨k0,-⟩ -
   exact ob0 (up_cons (d := 78) rfl k0) rfl (e_load1 tw15.ok rfl (Knows.imp (Knows.imp (kB hco) (fun _ h => Cs.sub (vs := [Ix (ob.x),Ix (ob.y)]) 1 h rfl)) (fun _ h => Cs.sub (vs := [Ix (ob.y)]) 1 h rfl))) (.refl _)
  ·rintro f M ⟨k0,-⟩ -
   exact obE onp
  ·rintro f M ⟨k0,-⟩ -
   exact ob0 (up_cons (d := 80) rfl k0) rfl (e_fd rfl tw11.ok) (.refl _)
  ·rintro f M ⟨k0,-⟩ -
   exact ob0 (up_cons (d := 81) rfl k0) rfl (e_xd 0 rfl rfl tw16.ok (by decide)) (.refl _)
  ·rintro f M ⟨k0,k1,-⟩ -
   refine ob_start (L' := rowF CompF 120 p15 c16 x6.comps :: M) (by rfl) (up_cons (d := 72) (up_cons (d := 82) rfl k0) k1) ?_
   refine lu (m_storeFlPart 0 (F := CompF) (p := p15) (k := i1) (o := 1) (xs := x6.comps) (z0 := c1) (z := (setV0 c1 ob.x)) tw15.ok rfl rfl rfl rfl rfl hi1 (by decide) rfl) ?_
   refine l_nil ?_
   exact f_owes_n (up_cons (d := 72) (up_cons (d := 82) rfl k0) k1) trivial (perm_front 0 rfl)
  ·rintro f M ⟨k0,-⟩ -
   exact obE onp
  ·rintro f M ⟨k0,-⟩ -
   exact ob0 (up_cons (d := 83) rfl k0) rfl (e_fd rfl tw11.ok) (.refl _)
  ·rintro f M ⟨k0,-⟩ -
   exact ob0 (up_cons (d := 84) rfl k0) rfl (e_xd 1 rfl rfl tw16.ok (by decide)) (.refl _)
  ·rintro f M ⟨k0,k1,-⟩ -
   refine ob_start (L' := rowF CompF 120 p15 c16 (x6.comps.set i1 (setV0 c1 ob.x)) :: M) (by rfl) (up_cons (d := 79) (up_cons (d := 85) rfl k0) k1) ?_
   refine lu (m_storeFlPart 0 (F := CompF) (p := p15) (k := i1) (o := 2) (xs := (x6.comps.set i1 (setV0 c1 ob.x))) (z0 := (setV0 c1 ob.x)) (z := (setV1 (setV0 c1 ob.x) ob.y)) tw15.ok rfl rfl rfl rfl rfl (get_set (setV0 c1 ob.x) (by first | omega | (simp only [List.length_set]; omega))) (by decide) rfl) ?_
   refine l_nil ?_
   exact f_owes_n (up_cons (d := 79) (up_cons (d := 85) rfl k0) k1) trivial (perm_front 0 rfl)
  rintro fa33 ⟨-,-,-,-,-,-,-,-,-,-,-,-,-,-,-,-,-,-,-,-,-,-,-,-,-⟩ ⟨j0,j1,j2,j3,j4,j5,j6,j7,j8,-⟩
  refine f_re (L' := [pt b20 (.cells (bC (bodyD (x6.id) x6.comps)) 52),pt b17 (.cells #[Ix (x6.id),sB p15 x6.comps c16] 59),pt b14 (.cells #[Ix (x6.id),sB p15 x6.comps c16] 59),goodO 120 hd ((es.take k).map (backE B)),rowF HdF 59 rp18 rc19 (hd ++ [(⟨(x6.id),p15,x6.comps.length,c16⟩ : KHd)]),pt b4 (.cells #[Ix (tick),sB rp18 (hd ++ [(⟨(x6.id),p15,x6.comps.length,c16⟩ : KHd)]) rc19] 24),pt b3 (.cells #[.int .i64 (0),.slice none 0 0] 24),pt b2 (.cells #[sB bva B (bvc),rv,Ix (gx),Ix (gy)] 30),pt b1 (.cells #[Ix (tick),sB va es (vc)] 24),rowF CompF 120 p15 c16 ((x6.comps.set i1 (setV0 c1 ob.x)).set i1 (setV1 (setV0 c1 ob.x) ob.y))]) (by rfl) ?_
  refine f_rebase (d := 3) j0 (f_rebase (d := 4) j1 (f_rebase (d := 5) j2 (f_rebase (d := 9) j3 (f_rebase (d := 10) j4 (f_rebase (d := 12) j5 ?_)))))
  refine f_rebase (d := 17) j6 (f_rebase (d := 18) j7 (f_rebase (d := 19) j8 (ftc (lE ofp (lE (olb 0) (lE ont (lnf ?_)))))))
  refine c_ifb (!((bodyD (x6.id) x6.comps).fixed)) rfl (fun hc34 => ?_) (fun hc34 => ?_)
  ·have hfx : (bodyD x6.id x6.comps).fixed = false := by simpa using hc34
   have hN2 := body_has2 (a := p15) h0 hfx
   obtain ⟨i2,c2,hi2,hk2,hx2,hp2,hf2⟩ := optP_some hN2
   have hl2 := (List.getElem?_eq_some_iff.1 hi2).1
   rw [hp2]
   have hij : i1 ≠ i2 := idx_ne hi1 hi2 hk1 hk2
   refine cny [sv 89 (.pointer (some ((ba p15).add (i2 * 5)))) [] [] [0],sv 90 (.pointer (some ((ba p15).add (i2 * 5)))) [] [] [0],sv 91 (pp b2 0) [] [] [1],sv 92 (sB bva B (bvc)) [2] [2] [],sv 93 (Nx (ib)) [] [] [2],sv 94 (.pointer (some ((ba bva).add (ib * 9)))) [2,3,4] [3,4] [],sv 95 (.pointer (some (((ba bva).add (ib * 9) : Addr).add 3))) [2,3,4,5] [5] [],sv 96 (.pointer (some ((((ba bva).add (ib * 9) : Addr).add 3 : Addr).add 0))) [2,3,4,5,6] [6] [],sv 97 (Ix (ob.vx)) [2,3,4,5,6,7] [7] [],sv 98 (pp b2 0) [] [] [1],sv 99 (sB bva B (bvc)) [9] [9] [],sv 100 (Nx (ib)) [] [] [2],sv 101 (.pointer (some ((ba bva).add (ib * 9)))) [9,10,11] [10,11] [],sv 102 (.pointer (some (((ba bva).add (ib * 9) : Addr).add 3))) [9,10,11,12] [12] [],sv 103 (.pointer (some ((((ba bva).add (ib * 9) : Addr).add 3 : Addr).add 1))) [9,10,11,12,13] [13] [],sv 104 (Ix (ob.vy)) [9,10,11,12,13,14] [14] [],sv 105 (.pointer (some ((ba p15).add (i2 * 5)))) [0] [0] [],sv 106 (.pointer (some ((ba p15).add (i2 * 5 + 1)))) [0,16] [16] [],sv 107 (.pointer (some ((ba p15).add (i2 * 5 + 1)))) [0,2,3,4,5,6,7,8,9,10,11,12,13,14,15,16,17] [17] [],⟨[0,2,3,4,5,6,7,8,9,10,11,12,13,14,15,16,17,18],[18,8],[],[],fun _ => True⟩,sv 108 (.pointer (some ((ba p15).add (i2 * 5)))) [1] [1] [],sv 109 (.pointer (some ((ba p15).add (i2 * 5 + 1)))) [1,20] [20] [],sv 110 (.pointer (some ((ba p15).add (i2 * 5 + 2)))) (List.range 22) [21] [],⟨(List.range 23),[22,15],[],[],fun _ => True⟩] [tk (pt b20 (.cells (bC (bodyD (x6.id) x6.comps)) 52)) [],tk (pt b17 (.cells #[Ix (x6.id),sB p15 x6.comps c16] 59)) [],tk (pt b14 (.cells #[Ix (x6.id),sB p15 x6.comps c16] 59)) [],tk (goodO 120 hd ((es.take k).map (backE B))) [],tk (rowF HdF 59 rp18 rc19 (hd ++ [(⟨(x6.id),p15,x6.comps.length,c16⟩ : KHd)])) [],tk (pt b4 (.cells #[Ix (tick),sB rp18 (hd ++ [(⟨(x6.id),p15,x6.comps.length,c16⟩ : KHd)]) rc19] 24)) [],tk (pt b3 (.cells #[.int .i64 (0),.slice none 0 0] 24)) [],tk (pt b2 (.cells #[sB bva B (bvc),rv,Ix (gx),Ix (gy)] 30)) [3,10],tk (pt b1 (.cells #[Ix (tick),sB va es (vc)] 24)) [],⟨none,(some 19),[19],[],fun _ => rowF CompF 120 p15 c16 ((x6.comps.set i1 (setV0 c1 ob.x)).set i1 (setV1 (setV0 c1 ob.x) ob.y))⟩,⟨(some 19),(some 23),[23],[],fun _ => rowF CompF 120 p15 c16 (((x6.comps.set i1 (setV0 c1 ob.x)).set i1 (setV1 (setV0 c1 ob.x) ob.y)).set i2 (setV0 c2 ob.vx))⟩,⟨(some 23),none,[],[],fun _ => rowF CompF 120 p15 c16 ((((x6.comps.set i1 (setV0 c1 ob.x)).set i1 (setV1 (setV0 c1 ob.x) ob.y)).set i2 (setV0 c2 ob.vx)).set i2 (setV1 (setV0 c2 ob.vx) ob.vy))⟩] [(9,.pointer (some ((ba p15).add (i2 * 5)))),(3,pp b2 0),(12,Nx (ib)),(4,pp b3 0),(5,pp b4 0),(17,sB va es (vc)),(18,Nx (es.length)),(19,Nx (k))] [1,3,4,5,6,7] [] ⟨rfl,rfl,rfl,rfl,rfl,rfl,rfl,rfl,trivial⟩ ⟨?_,?_,?_,?_,?_,?_,?_,?_,?_,?_,?_,?_,?_,?_,?_,?_,?_,?_,?_,?_,?_,?_,?_,?_,trivial⟩ ?_
   ·rintro f M - ⟨i0,-⟩
    exact obE omp
   ·rintro f M - ⟨i0,-⟩
    exact obE omp
   ·rintro f M - ⟨i0,-⟩
    exact obE ofp
   ·rintro f M ⟨k0,-⟩ -
    exact obE (ols 0)
   ·rintro f M - ⟨i0,-⟩
    exact obE omi
   ·rintro f M ⟨k0,k1,-⟩ -
    exact ob0 (up_cons (d := 93) (up_cons (d := 92) rfl k0) k1) rfl (e_indexAddr rfl rfl tw33 (by omega) hao) (.refl _)
   ·rintro f M ⟨k0,-⟩ -
    exact obE ofa
   ·rintro f M ⟨k0,-⟩ -
    exact obE ofa
   ·rintro f M ⟨k0,-⟩ -
    exact ob0 (up_cons (d := 96) rfl k0) rfl (e_load1 tw15.ok rfl (Knows.imp (Knows.imp (kB hco) (fun _ h => Cs.sub (vs := [Ix (ob.vx),Ix (ob.vy)]) 3 h rfl)) (fun _ h => Cs.sub (vs := [Ix (ob.vx)]) 0 h rfl))) (.refl _)
   ·rintro f M - ⟨i0,-⟩
    exact obE ofp
   ·rintro f M ⟨k0,-⟩ -
    exact obE (ols 0)
   ·rintro f M - ⟨i0,-⟩
    exact obE omi
   ·rintro f M ⟨k0,k1,-⟩ -
    exact ob0 (up_cons (d := 100) (up_cons (d := 99) rfl k0) k1) rfl (e_indexAddr rfl rfl tw33 (by omega) hao) (.refl _)
   ·rintro f M ⟨k0,-⟩ -
    exact obE ofa
   ·rintro f M ⟨k0,-⟩ -
    exact obE ofa
   ·rintro f M ⟨k0,-⟩ -
    exact ob0 (up_cons (d := 103) rfl k0) rfl (e_load1 tw15.ok rfl (Knows.imp (Knows.imp (kB hco) (fun _ h => Cs.sub (vs := [Ix (ob.vx),Ix (ob.vy)]) 3 h rfl)) (fun _ h => Cs.sub (vs := [Ix (ob.vy)]) 1 h rfl))) (.refl _)
   ·rintro f M ⟨k0,-⟩ -
    exact obE onp
   ·rintro f M ⟨k0,-⟩ -
    exact ob0 (up_cons (d := 105) rfl k0) rfl (e_fd rfl tw11.ok) (.refl _)
   ·rintro f M ⟨k0,-⟩ -
    exact ob0 (up_cons (d := 106) rfl k0) rfl (e_xd 0 rfl rfl tw16.ok (by decide)) (.refl _)
   ·rintro f M ⟨k0,k1,-⟩ -
    refine ob_start (L' := rowF CompF 120 p15 c16 ((x6.comps.set i1 (setV0 c1 ob.x)).set i1 (setV1 (setV0 c1 ob.x) ob.y)) :: M) (by rfl) (up_cons (d := 97) (up_cons (d := 107) rfl k0) k1) ?_
    refine lu (m_storeFlPart 0 (F := CompF) (p := p15) (k := i2) (o := 1) (xs := ((x6.comps.set i1 (setV0 c1 ob.x)).set i1 (setV1 (setV0 c1 ob.x) ob.y))) (z0 := c2) (z := (setV0 c2 ob.vx)) tw15.ok rfl rfl rfl rfl rfl (set_ne (by first | assumption | (apply Ne.symm; assumption)) (set_ne (by first | assumption | (apply Ne.symm; assumption)) hi2)) (by decide) rfl) ?_
    refine l_nil ?_
    exact f_owes_n (up_cons (d := 97) (up_cons (d := 107) rfl k0) k1) trivial (perm_front 0 rfl)
   ·rintro f M ⟨k0,-⟩ -
    exact obE onp
   ·rintro f M ⟨k0,-⟩ -
    exact ob0 (up_cons (d := 108) rfl k0) rfl (e_fd rfl tw11.ok) (.refl _)
   ·rintro f M ⟨k0,-⟩ -
    exact ob0 (up_cons (d := 109) rfl k0) rfl (e_xd 1 rfl rfl tw16.ok (by decide)) (.refl _)
   ·rintro f M ⟨k0,k1,-⟩ -
    refine ob_start (L' := rowF CompF 120 p15 c16 (((x6.comps.set i1 (setV0 c1 ob.x)).set i1 (setV1 (setV0 c1 ob.x) ob.y)).set i2 (setV0 c2 ob.vx)) :: M) (by rfl) (up_cons (d := 104) (up_cons (d := 110) rfl k0) k1) ?_
    refine lu (m_storeFlPart 0 (F := CompF) (p := p15) (k := i2) (o := 2) (xs := (((x6.comps.set i1 (setV0 c1 ob.x)).set i1 (setV1 (setV0 c1 ob.x) ob.y)).set i2 (setV0 c2 ob.vx))) (z0 := (setV0 c2 ob.vx)) (z := (setV1 (setV0 c2 ob.vx) ob.vy)) tw15.ok rfl rfl rfl rfl rfl (get_set (setV0 c2 ob.vx) (by first | omega | (simp only [List.length_set]; omega))) (by decide) rfl) ?_
    refine l_nil ?_
    exact f_owes_n (up_cons (d := 104) (up_cons (d := 110) rfl k0) k1) trivial (perm_front 0 rfl)
   rintro fa35 ⟨-,-,-,-,-,-,-,-,-,-,-,-,-,-,-,-,-,-,-,-,-,-,-,-,-⟩ ⟨j0,j1,j2,j3,j4,j5,-⟩
   refine f_re (L' := [pt b20 (.cells (bC (bodyD (x6.id) x6.comps)) 52),pt b17 (.cells #[Ix (x6.id),sB p15 x6.comps c16] 59),pt b14 (.cells #[Ix (x6.id),sB p15 x6.comps c16] 59),goodO 120 hd ((es.take k).map (backE B)),rowF HdF 59 rp18 rc19 (hd ++ [(⟨(x6.id),p15,x6.comps.length,c16⟩ : KHd)]),pt b4 (.cells #[Ix (tick),sB rp18 (hd ++ [(⟨(x6.id),p15,x6.comps.length,c16⟩ : KHd)]) rc19] 24),pt b3 (.cells #[.int .i64 (0),.slice none 0 0] 24),pt b2 (.cells #[sB bva B (bvc),rv,Ix (gx),Ix (gy)] 30),pt b1 (.cells #[Ix (tick),sB va es (vc)] 24),rowF CompF 120 p15 c16 ((((x6.comps.set i1 (setV0 c1 ob.x)).set i1 (setV1 (setV0 c1 ob.x) ob.y)).set i2 (setV0 c2 ob.vx)).set i2 (setV1 (setV0 c2 ob.vx) ob.vy))]) (by rfl) ?_
   refine f_rebase (d := 3) j0 (f_rebase (d := 4) j1 (f_rebase (d := 5) j2 (f_rebase (d := 17) j3 (f_rebase (d := 18) j4 (f_rebase (d := 19) j5 ?_)))))
   refine f_block (f_then (c_region (lv (v := Nx (k + 1)) (e_add rfl rfl (i64n (by omega) (by omega))) (lE omi (l_nil ?_)))))
   have hY : ((((x6.comps.set i1 (setV0 c1 ob.x)).set i1 (setV1 (setV0 c1 ob.x) ob.y)).set i2 (setV0 c2 ob.vx)).set i2 (setV1 (setV0 c2 ob.vx) ob.vy)) = backC B x6.id x6.comps := (by simp only [List.set_set]; exact back_mov h0 (hfo _ hob) hfx hx1 hf1 hx2 hf2)
   refine f_pi [9,3,0,1,2,4,5,6,7,8] 10 rfl (by kernel_rfl) ?_
   refine f_merge (L := [rowF CompF 120 p15 c16 ((((x6.comps.set i1 (setV0 c1 ob.x)).set i1 (setV1 (setV0 c1 ob.x) ob.y)).set i2 (setV0 c2 ob.vx)).set i2 (setV1 (setV0 c2 ob.vx) ob.vy)),goodO 120 hd ((es.take k).map (backE B))]) (M := [pt b20 (.cells (bC (bodyD (x6.id) x6.comps)) 52),pt b17 (.cells #[Ix (x6.id),sB p15 x6.comps c16] 59),pt b14 (.cells #[Ix (x6.id),sB p15 x6.comps c16] 59),rowF HdF 59 rp18 rc19 (hd ++ [(⟨(x6.id),p15,x6.comps.length,c16⟩ : KHd)]),pt b4 (.cells #[Ix (tick),sB rp18 (hd ++ [(⟨(x6.id),p15,x6.comps.length,c16⟩ : KHd)]) rc19] 24),pt b3 (.cells #[.int .i64 (0),.slice none 0 0] 24),pt b2 (.cells #[sB bva B (bvc),rv,Ix (gx),Ix (gy)] 30),pt b1 (.cells #[Ix (tick),sB va es (vc)] 24)]) (r := goodO 120 (hd ++ [(⟨(x6.id),p15,x6.comps.length,c16⟩ : KHd)]) ((es.take (k + 1)).map (backE B))) (by rw [← back_next hx7 hY]; exact goodO_merge (cs := ((((x6.comps.set i1 (setV0 c1 ob.x)).set i1 (setV1 (setV0 c1 ob.x) ob.y)).set i2 (setV0 c2 ob.vx)).set i2 (setV1 (setV0 c2 ob.vx) ob.vy))) (m := x6.comps.length) (by rw [hY,back_len])) ?_
   refine f_mask [true,false,false,false,true,true,true,true,true] rfl ?_
   exact f_cut ⟨(k + 1,(hd ++ [(⟨(x6.id),p15,x6.comps.length,c16⟩ : KHd)]),rp18,rc19),⟨⟨rfl,rfl,rfl,rfl,rfl,rfl⟩,rfl,⟨by omega,by rw [List.length_append]; simp only [sB,rB,List.length_cons,List.length_nil]; omega⟩⟩,(show es.length - (k + 1) < es.length - k from by omega)⟩
  have hfx : (bodyD x6.id x6.comps).fixed = true := by simpa using hc34
  refine c_skip (f_block (f_then (c_region (lv (v := Nx (k + 1)) (e_add rfl rfl (i64n (by omega) (by omega))) (lE omi (l_nil ?_))))))
  have hY : ((x6.comps.set i1 (setV0 c1 ob.x)).set i1 (setV1 (setV0 c1 ob.x) ob.y)) = backC B x6.id x6.comps := (by simp only [List.set_set]; exact back_fix h0 (hfo _ hob) hfx hx1 hf1)
  refine f_pi [9,3,0,1,2,4,5,6,7,8] 10 rfl (by kernel_rfl) ?_
  refine f_merge (L := [rowF CompF 120 p15 c16 ((x6.comps.set i1 (setV0 c1 ob.x)).set i1 (setV1 (setV0 c1 ob.x) ob.y)),goodO 120 hd ((es.take k).map (backE B))]) (M := [pt b20 (.cells (bC (bodyD (x6.id) x6.comps)) 52),pt b17 (.cells #[Ix (x6.id),sB p15 x6.comps c16] 59),pt b14 (.cells #[Ix (x6.id),sB p15 x6.comps c16] 59),rowF HdF 59 rp18 rc19 (hd ++ [(⟨(x6.id),p15,x6.comps.length,c16⟩ : KHd)]),pt b4 (.cells #[Ix (tick),sB rp18 (hd ++ [(⟨(x6.id),p15,x6.comps.length,c16⟩ : KHd)]) rc19] 24),pt b3 (.cells #[.int .i64 (0),.slice none 0 0] 24),pt b2 (.cells #[sB bva B (bvc),rv,Ix (gx),Ix (gy)] 30),pt b1 (.cells #[Ix (tick),sB va es (vc)] 24)]) (r := goodO 120 (hd ++ [(⟨(x6.id),p15,x6.comps.length,c16⟩ : KHd)]) ((es.take (k + 1)).map (backE B))) (by rw [← back_next hx7 hY]; exact goodO_merge (cs := ((x6.comps.set i1 (setV0 c1 ob.x)).set i1 (setV1 (setV0 c1 ob.x) ob.y))) (m := x6.comps.length) (by rw [hY,back_len])) ?_
  refine f_mask [true,false,false,false,true,true,true,true,true] rfl ?_
  exact f_cut ⟨(k + 1,(hd ++ [(⟨(x6.id),p15,x6.comps.length,c16⟩ : KHd)]),rp18,rc19),⟨⟨rfl,rfl,rfl,rfl,rfl,rfl⟩,rfl,⟨by omega,by rw [List.length_append]; simp only [sB,rB,List.length_cons,List.length_nil]; omega⟩⟩,(show es.length - (k + 1) < es.length - k from by omega)⟩
 refine c_exit (f_then_exit (f_then_exit (f_exit (ftc (lE (olg 2) (lu (mS 3 (#[Ix (tick),sB p hd c])) (lnf (c_ret ?_))))))))
 refine retG (m := [.agg #[Ix (tick),sB p hd c]]) Tryz.results19 ⟨rd_cell tw48.ok rfl (k_pt 3 rfl rfl) rfl,trivial⟩ rfl ?_
 intro w hw
 have hw2 := st_mask (L' := [goodO 120 hd ((es.take k).map (backE B)),rowF HdF 59 p c hd]) [true,true,false,false,false,false] rfl hw
 replace hw2 := hw2.perm (List.Perm.swap _ _ _)
 rw [List.take_of_length_le (by omega)] at hw2
 exact ⟨p,c,hd,by omega,congrArg (fun n => Ending.returned (.agg #[Ix tick,.slice p n c])) (show hd.length = es.length by omega),hw2⟩
theorem worldO_ok (β : Base) (w : World) (hw : St β [] w) (tick : Int) (v rv : Value) (gx gy : Int) (es : List KEnt) (rs : List KR) (hs : Sl EntR β.heap v es) (hr : Sl KRR β.heap rv rs) (hn : es.length ≤ 65536) (hrn : rs.length ≤ 65536) (hcl : ∀ e ∈ es, e.comps.length ≤ 65536) (hgx : -9223372036854775808 ≤ gx ∧ gx ≤ 9223372036854775807) (hgy : -9223372036854775808 ≤ gy ∧ gy ≤ 9223372036854775807) (hG : GR β) (hokS : okS (bodiesOf es) (ropesOf (bodiesOf es) rs) gx gy) (T : List KB) (S : List KS) (hTS : stepsTo (ropesOf (bodiesOf es) rs) gx gy (bodiesOf es) (bodiesOf es).length = (T, S)) : Calls Tryz.prog 24 #[.agg #[Ix tick, v], rv, .agg #[Ix gx, Ix gy]] w fun r w' => ∃ p c hd sp sc, hd.length = es.length ∧ r = .returned (.tuple #[.agg #[Ix tick, sB p es c], sB sp S sc, .int .i64 (0)]) ∧ St β [rowF HdF 59 p c hd, goodO 120 hd (es.map (backE T)), rowF StopF 55 sp sc S] w' := by
 have hTl : T.length = (bodiesOf es).length := by have h := (step_keeps (rs := ropesOf (bodiesOf es) rs) (gx := gx) (gy := gy) hokS.2.2.2.1 (bodiesOf es).length).1.len; rw [hTS] at h; exact h
 refine enter (n := 29) Tryz.func24 rfl Tryz.ntmps24 rfl ?_ hw
 refine csr (bxa fun b1 => ?_)
 refine bxa fun b2 => ?_
 refine alE fun b3 => lE oas (lE oai (lnc (lE (olg 2) (lv e_move (lE (olg 1) ?_)))))
 refine lcf (cl0 (vs := [.agg #[Ix (tick),v],rv,.agg #[Ix (gx),Ix (gy)]]) tw66.ok rfl rfl) rfl fun w β1 sb kn hw1 back => (worldB_ok β1 w hw1 _ _ _ (gx) (gy) es rs (Sl.mono _ _ _ _ _ sb hs) (Sl.mono _ _ _ _ _ sb hr) hn hrn).mono ?_
 rintro e w' ⟨p4,c5,p6,c7,rfl,hw'⟩
 refine ⟨_,rfl,_,back _ _ hw',?_⟩
 clear hw1 hw' back kn sb
 refine lcf (cl0 (vs := [.agg #[sB p4 (bodiesOf es) c5,sB p6 (ropesOf (bodiesOf es) rs) c7,Ix (gx),Ix (gy)]]) tw67.ok rfl rfl) rfl fun w β1 sb kn hw1 back => (stepY_ok β1 w hw1 _ _ gx gy (bodiesOf es) (ropesOf (bodiesOf es) rs) (kn _ (k_flN 0 (F := BodyF) (m := (bodiesOf es).length) (xs := (bodiesOf es)) rfl rfl)) (kn _ (k_flN 1 (F := RopeF) (m := (ropesOf (bodiesOf es) rs).length) (xs := (ropesOf (bodiesOf es) rs)) rfl rfl)) (by omega) (by omega) (GR.mono sb hG) hokS T S hTS).mono ?_
 rintro e w' ⟨p8,c9,p10,c11,p12,c13,rfl,hw'⟩
 refine ⟨_,rfl,_,back _ _ hw',?_⟩
 clear hw1 hw' back kn sb
 refine lE omt (lE oxa (lE oxs (lE oxi (alE fun b14 => lu (mS 0 (#[sB p8 (bodiesOf es) c9,sB p10 (ropesOf (bodiesOf es) rs) c11,Ix (gx),Ix (gy)])) ?_))))
 refine lE oas (lE oai (lnf (cs2 (c_region (lE omi (lE onq (lnf (c_no rfl (csk (csr (lE (olg 8) (lE (olg 0) ?_))))))))))))
 refine lcf (cl0 (vs := [.agg #[Ix (tick),v],.agg #[sB p8 (bodiesOf es) c9,sB p10 (ropesOf (bodiesOf es) rs) c11,Ix (gx),Ix (gy)]]) tw68.ok rfl rfl) rfl fun w β1 sb kn hw1 back => (backO_ok β1 w hw1 _ _ _ _ _ _ es T (Sl.mono _ _ _ _ _ sb hs) (kn _ (k_flN 1 (F := BodyF) (m := (bodiesOf es).length) (xs := T) rfl hTl.symm)) hn hcl).mono ?_
 rintro e w' ⟨p15,c16,hd17,hl18,rfl,hw'⟩
 refine ⟨_,rfl,_,back _ _ hw',?_⟩
 clear hw1 hw' back kn sb
 refine lE oms (lu (mS 8 (#[Ix (tick),sB p15 es c16])) (lE oas (lE oai (lnf (c_ret ?_)))))
 refine retG (m := [.agg #[Ix (tick),sB p15 es c16],sB p12 S c13,.int .i64 (0)]) Tryz.results24 ⟨rd_cell tw48.ok rfl (k_pt 8 rfl rfl) rfl,rd_tmp (v := sB p12 S c13) rfl,rd_tmp (v := .int .i64 (0)) rfl,trivial⟩ rfl ?_
 intro w hw
 replace hw := hw.perm (L' := [rowF HdF 59 p15 c16 hd17,goodO 120 hd17 (es.map (backE T)),rowF StopF 55 p12 c13 S,pt b14 (.cells #[sB p8 (bodiesOf es) c9,sB p10 (ropesOf (bodiesOf es) rs) c11,Ix (gx),Ix (gy)] 30),rowF BodyF 52 p8 c9 T,rowF RopeF 78 p10 c11 (ropesOf (bodiesOf es) rs),rowF BodyF 52 p4 c5 (bodiesOf es),rowF RopeF 78 p6 c7 (ropesOf (bodiesOf es) rs),pt b3 (.cells #[Ix (tick),sB p15 es c16] 24),pt b2 (.cells #[Ix (gx),Ix (gy)] 28),pt b1 (.cells #[Ix (tick),v] 24)]) (by exact (perm_ix [0,1,5,2,3,4,6,7,8,9,10] 11 rfl (by kernel_rfl) (by kernel_rfl)))
 exact ⟨p15,c16,hd17,p12,c13,hl18,rfl,st_mask [true,true,true,false,false,false,false,false,false,false,false] rfl hw⟩
end Go.Proofs
