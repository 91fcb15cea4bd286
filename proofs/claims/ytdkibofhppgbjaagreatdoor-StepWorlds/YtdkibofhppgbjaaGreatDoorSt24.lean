/-
 fly,Back,World: walked. Printed by a program of my own.
-/
import Derived.Test.YtdkibofhppgbjaaGreatDoorSt22
import Derived.Test.YtdkibofhppgbjaaGreatDoorStBack
import Derived.Test.YtdkibofhppgbjaaGreatDoorSlB
namespace Go.Proofs
open Go Go.Sl Go.Stp
theorem tg135 : elB Tryz.prog 120 5 40 = true := by kernel_rfl
instance tg136 : ZerC Tryz.prog 24 (.agg #[.int .i64 (0), .slice none 0 0]) := ⟨by kernel_rfl⟩
instance tg137 : FldC Tryz.prog 24 0 0 1 false := ⟨by kernel_rfl⟩
instance tg139 : TyC Tryz.prog 24 true 2 := ⟨by kernel_rfl⟩
instance tg140 : CfC Tryz.prog 64 := ⟨by kernel_rfl⟩
instance tg142 : CfC Tryz.prog 66 := ⟨by kernel_rfl⟩
instance tg143 : CfC Tryz.prog 18 := ⟨by kernel_rfl⟩
instance tg144 : CfC Tryz.prog 19 := ⟨by kernel_rfl⟩
theorem cloneC_ok (β : Base) (w : World) (hw : St β [] w) (v : Value) (xs : List KComp) (hs : Sl CompR β.heap v xs) (hn : xs.length ≤ 1048576) : Calls Tryz.prog 64 #[v] w fun r w' => ∃ p c, r = .returned (sB p xs c) ∧ St β [rowF CompF 120 p c xs] w' := by
 obtain ⟨va,vc,rfl,vl,vm,ve⟩ := hs.get
 refine enter (n := 8) Tryz.func64 rfl Tryz.ntmps64 rfl ?_ hw
 refine csr (lE oas (lnf (cs2 (c_region (lE oms (lv (v := .bool (va.isNone)) (e_eql_snil (a := va) rfl rfl tg114.ok) (lnf ?_)))))))
 refine c_ifb (va.isNone) rfl (fun hc1 => ?_) (fun hc1 => ?_)
 ·refine csr (lE oas (lnf (c_ret (f_then_ret (ret1 Tryz.results64 rfl ?_)))))
  intro w hw
  obtain rfl := nil_empty ve hc1
  exact ⟨none,0,rfl,(st_mask [] rfl hw).emp (row_nil _ _ _)⟩
 refine csk (csr (l_mv rfl rfl rfl (m_slice0 tg115) ?_))
 rintro _ _ ⟨b2,rfl,rfl⟩
 refine lE oms (l_conseq 0 (r' := rowF CompF 120 (some ⟨b2,0,none⟩) 0 []) rfl (fun a h => pt_row (m := 0) (by decide) rfl a h) ?_)
 refine l_mv rfl rfl rfl (m_appendFlN (F := CompF) 0 tg115 tg135 (p := (some ⟨b2,0,none⟩)) (m := 0) (xs := []) (ys := xs) (ao := va) (k := xs.length) (c := vc) rfl rfl rfl rfl rfl (Knows.of_base (Elems.mono _ _ _) ve) (by first | omega | simp only [List.length_nil,List.length_cons,List.length_append,List.length_set]; omega) (by first | omega | simp only [List.length_nil,List.length_cons,List.length_append,List.length_set]; omega)) ?_
 rintro _ _ ⟨rp3,rc4,rfl,rfl⟩
 refine lE oas (lnf (c_ret (ret1 Tryz.results64 rfl ?_)))
 intro w hw
 exact ⟨_,_,rfl,st_mask (L' := [rowF CompF 120 rp3 rc4 xs]) [true] rfl hw⟩
set_option maxHeartbeats 4000000 in
theorem fly_ok (β : Base) (w : World) (p : Option Addr) (c : Nat) (cs : List KComp) (i j : Nat) (cp cv : KComp) (hi : cs[i]? = some cp) (hj : cs[j]? = some cv) (hij : i ≠ j) (hw : St β [rowF CompF 120 p c cs] w) : Calls Tryz.prog 66 #[.pointer (some ((ba p).add (i * 5))), .pointer (some ((ba p).add (j * 5)))] w fun r w' => r = .returned (.tuple #[]) ∧ St β [rowF CompF 120 p c (flyC cs i j cp cv)] w' := by
 have hli := (List.getElem?_eq_some_iff.1 hi).1
 have hlj := (List.getElem?_eq_some_iff.1 hj).1
 refine enter (n := 79) Tryz.func66 rfl Tryz.ntmps66 rfl ?_ hw
 refine cs2 (c_region (lE omi (lnf (c_block (c_unroll 3 (un_succ 2 (csr (lE olt (lnf (c_seq (c_yes rfl (csk (c_seq (c_block (csr (lE omi (lE oai ?_)))))))))))))))))
 refine lnf (c_seq ?_)
 rcases Decidable.em (min cp.v0 cv.v0 < -1099511627776) with hL0 | hL0
 ·refine c_quiet (by kernel_rfl) (by kernel_rfl) (qE omp (qE omi (qE onp (qE ofd (qE (oxd 0) ?_)))))
  refine q_val (v := Ix (cp.v0)) rfl rfl rfl (e_load1 tf2.ok rfl (k_flPart 0 (F := CompF) (o := 1) (us := [Ix (cp.v0)]) rfl hi rfl)) (qE omp (qE omi ?_))
  refine qE onp (qE ofd (qE (oxd 0) ?_))
  refine q_val (v := Ix (cv.v0)) rfl rfl rfl (e_load1 tf2.ok rfl (k_flPart 0 (F := CompF) (o := 1) (us := [Ix (cv.v0)]) rfl hj rfl)) (qE omz (qE olt ?_))
  refine qE omb (q_split (s := 24) rfl (fun h => ?_) (fun h => ?_))
  rotate_left; exact absurd hL0 h
  iterate 14 refine qsE ?_
  refine qE oktb (q_nil (f_then (c_yes rfl (c_ret (f_block_ret (f_then_ret (f_then_ret (f_block_ret (f_then_ret (ret0 Tryz.results66 ?_))))))))))
  intro w hw
  exact ⟨rfl,by rw [fly_no hi hj (fun h => by have a := h.1.1; have b := h.1.2; have c := h.2.1; have d := h.2.2; omega)]; exact st_mask [true] rfl hw⟩
 rcases Decidable.em (1099511627776 < max cp.v0 cv.v0) with hG0 | hG0
 ·refine c_quiet (by kernel_rfl) (by kernel_rfl) (qE omp (qE omi (qE onp (qE ofd (qE (oxd 0) ?_)))))
  refine q_val (v := Ix (cp.v0)) rfl rfl rfl (e_load1 tf2.ok rfl (k_flPart 0 (F := CompF) (o := 1) (us := [Ix (cp.v0)]) rfl hi rfl)) (qE omp (qE omi ?_))
  refine qE onp (qE ofd (qE (oxd 0) ?_))
  refine q_val (v := Ix (cv.v0)) rfl rfl rfl (e_load1 tf2.ok rfl (k_flPart 0 (F := CompF) (o := 1) (us := [Ix (cv.v0)]) rfl hj rfl)) (qE omz (qE olt ?_))
  refine qE omb (q_split (s := 24) rfl (fun h => ?_) (fun h => ?_))
  exact absurd h hL0
  refine rE omp (rE omi (rE onp (rE ofd (rE (oxd 0) ?_))))
  refine qg_val (v := Ix (cp.v0)) rfl rfl rfl rfl rfl (e_load1 tf2.ok rfl (k_flPart 0 (F := CompF) (o := 1) (us := [Ix (cp.v0)]) rfl hi rfl)) ?_
  refine rE omp (rE omi (rE onp (rE ofd (rE (oxd 0) ?_))))
  refine qg_val (v := Ix (cv.v0)) rfl rfl rfl rfl rfl (e_load1 tf2.ok rfl (k_flPart 0 (F := CompF) (o := 1) (us := [Ix (cv.v0)]) rfl hj rfl)) ?_
  refine rE omx (rE ogt (qE okfb (q_nil (f_then (c_if _ rfl (fun hc1 => ?_) (fun hc1 => ?_))))))
  ·refine c_ret (f_block_ret (f_then_ret (f_then_ret (f_block_ret (f_then_ret (ret0 Tryz.results66 ?_))))))
   intro w hw
   exact ⟨rfl,by rw [fly_no hi hj (fun h => by have a := h.1.1; have b := h.1.2; have c := h.2.1; have d := h.2.2; omega)]; exact st_mask [true] rfl hw⟩
  exact absurd hG0 hc1
 refine c_quiet (by kernel_rfl) (by kernel_rfl) (qE omp (qE omi (qE onp (qE ofd (qE (oxd 0) ?_)))))
 refine q_val (v := Ix (cp.v0)) rfl rfl rfl (e_load1 tf2.ok rfl (k_flPart 0 (F := CompF) (o := 1) (us := [Ix (cp.v0)]) rfl hi rfl)) (qE omp (qE omi ?_))
 refine qE onp (qE ofd (qE (oxd 0) ?_))
 refine q_val (v := Ix (cv.v0)) rfl rfl rfl (e_load1 tf2.ok rfl (k_flPart 0 (F := CompF) (o := 1) (us := [Ix (cv.v0)]) rfl hj rfl)) (qE omz (qE olt ?_))
 refine qE omb (q_split (s := 24) rfl (fun h => ?_) (fun h => ?_))
 exact absurd h hL0
 refine rE omp (rE omi (rE onp (rE ofd (rE (oxd 0) ?_))))
 refine qg_val (v := Ix (cp.v0)) rfl rfl rfl rfl rfl (e_load1 tf2.ok rfl (k_flPart 0 (F := CompF) (o := 1) (us := [Ix (cp.v0)]) rfl hi rfl)) ?_
 refine rE omp (rE omi (rE onp (rE ofd (rE (oxd 0) ?_))))
 refine qg_val (v := Ix (cv.v0)) rfl rfl rfl rfl rfl (e_load1 tf2.ok rfl (k_flPart 0 (F := CompF) (o := 1) (us := [Ix (cv.v0)]) rfl hj rfl)) ?_
 refine rE omx (rE ogt (qE okfb (q_nil (f_then (c_if _ rfl (fun hc2 => ?_) (fun hc2 => ?_))))))
 ·exact absurd hc2 hG0
 refine c_skip (f_block (f_then (c_region (lE opl (lE omi (l_nil (f_cut (un_succ 1 (csr (lE olt (lnf (c_seq (c_yes rfl (csk (c_seq (c_block (csr ?_)))))))))))))))))
 refine lE omi (lE oai (lnf (c_seq ?_)))
 rcases Decidable.em (min cp.v1 cv.v1 < -1099511627776) with hL1 | hL1
 ·refine c_quiet (by kernel_rfl) (by kernel_rfl) (qE omp (qE omi (qE onp (qE ofd (qE (oxd 1) ?_)))))
  refine q_val (v := Ix (cp.v1)) rfl rfl rfl (e_load1 tf2.ok rfl (k_flPart 0 (F := CompF) (o := 2) (us := [Ix (cp.v1)]) rfl hi rfl)) (qE omp (qE omi ?_))
  refine qE onp (qE ofd (qE (oxd 1) ?_))
  refine q_val (v := Ix (cv.v1)) rfl rfl rfl (e_load1 tf2.ok rfl (k_flPart 0 (F := CompF) (o := 2) (us := [Ix (cv.v1)]) rfl hj rfl)) (qE omz (qE olt ?_))
  refine qE omb (q_split (s := 24) rfl (fun h => ?_) (fun h => ?_))
  rotate_left; exact absurd hL1 h
  iterate 14 refine qsE ?_
  refine qE oktb (q_nil (f_then (c_yes rfl (c_ret (f_block_ret (f_then_ret (f_then_ret (f_block_ret (f_then_ret (ret0 Tryz.results66 ?_))))))))))
  intro w hw
  exact ⟨rfl,by rw [fly_no hi hj (fun h => by have a := h.1.1; have b := h.1.2; have c := h.2.1; have d := h.2.2; omega)]; exact st_mask [true] rfl hw⟩
 rcases Decidable.em (1099511627776 < max cp.v1 cv.v1) with hG1 | hG1
 ·refine c_quiet (by kernel_rfl) (by kernel_rfl) (qE omp (qE omi (qE onp (qE ofd (qE (oxd 1) ?_)))))
  refine q_val (v := Ix (cp.v1)) rfl rfl rfl (e_load1 tf2.ok rfl (k_flPart 0 (F := CompF) (o := 2) (us := [Ix (cp.v1)]) rfl hi rfl)) (qE omp (qE omi ?_))
  refine qE onp (qE ofd (qE (oxd 1) ?_))
  refine q_val (v := Ix (cv.v1)) rfl rfl rfl (e_load1 tf2.ok rfl (k_flPart 0 (F := CompF) (o := 2) (us := [Ix (cv.v1)]) rfl hj rfl)) (qE omz (qE olt ?_))
  refine qE omb (q_split (s := 24) rfl (fun h => ?_) (fun h => ?_))
  exact absurd h hL1
  refine rE omp (rE omi (rE onp (rE ofd (rE (oxd 1) ?_))))
  refine qg_val (v := Ix (cp.v1)) rfl rfl rfl rfl rfl (e_load1 tf2.ok rfl (k_flPart 0 (F := CompF) (o := 2) (us := [Ix (cp.v1)]) rfl hi rfl)) ?_
  refine rE omp (rE omi (rE onp (rE ofd (rE (oxd 1) ?_))))
  refine qg_val (v := Ix (cv.v1)) rfl rfl rfl rfl rfl (e_load1 tf2.ok rfl (k_flPart 0 (F := CompF) (o := 2) (us := [Ix (cv.v1)]) rfl hj rfl)) ?_
  refine rE omx (rE ogt (qE okfb (q_nil (f_then (c_if _ rfl (fun hc3 => ?_) (fun hc3 => ?_))))))
  ·refine c_ret (f_block_ret (f_then_ret (f_then_ret (f_block_ret (f_then_ret (ret0 Tryz.results66 ?_))))))
   intro w hw
   exact ⟨rfl,by rw [fly_no hi hj (fun h => by have a := h.1.1; have b := h.1.2; have c := h.2.1; have d := h.2.2; omega)]; exact st_mask [true] rfl hw⟩
  exact absurd hG1 hc3
 refine c_quiet (by kernel_rfl) (by kernel_rfl) (qE omp (qE omi (qE onp (qE ofd (qE (oxd 1) ?_)))))
 refine q_val (v := Ix (cp.v1)) rfl rfl rfl (e_load1 tf2.ok rfl (k_flPart 0 (F := CompF) (o := 2) (us := [Ix (cp.v1)]) rfl hi rfl)) (qE omp (qE omi ?_))
 refine qE onp (qE ofd (qE (oxd 1) ?_))
 refine q_val (v := Ix (cv.v1)) rfl rfl rfl (e_load1 tf2.ok rfl (k_flPart 0 (F := CompF) (o := 2) (us := [Ix (cv.v1)]) rfl hj rfl)) (qE omz (qE olt ?_))
 refine qE omb (q_split (s := 24) rfl (fun h => ?_) (fun h => ?_))
 exact absurd h hL1
 refine rE omp (rE omi (rE onp (rE ofd (rE (oxd 1) ?_))))
 refine qg_val (v := Ix (cp.v1)) rfl rfl rfl rfl rfl (e_load1 tf2.ok rfl (k_flPart 0 (F := CompF) (o := 2) (us := [Ix (cp.v1)]) rfl hi rfl)) ?_
 refine rE omp (rE omi (rE onp (rE ofd (rE (oxd 1) ?_))))
 refine qg_val (v := Ix (cv.v1)) rfl rfl rfl rfl rfl (e_load1 tf2.ok rfl (k_flPart 0 (F := CompF) (o := 2) (us := [Ix (cv.v1)]) rfl hj rfl)) ?_
 refine rE omx (rE ogt (qE okfb (q_nil (f_then (c_if _ rfl (fun hc4 => ?_) (fun hc4 => ?_))))))
 ·exact absurd hc4 hG1
 refine c_skip (f_block (f_then (c_region (lE opl (lE omi (l_nil (f_cut (un_succ 0 (csr (lE olt (lnf (c_seq (c_no rfl (c_exit (f_then_exit ?_)))))))))))))))
 refine f_then_exit (f_exit (ftc (lE omi (lnf (c_block (c_unroll 3 (un_succ 2 (csr (lE olt (lnf (c_seq (c_yes rfl (csk (c_seq (c_block (csr (lE omi ?_)))))))))))))))))
 refine lE oai (lnf (c_seq (c_quiet (by kernel_rfl) (by kernel_rfl) (qE omp (qE omi (qE onp (qE ofd (qE (oxd 0) ?_))))))))
 refine q_val (v := Ix (cp.v0)) rfl rfl rfl (e_load1 tf2.ok rfl (k_flPart 0 (F := CompF) (o := 1) (us := [Ix (cp.v0)]) rfl hi rfl)) (qE omp (qE omi ?_))
 refine qE onp (qE ofd (qE (oxd 0) ?_))
 refine q_val (v := Ix (cv.v0)) rfl rfl rfl (e_load1 tf2.ok rfl (k_flPart 0 (F := CompF) (o := 1) (us := [Ix (cv.v0)]) rfl hj rfl)) (qE opl (qE oai ?_))
 refine q_nil (ftc (lE omp (lE omi (lE omi (lE omz (lE omx (lE onp (lE ofd (lE (oxd 0) ?_)))))))))
 refine lu (m_storeFlPart 0 (F := CompF) (p := p) (k := i) (o := 1) (xs := cs) (z0 := cp) (z := (setV0 cp (max (min ((cp.v0) + (cv.v0)) (1048576 : Int)) (-1048576 : Int)))) tf2.ok rfl rfl rfl rfl rfl hi (by decide) rfl) ?_
 refine lnc (lE omp (lE omi (lE onp (lE ofd (lE (oxd 0) ?_)))))
 refine lv (v := Ix (max (min ((cp.v0) + (cv.v0)) (1048576 : Int)) (-1048576 : Int))) (e_load1 tf2.ok rfl (k_flPart 0 (F := CompF) (o := 1) (us := [Ix (max (min ((cp.v0) + (cv.v0)) (1048576 : Int)) (-1048576 : Int))]) rfl (get_set (setV0 cp (max (min ((cp.v0) + (cv.v0)) (1048576 : Int)) (-1048576 : Int))) (by first | omega | (simp only [List.length_set]; omega))) rfl)) ?_
 refine lE omi (lE onq (lnf (c_if _ rfl (fun hc5 => ?_) (fun hc5 => ?_))))
 ·refine c_region (lE omp (lE omi (lE onp (lE ofd (lE (oxd 0) ?_)))))
  refine lu (m_storeFlPart 0 (F := CompF) (p := p) (k := j) (o := 1) (xs := (cs.set i (setV0 cp (max (min ((cp.v0) + (cv.v0)) (1048576 : Int)) (-1048576 : Int))))) (z0 := cv) (z := (setV0 cv 0)) tf2.ok rfl rfl rfl rfl rfl (set_ne (by first | assumption | (apply Ne.symm; assumption)) hj) (by decide) rfl) ?_
  refine l_nil (f_block (f_then (c_region (lE opl (lE omi (l_nil (f_cut (un_succ 1 (csr (lE olt (lnf (c_seq (c_yes rfl (csk (c_seq (c_block (csr ?_)))))))))))))))))
  refine lE omi (lE oai (lnf (c_seq (c_quiet (by kernel_rfl) (by kernel_rfl) (qE omp (qE omi (qE onp (qE ofd (qE (oxd 1) ?_)))))))))
  refine q_val (v := Ix (cp.v1)) rfl rfl rfl (e_load1 tf2.ok rfl (k_flPart 0 (F := CompF) (o := 2) (us := [Ix (cp.v1)]) rfl (set_ne (by first | assumption | (apply Ne.symm; assumption)) (get_set (setV0 cp (max (min ((cp.v0) + (cv.v0)) (1048576 : Int)) (-1048576 : Int))) (by first | omega | (simp only [List.length_set]; omega)))) rfl)) ?_
  refine qE omp (qE omi (qE onp (qE ofd (qE (oxd 1) ?_))))
  refine q_val (v := Ix (cv.v1)) rfl rfl rfl (e_load1 tf2.ok rfl (k_flPart 0 (F := CompF) (o := 2) (us := [Ix (cv.v1)]) rfl (get_set (setV0 cv 0) (by first | omega | (simp only [List.length_set]; omega))) rfl)) ?_
  refine qE opl (qE oai (q_nil (ftc (lE omp (lE omi (lE omi (lE omz (lE omx (lE onp (lE ofd (lE (oxd 1) ?_)))))))))))
  refine lu (m_storeFlPart 0 (F := CompF) (p := p) (k := i) (o := 2) (xs := ((cs.set i (setV0 cp (max (min ((cp.v0) + (cv.v0)) (1048576 : Int)) (-1048576 : Int)))).set j (setV0 cv 0))) (z0 := (setV0 cp (max (min ((cp.v0) + (cv.v0)) (1048576 : Int)) (-1048576 : Int)))) (z := (setV1 (setV0 cp (max (min ((cp.v0) + (cv.v0)) (1048576 : Int)) (-1048576 : Int))) (max (min ((cp.v1) + (cv.v1)) (1048576 : Int)) (-1048576 : Int)))) tf2.ok rfl rfl rfl rfl rfl (set_ne (by first | assumption | (apply Ne.symm; assumption)) (get_set (setV0 cp (max (min ((cp.v0) + (cv.v0)) (1048576 : Int)) (-1048576 : Int))) (by first | omega | (simp only [List.length_set]; omega)))) (by decide) rfl) ?_
  refine lnc (lE omp (lE omi (lE onp (lE ofd (lE (oxd 1) ?_)))))
  refine lv (v := Ix (max (min ((cp.v1) + (cv.v1)) (1048576 : Int)) (-1048576 : Int))) (e_load1 tf2.ok rfl (k_flPart 0 (F := CompF) (o := 2) (us := [Ix (max (min ((cp.v1) + (cv.v1)) (1048576 : Int)) (-1048576 : Int))]) rfl (get_set (setV1 (setV0 cp (max (min ((cp.v0) + (cv.v0)) (1048576 : Int)) (-1048576 : Int))) (max (min ((cp.v1) + (cv.v1)) (1048576 : Int)) (-1048576 : Int))) (by first | omega | (simp only [List.length_set]; omega))) rfl)) ?_
  refine lE omi (lE onq (lnf (c_if _ rfl (fun hc6 => ?_) (fun hc6 => ?_))))
  ·refine c_region (lE omp (lE omi (lE onp (lE ofd (lE (oxd 1) ?_)))))
   refine lu (m_storeFlPart 0 (F := CompF) (p := p) (k := j) (o := 2) (xs := (((cs.set i (setV0 cp (max (min ((cp.v0) + (cv.v0)) (1048576 : Int)) (-1048576 : Int)))).set j (setV0 cv 0)).set i (setV1 (setV0 cp (max (min ((cp.v0) + (cv.v0)) (1048576 : Int)) (-1048576 : Int))) (max (min ((cp.v1) + (cv.v1)) (1048576 : Int)) (-1048576 : Int))))) (z0 := (setV0 cv 0)) (z := (setV1 (setV0 cv 0) 0)) tf2.ok rfl rfl rfl rfl rfl (set_ne (by first | assumption | (apply Ne.symm; assumption)) (get_set (setV0 cv 0) (by first | omega | (simp only [List.length_set]; omega)))) (by decide) rfl) ?_
   refine l_nil (f_block (f_then (c_region (lE opl (lE omi (l_nil (f_cut (un_succ 0 (csr (lE olt (lnf (c_seq (c_no rfl (c_exit (f_then_exit ?_)))))))))))))))
   refine f_then_exit (f_exit (end0 Tryz.results66 ?_))
   intro w hw
   have e : flyC cs i j cp cv = ((((cs.set i (setV0 cp (max (min ((cp.v0) + (cv.v0)) (1048576 : Int)) (-1048576 : Int)))).set j (setV0 cv 0)).set i (setV1 (setV0 cp (max (min ((cp.v0) + (cv.v0)) (1048576 : Int)) (-1048576 : Int))) (max (min ((cp.v1) + (cv.v1)) (1048576 : Int)) (-1048576 : Int)))).set j (setV1 (setV0 cv 0) 0)) := by
    rw [fly_yes ⟨⟨by omega,by omega⟩,by omega,by omega⟩,if_neg hc5,if_neg hc6]
    try simp only [set_swap hij,List.set_set]
    try rfl
   exact ⟨rfl,by rw [e]; exact st_mask [true] rfl hw⟩
  refine c_skip (f_block (f_then (c_region (lE opl (lE omi (l_nil (f_cut (un_succ 0 (csr (lE olt (lnf (c_seq (c_no rfl (c_exit (f_then_exit ?_)))))))))))))))
  refine f_then_exit (f_exit (end0 Tryz.results66 ?_))
  intro w hw
  have e : flyC cs i j cp cv = (((cs.set i (setV0 cp (max (min ((cp.v0) + (cv.v0)) (1048576 : Int)) (-1048576 : Int)))).set j (setV0 cv 0)).set i (setV1 (setV0 cp (max (min ((cp.v0) + (cv.v0)) (1048576 : Int)) (-1048576 : Int))) (max (min ((cp.v1) + (cv.v1)) (1048576 : Int)) (-1048576 : Int)))) := by
   rw [fly_yes ⟨⟨by omega,by omega⟩,by omega,by omega⟩,if_neg hc5,if_pos (Decidable.not_not.1 hc6)]
   try simp only [set_swap hij,List.set_set]
   try rfl
  exact ⟨rfl,by rw [e]; exact st_mask [true] rfl hw⟩
 refine c_skip (f_block (f_then (c_region (lE opl (lE omi (l_nil (f_cut (un_succ 1 (csr (lE olt (lnf (c_seq (c_yes rfl (csk (c_seq (c_block (csr ?_)))))))))))))))))
 refine lE omi (lE oai (lnf (c_seq (c_quiet (by kernel_rfl) (by kernel_rfl) (qE omp (qE omi (qE onp (qE ofd (qE (oxd 1) ?_)))))))))
 refine q_val (v := Ix (cp.v1)) rfl rfl rfl (e_load1 tf2.ok rfl (k_flPart 0 (F := CompF) (o := 2) (us := [Ix (cp.v1)]) rfl (get_set (setV0 cp (max (min ((cp.v0) + (cv.v0)) (1048576 : Int)) (-1048576 : Int))) (by first | omega | (simp only [List.length_set]; omega))) rfl)) ?_
 refine qE omp (qE omi (qE onp (qE ofd (qE (oxd 1) ?_))))
 refine q_val (v := Ix (cv.v1)) rfl rfl rfl (e_load1 tf2.ok rfl (k_flPart 0 (F := CompF) (o := 2) (us := [Ix (cv.v1)]) rfl (set_ne (by first | assumption | (apply Ne.symm; assumption)) hj) rfl)) ?_
 refine qE opl (qE oai (q_nil (ftc (lE omp (lE omi (lE omi (lE omz (lE omx (lE onp (lE ofd (lE (oxd 1) ?_)))))))))))
 refine lu (m_storeFlPart 0 (F := CompF) (p := p) (k := i) (o := 2) (xs := (cs.set i (setV0 cp (max (min ((cp.v0) + (cv.v0)) (1048576 : Int)) (-1048576 : Int))))) (z0 := (setV0 cp (max (min ((cp.v0) + (cv.v0)) (1048576 : Int)) (-1048576 : Int)))) (z := (setV1 (setV0 cp (max (min ((cp.v0) + (cv.v0)) (1048576 : Int)) (-1048576 : Int))) (max (min ((cp.v1) + (cv.v1)) (1048576 : Int)) (-1048576 : Int)))) tf2.ok rfl rfl rfl rfl rfl (get_set (setV0 cp (max (min ((cp.v0) + (cv.v0)) (1048576 : Int)) (-1048576 : Int))) (by first | omega | (simp only [List.length_set]; omega))) (by decide) rfl) ?_
 refine l_re (L' := [rowF CompF 120 p c (cs.set i (setV1 (setV0 cp (max (min ((cp.v0) + (cv.v0)) (1048576 : Int)) (-1048576 : Int))) (max (min ((cp.v1) + (cv.v1)) (1048576 : Int)) (-1048576 : Int))))]) (by show (_ :: _ : List Res) = _; simp only [sB,rB,List.set_set,List.set_cons_zero,List.set_cons_succ]) ?_
 refine lnc (lE omp (lE omi (lE onp (lE ofd (lE (oxd 1) ?_)))))
 refine lv (v := Ix (max (min ((cp.v1) + (cv.v1)) (1048576 : Int)) (-1048576 : Int))) (e_load1 tf2.ok rfl (k_flPart 0 (F := CompF) (o := 2) (us := [Ix (max (min ((cp.v1) + (cv.v1)) (1048576 : Int)) (-1048576 : Int))]) rfl (get_set (setV1 (setV0 cp (max (min ((cp.v0) + (cv.v0)) (1048576 : Int)) (-1048576 : Int))) (max (min ((cp.v1) + (cv.v1)) (1048576 : Int)) (-1048576 : Int))) (by first | omega | (simp only [List.length_set]; omega))) rfl)) ?_
 refine lE omi (lE onq (lnf (c_if _ rfl (fun hc7 => ?_) (fun hc7 => ?_))))
 ·refine c_region (lE omp (lE omi (lE onp (lE ofd (lE (oxd 1) ?_)))))
  refine lu (m_storeFlPart 0 (F := CompF) (p := p) (k := j) (o := 2) (xs := (cs.set i (setV1 (setV0 cp (max (min ((cp.v0) + (cv.v0)) (1048576 : Int)) (-1048576 : Int))) (max (min ((cp.v1) + (cv.v1)) (1048576 : Int)) (-1048576 : Int))))) (z0 := cv) (z := (setV1 cv 0)) tf2.ok rfl rfl rfl rfl rfl (set_ne (by first | assumption | (apply Ne.symm; assumption)) hj) (by decide) rfl) ?_
  refine l_nil (f_block (f_then (c_region (lE opl (lE omi (l_nil (f_cut (un_succ 0 (csr (lE olt (lnf (c_seq (c_no rfl (c_exit (f_then_exit ?_)))))))))))))))
  refine f_then_exit (f_exit (end0 Tryz.results66 ?_))
  intro w hw
  have e : flyC cs i j cp cv = ((cs.set i (setV1 (setV0 cp (max (min ((cp.v0) + (cv.v0)) (1048576 : Int)) (-1048576 : Int))) (max (min ((cp.v1) + (cv.v1)) (1048576 : Int)) (-1048576 : Int)))).set j (setV1 cv 0)) := by
   rw [fly_yes ⟨⟨by omega,by omega⟩,by omega,by omega⟩,if_pos (Decidable.not_not.1 hc5),if_neg hc7]
   try simp only [set_swap hij,List.set_set]
   try rfl
  exact ⟨rfl,by rw [e]; exact st_mask [true] rfl hw⟩
 refine c_skip (f_block (f_then (c_region (lE opl (lE omi (l_nil (f_cut (un_succ 0 (csr (lE olt (lnf (c_seq (c_no rfl (c_exit (f_then_exit ?_)))))))))))))))
 refine f_then_exit (f_exit (end0 Tryz.results66 ?_))
 intro w hw
 have e : flyC cs i j cp cv = (cs.set i (setV1 (setV0 cp (max (min ((cp.v0) + (cv.v0)) (1048576 : Int)) (-1048576 : Int))) (max (min ((cp.v1) + (cv.v1)) (1048576 : Int)) (-1048576 : Int)))) := by
  rw [fly_yes ⟨⟨by omega,by omega⟩,by omega,by omega⟩,if_pos (Decidable.not_not.1 hc5),if_pos (Decidable.not_not.1 hc7)]
  exact set_self (set_ne (Ne.symm hij) hj)
 exact ⟨rfl,by rw [e]; exact st_mask [true] rfl hw⟩
theorem back1_fn (β : Base) (c : Nat) (i : Int) (v : Value) (hc : Cs β.heap ⟨c, 0, none⟩ [Ix i, v]) : FnV Tryz.prog β (.func (.func 68) #[] #[pp c 0]) (fun z : KB => [.agg (bC z)]) (fun _ => True) (fun z => .bool (decide (z.id = i))) := by
 refine ⟨68,[],[.pointer (some (⟨c,0,none⟩))],rfl,by kernel_rfl,fun β₁ sb0 z_ hz_ w hw => ?_⟩
 have hc1 := Cs.mono _ _ _ _ sb0 hc
 obtain ⟨z,hz⟩ : ∃ z,z = z_ := ⟨_,rfl⟩
 subst hz
 refine enter (n := 9) Tryz.func68 rfl Tryz.ntmps68 rfl ?_ hw
 refine csr (bxa fun b1 => ?_)
 refine lE oab (lnc (lE ofp (lE (oli 0) (lE ofa ?_))))
 refine lv (v := Ix (i)) (e_load1 tf2.ok rfl (Knows.imp (kB hc1) (fun _ h => Cs.sub (vs := [Ix (i)]) 0 h rfl))) (lE oeq_ (lE oab (lnf (c_ret ?_))))
 refine ret1 Tryz.results68 rfl ?_
 intro w hw
 exact ⟨rfl,st_mask [false] rfl hw⟩
end Go.Proofs
