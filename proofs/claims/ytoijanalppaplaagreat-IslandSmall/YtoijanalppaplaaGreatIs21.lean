/-
 IslandTells: walked. Printed by a program of my own.
-/
import Derived.Test.YtoijanalppaplaaGreatIs20
import Derived.Test.YtoijanalppaplaaGreatSlC
namespace Go.Isl
open Go.Sl Go.Brd Go.Stp Go.Proofs
def toV (h : HI) : HV Int := ⟨h.p, h.c, h.xs⟩
def hiH (h : HI) : H3 := ⟨h.p, h.xs.length, h.c⟩
theorem neq_self (b : Bool) : (!(b == b)) = false := by simp
theorem map_hi (hs : List HI) : hs.map hiH = (hs.map toV).map HV.h := by rw [List.map_map]; rfl
section
variable {P : Program} {ro : Option Nat} {n : Nat} {ds : List Deferred} {β : Base} {Q : Exit → Act → World → Prop} {f : Fm} {L : List Res} {ops : Array Oper} {rest : List Oper}
theorem l_split {K M : List Res} (hL : L = Sat K :: M) (k : RunL P ro n ds β ops Q rest f (K ++ M)) : RunL P ro n ds β ops Q rest f L := fun a w ha hw => by
 subst hL; exact k a w ha hw.unbun
theorem l_joinI {hs ks : List HI} {M : List Res} (hL : L = Sat (hs.map ownI) :: Sat (ks.map ownI) :: M) (k : RunL P ro n ds β ops Q rest f (Sat (((hs ++ ks).map toV).map (ownV IntF 3)) :: M)) : RunL P ro n ds β ops Q rest f L := fun a w ha hw => by
 subst hL
 have h1 := hw.unbun.perm (L' := Sat (ks.map ownI) :: (hs.map ownI ++ M)) List.perm_middle
 have h2 := h1.unbun.perm (L' := (hs.map ownI ++ ks.map ownI) ++ M) (by
  rw [← List.append_assoc]; exact List.perm_append_comm.append_right M)
 refine k a w ha (St.merge (L := hs.map ownI ++ ks.map ownI) h2 fun a q => ?_)
 rw [← List.map_append] at q
 rw [List.map_map]; exact q
end
theorem sl_hd {h : PHeap} {v : Value} {hs : List HI} (s : Sl HdIF.R h v hs) : Sl H3F.R h v (hs.map hiH) := by
 obtain ⟨p, c, e, h1, h2, h3⟩ := s.get
 subst e
 refine ⟨p, c, by rw [List.length_map], by rw [List.length_map]; exact h1, h2, fun j x hx => ?_⟩
 rw [List.getElem?_map] at hx
 cases hj : hs[j]? with
 | none => rw [hj] at hx; cases hx
 | some y => rw [hj] at hx; injection hx with hx; subst hx; exact h3 j y hj
theorem isl_few {bs : List KB} {rs : List KR} {gx gy : Int} : (islR bs rs gx gy).length ≤ 64 ∧ ∀ r ∈ islR bs rs gx gy, r.length ≤ 64 := by
 by_cases h : okS bs rs gx gy
 ·have hI := IsS.of h rfl
  have hl : (freeB bs).length ≤ 64 := Nat.le_trans (freeB_len bs) h.1
  constructor
  ·rw [hI.eq]; unfold listsC classes firsts
   rw [List.length_map, List.length_map]
   exact Nat.le_trans (List.length_filter_le _ _) (by rw [List.length_range]; exact hl)
  intro r hr
  obtain ⟨x, _, rfl⟩ := (hI.mem r).1 hr
  unfold clsI
  exact Nat.le_trans (List.length_filter_le _ _) (by rw [List.length_map]; exact hl)
 rw [islR, if_neg h]; exact ⟨Nat.zero_le _, fun r hr => by cases hr⟩
theorem hd_few {bs : List KB} {rs : List KR} {gx gy : Int} {hs : List HI} (h : hs.map (·.xs) = islR bs rs gx gy) : hs.length ≤ 64 := by
 have h1 := congrArg List.length h
 have h3 := (isl_few (bs := bs) (rs := rs) (gx := gx) (gy := gy)).1
 rw [List.length_map] at h1; omega
theorem tells_few {bs : List KB} {rs : List KR} {gx gy : Int} {hs ks : List HI} (h : hs.map (·.xs) = islR bs rs gx gy) (k : ks.map (·.xs) = islR bs rs gx gy) : ((hs ++ ks).map hiH).length ≤ 1000 := by
 have h1 := congrArg List.length h
 have h2 := congrArg List.length k
 have h3 := (isl_few (bs := bs) (rs := rs) (gx := gx) (gy := gy)).1
 rw [List.length_map] at h1 h2
 rw [List.length_map, List.length_append]; omega
theorem tells_bd {bs : List KB} {rs : List KR} {gx gy : Int} {hs ks : List HI} (h : hs.map (·.xs) = islR bs rs gx gy) (k : ks.map (·.xs) = islR bs rs gx gy) : ∀ v ∈ (hs ++ ks).map toV, v.xs.length ≤ 1000000 := fun v hv => by
 obtain ⟨y, hy, rfl⟩ := List.mem_map.1 hv
 have : y.xs ∈ islR bs rs gx gy := by
  rcases List.mem_append.1 hy with q | q
  ·rw [← h]; exact List.mem_map.2 ⟨y, q, rfl⟩
  ·rw [← k]; exact List.mem_map.2 ⟨y, q, rfl⟩
 have := isl_few.2 _ this
 show y.xs.length ≤ 1000000
 omega
end Go.Isl
namespace Go.Proofs
open Go Go.Sl Go.Brd Go.Stp Go.Isl
theorem rislM_ok (β : Base) (w : World) (hw : St β [] w) (v u : Value) (gx gy : Int) (bs : List KB) (rs : List KR) (hs_ : Sl KBR β.heap v bs) (hr_ : Sl KRR β.heap u rs) : Calls Tryz.prog 18 #[.agg #[v, u, Ix gx, Ix gy]] w fun r w' => ∃ p c hs, hs.map (·.xs) = islR bs rs gx gy ∧ r = .returned (.tuple #[sB p hs c, Ix (errI bs rs gx gy)]) ∧ St β [Sat (llL p c hs)] w' :=
 (risl_ok β w hw v u gx gy bs rs hs_ hr_).mono fun _ _ ⟨p, c, hs, h1, h2, h3⟩ => ⟨p, c, hs, h1, h2, St.merge (L := llL p c hs) (M := []) h3 fun _ q => q⟩
theorem tf228 : cfB Tryz.prog 16 = true := by kernel_rfl
theorem tf229 : cfB Tryz.prog 17 = true := by kernel_rfl
theorem tf230 : cfB Tryz.prog 18 = true := by kernel_rfl
theorem tf231 : cfB Tryz.prog 20 = true := by kernel_rfl
theorem tf232 : Tryz.prog.underlying 4 = some .bool := by kernel_rfl
theorem tf233 : cfB Tryz.prog 24 = true := by kernel_rfl
theorem tf234 : cfB Tryz.prog 25 = true := by kernel_rfl
theorem tf235 : cfB Tryz.prog 26 = true := by kernel_rfl
theorem tf236 : cfB Tryz.prog 27 = true := by kernel_rfl
theorem tf237 : cfB Tryz.prog 28 = true := by kernel_rfl
theorem tf238 : cfB Tryz.prog 29 = true := by kernel_rfl
set_option maxHeartbeats 4000000 in
theorem tells_ok (β : Base) (w : World) (hw : St β [] w) (v u l : Value) (gx gy : Int) (bs : List KB) (rs : List KR) (ids : List Int) (hs_ : Sl KBR β.heap v bs) (hr_ : Sl KRR β.heap u rs) (hi_ : Sl IntF.R β.heap l ids) (hgx : -9223372036854775808 ≤ gx ∧ gx ≤ 9223372036854775807) (hgy : -9223372036854775808 ≤ gy ∧ gy ≤ 9223372036854775807) (hbn : bs.length ≤ 1000) (hrn : rs.length ≤ 1000) (hin : ids.length ≤ 1000) : Calls Tryz.prog 7 #[.agg #[v, u, Ix gx, Ix gy], l] w fun r w' => r = .returned (.bool true) ∧ St β [] w' := by
 obtain ⟨va, vc, rfl, vl, vm, ve⟩ := hs_.get
 obtain ⟨ua, uc, rfl, ul, um, ue⟩ := hr_.get
 obtain ⟨la, lc, rfl, ll, lm, le⟩ := hi_.get
 refine enter (n := 107) Tryz.func7 rfl Tryz.ntmps7 rfl ?_ hw
 refine csr ?_
 refine l_mv rfl rfl rfl (m_box (v := .agg #[sB va bs (vc), sB ua rs (uc), Ix (gx), Ix (gy)]) rfl) ?_
 rintro _ _ ⟨b1, rfl, rfl⟩
 refine lv (v := .bool false) e_assign ?_
 refine lnc ?_
 refine lv (v := .agg #[sB va bs (vc), sB ua rs (uc), Ix (gx), Ix (gy)]) (e_load tf31 rfl (k_pt 0 rfl rfl) rfl) ?_
 refine lcf (cl0 (vs := [.agg #[sB va bs (vc), sB ua rs (uc), Ix (gx), Ix (gy)]]) tf228 rfl rfl) rfl fun w β1 sb kn hw1 back => (lentS_ok β1 w hw1 _ _ gx gy bs rs (Sl.mono _ _ _ _ _ sb (⟨⟨_, _, rfl, vl, vm, ve⟩⟩ : Sl KBR _ _ bs)) (Sl.mono _ _ _ _ _ sb (⟨⟨_, _, rfl, ul, um, ue⟩⟩ : Sl KRR _ _ rs)) (by omega) (by omega)).mono ?_
 rintro e w' ⟨p2, c3, q4, d5, rfl, hw'⟩
 refine ⟨_, rfl, _, back _ _ hw', ?_⟩
 clear hw1 hw' back kn sb
 refine lv (v := sB la ids (lc)) e_move ?_
 refine lcf (cl0 (vs := [sB la ids (lc)]) tf229 rfl rfl) rfl fun w β1 sb kn hw1 back => (lentI_ok β1 w hw1 _ ids (Sl.mono _ _ _ _ _ sb (⟨⟨_, _, rfl, ll, lm, le⟩⟩ : Sl IntF.R _ _ ids)) (by omega)).mono ?_
 rintro e w' ⟨p6, c7, rfl, hw'⟩
 refine ⟨_, rfl, _, back _ _ hw', ?_⟩
 clear hw1 hw' back kn sb
 refine l_mv rfl rfl rfl (m_alloc tf67) ?_
 rintro _ _ ⟨b8, rfl, rfl⟩
 refine lu (m_store 0 tf31 (cs' := #[sB p2 bs c3, sB q4 rs d5, Ix (gx), Ix (gy)]) rfl rfl rfl rfl rfl rfl rfl) ?_
 refine lv (v := sB p6 ids c7) e_assign ?_
 refine lnc ?_
 refine lv (v := .agg #[sB p2 bs c3, sB q4 rs d5, Ix (gx), Ix (gy)]) (e_load tf31 rfl (k_pt 0 rfl rfl) rfl) ?_
 refine lcf (cl0 (vs := [.agg #[sB p2 bs c3, sB q4 rs d5, Ix (gx), Ix (gy)]]) tf75 rfl rfl) rfl fun w β1 sb kn hw1 back => (islandsM_ok β1 w hw1 _ _ gx gy bs rs (kn _ (k_flPre 2 (F := BodyF) (xs := bs) rfl rfl)) (kn _ (k_flPre 3 (F := RopeF) (xs := rs) rfl rfl)) (by omega) (by omega)).mono ?_
 rintro e w' ⟨p9, c10, hs11, hx12, rfl, hw'⟩
 refine ⟨_, rfl, _, back _ _ hw', ?_⟩
 clear hw1 hw' back kn sb
 refine lv (v := .tuple #[sB p9 hs11 c10, Ix ((errI bs rs gx gy))]) e_move ?_
 refine lv (v := sB p9 hs11 c10) (e_extract (vs := #[sB p9 hs11 c10, Ix ((errI bs rs gx gy))]) rfl rfl) ?_
 refine lv (v := Ix ((errI bs rs gx gy))) (e_extract (vs := #[sB p9 hs11 c10, Ix ((errI bs rs gx gy))]) rfl rfl) ?_
 refine lv (v := sB p9 hs11 c10) e_assign ?_
 refine lv (v := Ix ((errI bs rs gx gy))) e_assign ?_
 refine lnc ?_
 refine lv (v := .agg #[sB va bs (vc), sB ua rs (uc), Ix (gx), Ix (gy)]) (e_load tf31 rfl (k_pt 5 rfl rfl) rfl) ?_
 refine lcf (cl0 (vs := [.agg #[sB va bs (vc), sB ua rs (uc), Ix (gx), Ix (gy)]]) tf230 rfl rfl) rfl fun w β1 sb kn hw1 back => (rislM_ok β1 w hw1 _ _ gx gy bs rs (Sl.mono _ _ _ _ _ sb (⟨⟨_, _, rfl, vl, vm, ve⟩⟩ : Sl KBR _ _ bs)) (Sl.mono _ _ _ _ _ sb (⟨⟨_, _, rfl, ul, um, ue⟩⟩ : Sl KRR _ _ rs))).mono ?_
 rintro e w' ⟨p13, c14, hs15, hx16, rfl, hw'⟩
 refine ⟨_, rfl, _, back _ _ hw', ?_⟩
 clear hw1 hw' back kn sb
 refine lv (v := .tuple #[sB p13 hs15 c14, Ix ((errI bs rs gx gy))]) e_move ?_
 refine lv (v := sB p13 hs15 c14) (e_extract (vs := #[sB p13 hs15 c14, Ix ((errI bs rs gx gy))]) rfl rfl) ?_
 refine lv (v := Ix ((errI bs rs gx gy))) (e_extract (vs := #[sB p13 hs15 c14, Ix ((errI bs rs gx gy))]) rfl rfl) ?_
 refine lv (v := sB p13 hs15 c14) e_assign ?_
 refine lv (v := Ix ((errI bs rs gx gy))) e_assign ?_
 refine lnc ?_
 refine lv (v := .agg #[sB p2 bs c3, sB q4 rs d5, Ix (gx), Ix (gy)]) (e_load tf31 rfl (k_pt 2 rfl rfl) rfl) ?_
 refine lv (v := sB p6 ids c7) e_move ?_
 refine lcf (cl0 (vs := [.agg #[sB p2 bs c3, sB q4 rs d5, Ix (gx), Ix (gy)], sB p6 ids c7]) tf76 rfl rfl) rfl fun w β1 sb kn hw1 back => (part_ok β1 w hw1 _ _ _ gx gy bs rs ids (kn _ (k_flPre 4 (F := BodyF) (xs := bs) rfl rfl)) (kn _ (k_flPre 5 (F := RopeF) (xs := rs) rfl rfl)) (kn _ (k_flPre 3 (F := IntF) (xs := ids) rfl rfl)) (by omega) (by omega)).mono ?_
 rintro e w' ⟨p17, c18, q19, d20, rfl, hw'⟩
 refine ⟨_, rfl, _, back _ _ hw', ?_⟩
 clear hw1 hw' back kn sb
 refine lv (v := .tuple #[.agg #[sB p17 (ptB bs rs gx gy ids) c18, sB q19 (ptR bs rs gx gy ids) d20, Ix ((ptG bs rs gx gy ids gx)), Ix ((ptG bs rs gx gy ids gy))], Ix ((errPt bs rs gx gy ids))]) e_move ?_
 refine lv (v := .agg #[sB p17 (ptB bs rs gx gy ids) c18, sB q19 (ptR bs rs gx gy ids) d20, Ix ((ptG bs rs gx gy ids gx)), Ix ((ptG bs rs gx gy ids gy))]) (e_extract (vs := #[.agg #[sB p17 (ptB bs rs gx gy ids) c18, sB q19 (ptR bs rs gx gy ids) d20, Ix ((ptG bs rs gx gy ids gx)), Ix ((ptG bs rs gx gy ids gy))], Ix ((errPt bs rs gx gy ids))]) rfl rfl) ?_
 refine lv (v := Ix ((errPt bs rs gx gy ids))) (e_extract (vs := #[.agg #[sB p17 (ptB bs rs gx gy ids) c18, sB q19 (ptR bs rs gx gy ids) d20, Ix ((ptG bs rs gx gy ids gx)), Ix ((ptG bs rs gx gy ids gy))], Ix ((errPt bs rs gx gy ids))]) rfl rfl) ?_
 refine l_mv rfl rfl rfl (m_alloc tf67) ?_
 rintro _ _ ⟨b21, rfl, rfl⟩
 refine lu (m_store 0 tf31 (cs' := #[sB p17 (ptB bs rs gx gy ids) c18, sB q19 (ptR bs rs gx gy ids) d20, Ix ((ptG bs rs gx gy ids gx)), Ix ((ptG bs rs gx gy ids gy))]) rfl rfl rfl rfl rfl rfl rfl) ?_
 refine lv (v := Ix ((errPt bs rs gx gy ids))) e_assign ?_
 refine lnc ?_
 refine lv (v := .agg #[sB va bs (vc), sB ua rs (uc), Ix (gx), Ix (gy)]) (e_load tf31 rfl (k_pt 9 rfl rfl) rfl) ?_
 refine lv (v := sB la ids (lc)) e_move ?_
 refine lcf (cl0 (vs := [.agg #[sB va bs (vc), sB ua rs (uc), Ix (gx), Ix (gy)], sB la ids (lc)]) tf231 rfl rfl) rfl fun w β1 sb kn hw1 back => (rpart_ok β1 w hw1 _ _ _ gx gy bs rs ids (Sl.mono _ _ _ _ _ sb (⟨⟨_, _, rfl, vl, vm, ve⟩⟩ : Sl KBR _ _ bs)) (Sl.mono _ _ _ _ _ sb (⟨⟨_, _, rfl, ul, um, ue⟩⟩ : Sl KRR _ _ rs)) (Sl.mono _ _ _ _ _ sb (⟨⟨_, _, rfl, ll, lm, le⟩⟩ : Sl IntF.R _ _ ids))).mono ?_
 rintro e w' ⟨p22, c23, q24, d25, rfl, hw'⟩
 refine ⟨_, rfl, _, back _ _ hw', ?_⟩
 clear hw1 hw' back kn sb
 refine lv (v := .tuple #[.agg #[sB p22 (ptB bs rs gx gy ids) c23, sB q24 (ptR bs rs gx gy ids) d25, Ix ((ptG bs rs gx gy ids gx)), Ix ((ptG bs rs gx gy ids gy))], Ix ((errPt bs rs gx gy ids))]) e_move ?_
 refine lv (v := .agg #[sB p22 (ptB bs rs gx gy ids) c23, sB q24 (ptR bs rs gx gy ids) d25, Ix ((ptG bs rs gx gy ids gx)), Ix ((ptG bs rs gx gy ids gy))]) (e_extract (vs := #[.agg #[sB p22 (ptB bs rs gx gy ids) c23, sB q24 (ptR bs rs gx gy ids) d25, Ix ((ptG bs rs gx gy ids gx)), Ix ((ptG bs rs gx gy ids gy))], Ix ((errPt bs rs gx gy ids))]) rfl rfl) ?_
 refine lv (v := Ix ((errPt bs rs gx gy ids))) (e_extract (vs := #[.agg #[sB p22 (ptB bs rs gx gy ids) c23, sB q24 (ptR bs rs gx gy ids) d25, Ix ((ptG bs rs gx gy ids gx)), Ix ((ptG bs rs gx gy ids gy))], Ix ((errPt bs rs gx gy ids))]) rfl rfl) ?_
 refine l_mv rfl rfl rfl (m_alloc tf67) ?_
 rintro _ _ ⟨b26, rfl, rfl⟩
 refine lu (m_store 0 tf31 (cs' := #[sB p22 (ptB bs rs gx gy ids) c23, sB q24 (ptR bs rs gx gy ids) d25, Ix ((ptG bs rs gx gy ids gx)), Ix ((ptG bs rs gx gy ids gy))]) rfl rfl rfl rfl rfl rfl rfl) ?_
 refine lv (v := Ix ((errPt bs rs gx gy ids))) e_assign ?_
 refine lnf ?_
 refine cs2 ?_
 refine c_quiet (by kernel_rfl) (by kernel_rfl) ?_
 refine q_val (v := Ix ((errI bs rs gx gy))) rfl rfl rfl e_move ?_
 refine q_val (v := Ix ((errI bs rs gx gy))) rfl rfl rfl e_move ?_
 refine q_val rfl rfl rfl (e_neq (a := ((errI bs rs gx gy))) (b := ((errI bs rs gx gy))) rfl rfl) ?_
 refine q_val (v := .bool (decide (((errI bs rs gx gy)) ≠ ((errI bs rs gx gy))))) rfl rfl rfl e_move ?_
 refine q_split (s := 46) (p := ((errI bs rs gx gy)) ≠ ((errI bs rs gx gy))) rfl (fun h => ?_) (fun h => ?_)
 exact absurd h (fun q => q rfl)
 refine qg_val (v := Ix ((errPt bs rs gx gy ids))) rfl rfl rfl rfl rfl e_move ?_
 refine qg_val (v := Ix ((errPt bs rs gx gy ids))) rfl rfl rfl rfl rfl e_move ?_
 refine qg_val rfl rfl rfl rfl rfl (e_neq (a := ((errPt bs rs gx gy ids))) (b := ((errPt bs rs gx gy ids))) rfl rfl) ?_
 refine q_val (v := .bool (decide (((errPt bs rs gx gy ids)) ≠ ((errPt bs rs gx gy ids))))) rfl rfl rfl (e_pick_f rfl) ?_
 refine q_val (v := .bool (decide (((errPt bs rs gx gy ids)) ≠ ((errPt bs rs gx gy ids))))) rfl rfl rfl e_move ?_
 refine q_split (s := 51) (p := ((errPt bs rs gx gy ids)) ≠ ((errPt bs rs gx gy ids))) rfl (fun h => ?_) (fun h => ?_)
 exact absurd h (fun q => q rfl)
 refine qg_val (v := .agg #[sB p2 bs c3, sB q4 rs d5, Ix (gx), Ix (gy)]) rfl rfl rfl rfl rfl (e_load tf31 rfl (k_pt 8 rfl rfl) rfl) ?_
 refine qg_call (v := .bool (decide (okS bs rs gx gy))) rfl rfl rfl rfl rfl (cl0 (vs := [.agg #[sB p2 bs c3, sB q4 rs d5, Ix (gx), Ix (gy)]]) tf32 rfl rfl) (fun w hw => ?_) ?_
 ·obtain ⟨β1, sb, kn, hw1, back⟩ := St.frame_all hw
  exact (ivalid_ok β1 w hw1 _ _ gx gy bs rs (kn _ (k_flPre 10 (F := BodyF) (xs := bs) rfl rfl)) (kn _ (k_flPre 11 (F := RopeF) (xs := rs) rfl rfl)) (by omega) (by omega)).mono (fun e w' ⟨he, hw'⟩ => ⟨he, st_mask [true, true, true, true, true, true, true, true, true, true, true, true, true] rfl (back _ _ hw')⟩)
 refine qg_val (v := .agg #[sB va bs (vc), sB ua rs (uc), Ix (gx), Ix (gy)]) rfl rfl rfl rfl rfl (e_load tf31 rfl (k_pt 12 rfl rfl) rfl) ?_
 refine qg_call (v := .bool (decide (okS bs rs gx gy))) rfl rfl rfl rfl rfl (cl0 (vs := [.agg #[sB va bs (vc), sB ua rs (uc), Ix (gx), Ix (gy)]]) tf98 rfl rfl) (fun w hw => ?_) ?_
 ·obtain ⟨β1, sb, kn, hw1, back⟩ := St.frame_all hw
  exact (valid7_ok β1 w hw1 _ _ gx gy bs rs (Sl.mono _ _ _ _ _ sb (⟨⟨_, _, rfl, vl, vm, ve⟩⟩ : Sl KBR _ _ bs)) (Sl.mono _ _ _ _ _ sb (⟨⟨_, _, rfl, ul, um, ue⟩⟩ : Sl KRR _ _ rs))).mono (fun e w' ⟨he, hw'⟩ => ⟨he, st_mask [true, true, true, true, true, true, true, true, true, true, true, true, true] rfl (back _ _ hw')⟩)
 refine qg_val (v := .bool (!((decide (okS bs rs gx gy)) == (decide (okS bs rs gx gy))))) rfl rfl rfl rfl rfl (e_neq_b (a := decide (okS bs rs gx gy)) (b := decide (okS bs rs gx gy)) rfl rfl tf232) ?_
 refine q_val (v := .bool (!((decide (okS bs rs gx gy)) == (decide (okS bs rs gx gy))))) rfl rfl rfl (e_pick_f rfl) ?_
 refine q_val (v := .bool (!((decide (okS bs rs gx gy)) == (decide (okS bs rs gx gy))))) rfl rfl rfl e_move ?_
 refine q_splitb (s := 58) (b := !((decide (okS bs rs gx gy)) == (decide (okS bs rs gx gy)))) rfl (fun h => ?_) (fun h => ?_)
 (rw [(neq_self (decide (okS bs rs gx gy)))] at h; cases h)
 refine qg_val (v := sB p9 hs11 c10) rfl rfl rfl rfl rfl e_move ?_
 refine qg_val (v := sB p13 hs15 c14) rfl rfl rfl rfl rfl e_move ?_
 refine qg_call (v := .bool (decide ((hs11.map (·.xs)) = (hs15.map (·.xs))))) rfl rfl rfl rfl rfl (cl0 (vs := [sB p9 hs11 c10, sB p13 hs15 c14]) tf77 rfl rfl) (fun w hw => ?_) ?_
 ·obtain ⟨β1, sb, kn, hw1, back⟩ := St.frame_all hw
  exact (sameL_ok β1 w hw1 _ _ (hs11.map (·.xs)) (hs15.map (·.xs)) (kn _ (k_ll 7 rfl)) (kn _ (k_ll 6 rfl))).mono (fun e w' ⟨he, hw'⟩ => ⟨he, st_mask [true, true, true, true, true, true, true, true, true, true, true, true, true] rfl (back _ _ hw')⟩)
 refine qg_val (v := .bool (decide (¬ ((hs11.map (·.xs)) = (hs15.map (·.xs)))))) rfl rfl rfl rfl rfl (e_not_p (p := (hs11.map (·.xs)) = (hs15.map (·.xs))) rfl) ?_
 refine q_val (v := .bool (decide (¬ ((hs11.map (·.xs)) = (hs15.map (·.xs)))))) rfl rfl rfl (e_pick_f rfl) ?_
 refine q_val (v := .bool (decide (¬ ((hs11.map (·.xs)) = (hs15.map (·.xs)))))) rfl rfl rfl e_move ?_
 refine q_split (s := 64) (p := ¬ ((hs11.map (·.xs)) = (hs15.map (·.xs)))) rfl (fun h => ?_) (fun h => ?_)
 exact absurd h (fun q => q (hx12.trans hx16.symm))
 refine qg_val (v := .agg #[sB p17 (ptB bs rs gx gy ids) c18, sB q19 (ptR bs rs gx gy ids) d20, Ix ((ptG bs rs gx gy ids gx)), Ix ((ptG bs rs gx gy ids gy))]) rfl rfl rfl rfl rfl (e_load tf31 rfl (k_pt 3 rfl rfl) rfl) ?_
 refine qg_val (v := .agg #[sB p22 (ptB bs rs gx gy ids) c23, sB q24 (ptR bs rs gx gy ids) d25, Ix ((ptG bs rs gx gy ids gx)), Ix ((ptG bs rs gx gy ids gy))]) rfl rfl rfl rfl rfl (e_load tf31 rfl (k_pt 0 rfl rfl) rfl) ?_
 refine qg_call (v := .bool true) rfl rfl rfl rfl rfl (cl0 (vs := [.agg #[sB p17 (ptB bs rs gx gy ids) c18, sB q19 (ptR bs rs gx gy ids) d20, Ix ((ptG bs rs gx gy ids gx)), Ix ((ptG bs rs gx gy ids gy))], .agg #[sB p22 (ptB bs rs gx gy ids) c23, sB q24 (ptR bs rs gx gy ids) d25, Ix ((ptG bs rs gx gy ids gx)), Ix ((ptG bs rs gx gy ids gy))]]) tf233 rfl rfl) (fun w hw => ?_) ?_
 ·obtain ⟨β1, sb, kn, hw1, back⟩ := St.frame_all hw
  exact (eqScene_ok β1 w hw1 _ _ _ _ (ptG bs rs gx gy ids gx) (ptG bs rs gx gy ids gy) (ptB bs rs gx gy ids) (ptR bs rs gx gy ids) (kn _ (k_flN 4 (F := BodyF) (m := (ptB bs rs gx gy ids).length) rfl rfl)) (kn _ (k_flN 5 (F := RopeF) (m := (ptR bs rs gx gy ids).length) rfl rfl)) (kn _ (k_flN 1 (F := BodyF) (m := (ptB bs rs gx gy ids).length) rfl rfl)) (kn _ (k_flN 2 (F := RopeF) (m := (ptR bs rs gx gy ids).length) rfl rfl))).mono (fun e w' ⟨he, hw'⟩ => ⟨he, st_mask [true, true, true, true, true, true, true, true, true, true, true, true, true] rfl (back _ _ hw')⟩)
 refine qg_val (v := .bool false) rfl rfl rfl rfl rfl (e_not (a := true) rfl) ?_
 refine q_val (v := .bool false) rfl rfl rfl (e_pick_f rfl) ?_
 refine q_val (v := .bool false) rfl rfl rfl e_move ?_
 refine qg_val (v := .agg #[sB p2 bs c3, sB q4 rs d5, Ix (gx), Ix (gy)]) rfl rfl rfl rfl rfl (e_load tf31 rfl (k_pt 8 rfl rfl) rfl) ?_
 refine qg_val (v := .agg #[sB va bs (vc), sB ua rs (uc), Ix (gx), Ix (gy)]) rfl rfl rfl rfl rfl (e_load tf31 rfl (k_pt 12 rfl rfl) rfl) ?_
 refine qg_call (v := .bool true) rfl rfl rfl rfl rfl (cl0 (vs := [.agg #[sB p2 bs c3, sB q4 rs d5, Ix (gx), Ix (gy)], .agg #[sB va bs (vc), sB ua rs (uc), Ix (gx), Ix (gy)]]) tf234 rfl rfl) (fun w hw => ?_) ?_
 ·obtain ⟨β1, sb, kn, hw1, back⟩ := St.frame_all hw
  exact (keptS_ok β1 w hw1 _ _ _ _ _ _ gx gy bs rs (by omega) (by omega) (kn _ (k_fl 10 (F := BodyF) rfl)) (kn _ (k_fl 11 (F := RopeF) rfl)) (Sl.mono _ _ _ _ _ sb (⟨⟨_, _, rfl, vl, vm, ve⟩⟩ : Sl KBR _ _ bs)) (Sl.mono _ _ _ _ _ sb (⟨⟨_, _, rfl, ul, um, ue⟩⟩ : Sl KRR _ _ rs))).mono (fun e w' ⟨he, hw'⟩ => ⟨he, st_mask [true, true, true, true, true, true, true, true, true, true, true, true, true] rfl (back _ _ hw')⟩)
 refine qg_val (v := .bool false) rfl rfl rfl rfl rfl (e_not (a := true) rfl) ?_
 refine q_val (v := .bool false) rfl rfl rfl (e_pick_f rfl) ?_
 refine q_val (v := .bool false) rfl rfl rfl e_move ?_
 refine qg_val (v := sB p6 ids c7) rfl rfl rfl rfl rfl e_move ?_
 refine qg_val (v := sB la ids (lc)) rfl rfl rfl rfl rfl e_move ?_
 refine qg_call (v := .bool true) rfl rfl rfl rfl rfl (cl0 (vs := [sB p6 ids c7, sB la ids (lc)]) tf235 rfl rfl) (fun w hw => ?_) ?_
 ·obtain ⟨β1, sb, kn, hw1, back⟩ := St.frame_all hw
  exact (keptI_ok β1 w hw1 _ _ _ ids (by omega) (kn _ (k_fl 9 (F := IntF) rfl)) (Sl.mono _ _ _ _ _ sb (⟨⟨_, _, rfl, ll, lm, le⟩⟩ : Sl IntF.R _ _ ids))).mono (fun e w' ⟨he, hw'⟩ => ⟨he, st_mask [true, true, true, true, true, true, true, true, true, true, true, true, true] rfl (back _ _ hw')⟩)
 refine qg_val (v := .bool false) rfl rfl rfl rfl rfl (e_not (a := true) rfl) ?_
 refine q_val (v := .bool false) rfl rfl rfl (e_pick_f rfl) ?_
 refine q_nil ?_
 refine f_then ?_
 refine c_no rfl ?_
 refine csk ?_
 refine csr ?_
 refine lv (v := .agg #[sB p2 bs c3, sB q4 rs d5, Ix (gx), Ix (gy)]) (e_load tf31 rfl (k_pt 8 rfl rfl) rfl) ?_
 refine lcf (cl0 (vs := [.agg #[sB p2 bs c3, sB q4 rs d5, Ix (gx), Ix (gy)]]) tf75 rfl rfl) rfl fun w β1 sb kn hw1 back => (islandsM_ok β1 w hw1 _ _ gx gy bs rs (kn _ (k_flPre 10 (F := BodyF) (xs := bs) rfl rfl)) (kn _ (k_flPre 11 (F := RopeF) (xs := rs) rfl rfl)) (by omega) (by omega)).mono ?_
 rintro e w' ⟨p27, c28, hs29, hx30, rfl, hw'⟩
 refine ⟨_, rfl, _, back _ _ hw', ?_⟩
 clear hw1 hw' back kn sb
 refine lv (v := .tuple #[sB p27 hs29 c28, Ix ((errI bs rs gx gy))]) e_move ?_
 refine lv (v := sB p27 hs29 c28) (e_extract (vs := #[sB p27 hs29 c28, Ix ((errI bs rs gx gy))]) rfl rfl) ?_
 refine lv (v := Ix ((errI bs rs gx gy))) (e_extract (vs := #[sB p27 hs29 c28, Ix ((errI bs rs gx gy))]) rfl rfl) ?_
 refine lv (v := sB p27 hs29 c28) e_assign ?_
 refine lv (v := Ix ((errI bs rs gx gy))) e_assign ?_
 refine lnc ?_
 refine lv (v := .agg #[sB p2 bs c3, sB q4 rs d5, Ix (gx), Ix (gy)]) (e_load tf31 rfl (k_pt 9 rfl rfl) rfl) ?_
 refine l_call rfl rfl rfl (cl0 (vs := [.agg #[sB p2 bs c3, sB q4 rs d5, Ix (gx), Ix (gy)]]) tf236 rfl rfl) ?_
 intro w hw
 replace hw := hw.perm (L' := _ :: _ :: _ :: _ :: _ :: _ :: _ :: _ :: _ :: _ :: _ :: _ :: _ :: _ :: []) (by exact ((((((((((((((perm_front 13 rfl).trans (perm_front 11 rfl)).trans (perm_front 11 rfl)).trans (perm_front 11 rfl)).trans (perm_front 11 rfl)).trans (perm_front 11 rfl)).trans (perm_front 11 rfl)).trans (perm_front 11 rfl)).trans (perm_front 11 rfl)).trans (perm_front 11 rfl)).trans (perm_front 11 rfl)).trans (perm_front 11 rfl)).trans (perm_front 13 rfl)).trans (perm_front 13 rfl)))
 obtain ⟨β1, sb, kn, hw1, back⟩ := St.frame (L := [_, _]) (M := _ :: _ :: _ :: _ :: _ :: _ :: _ :: _ :: _ :: _ :: _ :: _ :: []) hw
 refine (overS_ok β1 w _ _ _ _ _ _ gx gy _ _ (lentL_len _ _) (lentL_len _ _) (by omega) (by omega) hw1).mono ?_
 rintro e w' ⟨zs31, ts32, rfl, hw'⟩
 refine ⟨_, rfl, _, back _ _ hw', ?_⟩
 clear hw hw1 hw' back kn sb
 refine lnc ?_
 refine lv (v := sB p6 ids c7) e_move ?_
 refine l_call rfl rfl rfl (cl0 (vs := [sB p6 ids c7]) tf237 rfl rfl) ?_
 intro w hw
 replace hw := hw.perm (L' := _ :: _ :: _ :: _ :: _ :: _ :: _ :: _ :: _ :: _ :: _ :: _ :: _ :: _ :: []) (by exact ((((((((((((((perm_front 13 rfl).trans (perm_front 12 rfl)).trans (perm_front 12 rfl)).trans (perm_front 12 rfl)).trans (perm_front 12 rfl)).trans (perm_front 12 rfl)).trans (perm_front 12 rfl)).trans (perm_front 12 rfl)).trans (perm_front 12 rfl)).trans (perm_front 12 rfl)).trans (perm_front 12 rfl)).trans (perm_front 12 rfl)).trans (perm_front 12 rfl)).trans (perm_front 13 rfl)))
 obtain ⟨β1, sb, kn, hw1, back⟩ := St.frame (L := [_]) (M := _ :: _ :: _ :: _ :: _ :: _ :: _ :: _ :: _ :: _ :: _ :: _ :: _ :: []) hw
 refine (overI_ok β1 w _ _ _ _ (lentL_len _ _) (by omega) hw1).mono ?_
 rintro e w' ⟨zs33, rfl, hw'⟩
 refine ⟨_, rfl, _, back _ _ hw', ?_⟩
 clear hw hw1 hw' back kn sb
 refine lnf ?_
 refine c_seq ?_
 have hq0 := hd_few hx12
 have hq1 := hd_few hx16
 have hq2 := hd_few hx30
 refine c_region ?_
 refine lv (v := sB p9 hs11 c10) e_move ?_
 refine lv (v := sB p13 hs15 c14) e_move ?_
 refine lcf (cl0 (vs := [sB p9 hs11 c10, sB p13 hs15 c14]) tf77 rfl rfl) rfl fun w β1 sb kn hw1 back => (sameL_ok β1 w hw1 _ _ (hs11.map (·.xs)) (hs15.map (·.xs)) (kn _ (k_ll 11 rfl)) (kn _ (k_ll 10 rfl))).mono ?_
 rintro e w' ⟨rfl, hw'⟩
 refine ⟨_, rfl, _, back _ _ hw', ?_⟩
 clear hw1 hw' back kn sb
 refine lv (v := .bool (decide ((hs11.map (·.xs)) = (hs15.map (·.xs))))) e_move ?_
 refine l_split (s := 94) (p := (hs11.map (·.xs)) = (hs15.map (·.xs))) rfl (fun h => ?_) (fun h => ?_)
 rotate_left; exact absurd (hx12.trans hx16.symm) h
 refine g_val (v := .agg #[sB p17 (ptB bs rs gx gy ids) c18, sB q19 (ptR bs rs gx gy ids) d20, Ix ((ptG bs rs gx gy ids gx)), Ix ((ptG bs rs gx gy ids gy))]) rfl rfl rfl rfl rfl (e_load tf31 rfl (k_pt 7 rfl rfl) rfl) ?_
 refine g_val (v := .agg #[sB p22 (ptB bs rs gx gy ids) c23, sB q24 (ptR bs rs gx gy ids) d25, Ix ((ptG bs rs gx gy ids gx)), Ix ((ptG bs rs gx gy ids gy))]) rfl rfl rfl rfl rfl (e_load tf31 rfl (k_pt 4 rfl rfl) rfl) ?_
 refine g_call rfl rfl rfl rfl rfl (cl0 (vs := [.agg #[sB p17 (ptB bs rs gx gy ids) c18, sB q19 (ptR bs rs gx gy ids) d20, Ix ((ptG bs rs gx gy ids gx)), Ix ((ptG bs rs gx gy ids gy))], .agg #[sB p22 (ptB bs rs gx gy ids) c23, sB q24 (ptR bs rs gx gy ids) d25, Ix ((ptG bs rs gx gy ids gx)), Ix ((ptG bs rs gx gy ids gy))]]) tf233 rfl rfl) ?_
 intro w hw
 obtain ⟨β1, sb, kn, hw1, back⟩ := St.frame_all hw
 refine (eqScene_ok β1 w hw1 _ _ _ _ (ptG bs rs gx gy ids gx) (ptG bs rs gx gy ids gy) (ptB bs rs gx gy ids) (ptR bs rs gx gy ids) (kn _ (k_flN 8 (F := BodyF) (m := (ptB bs rs gx gy ids).length) rfl rfl)) (kn _ (k_flN 9 (F := RopeF) (m := (ptR bs rs gx gy ids).length) rfl rfl)) (kn _ (k_flN 5 (F := BodyF) (m := (ptB bs rs gx gy ids).length) rfl rfl)) (kn _ (k_flN 6 (F := RopeF) (m := (ptR bs rs gx gy ids).length) rfl rfl))).mono ?_
 rintro e w' ⟨rfl, hw'⟩
 refine ⟨_, rfl, _, back _ _ hw', ?_⟩
 clear hw hw1 hw' back kn sb
 refine lv (v := .bool true) (e_pick_t rfl) ?_
 refine lv (v := .bool true) e_move ?_
 refine g_mv rfl rfl rfl rfl rfl (m_slice0 tf21) ?_
 rintro _ _ ⟨b34, rfl, rfl⟩
 refine g_val (v := sB p9 hs11 c10) rfl rfl rfl rfl rfl e_move ?_
 refine l_perm (L' := [Sat (llL p9 c10 hs11), pt b34 (.cells #[] 28), rowF IntF 3 p6 c7 zs33, rowF BodyF 33 p2 c3 zs31, rowF RopeF 42 q4 d5 ts32, Sat (llL p27 c28 hs29), pt b26 (.cells #[sB p22 (ptB bs rs gx gy ids) c23, sB q24 (ptR bs rs gx gy ids) d25, Ix ((ptG bs rs gx gy ids gx)), Ix ((ptG bs rs gx gy ids gy))] 27), rowF BodyF 33 p22 c23 (ptB bs rs gx gy ids), rowF RopeF 42 q24 d25 (ptR bs rs gx gy ids), pt b21 (.cells #[sB p17 (ptB bs rs gx gy ids) c18, sB q19 (ptR bs rs gx gy ids) d20, Ix ((ptG bs rs gx gy ids gx)), Ix ((ptG bs rs gx gy ids gy))] 27), rowF BodyF 33 p17 c18 (ptB bs rs gx gy ids), rowF RopeF 42 q19 d20 (ptR bs rs gx gy ids), Sat (llL p13 c14 hs15), pt b8 (.cells #[sB p2 bs c3, sB q4 rs d5, Ix (gx), Ix (gy)] 27), pt b1 (.cells #[sB va bs (vc), sB ua rs (uc), Ix (gx), Ix (gy)] 27)]) (perm_ix [12, 0, 1, 2, 3, 4, 5, 6, 7, 8, 9, 10, 11, 13, 14] 15 rfl (by kernel_rfl) (by kernel_rfl)) ?_
 refine l_split (K := llL p9 c10 hs11) (M := [pt b34 (.cells #[] 28), rowF IntF 3 p6 c7 zs33, rowF BodyF 33 p2 c3 zs31, rowF RopeF 42 q4 d5 ts32, Sat (llL p27 c28 hs29), pt b26 (.cells #[sB p22 (ptB bs rs gx gy ids) c23, sB q24 (ptR bs rs gx gy ids) d25, Ix ((ptG bs rs gx gy ids gx)), Ix ((ptG bs rs gx gy ids gy))] 27), rowF BodyF 33 p22 c23 (ptB bs rs gx gy ids), rowF RopeF 42 q24 d25 (ptR bs rs gx gy ids), pt b21 (.cells #[sB p17 (ptB bs rs gx gy ids) c18, sB q19 (ptR bs rs gx gy ids) d20, Ix ((ptG bs rs gx gy ids gx)), Ix ((ptG bs rs gx gy ids gy))] 27), rowF BodyF 33 p17 c18 (ptB bs rs gx gy ids), rowF RopeF 42 q19 d20 (ptR bs rs gx gy ids), Sat (llL p13 c14 hs15), pt b8 (.cells #[sB p2 bs c3, sB q4 rs d5, Ix (gx), Ix (gy)] 27), pt b1 (.cells #[sB va bs (vc), sB ua rs (uc), Ix (gx), Ix (gy)] 27)]) rfl ?_
 refine l_re (L' := [rowF HdIF 28 p9 c10 hs11, Sat (hs11.map ownI), pt b34 (.cells #[] 28), rowF IntF 3 p6 c7 zs33, rowF BodyF 33 p2 c3 zs31, rowF RopeF 42 q4 d5 ts32, Sat (llL p27 c28 hs29), pt b26 (.cells #[sB p22 (ptB bs rs gx gy ids) c23, sB q24 (ptR bs rs gx gy ids) d25, Ix ((ptG bs rs gx gy ids gx)), Ix ((ptG bs rs gx gy ids gy))] 27), rowF BodyF 33 p22 c23 (ptB bs rs gx gy ids), rowF RopeF 42 q24 d25 (ptR bs rs gx gy ids), pt b21 (.cells #[sB p17 (ptB bs rs gx gy ids) c18, sB q19 (ptR bs rs gx gy ids) d20, Ix ((ptG bs rs gx gy ids gx)), Ix ((ptG bs rs gx gy ids gy))] 27), rowF BodyF 33 p17 c18 (ptB bs rs gx gy ids), rowF RopeF 42 q19 d20 (ptR bs rs gx gy ids), Sat (llL p13 c14 hs15), pt b8 (.cells #[sB p2 bs c3, sB q4 rs d5, Ix (gx), Ix (gy)] 27), pt b1 (.cells #[sB va bs (vc), sB ua rs (uc), Ix (gx), Ix (gy)] 27)]) rfl ?_
 refine l_conseq 2 (r' := rowF HdIF 28 (some ⟨b34, 0, none⟩) 0 []) rfl (fun a h => pt_row (m := 0) (by decide) rfl a h) ?_
 refine g_mv rfl rfl rfl rfl rfl (m_appendFlN (F := HdIF) 2 tf21 tf37 (p := (some ⟨b34, 0, none⟩)) (m := 0) (xs := []) (ys := hs11) (ao := p9) (k := hs11.length) (c := c10) rfl rfl rfl rfl rfl (Knows.imp (k_flN 0 (F := HdIF) (m := hs11.length) rfl rfl) fun _ h => (Sl.parts h).2.2.2) (by first | omega | simp only [List.length_nil, List.length_cons, List.length_append, List.length_set]; omega) (by first | omega | simp only [List.length_nil, List.length_cons, List.length_append, List.length_set]; omega)) ?_
 rintro _ _ ⟨rp35, rc36, rfl, rfl⟩
 refine g_val (v := sB p27 hs29 c28) rfl rfl rfl rfl rfl e_move ?_
 refine l_perm (L' := [Sat (llL p27 c28 hs29), rowF HdIF 28 p9 c10 hs11, Sat (hs11.map ownI), rowF HdIF 28 rp35 rc36 hs11, rowF IntF 3 p6 c7 zs33, rowF BodyF 33 p2 c3 zs31, rowF RopeF 42 q4 d5 ts32, pt b26 (.cells #[sB p22 (ptB bs rs gx gy ids) c23, sB q24 (ptR bs rs gx gy ids) d25, Ix ((ptG bs rs gx gy ids gx)), Ix ((ptG bs rs gx gy ids gy))] 27), rowF BodyF 33 p22 c23 (ptB bs rs gx gy ids), rowF RopeF 42 q24 d25 (ptR bs rs gx gy ids), pt b21 (.cells #[sB p17 (ptB bs rs gx gy ids) c18, sB q19 (ptR bs rs gx gy ids) d20, Ix ((ptG bs rs gx gy ids gx)), Ix ((ptG bs rs gx gy ids gy))] 27), rowF BodyF 33 p17 c18 (ptB bs rs gx gy ids), rowF RopeF 42 q19 d20 (ptR bs rs gx gy ids), Sat (llL p13 c14 hs15), pt b8 (.cells #[sB p2 bs c3, sB q4 rs d5, Ix (gx), Ix (gy)] 27), pt b1 (.cells #[sB va bs (vc), sB ua rs (uc), Ix (gx), Ix (gy)] 27)]) (perm_ix [6, 0, 1, 2, 3, 4, 5, 7, 8, 9, 10, 11, 12, 13, 14, 15] 16 rfl (by kernel_rfl) (by kernel_rfl)) ?_
 refine l_split (K := llL p27 c28 hs29) (M := [rowF HdIF 28 p9 c10 hs11, Sat (hs11.map ownI), rowF HdIF 28 rp35 rc36 hs11, rowF IntF 3 p6 c7 zs33, rowF BodyF 33 p2 c3 zs31, rowF RopeF 42 q4 d5 ts32, pt b26 (.cells #[sB p22 (ptB bs rs gx gy ids) c23, sB q24 (ptR bs rs gx gy ids) d25, Ix ((ptG bs rs gx gy ids gx)), Ix ((ptG bs rs gx gy ids gy))] 27), rowF BodyF 33 p22 c23 (ptB bs rs gx gy ids), rowF RopeF 42 q24 d25 (ptR bs rs gx gy ids), pt b21 (.cells #[sB p17 (ptB bs rs gx gy ids) c18, sB q19 (ptR bs rs gx gy ids) d20, Ix ((ptG bs rs gx gy ids gx)), Ix ((ptG bs rs gx gy ids gy))] 27), rowF BodyF 33 p17 c18 (ptB bs rs gx gy ids), rowF RopeF 42 q19 d20 (ptR bs rs gx gy ids), Sat (llL p13 c14 hs15), pt b8 (.cells #[sB p2 bs c3, sB q4 rs d5, Ix (gx), Ix (gy)] 27), pt b1 (.cells #[sB va bs (vc), sB ua rs (uc), Ix (gx), Ix (gy)] 27)]) rfl ?_
 refine l_re (L' := [rowF HdIF 28 p27 c28 hs29, Sat (hs29.map ownI), rowF HdIF 28 p9 c10 hs11, Sat (hs11.map ownI), rowF HdIF 28 rp35 rc36 hs11, rowF IntF 3 p6 c7 zs33, rowF BodyF 33 p2 c3 zs31, rowF RopeF 42 q4 d5 ts32, pt b26 (.cells #[sB p22 (ptB bs rs gx gy ids) c23, sB q24 (ptR bs rs gx gy ids) d25, Ix ((ptG bs rs gx gy ids gx)), Ix ((ptG bs rs gx gy ids gy))] 27), rowF BodyF 33 p22 c23 (ptB bs rs gx gy ids), rowF RopeF 42 q24 d25 (ptR bs rs gx gy ids), pt b21 (.cells #[sB p17 (ptB bs rs gx gy ids) c18, sB q19 (ptR bs rs gx gy ids) d20, Ix ((ptG bs rs gx gy ids gx)), Ix ((ptG bs rs gx gy ids gy))] 27), rowF BodyF 33 p17 c18 (ptB bs rs gx gy ids), rowF RopeF 42 q19 d20 (ptR bs rs gx gy ids), Sat (llL p13 c14 hs15), pt b8 (.cells #[sB p2 bs c3, sB q4 rs d5, Ix (gx), Ix (gy)] 27), pt b1 (.cells #[sB va bs (vc), sB ua rs (uc), Ix (gx), Ix (gy)] 27)]) rfl ?_
 refine g_mv rfl rfl rfl rfl rfl (m_appendFlN (F := HdIF) 4 tf21 tf37 (p := rp35) (m := hs11.length) (xs := hs11) (ys := hs29) (ao := p27) (k := hs29.length) (c := c28) rfl rfl rfl rfl rfl (Knows.imp (k_flN 0 (F := HdIF) (m := hs29.length) rfl rfl) fun _ h => (Sl.parts h).2.2.2) (by first | omega | simp only [List.length_nil, List.length_cons, List.length_append, List.length_set]; omega) (by first | omega | simp only [List.length_nil, List.length_cons, List.length_append, List.length_set]; omega)) ?_
 rintro _ _ ⟨rp37, rc38, rfl, rfl⟩
 refine l_perm (L' := [Sat (hs11.map ownI), Sat (hs29.map ownI), rowF HdIF 28 p27 c28 hs29, rowF HdIF 28 p9 c10 hs11, rowF HdIF 28 rp37 rc38 (hs11 ++ hs29), rowF IntF 3 p6 c7 zs33, rowF BodyF 33 p2 c3 zs31, rowF RopeF 42 q4 d5 ts32, pt b26 (.cells #[sB p22 (ptB bs rs gx gy ids) c23, sB q24 (ptR bs rs gx gy ids) d25, Ix ((ptG bs rs gx gy ids gx)), Ix ((ptG bs rs gx gy ids gy))] 27), rowF BodyF 33 p22 c23 (ptB bs rs gx gy ids), rowF RopeF 42 q24 d25 (ptR bs rs gx gy ids), pt b21 (.cells #[sB p17 (ptB bs rs gx gy ids) c18, sB q19 (ptR bs rs gx gy ids) d20, Ix ((ptG bs rs gx gy ids gx)), Ix ((ptG bs rs gx gy ids gy))] 27), rowF BodyF 33 p17 c18 (ptB bs rs gx gy ids), rowF RopeF 42 q19 d20 (ptR bs rs gx gy ids), Sat (llL p13 c14 hs15), pt b8 (.cells #[sB p2 bs c3, sB q4 rs d5, Ix (gx), Ix (gy)] 27), pt b1 (.cells #[sB va bs (vc), sB ua rs (uc), Ix (gx), Ix (gy)] 27)]) (perm_ix [3, 1, 0, 2, 4, 5, 6, 7, 8, 9, 10, 11, 12, 13, 14, 15, 16] 17 rfl (by kernel_rfl) (by kernel_rfl)) ?_
 refine l_joinI (hs := hs11) (ks := hs29) (M := [rowF HdIF 28 p27 c28 hs29, rowF HdIF 28 p9 c10 hs11, rowF HdIF 28 rp37 rc38 (hs11 ++ hs29), rowF IntF 3 p6 c7 zs33, rowF BodyF 33 p2 c3 zs31, rowF RopeF 42 q4 d5 ts32, pt b26 (.cells #[sB p22 (ptB bs rs gx gy ids) c23, sB q24 (ptR bs rs gx gy ids) d25, Ix ((ptG bs rs gx gy ids gx)), Ix ((ptG bs rs gx gy ids gy))] 27), rowF BodyF 33 p22 c23 (ptB bs rs gx gy ids), rowF RopeF 42 q24 d25 (ptR bs rs gx gy ids), pt b21 (.cells #[sB p17 (ptB bs rs gx gy ids) c18, sB q19 (ptR bs rs gx gy ids) d20, Ix ((ptG bs rs gx gy ids gx)), Ix ((ptG bs rs gx gy ids gy))] 27), rowF BodyF 33 p17 c18 (ptB bs rs gx gy ids), rowF RopeF 42 q19 d20 (ptR bs rs gx gy ids), Sat (llL p13 c14 hs15), pt b8 (.cells #[sB p2 bs c3, sB q4 rs d5, Ix (gx), Ix (gy)] 27), pt b1 (.cells #[sB va bs (vc), sB ua rs (uc), Ix (gx), Ix (gy)] 27)]) rfl ?_
 refine g_call rfl rfl rfl rfl rfl (cl0 (vs := [sB rp37 (hs11 ++ hs29) rc38]) tf238 rfl rfl) ?_
 intro w hw
 replace hw := hw.perm (L' := _ :: _ :: _ :: _ :: _ :: _ :: _ :: _ :: _ :: _ :: _ :: _ :: _ :: _ :: _ :: _ :: []) (by exact ((((((((((((((((perm_front 15 rfl).trans (perm_front 15 rfl)).trans (perm_front 15 rfl)).trans (perm_front 15 rfl)).trans (perm_front 15 rfl)).trans (perm_front 15 rfl)).trans (perm_front 15 rfl)).trans (perm_front 15 rfl)).trans (perm_front 15 rfl)).trans (perm_front 15 rfl)).trans (perm_front 15 rfl)).trans (perm_front 15 rfl)).trans (perm_front 15 rfl)).trans (perm_front 15 rfl)).trans (perm_front 15 rfl)).trans (perm_front 15 rfl)))
 obtain ⟨β1, sb, kn, hw1, back⟩ := St.frame (L := [_]) (M := _ :: _ :: _ :: _ :: _ :: _ :: _ :: _ :: _ :: _ :: _ :: _ :: _ :: _ :: _ :: []) hw
 refine (apartI_ok β1 w _ _ (sl_hd (kn _ (k_flN 2 (F := HdIF) (m := (hs11 ++ hs29).length) rfl rfl))) (tells_few hx12 hx30) _ (map_hi _) (tells_bd hx12 hx30) hw1).mono ?_
 rintro e w' ⟨rfl, hw'⟩
 refine ⟨_, rfl, _, back _ _ hw', ?_⟩
 clear hw hw1 hw' back kn sb
 refine lv (v := .bool true) (e_pick_t rfl) ?_
 refine lv (v := .bool true) e_assign ?_
 refine lnf ?_
 refine c_ret ?_
 refine ret1 Tryz.results7 (v := .bool true) rfl ?_
 intro w hw
 exact ⟨rfl, st_mask [false, false, false, false, false, false, false, false, false, false, false, false, false, false, false] rfl hw⟩
end Go.Proofs
