/-
 The reference's writing, walked. Printed by a program of my own.
-/
import Derived.Test.YtkpdcajddpiknaaJn18
import Derived.Test.YtkpdcajddpiknaaSlC
namespace Go.Proofs
open Go Go.Sl Go.Jn

set_option maxHeartbeats 4000000 in
theorem rcutA_ok (β : Base) (w : World) (pH pA pB : Option Addr) (cH cA cB : Nat) (k : KS) (e size : Nat) (he : e % 2 = 0) (hs : size ≤ (k.area e).length) (hp : k.power ≤ 9223372036854775807) (hw : St β [rB pH k.head cH, rB pA k.a cA, rB pB k.b cB] w) : Calls Try.prog 66 #[.agg #[sB pH k.head cH, sB pA k.a cA, sB pB k.b cB, Ix k.power], .int .i64 0, Nx size] w fun r w' => r = .returned (.tuple #[.agg #[sB pH ((cutS k e size).head) cH, sB pA ((cutS k e size).a) cA, sB pB ((cutS k e size).b) cB, Ix (cutS k e size).power], .bool (decide (¬ cutOk (k.area e) k.power size))]) ∧ St β [rB pH ((cutS k e size).head) cH, rB pA ((cutS k e size).a) cA, rB pB ((cutS k e size).b) cB] w' := by
 rw [area_even he] at hs
 refine enter (n := 39) Try.func66 rfl Try.ntmps66 rfl ?_ hw
 refine csr ?_
 refine l_mv rfl rfl rfl (m_box (v := .agg #[sB pH k.head cH, sB pA k.a cA, sB pB k.b cB, Ix (k.power)]) rfl) ?_
 rintro _ _ ⟨b1, rfl, rfl⟩
 refine l_mv rfl rfl rfl (m_alloc tf106) ?_
 rintro _ _ ⟨b2, rfl, rfl⟩
 refine lv e_assign ?_
 refine lnf ?_
 refine cs2 ?_
 refine c_rowcap 3 rfl (fun hcl hcm => ?_)
 refine c_region ?_
 refine lv (v := .agg #[sB pH k.head cH, sB pA k.a cA, sB pB k.b cB, Ix (k.power)]) (e_load tf56 rfl (k_pt 1 rfl rfl) rfl) ?_
 refine lv e_move ?_
 refine lcf (cl0 (vs := [.agg #[sB pH k.head cH, sB pA k.a cA, sB pB k.b cB, Ix (k.power)], .int .i64 (0)]) tf145 rfl rfl) rfl fun w β1 sb kn hw1 back => (rarea0_ok β1 w hw1 0 (by decide) k _ _ _ (kU kn 2 rfl) (kU kn 3 rfl) (kU kn 4 rfl)).mono ?_
 rintro e w' ⟨rfl, hw'⟩
 refine ⟨_, rfl, _, back _ _ hw', ?_⟩
 clear hw1 hw' back kn sb
 refine lv (v := Nx ((k.a).length)) (e_len (a := pA) (n := (k.a).length) (c := cA) rfl tf11) ?_
 refine lv e_move ?_
 refine lv (e_eql (a := (((k.a).length : Nat) : Int)) (b := ((size : Nat) : Int)) rfl rfl) ?_
 refine lnf ?_
 refine c_if ((((k.a).length : Nat) : Int) = ((size : Nat) : Int)) rfl (fun hc3 => ?_) (fun hc3 => ?_)
 ·refine csr ?_
  refine lv (v := .agg #[sB pH k.head cH, sB pA k.a cA, sB pB k.b cB, Ix (k.power)]) (e_load tf56 rfl (k_pt 1 rfl rfl) rfl) ?_
  refine lu (m_store 0 tf56 (cs' := #[sB pH k.head cH, sB pA k.a cA, sB pB k.b cB, Ix (k.power)]) rfl rfl rfl rfl rfl rfl rfl) ?_
  refine lv e_assign ?_
  refine lnf ?_
  refine c_ret ?_
  refine f_then_ret ?_
  refine retG (m := [.agg #[sB pH k.head cH, sB pA k.a cA, sB pB k.b cB, Ix (k.power)], .bool false]) Try.results66 ⟨rd_cell tf56 rfl (k_pt 0 rfl rfl) rfl, rd_tmp (v := .bool false) rfl, trivial⟩ rfl ?_
  intro w hw
  have eK : { k with a := cutA k.a k.power size, power := cutP k.a k.power size } = k := by rw [cutA_id (by omega), cutP_id (by omega)]
  have ec : cutOk k.a k.power size := .inl (by omega)
  rw [show cutS k e size = k from (cutS_even he).symm.trans eK]
  exact ⟨by simp only [area_even he]; simp [ec], st_mask [false, false, true, true, true] rfl hw⟩
 refine csk ?_
 refine cs2 ?_
 refine c_region ?_
 refine lv (e_fieldPt rfl tf24) ?_
 refine lv (v := Ix (k.power)) (e_load1 tf25 rfl (k_pt 1 rfl rfl)) ?_
 refine lv (e_eql (a := (k.power)) (b := (0 : Int)) rfl rfl) ?_
 refine lnf ?_
 refine c_if ((k.power) = (0 : Int)) rfl (fun hc4 => ?_) (fun hc4 => ?_)
 ·refine csr ?_
  refine lv (v := .agg #[sB pH k.head cH, sB pA k.a cA, sB pB k.b cB, Ix (k.power)]) (e_load tf56 rfl (k_pt 1 rfl rfl) rfl) ?_
  refine lu (m_store 0 tf56 (cs' := #[sB pH k.head cH, sB pA k.a cA, sB pB k.b cB, Ix (k.power)]) rfl rfl rfl rfl rfl rfl rfl) ?_
  refine lv e_assign ?_
  refine lnf ?_
  refine c_ret ?_
  refine f_then_ret ?_
  refine retG (m := [.agg #[sB pH k.head cH, sB pA k.a cA, sB pB k.b cB, Ix (k.power)], .bool true]) Try.results66 ⟨rd_cell tf56 rfl (k_pt 0 rfl rfl) rfl, rd_tmp (v := .bool true) rfl, trivial⟩ rfl ?_
  intro w hw
  have e1 : cutA k.a k.power size = k.a := if_pos hc4
  have e2 : cutP k.a k.power size = k.power := by unfold cutP spendP; split <;> (try split) <;> omega
  have eK : { k with a := cutA k.a k.power size, power := cutP k.a k.power size } = k := by rw [e1, e2]
  have ec : ¬ cutOk k.a k.power size := by unfold cutOk; omega
  rw [show cutS k e size = k from (cutS_even he).symm.trans eK]
  exact ⟨by simp only [area_even he]; simp [ec], st_mask [false, false, true, true, true] rfl hw⟩
 refine csk ?_
 refine cs2 ?_
 refine c_region ?_
 refine lv (e_fieldPt rfl tf24) ?_
 refine lv (v := Ix (k.power)) (e_load1 tf25 rfl (k_pt 1 rfl rfl)) ?_
 refine lv (e_gtr (a := (k.power)) (b := (0 : Int)) rfl rfl) ?_
 refine lnf ?_
 refine c_if ((0 : Int) < (k.power)) rfl (fun hc5 => ?_) (fun hc5 => ?_)
 ·refine c_region ?_
  refine lv (e_fieldPt rfl tf24) ?_
  refine lv (v := Ix (k.power)) (e_load1 tf25 rfl (k_pt 1 rfl rfl)) ?_
  refine lv (v := Ix ((k.power) - (1 : Int))) (e_sub (a := (k.power)) (b := (1 : Int)) rfl rfl (i64w (by omega))) ?_
  refine lv (e_fieldPt rfl tf24) ?_
  refine lu (m_store 1 tf25 (cs' := #[sB pH k.head cH, sB pA k.a cA, sB pB k.b cB, Ix ((k.power) - (1 : Int))]) rfl rfl rfl rfl rfl rfl rfl) ?_
  refine lnf ?_
  refine cs2 ?_
  refine c_region ?_
  refine lv e_move ?_
  refine lv (v := .bool true) (e_eql (a := (0 : Int)) (b := (0 : Int)) rfl rfl) ?_
  refine lnf ?_
  refine c_yes rfl ?_
  refine c_region ?_
  refine lv (e_fieldPt rfl tf22) ?_
  refine lv (v := sB pA k.a cA) (e_load1 tf21 rfl (k_pt 1 rfl rfl)) ?_
  refine lv e_move ?_
  refine lv (v := .slice pA (size) cA) (e_slice_hi (a := pA) (len := (k.a).length) (cap := cA) (h := size) tf12 rfl rfl (by omega)) ?_
  refine lv (e_fieldPt rfl tf22) ?_
  refine lu (m_store 1 tf21 (cs' := #[sB pH k.head cH, .slice pA (size) cA, sB pB k.b cB, Ix ((k.power) - (1 : Int))]) rfl rfl rfl rfl rfl rfl rfl) ?_
  refine lnc ?_
  refine lv (v := .agg #[sB pH k.head cH, .slice pA (size) cA, sB pB k.b cB, Ix ((k.power) - (1 : Int))]) (e_load tf56 rfl (k_pt 1 rfl rfl) rfl) ?_
  refine lu (m_store 0 tf56 (cs' := #[sB pH k.head cH, .slice pA (size) cA, sB pB k.b cB, Ix ((k.power) - (1 : Int))]) rfl rfl rfl rfl rfl rfl rfl) ?_
  refine lv e_assign ?_
  refine lnf ?_
  refine c_ret ?_
  refine retG (m := [.agg #[sB pH k.head cH, .slice pA (size) cA, sB pB k.b cB, Ix ((k.power) - (1 : Int))], .bool false]) Try.results66 ⟨rd_cell tf56 rfl (k_pt 0 rfl rfl) rfl, rd_tmp (v := .bool false) rfl, trivial⟩ rfl ?_
  intro w hw
  have hw := hw.conseq_at 3 rfl (fun a h => row_takeB (h := size) h (by omega))
  have e0 : (k.a.take size).length = size := by simp; omega
  have e1 : cutA k.a k.power size = k.a.take size := if_neg hc4
  have e2 : cutP k.a k.power size = k.power - 1 := by unfold cutP spendP; rw [if_pos (by omega), if_pos (by omega)]
  have ec : cutOk k.a k.power size := .inr hc4
  rw [← cutS_even he]
  simp only [sB, rB, e1, e2, e0, area_even he, e0]
  simp only [sB, rB, e0] at hw
  exact ⟨by simp [ec], st_mask [false, false, true, true, true] rfl hw⟩
 refine csk ?_
 refine cs2 ?_
 refine c_region ?_
 refine lv e_move ?_
 refine lv (v := .bool true) (e_eql (a := (0 : Int)) (b := (0 : Int)) rfl rfl) ?_
 refine lnf ?_
 refine c_yes rfl ?_
 refine c_region ?_
 refine lv (e_fieldPt rfl tf22) ?_
 refine lv (v := sB pA k.a cA) (e_load1 tf21 rfl (k_pt 1 rfl rfl)) ?_
 refine lv e_move ?_
 refine lv (v := .slice pA (size) cA) (e_slice_hi (a := pA) (len := (k.a).length) (cap := cA) (h := size) tf12 rfl rfl (by omega)) ?_
 refine lv (e_fieldPt rfl tf22) ?_
 refine lu (m_store 1 tf21 (cs' := #[sB pH k.head cH, .slice pA (size) cA, sB pB k.b cB, Ix (k.power)]) rfl rfl rfl rfl rfl rfl rfl) ?_
 refine lnc ?_
 refine lv (v := .agg #[sB pH k.head cH, .slice pA (size) cA, sB pB k.b cB, Ix (k.power)]) (e_load tf56 rfl (k_pt 1 rfl rfl) rfl) ?_
 refine lu (m_store 0 tf56 (cs' := #[sB pH k.head cH, .slice pA (size) cA, sB pB k.b cB, Ix (k.power)]) rfl rfl rfl rfl rfl rfl rfl) ?_
 refine lv e_assign ?_
 refine lnf ?_
 refine c_ret ?_
 refine retG (m := [.agg #[sB pH k.head cH, .slice pA (size) cA, sB pB k.b cB, Ix (k.power)], .bool false]) Try.results66 ⟨rd_cell tf56 rfl (k_pt 0 rfl rfl) rfl, rd_tmp (v := .bool false) rfl, trivial⟩ rfl ?_
 intro w hw
 have hw := hw.conseq_at 3 rfl (fun a h => row_takeB (h := size) h (by omega))
 have e0 : (k.a.take size).length = size := by simp; omega
 have e1 : cutA k.a k.power size = k.a.take size := if_neg hc4
 have e2 : cutP k.a k.power size = k.power := by unfold cutP spendP; rw [if_pos (by omega), if_neg (by omega)]
 have ec : cutOk k.a k.power size := .inr hc4
 rw [← cutS_even he]
 simp only [sB, rB, e1, e2, e0, area_even he, e0]
 simp only [sB, rB, e0] at hw
 exact ⟨by simp [ec], st_mask [false, false, true, true, true] rfl hw⟩
set_option maxHeartbeats 4000000 in
theorem rcutB_ok (β : Base) (w : World) (pH pA pB : Option Addr) (cH cA cB : Nat) (k : KS) (e size : Nat) (he : e % 2 = 1) (hs : size ≤ (k.area e).length) (hp : k.power ≤ 9223372036854775807) (hw : St β [rB pH k.head cH, rB pA k.a cA, rB pB k.b cB] w) : Calls Try.prog 66 #[.agg #[sB pH k.head cH, sB pA k.a cA, sB pB k.b cB, Ix k.power], .int .i64 1, Nx size] w fun r w' => r = .returned (.tuple #[.agg #[sB pH ((cutS k e size).head) cH, sB pA ((cutS k e size).a) cA, sB pB ((cutS k e size).b) cB, Ix (cutS k e size).power], .bool (decide (¬ cutOk (k.area e) k.power size))]) ∧ St β [rB pH ((cutS k e size).head) cH, rB pA ((cutS k e size).a) cA, rB pB ((cutS k e size).b) cB] w' := by
 rw [area_odd he] at hs
 refine enter (n := 39) Try.func66 rfl Try.ntmps66 rfl ?_ hw
 refine csr ?_
 refine l_mv rfl rfl rfl (m_box (v := .agg #[sB pH k.head cH, sB pA k.a cA, sB pB k.b cB, Ix (k.power)]) rfl) ?_
 rintro _ _ ⟨b1, rfl, rfl⟩
 refine l_mv rfl rfl rfl (m_alloc tf106) ?_
 rintro _ _ ⟨b2, rfl, rfl⟩
 refine lv e_assign ?_
 refine lnf ?_
 refine cs2 ?_
 refine c_rowcap 4 rfl (fun hcl hcm => ?_)
 refine c_region ?_
 refine lv (v := .agg #[sB pH k.head cH, sB pA k.a cA, sB pB k.b cB, Ix (k.power)]) (e_load tf56 rfl (k_pt 1 rfl rfl) rfl) ?_
 refine lv e_move ?_
 refine lcf (cl0 (vs := [.agg #[sB pH k.head cH, sB pA k.a cA, sB pB k.b cB, Ix (k.power)], .int .i64 (1)]) tf145 rfl rfl) rfl fun w β1 sb kn hw1 back => (rarea1_ok β1 w hw1 1 (by decide) k _ _ _ (kU kn 2 rfl) (kU kn 3 rfl) (kU kn 4 rfl)).mono ?_
 rintro e w' ⟨rfl, hw'⟩
 refine ⟨_, rfl, _, back _ _ hw', ?_⟩
 clear hw1 hw' back kn sb
 refine lv (v := Nx ((k.b).length)) (e_len (a := pB) (n := (k.b).length) (c := cB) rfl tf11) ?_
 refine lv e_move ?_
 refine lv (e_eql (a := (((k.b).length : Nat) : Int)) (b := ((size : Nat) : Int)) rfl rfl) ?_
 refine lnf ?_
 refine c_if ((((k.b).length : Nat) : Int) = ((size : Nat) : Int)) rfl (fun hc3 => ?_) (fun hc3 => ?_)
 ·refine csr ?_
  refine lv (v := .agg #[sB pH k.head cH, sB pA k.a cA, sB pB k.b cB, Ix (k.power)]) (e_load tf56 rfl (k_pt 1 rfl rfl) rfl) ?_
  refine lu (m_store 0 tf56 (cs' := #[sB pH k.head cH, sB pA k.a cA, sB pB k.b cB, Ix (k.power)]) rfl rfl rfl rfl rfl rfl rfl) ?_
  refine lv e_assign ?_
  refine lnf ?_
  refine c_ret ?_
  refine f_then_ret ?_
  refine retG (m := [.agg #[sB pH k.head cH, sB pA k.a cA, sB pB k.b cB, Ix (k.power)], .bool false]) Try.results66 ⟨rd_cell tf56 rfl (k_pt 0 rfl rfl) rfl, rd_tmp (v := .bool false) rfl, trivial⟩ rfl ?_
  intro w hw
  have eK : { k with b := cutA k.b k.power size, power := cutP k.b k.power size } = k := by rw [cutA_id (by omega), cutP_id (by omega)]
  have ec : cutOk k.b k.power size := .inl (by omega)
  rw [show cutS k e size = k from (cutS_odd he).symm.trans eK]
  exact ⟨by simp only [area_odd he]; simp [ec], st_mask [false, false, true, true, true] rfl hw⟩
 refine csk ?_
 refine cs2 ?_
 refine c_region ?_
 refine lv (e_fieldPt rfl tf24) ?_
 refine lv (v := Ix (k.power)) (e_load1 tf25 rfl (k_pt 1 rfl rfl)) ?_
 refine lv (e_eql (a := (k.power)) (b := (0 : Int)) rfl rfl) ?_
 refine lnf ?_
 refine c_if ((k.power) = (0 : Int)) rfl (fun hc4 => ?_) (fun hc4 => ?_)
 ·refine csr ?_
  refine lv (v := .agg #[sB pH k.head cH, sB pA k.a cA, sB pB k.b cB, Ix (k.power)]) (e_load tf56 rfl (k_pt 1 rfl rfl) rfl) ?_
  refine lu (m_store 0 tf56 (cs' := #[sB pH k.head cH, sB pA k.a cA, sB pB k.b cB, Ix (k.power)]) rfl rfl rfl rfl rfl rfl rfl) ?_
  refine lv e_assign ?_
  refine lnf ?_
  refine c_ret ?_
  refine f_then_ret ?_
  refine retG (m := [.agg #[sB pH k.head cH, sB pA k.a cA, sB pB k.b cB, Ix (k.power)], .bool true]) Try.results66 ⟨rd_cell tf56 rfl (k_pt 0 rfl rfl) rfl, rd_tmp (v := .bool true) rfl, trivial⟩ rfl ?_
  intro w hw
  have e1 : cutA k.b k.power size = k.b := if_pos hc4
  have e2 : cutP k.b k.power size = k.power := by unfold cutP spendP; split <;> (try split) <;> omega
  have eK : { k with b := cutA k.b k.power size, power := cutP k.b k.power size } = k := by rw [e1, e2]
  have ec : ¬ cutOk k.b k.power size := by unfold cutOk; omega
  rw [show cutS k e size = k from (cutS_odd he).symm.trans eK]
  exact ⟨by simp only [area_odd he]; simp [ec], st_mask [false, false, true, true, true] rfl hw⟩
 refine csk ?_
 refine cs2 ?_
 refine c_region ?_
 refine lv (e_fieldPt rfl tf24) ?_
 refine lv (v := Ix (k.power)) (e_load1 tf25 rfl (k_pt 1 rfl rfl)) ?_
 refine lv (e_gtr (a := (k.power)) (b := (0 : Int)) rfl rfl) ?_
 refine lnf ?_
 refine c_if ((0 : Int) < (k.power)) rfl (fun hc5 => ?_) (fun hc5 => ?_)
 ·refine c_region ?_
  refine lv (e_fieldPt rfl tf24) ?_
  refine lv (v := Ix (k.power)) (e_load1 tf25 rfl (k_pt 1 rfl rfl)) ?_
  refine lv (v := Ix ((k.power) - (1 : Int))) (e_sub (a := (k.power)) (b := (1 : Int)) rfl rfl (i64w (by omega))) ?_
  refine lv (e_fieldPt rfl tf24) ?_
  refine lu (m_store 1 tf25 (cs' := #[sB pH k.head cH, sB pA k.a cA, sB pB k.b cB, Ix ((k.power) - (1 : Int))]) rfl rfl rfl rfl rfl rfl rfl) ?_
  refine lnf ?_
  refine cs2 ?_
  refine c_region ?_
  refine lv e_move ?_
  refine lv (v := .bool false) (e_eql (a := (1 : Int)) (b := (0 : Int)) rfl rfl) ?_
  refine lnf ?_
  refine c_no rfl ?_
  refine c_region ?_
  refine lv (e_fieldPt rfl tf23) ?_
  refine lv (v := sB pB k.b cB) (e_load1 tf21 rfl (k_pt 1 rfl rfl)) ?_
  refine lv e_move ?_
  refine lv (v := .slice pB (size) cB) (e_slice_hi (a := pB) (len := (k.b).length) (cap := cB) (h := size) tf12 rfl rfl (by omega)) ?_
  refine lv (e_fieldPt rfl tf23) ?_
  refine lu (m_store 1 tf21 (cs' := #[sB pH k.head cH, sB pA k.a cA, .slice pB (size) cB, Ix ((k.power) - (1 : Int))]) rfl rfl rfl rfl rfl rfl rfl) ?_
  refine lnc ?_
  refine lv (v := .agg #[sB pH k.head cH, sB pA k.a cA, .slice pB (size) cB, Ix ((k.power) - (1 : Int))]) (e_load tf56 rfl (k_pt 1 rfl rfl) rfl) ?_
  refine lu (m_store 0 tf56 (cs' := #[sB pH k.head cH, sB pA k.a cA, .slice pB (size) cB, Ix ((k.power) - (1 : Int))]) rfl rfl rfl rfl rfl rfl rfl) ?_
  refine lv e_assign ?_
  refine lnf ?_
  refine c_ret ?_
  refine retG (m := [.agg #[sB pH k.head cH, sB pA k.a cA, .slice pB (size) cB, Ix ((k.power) - (1 : Int))], .bool false]) Try.results66 ⟨rd_cell tf56 rfl (k_pt 0 rfl rfl) rfl, rd_tmp (v := .bool false) rfl, trivial⟩ rfl ?_
  intro w hw
  have hw := hw.conseq_at 4 rfl (fun a h => row_takeB (h := size) h (by omega))
  have e0 : (k.b.take size).length = size := by simp; omega
  have e1 : cutA k.b k.power size = k.b.take size := if_neg hc4
  have e2 : cutP k.b k.power size = k.power - 1 := by unfold cutP spendP; rw [if_pos (by omega), if_pos (by omega)]
  have ec : cutOk k.b k.power size := .inr hc4
  rw [← cutS_odd he]
  simp only [sB, rB, e1, e2, e0, area_odd he, e0]
  simp only [sB, rB, e0] at hw
  exact ⟨by simp [ec], st_mask [false, false, true, true, true] rfl hw⟩
 refine csk ?_
 refine cs2 ?_
 refine c_region ?_
 refine lv e_move ?_
 refine lv (v := .bool false) (e_eql (a := (1 : Int)) (b := (0 : Int)) rfl rfl) ?_
 refine lnf ?_
 refine c_no rfl ?_
 refine c_region ?_
 refine lv (e_fieldPt rfl tf23) ?_
 refine lv (v := sB pB k.b cB) (e_load1 tf21 rfl (k_pt 1 rfl rfl)) ?_
 refine lv e_move ?_
 refine lv (v := .slice pB (size) cB) (e_slice_hi (a := pB) (len := (k.b).length) (cap := cB) (h := size) tf12 rfl rfl (by omega)) ?_
 refine lv (e_fieldPt rfl tf23) ?_
 refine lu (m_store 1 tf21 (cs' := #[sB pH k.head cH, sB pA k.a cA, .slice pB (size) cB, Ix (k.power)]) rfl rfl rfl rfl rfl rfl rfl) ?_
 refine lnc ?_
 refine lv (v := .agg #[sB pH k.head cH, sB pA k.a cA, .slice pB (size) cB, Ix (k.power)]) (e_load tf56 rfl (k_pt 1 rfl rfl) rfl) ?_
 refine lu (m_store 0 tf56 (cs' := #[sB pH k.head cH, sB pA k.a cA, .slice pB (size) cB, Ix (k.power)]) rfl rfl rfl rfl rfl rfl rfl) ?_
 refine lv e_assign ?_
 refine lnf ?_
 refine c_ret ?_
 refine retG (m := [.agg #[sB pH k.head cH, sB pA k.a cA, .slice pB (size) cB, Ix (k.power)], .bool false]) Try.results66 ⟨rd_cell tf56 rfl (k_pt 0 rfl rfl) rfl, rd_tmp (v := .bool false) rfl, trivial⟩ rfl ?_
 intro w hw
 have hw := hw.conseq_at 4 rfl (fun a h => row_takeB (h := size) h (by omega))
 have e0 : (k.b.take size).length = size := by simp; omega
 have e1 : cutA k.b k.power size = k.b.take size := if_neg hc4
 have e2 : cutP k.b k.power size = k.power := by unfold cutP spendP; rw [if_pos (by omega), if_neg (by omega)]
 have ec : cutOk k.b k.power size := .inr hc4
 rw [← cutS_odd he]
 simp only [sB, rB, e1, e2, e0, area_odd he, e0]
 simp only [sB, rB, e0] at hw
 exact ⟨by simp [ec], st_mask [false, false, true, true, true] rfl hw⟩
set_option maxHeartbeats 4000000 in
theorem rwriteH_ok (β : Base) (w : World) (pH pA pB : Option Addr) (cH cA cB : Nat) (k : KS) (hk : k.head.length ≤ 1048576 ∧ k.a.length ≤ 1048576 ∧ k.b.length ≤ 1048576 ∧ k.power ≤ 9223372036854775807)  (at_ : Nat) (hat : at_ ≤ 1048576) (bs : Bs) (v : Value) (hb : bs.length ≤ 1048576) (hs : Sl U8R β.heap v bs) (hw : St β [rB pH k.head cH, rB pA k.a cA, rB pB k.b cB] w) : Calls Try.prog 64 #[.agg #[sB pH k.head cH, sB pA k.a cA, sB pB k.b cB, Ix k.power], .int .i64 2, Nx at_, v] w fun r w' => ∃ p c, r = .returned (.tuple #[.agg #[sB p ((wrH k at_ bs).head) c, sB pA ((wrH k at_ bs).a) cA, sB pB ((wrH k at_ bs).b) cB, Ix (wrH k at_ bs).power], .bool (decide (¬ wrOk k.power bs))]) ∧ St β [rB p ((wrH k at_ bs).head) c, rB pA ((wrH k at_ bs).a) cA, rB pB ((wrH k at_ bs).b) cB] w' := by
 obtain ⟨va, vc, rfl, vl, vm, ve⟩ := hs.get
 refine enter (n := 70) Try.func64 rfl Try.ntmps64 rfl ?_ hw
 refine csr ?_
 refine l_mv rfl rfl rfl (m_box (v := .agg #[sB pH k.head cH, sB pA k.a cA, sB pB k.b cB, Ix (k.power)]) rfl) ?_
 rintro _ _ ⟨b1, rfl, rfl⟩
 refine l_mv rfl rfl rfl (m_alloc tf106) ?_
 rintro _ _ ⟨b2, rfl, rfl⟩
 refine lv e_assign ?_
 refine lnf ?_
 refine cs2 ?_
 refine c_region ?_
 refine lv e_assign ?_
 refine lnf ?_
 refine c_block ?_
 refine c_loop (fun (x_ : Nat × Bs × Option Addr × Nat) (f : Fm) (L : List Res) => match x_ with | (j, ys, p, c) => (f 1 = .int .i64 (2) ∧ f 2 = Nx (at_) ∧ f 3 = sB va bs (vc) ∧ f 4 = pp b1 0 ∧ f 8 = pp b2 0 ∧ f 10 = Nx (j)) ∧ L = [pt b2 (.cells #[.slice none 0 0, .slice none 0 0, .slice none 0 0, .int .i64 (0)] 32), pt b1 (.cells #[sB p ys c, sB pA k.a cA, sB pB k.b cB, Ix (pl k.power j)] 32), rB p ys c, rB pA k.a cA, rB pB k.b cB] ∧ (j ≤ pw k.power bs.length ∧ ys = wr k.head at_ (bs.take j))) (fun (x_ : Nat × Bs × Option Addr × Nat) => match x_ with | (j, ys, p, c) => bs.length - j) (0, k.head, pH, cH) ?_ ?_
 ·exact ⟨⟨rfl, rfl, rfl, rfl, rfl, rfl⟩, (by rw [pl_zero]; rfl), ⟨by omega, by simp [wr]⟩⟩
 rintro ⟨j, ys, p, c⟩ f0 L0 ⟨⟨hs1, hs2, hs3, hs4, hs8, hs10⟩, hL, ⟨hj, hys⟩⟩
 subst L0
 refine rebase (d := 1) hs1 ?_
 refine rebase (d := 2) hs2 ?_
 refine rebase (d := 3) hs3 ?_
 refine rebase (d := 4) hs4 ?_
 refine rebase (d := 8) hs8 ?_
 refine rebase (d := 10) hs10 ?_
 clear hs1 hs2 hs3 hs4 hs8 hs10
 have hyl : ys.length ≤ k.head.length + bs.length := by rw [hys]; refine Nat.le_trans wr_length ?_; simp; omega
 have hpl := pl_le k.power j
 have hpm := hk.2.2.2
 refine cs2 ?_
 refine c_region ?_
 refine lv e_move ?_
 refine lv e_move ?_
 refine lv (v := Nx (bs.length)) (e_len (a := va) (n := bs.length) (c := vc) rfl tf11) ?_
 refine lv (e_lss (a := ((j : Nat) : Int)) (b := ((bs.length : Nat) : Int)) rfl rfl) ?_
 refine lnf ?_
 refine c_if (((j : Nat) : Int) < ((bs.length : Nat) : Int)) rfl (fun hc3 => ?_) (fun hc3 => ?_)
 ·have hc_ : j < bs.length := by omega
  refine csk ?_
  refine c_seq ?_
  refine c_block ?_
  refine cs2 ?_
  refine c_region ?_
  refine lv (e_fieldPt rfl tf24) ?_
  refine lv (v := Ix (pl k.power j)) (e_load1 tf25 rfl (k_pt 1 rfl rfl)) ?_
  refine lv (e_eql (a := (pl k.power j)) (b := (0 : Int)) rfl rfl) ?_
  refine lnf ?_
  refine c_if ((pl k.power j) = (0 : Int)) rfl (fun hc4 => ?_) (fun hc4 => ?_)
  ·refine csr ?_
   refine lv (v := .agg #[sB p ys c, sB pA k.a cA, sB pB k.b cB, Ix (pl k.power j)]) (e_load tf56 rfl (k_pt 1 rfl rfl) rfl) ?_
   refine lu (m_store 0 tf56 (cs' := #[sB p ys c, sB pA k.a cA, sB pB k.b cB, Ix (pl k.power j)]) rfl rfl rfl rfl rfl rfl rfl) ?_
   refine lv e_assign ?_
   refine lnf ?_
   refine c_ret ?_
   refine f_then_ret ?_
   refine f_block_ret ?_
   refine f_then_ret ?_
   refine f_then_ret ?_
   refine f_block_ret ?_
   refine f_then_ret ?_
   refine retG (m := [.agg #[sB p ys c, sB pA k.a cA, sB pB k.b cB, Ix (pl k.power j)], .bool true]) Try.results64 ⟨rd_cell tf56 rfl (k_pt 0 rfl rfl) rfl, rd_tmp (v := .bool true) rfl, trivial⟩ rfl ?_
   intro w hw
   have hw2 := st_mask [true, true, true, false, false] rfl (hw.perm (L' := [rB p ys c, rB pA k.a cA, rB pB k.b cB, pt b2 (.cells #[sB p ys c, sB pA k.a cA, sB pB k.b cB, Ix (pl k.power j)] 32), pt b1 (.cells #[sB p ys c, sB pA k.a cA, sB pB k.b cB, Ix (pl k.power j)] 32)]) (by exact (perm_ix [2, 3, 4, 0, 1] 5 rfl (by kernel_rfl) (by kernel_rfl))))
   obtain ⟨e1, e3⟩ := pw_stop hj hc_ hc4
   have e4 : pl k.power j = pl k.power bs.length := by rw [hc4, e3]
   have ec : ¬ wrOk k.power bs := by unfold wrOk; omega
   have e2 : ys = wrA k.head k.power at_ bs := by rw [hys, wrA, e1]
   rw [e4, e2] at hw2 ⊢
   exact ⟨p, c, by simp [ec, wrH], hw2⟩
  refine csk ?_
  refine cs2 ?_
  have hpst := pw_step hj hc_ hc4
  refine c_region ?_
  refine lv (e_fieldPt rfl tf24) ?_
  refine lv (v := Ix (pl k.power j)) (e_load1 tf25 rfl (k_pt 1 rfl rfl)) ?_
  refine lv (e_gtr (a := (pl k.power j)) (b := (0 : Int)) rfl rfl) ?_
  refine lnf ?_
  refine c_if ((0 : Int) < (pl k.power j)) rfl (fun hc5 => ?_) (fun hc5 => ?_)
  ·refine c_region ?_
   refine lv (e_fieldPt rfl tf24) ?_
   refine lv (v := Ix (pl k.power j)) (e_load1 tf25 rfl (k_pt 1 rfl rfl)) ?_
   refine lv (v := Ix ((pl k.power j) - (1 : Int))) (e_sub (a := (pl k.power j)) (b := (1 : Int)) rfl rfl (i64w (by omega))) ?_
   refine lv (e_fieldPt rfl tf24) ?_
   refine lu (m_store 1 tf25 (cs' := #[sB p ys c, sB pA k.a cA, sB pB k.b cB, Ix ((pl k.power j) - (1 : Int))]) rfl rfl rfl rfl rfl rfl rfl) ?_
   refine lnf ?_
   refine c_seq ?_
   have hq : (pl k.power j) - (1 : Int) = pl k.power (j + 1) := by have h9 := hpst.2; unfold spendP at h9; split at h9 <;> omega
   refine c_re (L' := [pt b2 (.cells #[.slice none 0 0, .slice none 0 0, .slice none 0 0, .int .i64 (0)] 32), pt b1 (.cells #[sB p ys c, sB pA k.a cA, sB pB k.b cB, Ix (pl k.power (j + 1))] 32), rB p ys c, rB pA k.a cA, rB pB k.b cB]) (by show [pt b2 (.cells #[.slice none 0 0, .slice none 0 0, .slice none 0 0, .int .i64 (0)] 32), pt b1 (.cells #[sB p ys c, sB pA k.a cA, sB pB k.b cB, Ix ((pl k.power j) - (1 : Int))] 32), rB p ys c, rB pA k.a cA, rB pB k.b cB] = _; rw [hq]) ?_
   refine c_rowcap 2 rfl (fun hcl hcm => ?_)
   refine c_region ?_
   refine lv (e_fieldPt rfl tf20) ?_
   refine lv (v := sB p ys c) (e_load1 tf21 rfl (k_pt 1 rfl rfl)) ?_
   refine lv e_assign ?_
   refine lnf ?_
   refine cs2 ?_
   refine c_region ?_
   refine lv e_move ?_
   refine lv (v := .bool false) (e_lss (a := (2 : Int)) (b := (2 : Int)) rfl rfl) ?_
   refine lnf ?_
   refine c_no rfl ?_
   refine csk ?_
   refine cs2 ?_
   refine c_region ?_
   refine lv e_move ?_
   refine lv e_move ?_
   refine lv (v := Nx (at_ + j)) (e_add (a := ((at_ : Nat) : Int)) (b := ((j : Nat) : Int)) rfl rfl (i64n (by omega) (by omega))) ?_
   refine lv e_move ?_
   refine lv (v := Nx ((ys).length)) (e_len (a := p) (n := (ys).length) (c := c) rfl tf11) ?_
   refine lv (e_lss (a := ((at_ + j : Nat) : Int)) (b := (((ys).length : Nat) : Int)) rfl rfl) ?_
   refine lnf ?_
   refine c_if (((at_ + j : Nat) : Int) < (((ys).length : Nat) : Int)) rfl (fun hc6 => ?_) (fun hc6 => ?_)
   ·refine c_region ?_
    refine lv e_move ?_
    refine lv e_move ?_
    refine lv e_move ?_
    refine lv (v := Nx (at_ + j)) (e_add (a := ((at_ : Nat) : Int)) (b := ((j : Nat) : Int)) rfl rfl (i64n (by omega) (by omega))) ?_
    refine lv e_move ?_
    refine lv e_move ?_
    obtain ⟨x7, hx8⟩ : ∃ x_, (bs)[j]? = some x_ := ⟨_, List.getElem?_eq_getElem (by omega)⟩
    obtain ⟨ha9, cs10, hc11, rfl⟩ := ve _ _ hx8
    refine lv (v := .pointer (some ((ba va).add (j * 1)))) (e_indexAddr (k := j) (len := bs.length) (cap := vc) (a := va) rfl rfl tf12 (by omega) ha9) ?_
    refine lv (v := Bx (x7)) (e_load1 tf13 rfl (kB hc11)) ?_
    refine lv (v := .pointer (some ((ba p).add ((at_ + j) * 1)))) (e_indexRow 2 (j := at_ + j) (len := (ys).length) (cap := c) (p := p) rfl rfl tf12 (by omega) (by omega) rfl) ?_
    refine lu (m_storeRow 2 tf13 (o := (at_ + j) * 1) (v := Bx (x7)) rfl rfl rfl rfl rfl (by omega) (by omega)) ?_
    refine l_re (L' := [pt b2 (.cells #[.slice none 0 0, .slice none 0 0, .slice none 0 0, .int .i64 (0)] 32), pt b1 (.cells #[.slice p ((ys.set (at_ + j) x7)).length c, .slice pA (k.a).length cA, .slice pB (k.b).length cB, Ix (pl k.power (j + 1))] 32), row (.slice p ((ys.set (at_ + j) x7)).length c) 5 1 (((ys.set (at_ + j) x7)).length) (BX (ys.set (at_ + j) x7)), row (.slice pA (k.a).length cA) 5 1 ((k.a).length) (BX k.a), row (.slice pB (k.b).length cB) 5 1 ((k.b).length) (BX k.b)]) (by show [pt b2 (.cells #[.slice none 0 0, .slice none 0 0, .slice none 0 0, .int .i64 (0)] 32), pt b1 (.cells #[.slice p (ys).length c, .slice pA (k.a).length cA, .slice pB (k.b).length cB, Ix (pl k.power (j + 1))] 32), row (.slice p (ys).length c) 5 1 ((ys).length) ((overL (BX ys) ((at_ + j) * 1) [Bx (x7)])), row (.slice pA (k.a).length cA) 5 1 ((k.a).length) (BX k.a), row (.slice pB (k.b).length cB) 5 1 ((k.b).length) (BX k.b)] = _; rw [overL_bx (by omega)]; simp only [List.length_set]) ?_
    refine lnf ?_
    refine c_seq ?_
    refine rebase (d := 11) (v := sB p ((ys.set (at_ + j) x7)) c) (show (sB p ys c : Value) = _ by simp only [sB, List.length_set]) ?_
    refine c_region ?_
    refine lv e_move ?_
    refine lnf ?_
    refine c_block ?_
    refine csr ?_
    refine lv (v := .bool false) (e_eql (a := (2 : Int)) (b := (0 : Int)) rfl rfl) ?_
    refine lv e_assign ?_
    refine lnf ?_
    refine c_no rfl ?_
    refine csr ?_
    refine lv (v := .bool false) (e_eql (a := (2 : Int)) (b := (1 : Int)) rfl rfl) ?_
    refine lv e_assign ?_
    refine lnf ?_
    refine c_no rfl ?_
    refine c_region ?_
    refine lv e_move ?_
    refine lv (e_fieldPt rfl tf20) ?_
    refine lu (m_store 1 tf21 (cs' := #[sB p ((ys.set (at_ + j) x7)) c, sB pA k.a cA, sB pB k.b cB, Ix (pl k.power (j + 1))]) rfl rfl rfl rfl rfl rfl rfl) ?_
    refine l_nil ?_
    refine f_block ?_
    refine f_block ?_
    refine f_then ?_
    refine c_region ?_
    refine lv e_move ?_
    refine lv (v := Nx (j + 1)) (e_add (a := ((j : Nat) : Int)) (b := (1 : Int)) rfl rfl (i64n (by omega) (by omega))) ?_
    refine lv e_assign ?_
    refine l_nil ?_
    exact f_cut ⟨(j + 1, (ys.set (at_ + j) x7), p, c), ⟨⟨rfl, rfl, rfl, rfl, rfl, rfl⟩, rfl, ⟨hpst.1, by rw [hys, wr_take hx8, if_pos (by rw [← hys]; omega)]⟩⟩, (show bs.length - (j + 1) < bs.length - j from by omega)⟩
   refine c_region ?_
   refine lv e_move ?_
   refine lv e_move ?_
   refine lv e_move ?_
   obtain ⟨x13, hx14⟩ : ∃ x_, (bs)[j]? = some x_ := ⟨_, List.getElem?_eq_getElem (by omega)⟩
   obtain ⟨ha15, cs16, hc17, rfl⟩ := ve _ _ hx14
   refine lv (v := .pointer (some ((ba va).add (j * 1)))) (e_indexAddr (k := j) (len := bs.length) (cap := vc) (a := va) rfl rfl tf12 (by omega) ha15) ?_
   refine lv (v := Bx (x13)) (e_load1 tf13 rfl (kB hc17)) ?_
   refine l_mv rfl rfl rfl (m_slices tf12 tf14 (cells := #[Bx (x13)]) rfl rfl rfl rfl) ?_
   rintro _ _ ⟨b19, rfl, rfl⟩
   refine l_mv rfl rfl rfl (m_appendE (enc := fun c : UInt8 => Bx c) 3 bx_cell tf12 tf15 (v := sB p ys c) (xs := ys) (ys := [x13]) (ao := some ⟨b19, 0, none⟩) (c := 1) rfl rfl (by first | rfl | simp) rfl (by first | rfl | simp) (k_ptE 0 (xs := [x13]) rfl) (by first | omega | (simp only [List.length_append, List.length_nil, List.length_cons, be_length] at *; omega)) (by first | omega | (simp only [List.length_append, List.length_nil, List.length_cons, be_length] at *; omega))) ?_
   rintro _ _ ⟨rp20, rc21, rfl, rfl⟩
   refine lv e_assign ?_
   refine lnc ?_
   refine lv e_move ?_
   refine lnf ?_
   refine c_block ?_
   refine csr ?_
   refine lv (v := .bool false) (e_eql (a := (2 : Int)) (b := (0 : Int)) rfl rfl) ?_
   refine lv e_assign ?_
   refine lnf ?_
   refine c_no rfl ?_
   refine csr ?_
   refine lv (v := .bool false) (e_eql (a := (2 : Int)) (b := (1 : Int)) rfl rfl) ?_
   refine lv e_assign ?_
   refine lnf ?_
   refine c_no rfl ?_
   refine c_region ?_
   refine lv e_move ?_
   refine lv (e_fieldPt rfl tf20) ?_
   refine lu (m_store 2 tf21 (cs' := #[sB rp20 (ys ++ [x13]) rc21, sB pA k.a cA, sB pB k.b cB, Ix (pl k.power (j + 1))]) rfl rfl rfl rfl rfl rfl rfl) ?_
   refine l_nil ?_
   refine f_block ?_
   refine f_block ?_
   refine f_then ?_
   refine c_region ?_
   refine lv e_move ?_
   refine lv (v := Nx (j + 1)) (e_add (a := ((j : Nat) : Int)) (b := (1 : Int)) rfl rfl (i64n (by omega) (by omega))) ?_
   refine lv e_assign ?_
   refine l_nil ?_
   refine f_mask (L' := [pt b2 (.cells #[.slice none 0 0, .slice none 0 0, .slice none 0 0, .int .i64 (0)] 32), pt b1 (.cells #[sB rp20 (ys ++ [x13]) rc21, sB pA k.a cA, sB pB k.b cB, Ix (pl k.power (j + 1))] 32), rB rp20 (ys ++ [x13]) rc21, rB pA k.a cA, rB pB k.b cB]) [false, true, true, true, true, true] rfl ?_
   exact f_cut ⟨(j + 1, ys ++ [x13], rp20, rc21), ⟨⟨rfl, rfl, rfl, rfl, rfl, rfl⟩, rfl, ⟨hpst.1, by rw [hys, wr_take hx14, if_neg (by rw [← hys]; omega)]⟩⟩, (show bs.length - (j + 1) < bs.length - j from by omega)⟩
  refine csk ?_
  refine c_seq ?_
  have hq : pl k.power j = pl k.power (j + 1) := by have h9 := hpst.2; unfold spendP at h9; split at h9 <;> omega
  refine c_re (L' := [pt b2 (.cells #[.slice none 0 0, .slice none 0 0, .slice none 0 0, .int .i64 (0)] 32), pt b1 (.cells #[sB p ys c, sB pA k.a cA, sB pB k.b cB, Ix (pl k.power (j + 1))] 32), rB p ys c, rB pA k.a cA, rB pB k.b cB]) (by show [pt b2 (.cells #[.slice none 0 0, .slice none 0 0, .slice none 0 0, .int .i64 (0)] 32), pt b1 (.cells #[sB p ys c, sB pA k.a cA, sB pB k.b cB, Ix (pl k.power j)] 32), rB p ys c, rB pA k.a cA, rB pB k.b cB] = _; rw [hq]) ?_
  refine c_rowcap 2 rfl (fun hcl hcm => ?_)
  refine c_region ?_
  refine lv (e_fieldPt rfl tf20) ?_
  refine lv (v := sB p ys c) (e_load1 tf21 rfl (k_pt 1 rfl rfl)) ?_
  refine lv e_assign ?_
  refine lnf ?_
  refine cs2 ?_
  refine c_region ?_
  refine lv e_move ?_
  refine lv (v := .bool false) (e_lss (a := (2 : Int)) (b := (2 : Int)) rfl rfl) ?_
  refine lnf ?_
  refine c_no rfl ?_
  refine csk ?_
  refine cs2 ?_
  refine c_region ?_
  refine lv e_move ?_
  refine lv e_move ?_
  refine lv (v := Nx (at_ + j)) (e_add (a := ((at_ : Nat) : Int)) (b := ((j : Nat) : Int)) rfl rfl (i64n (by omega) (by omega))) ?_
  refine lv e_move ?_
  refine lv (v := Nx ((ys).length)) (e_len (a := p) (n := (ys).length) (c := c) rfl tf11) ?_
  refine lv (e_lss (a := ((at_ + j : Nat) : Int)) (b := (((ys).length : Nat) : Int)) rfl rfl) ?_
  refine lnf ?_
  refine c_if (((at_ + j : Nat) : Int) < (((ys).length : Nat) : Int)) rfl (fun hc22 => ?_) (fun hc22 => ?_)
  ·refine c_region ?_
   refine lv e_move ?_
   refine lv e_move ?_
   refine lv e_move ?_
   refine lv (v := Nx (at_ + j)) (e_add (a := ((at_ : Nat) : Int)) (b := ((j : Nat) : Int)) rfl rfl (i64n (by omega) (by omega))) ?_
   refine lv e_move ?_
   refine lv e_move ?_
   obtain ⟨x23, hx24⟩ : ∃ x_, (bs)[j]? = some x_ := ⟨_, List.getElem?_eq_getElem (by omega)⟩
   obtain ⟨ha25, cs26, hc27, rfl⟩ := ve _ _ hx24
   refine lv (v := .pointer (some ((ba va).add (j * 1)))) (e_indexAddr (k := j) (len := bs.length) (cap := vc) (a := va) rfl rfl tf12 (by omega) ha25) ?_
   refine lv (v := Bx (x23)) (e_load1 tf13 rfl (kB hc27)) ?_
   refine lv (v := .pointer (some ((ba p).add ((at_ + j) * 1)))) (e_indexRow 2 (j := at_ + j) (len := (ys).length) (cap := c) (p := p) rfl rfl tf12 (by omega) (by omega) rfl) ?_
   refine lu (m_storeRow 2 tf13 (o := (at_ + j) * 1) (v := Bx (x23)) rfl rfl rfl rfl rfl (by omega) (by omega)) ?_
   refine l_re (L' := [pt b2 (.cells #[.slice none 0 0, .slice none 0 0, .slice none 0 0, .int .i64 (0)] 32), pt b1 (.cells #[.slice p ((ys.set (at_ + j) x23)).length c, .slice pA (k.a).length cA, .slice pB (k.b).length cB, Ix (pl k.power (j + 1))] 32), row (.slice p ((ys.set (at_ + j) x23)).length c) 5 1 (((ys.set (at_ + j) x23)).length) (BX (ys.set (at_ + j) x23)), row (.slice pA (k.a).length cA) 5 1 ((k.a).length) (BX k.a), row (.slice pB (k.b).length cB) 5 1 ((k.b).length) (BX k.b)]) (by show [pt b2 (.cells #[.slice none 0 0, .slice none 0 0, .slice none 0 0, .int .i64 (0)] 32), pt b1 (.cells #[.slice p (ys).length c, .slice pA (k.a).length cA, .slice pB (k.b).length cB, Ix (pl k.power (j + 1))] 32), row (.slice p (ys).length c) 5 1 ((ys).length) ((overL (BX ys) ((at_ + j) * 1) [Bx (x23)])), row (.slice pA (k.a).length cA) 5 1 ((k.a).length) (BX k.a), row (.slice pB (k.b).length cB) 5 1 ((k.b).length) (BX k.b)] = _; rw [overL_bx (by omega)]; simp only [List.length_set]) ?_
   refine lnf ?_
   refine c_seq ?_
   refine rebase (d := 11) (v := sB p ((ys.set (at_ + j) x23)) c) (show (sB p ys c : Value) = _ by simp only [sB, List.length_set]) ?_
   refine c_region ?_
   refine lv e_move ?_
   refine lnf ?_
   refine c_block ?_
   refine csr ?_
   refine lv (v := .bool false) (e_eql (a := (2 : Int)) (b := (0 : Int)) rfl rfl) ?_
   refine lv e_assign ?_
   refine lnf ?_
   refine c_no rfl ?_
   refine csr ?_
   refine lv (v := .bool false) (e_eql (a := (2 : Int)) (b := (1 : Int)) rfl rfl) ?_
   refine lv e_assign ?_
   refine lnf ?_
   refine c_no rfl ?_
   refine c_region ?_
   refine lv e_move ?_
   refine lv (e_fieldPt rfl tf20) ?_
   refine lu (m_store 1 tf21 (cs' := #[sB p ((ys.set (at_ + j) x23)) c, sB pA k.a cA, sB pB k.b cB, Ix (pl k.power (j + 1))]) rfl rfl rfl rfl rfl rfl rfl) ?_
   refine l_nil ?_
   refine f_block ?_
   refine f_block ?_
   refine f_then ?_
   refine c_region ?_
   refine lv e_move ?_
   refine lv (v := Nx (j + 1)) (e_add (a := ((j : Nat) : Int)) (b := (1 : Int)) rfl rfl (i64n (by omega) (by omega))) ?_
   refine lv e_assign ?_
   refine l_nil ?_
   exact f_cut ⟨(j + 1, (ys.set (at_ + j) x23), p, c), ⟨⟨rfl, rfl, rfl, rfl, rfl, rfl⟩, rfl, ⟨hpst.1, by rw [hys, wr_take hx24, if_pos (by rw [← hys]; omega)]⟩⟩, (show bs.length - (j + 1) < bs.length - j from by omega)⟩
  refine c_region ?_
  refine lv e_move ?_
  refine lv e_move ?_
  refine lv e_move ?_
  obtain ⟨x29, hx30⟩ : ∃ x_, (bs)[j]? = some x_ := ⟨_, List.getElem?_eq_getElem (by omega)⟩
  obtain ⟨ha31, cs32, hc33, rfl⟩ := ve _ _ hx30
  refine lv (v := .pointer (some ((ba va).add (j * 1)))) (e_indexAddr (k := j) (len := bs.length) (cap := vc) (a := va) rfl rfl tf12 (by omega) ha31) ?_
  refine lv (v := Bx (x29)) (e_load1 tf13 rfl (kB hc33)) ?_
  refine l_mv rfl rfl rfl (m_slices tf12 tf14 (cells := #[Bx (x29)]) rfl rfl rfl rfl) ?_
  rintro _ _ ⟨b35, rfl, rfl⟩
  refine l_mv rfl rfl rfl (m_appendE (enc := fun c : UInt8 => Bx c) 3 bx_cell tf12 tf15 (v := sB p ys c) (xs := ys) (ys := [x29]) (ao := some ⟨b35, 0, none⟩) (c := 1) rfl rfl (by first | rfl | simp) rfl (by first | rfl | simp) (k_ptE 0 (xs := [x29]) rfl) (by first | omega | (simp only [List.length_append, List.length_nil, List.length_cons, be_length] at *; omega)) (by first | omega | (simp only [List.length_append, List.length_nil, List.length_cons, be_length] at *; omega))) ?_
  rintro _ _ ⟨rp36, rc37, rfl, rfl⟩
  refine lv e_assign ?_
  refine lnc ?_
  refine lv e_move ?_
  refine lnf ?_
  refine c_block ?_
  refine csr ?_
  refine lv (v := .bool false) (e_eql (a := (2 : Int)) (b := (0 : Int)) rfl rfl) ?_
  refine lv e_assign ?_
  refine lnf ?_
  refine c_no rfl ?_
  refine csr ?_
  refine lv (v := .bool false) (e_eql (a := (2 : Int)) (b := (1 : Int)) rfl rfl) ?_
  refine lv e_assign ?_
  refine lnf ?_
  refine c_no rfl ?_
  refine c_region ?_
  refine lv e_move ?_
  refine lv (e_fieldPt rfl tf20) ?_
  refine lu (m_store 2 tf21 (cs' := #[sB rp36 (ys ++ [x29]) rc37, sB pA k.a cA, sB pB k.b cB, Ix (pl k.power (j + 1))]) rfl rfl rfl rfl rfl rfl rfl) ?_
  refine l_nil ?_
  refine f_block ?_
  refine f_block ?_
  refine f_then ?_
  refine c_region ?_
  refine lv e_move ?_
  refine lv (v := Nx (j + 1)) (e_add (a := ((j : Nat) : Int)) (b := (1 : Int)) rfl rfl (i64n (by omega) (by omega))) ?_
  refine lv e_assign ?_
  refine l_nil ?_
  refine f_mask (L' := [pt b2 (.cells #[.slice none 0 0, .slice none 0 0, .slice none 0 0, .int .i64 (0)] 32), pt b1 (.cells #[sB rp36 (ys ++ [x29]) rc37, sB pA k.a cA, sB pB k.b cB, Ix (pl k.power (j + 1))] 32), rB rp36 (ys ++ [x29]) rc37, rB pA k.a cA, rB pB k.b cB]) [false, true, true, true, true, true] rfl ?_
  exact f_cut ⟨(j + 1, ys ++ [x29], rp36, rc37), ⟨⟨rfl, rfl, rfl, rfl, rfl, rfl⟩, rfl, ⟨hpst.1, by rw [hys, wr_take hx30, if_neg (by rw [← hys]; omega)]⟩⟩, (show bs.length - (j + 1) < bs.length - j from by omega)⟩
 refine c_exit ?_
 refine f_then_exit ?_
 refine f_then_exit ?_
 refine f_exit ?_
 refine ftc ?_
 refine lv (v := .agg #[sB p ys c, sB pA k.a cA, sB pB k.b cB, Ix (pl k.power j)]) (e_load tf56 rfl (k_pt 1 rfl rfl) rfl) ?_
 refine lu (m_store 0 tf56 (cs' := #[sB p ys c, sB pA k.a cA, sB pB k.b cB, Ix (pl k.power j)]) rfl rfl rfl rfl rfl rfl rfl) ?_
 refine lv e_assign ?_
 refine lnf ?_
 refine c_ret ?_
 refine retG (m := [.agg #[sB p ys c, sB pA k.a cA, sB pB k.b cB, Ix (pl k.power j)], .bool false]) Try.results64 ⟨rd_cell tf56 rfl (k_pt 0 rfl rfl) rfl, rd_tmp (v := .bool false) rfl, trivial⟩ rfl ?_
 intro w hw
 have hw2 := st_mask [true, true, true, false, false] rfl (hw.perm (L' := [rB p ys c, rB pA k.a cA, rB pB k.b cB, pt b2 (.cells #[sB p ys c, sB pA k.a cA, sB pB k.b cB, Ix (pl k.power j)] 32), pt b1 (.cells #[sB p ys c, sB pA k.a cA, sB pB k.b cB, Ix (pl k.power j)] 32)]) (by exact (perm_ix [2, 3, 4, 0, 1] 5 rfl (by kernel_rfl) (by kernel_rfl))))
 obtain ⟨e1, e0⟩ := pw_all hj (by omega)
 have e4 : pl k.power j = pl k.power bs.length := by rw [e0]
 have ec : wrOk k.power bs := e1
 have e2 : ys = wrA k.head k.power at_ bs := by rw [hys, wrA, e1, e0]
 rw [e4, e2] at hw2 ⊢
 exact ⟨p, c, by simp [ec, wrH], hw2⟩
set_option maxHeartbeats 4000000 in
theorem rwriteA_ok (β : Base) (w : World) (pH pA pB : Option Addr) (cH cA cB : Nat) (k : KS) (hk : k.head.length ≤ 1048576 ∧ k.a.length ≤ 1048576 ∧ k.b.length ≤ 1048576 ∧ k.power ≤ 9223372036854775807) (e : Nat) (he : e % 2 = 0) (at_ : Nat) (hat : at_ ≤ 1048576) (bs : Bs) (v : Value) (hb : bs.length ≤ 1048576) (hs : Sl U8R β.heap v bs) (hw : St β [rB pH k.head cH, rB pA k.a cA, rB pB k.b cB] w) : Calls Try.prog 64 #[.agg #[sB pH k.head cH, sB pA k.a cA, sB pB k.b cB, Ix k.power], .int .i64 0, Nx at_, v] w fun r w' => ∃ p c, r = .returned (.tuple #[.agg #[sB pH ((wrS k e at_ bs).head) cH, sB p ((wrS k e at_ bs).a) c, sB pB ((wrS k e at_ bs).b) cB, Ix (wrS k e at_ bs).power], .bool (decide (¬ wrOk k.power bs))]) ∧ St β [rB pH ((wrS k e at_ bs).head) cH, rB p ((wrS k e at_ bs).a) c, rB pB ((wrS k e at_ bs).b) cB] w' := by
 obtain ⟨va, vc, rfl, vl, vm, ve⟩ := hs.get
 refine enter (n := 70) Try.func64 rfl Try.ntmps64 rfl ?_ hw
 refine csr ?_
 refine l_mv rfl rfl rfl (m_box (v := .agg #[sB pH k.head cH, sB pA k.a cA, sB pB k.b cB, Ix (k.power)]) rfl) ?_
 rintro _ _ ⟨b1, rfl, rfl⟩
 refine l_mv rfl rfl rfl (m_alloc tf106) ?_
 rintro _ _ ⟨b2, rfl, rfl⟩
 refine lv e_assign ?_
 refine lnf ?_
 refine cs2 ?_
 refine c_region ?_
 refine lv e_assign ?_
 refine lnf ?_
 refine c_block ?_
 refine c_loop (fun (x_ : Nat × Bs × Option Addr × Nat) (f : Fm) (L : List Res) => match x_ with | (j, ys, p, c) => (f 1 = .int .i64 (0) ∧ f 2 = Nx (at_) ∧ f 3 = sB va bs (vc) ∧ f 4 = pp b1 0 ∧ f 8 = pp b2 0 ∧ f 10 = Nx (j)) ∧ L = [pt b2 (.cells #[.slice none 0 0, .slice none 0 0, .slice none 0 0, .int .i64 (0)] 32), pt b1 (.cells #[sB pH k.head cH, sB p ys c, sB pB k.b cB, Ix (pl k.power j)] 32), rB pH k.head cH, rB p ys c, rB pB k.b cB] ∧ (j ≤ pw k.power bs.length ∧ ys = wr k.a at_ (bs.take j))) (fun (x_ : Nat × Bs × Option Addr × Nat) => match x_ with | (j, ys, p, c) => bs.length - j) (0, k.a, pA, cA) ?_ ?_
 ·exact ⟨⟨rfl, rfl, rfl, rfl, rfl, rfl⟩, (by rw [pl_zero]; rfl), ⟨by omega, by simp [wr]⟩⟩
 rintro ⟨j, ys, p, c⟩ f0 L0 ⟨⟨hs1, hs2, hs3, hs4, hs8, hs10⟩, hL, ⟨hj, hys⟩⟩
 subst L0
 refine rebase (d := 1) hs1 ?_
 refine rebase (d := 2) hs2 ?_
 refine rebase (d := 3) hs3 ?_
 refine rebase (d := 4) hs4 ?_
 refine rebase (d := 8) hs8 ?_
 refine rebase (d := 10) hs10 ?_
 clear hs1 hs2 hs3 hs4 hs8 hs10
 have hyl : ys.length ≤ k.a.length + bs.length := by rw [hys]; refine Nat.le_trans wr_length ?_; simp; omega
 have hpl := pl_le k.power j
 have hpm := hk.2.2.2
 refine cs2 ?_
 refine c_region ?_
 refine lv e_move ?_
 refine lv e_move ?_
 refine lv (v := Nx (bs.length)) (e_len (a := va) (n := bs.length) (c := vc) rfl tf11) ?_
 refine lv (e_lss (a := ((j : Nat) : Int)) (b := ((bs.length : Nat) : Int)) rfl rfl) ?_
 refine lnf ?_
 refine c_if (((j : Nat) : Int) < ((bs.length : Nat) : Int)) rfl (fun hc3 => ?_) (fun hc3 => ?_)
 ·have hc_ : j < bs.length := by omega
  refine csk ?_
  refine c_seq ?_
  refine c_block ?_
  refine cs2 ?_
  refine c_region ?_
  refine lv (e_fieldPt rfl tf24) ?_
  refine lv (v := Ix (pl k.power j)) (e_load1 tf25 rfl (k_pt 1 rfl rfl)) ?_
  refine lv (e_eql (a := (pl k.power j)) (b := (0 : Int)) rfl rfl) ?_
  refine lnf ?_
  refine c_if ((pl k.power j) = (0 : Int)) rfl (fun hc4 => ?_) (fun hc4 => ?_)
  ·refine csr ?_
   refine lv (v := .agg #[sB pH k.head cH, sB p ys c, sB pB k.b cB, Ix (pl k.power j)]) (e_load tf56 rfl (k_pt 1 rfl rfl) rfl) ?_
   refine lu (m_store 0 tf56 (cs' := #[sB pH k.head cH, sB p ys c, sB pB k.b cB, Ix (pl k.power j)]) rfl rfl rfl rfl rfl rfl rfl) ?_
   refine lv e_assign ?_
   refine lnf ?_
   refine c_ret ?_
   refine f_then_ret ?_
   refine f_block_ret ?_
   refine f_then_ret ?_
   refine f_then_ret ?_
   refine f_block_ret ?_
   refine f_then_ret ?_
   refine retG (m := [.agg #[sB pH k.head cH, sB p ys c, sB pB k.b cB, Ix (pl k.power j)], .bool true]) Try.results64 ⟨rd_cell tf56 rfl (k_pt 0 rfl rfl) rfl, rd_tmp (v := .bool true) rfl, trivial⟩ rfl ?_
   intro w hw
   have hw2 := st_mask [true, true, true, false, false] rfl (hw.perm (L' := [rB pH k.head cH, rB p ys c, rB pB k.b cB, pt b2 (.cells #[sB pH k.head cH, sB p ys c, sB pB k.b cB, Ix (pl k.power j)] 32), pt b1 (.cells #[sB pH k.head cH, sB p ys c, sB pB k.b cB, Ix (pl k.power j)] 32)]) (by exact (perm_ix [2, 3, 4, 0, 1] 5 rfl (by kernel_rfl) (by kernel_rfl))))
   obtain ⟨e1, e3⟩ := pw_stop hj hc_ hc4
   have e4 : pl k.power j = pl k.power bs.length := by rw [hc4, e3]
   have ec : ¬ wrOk k.power bs := by unfold wrOk; omega
   have e2 : ys = wrA k.a k.power at_ bs := by rw [hys, wrA, e1]
   rw [e4, e2] at hw2 ⊢
   rw [← wrS_even he]
   exact ⟨p, c, by simp [ec], hw2⟩
  refine csk ?_
  refine cs2 ?_
  have hpst := pw_step hj hc_ hc4
  refine c_region ?_
  refine lv (e_fieldPt rfl tf24) ?_
  refine lv (v := Ix (pl k.power j)) (e_load1 tf25 rfl (k_pt 1 rfl rfl)) ?_
  refine lv (e_gtr (a := (pl k.power j)) (b := (0 : Int)) rfl rfl) ?_
  refine lnf ?_
  refine c_if ((0 : Int) < (pl k.power j)) rfl (fun hc5 => ?_) (fun hc5 => ?_)
  ·refine c_region ?_
   refine lv (e_fieldPt rfl tf24) ?_
   refine lv (v := Ix (pl k.power j)) (e_load1 tf25 rfl (k_pt 1 rfl rfl)) ?_
   refine lv (v := Ix ((pl k.power j) - (1 : Int))) (e_sub (a := (pl k.power j)) (b := (1 : Int)) rfl rfl (i64w (by omega))) ?_
   refine lv (e_fieldPt rfl tf24) ?_
   refine lu (m_store 1 tf25 (cs' := #[sB pH k.head cH, sB p ys c, sB pB k.b cB, Ix ((pl k.power j) - (1 : Int))]) rfl rfl rfl rfl rfl rfl rfl) ?_
   refine lnf ?_
   refine c_seq ?_
   have hq : (pl k.power j) - (1 : Int) = pl k.power (j + 1) := by have h9 := hpst.2; unfold spendP at h9; split at h9 <;> omega
   refine c_re (L' := [pt b2 (.cells #[.slice none 0 0, .slice none 0 0, .slice none 0 0, .int .i64 (0)] 32), pt b1 (.cells #[sB pH k.head cH, sB p ys c, sB pB k.b cB, Ix (pl k.power (j + 1))] 32), rB pH k.head cH, rB p ys c, rB pB k.b cB]) (by show [pt b2 (.cells #[.slice none 0 0, .slice none 0 0, .slice none 0 0, .int .i64 (0)] 32), pt b1 (.cells #[sB pH k.head cH, sB p ys c, sB pB k.b cB, Ix ((pl k.power j) - (1 : Int))] 32), rB pH k.head cH, rB p ys c, rB pB k.b cB] = _; rw [hq]) ?_
   refine c_rowcap 3 rfl (fun hcl hcm => ?_)
   refine c_region ?_
   refine lv (e_fieldPt rfl tf20) ?_
   refine lv (v := sB pH k.head cH) (e_load1 tf21 rfl (k_pt 1 rfl rfl)) ?_
   refine lv e_assign ?_
   refine lnf ?_
   refine cs2 ?_
   refine c_region ?_
   refine lv e_move ?_
   refine lv (v := .bool true) (e_lss (a := (0 : Int)) (b := (2 : Int)) rfl rfl) ?_
   refine lnf ?_
   refine c_yes rfl ?_
   refine c_region ?_
   refine lv (v := .agg #[sB pH k.head cH, sB p ys c, sB pB k.b cB, Ix (pl k.power (j + 1))]) (e_load tf56 rfl (k_pt 1 rfl rfl) rfl) ?_
   refine lv e_move ?_
   refine lcf (cl0 (vs := [.agg #[sB pH k.head cH, sB p ys c, sB pB k.b cB, Ix (pl k.power (j + 1))], .int .i64 (0)]) tf145 rfl rfl) rfl fun w β1 sb kn hw1 back => (rarea0_ok β1 w hw1 0 (by decide) ({ k with a := ys, power := pl k.power (j + 1) } : KS) _ _ _ (kU kn 2 rfl) (kU kn 3 rfl) (kU kn 4 rfl)).mono ?_
   rintro e w' ⟨rfl, hw'⟩
   refine ⟨_, rfl, _, back _ _ hw', ?_⟩
   clear hw1 hw' back kn sb
   refine lv e_assign ?_
   refine lnf ?_
   refine cs2 ?_
   refine c_region ?_
   refine lv e_move ?_
   refine lv e_move ?_
   refine lv (v := Nx (at_ + j)) (e_add (a := ((at_ : Nat) : Int)) (b := ((j : Nat) : Int)) rfl rfl (i64n (by omega) (by omega))) ?_
   refine lv e_move ?_
   refine lv (v := Nx ((ys).length)) (e_len (a := p) (n := (ys).length) (c := c) rfl tf11) ?_
   refine lv (e_lss (a := ((at_ + j : Nat) : Int)) (b := (((ys).length : Nat) : Int)) rfl rfl) ?_
   refine lnf ?_
   refine c_if (((at_ + j : Nat) : Int) < (((ys).length : Nat) : Int)) rfl (fun hc6 => ?_) (fun hc6 => ?_)
   ·refine c_region ?_
    refine lv e_move ?_
    refine lv e_move ?_
    refine lv e_move ?_
    refine lv (v := Nx (at_ + j)) (e_add (a := ((at_ : Nat) : Int)) (b := ((j : Nat) : Int)) rfl rfl (i64n (by omega) (by omega))) ?_
    refine lv e_move ?_
    refine lv e_move ?_
    obtain ⟨x7, hx8⟩ : ∃ x_, (bs)[j]? = some x_ := ⟨_, List.getElem?_eq_getElem (by omega)⟩
    obtain ⟨ha9, cs10, hc11, rfl⟩ := ve _ _ hx8
    refine lv (v := .pointer (some ((ba va).add (j * 1)))) (e_indexAddr (k := j) (len := bs.length) (cap := vc) (a := va) rfl rfl tf12 (by omega) ha9) ?_
    refine lv (v := Bx (x7)) (e_load1 tf13 rfl (kB hc11)) ?_
    refine lv (v := .pointer (some ((ba p).add ((at_ + j) * 1)))) (e_indexRow 3 (j := at_ + j) (len := (ys).length) (cap := c) (p := p) rfl rfl tf12 (by omega) (by omega) rfl) ?_
    refine lu (m_storeRow 3 tf13 (o := (at_ + j) * 1) (v := Bx (x7)) rfl rfl rfl rfl rfl (by omega) (by omega)) ?_
    refine l_re (L' := [pt b2 (.cells #[.slice none 0 0, .slice none 0 0, .slice none 0 0, .int .i64 (0)] 32), pt b1 (.cells #[.slice pH (k.head).length cH, .slice p ((ys.set (at_ + j) x7)).length c, .slice pB (k.b).length cB, Ix (pl k.power (j + 1))] 32), row (.slice pH (k.head).length cH) 5 1 ((k.head).length) (BX k.head), row (.slice p ((ys.set (at_ + j) x7)).length c) 5 1 (((ys.set (at_ + j) x7)).length) (BX (ys.set (at_ + j) x7)), row (.slice pB (k.b).length cB) 5 1 ((k.b).length) (BX k.b)]) (by show [pt b2 (.cells #[.slice none 0 0, .slice none 0 0, .slice none 0 0, .int .i64 (0)] 32), pt b1 (.cells #[.slice pH (k.head).length cH, .slice p (ys).length c, .slice pB (k.b).length cB, Ix (pl k.power (j + 1))] 32), row (.slice pH (k.head).length cH) 5 1 ((k.head).length) (BX k.head), row (.slice p (ys).length c) 5 1 ((ys).length) ((overL (BX ys) ((at_ + j) * 1) [Bx (x7)])), row (.slice pB (k.b).length cB) 5 1 ((k.b).length) (BX k.b)] = _; rw [overL_bx (by omega)]; simp only [List.length_set]) ?_
    refine lnf ?_
    refine c_seq ?_
    refine rebase (d := 11) (v := sB p ((ys.set (at_ + j) x7)) c) (show (sB p ys c : Value) = _ by simp only [sB, List.length_set]) ?_
    refine c_region ?_
    refine lv e_move ?_
    refine lnf ?_
    refine c_block ?_
    refine csr ?_
    refine lv (v := .bool true) (e_eql (a := (0 : Int)) (b := (0 : Int)) rfl rfl) ?_
    refine lv e_assign ?_
    refine lnf ?_
    refine c_yes rfl ?_
    refine c_region ?_
    refine lv e_move ?_
    refine lv (e_fieldPt rfl tf22) ?_
    refine lu (m_store 1 tf21 (cs' := #[sB pH k.head cH, sB p ((ys.set (at_ + j) x7)) c, sB pB k.b cB, Ix (pl k.power (j + 1))]) rfl rfl rfl rfl rfl rfl rfl) ?_
    refine l_nil ?_
    refine f_block ?_
    refine f_block ?_
    refine f_then ?_
    refine c_region ?_
    refine lv e_move ?_
    refine lv (v := Nx (j + 1)) (e_add (a := ((j : Nat) : Int)) (b := (1 : Int)) rfl rfl (i64n (by omega) (by omega))) ?_
    refine lv e_assign ?_
    refine l_nil ?_
    exact f_cut ⟨(j + 1, (ys.set (at_ + j) x7), p, c), ⟨⟨rfl, rfl, rfl, rfl, rfl, rfl⟩, rfl, ⟨hpst.1, by rw [hys, wr_take hx8, if_pos (by rw [← hys]; omega)]⟩⟩, (show bs.length - (j + 1) < bs.length - j from by omega)⟩
   refine c_region ?_
   refine lv e_move ?_
   refine lv e_move ?_
   refine lv e_move ?_
   obtain ⟨x13, hx14⟩ : ∃ x_, (bs)[j]? = some x_ := ⟨_, List.getElem?_eq_getElem (by omega)⟩
   obtain ⟨ha15, cs16, hc17, rfl⟩ := ve _ _ hx14
   refine lv (v := .pointer (some ((ba va).add (j * 1)))) (e_indexAddr (k := j) (len := bs.length) (cap := vc) (a := va) rfl rfl tf12 (by omega) ha15) ?_
   refine lv (v := Bx (x13)) (e_load1 tf13 rfl (kB hc17)) ?_
   refine l_mv rfl rfl rfl (m_slices tf12 tf14 (cells := #[Bx (x13)]) rfl rfl rfl rfl) ?_
   rintro _ _ ⟨b19, rfl, rfl⟩
   refine l_mv rfl rfl rfl (m_appendE (enc := fun c : UInt8 => Bx c) 4 bx_cell tf12 tf15 (v := sB p ys c) (xs := ys) (ys := [x13]) (ao := some ⟨b19, 0, none⟩) (c := 1) rfl rfl (by first | rfl | simp) rfl (by first | rfl | simp) (k_ptE 0 (xs := [x13]) rfl) (by first | omega | (simp only [List.length_append, List.length_nil, List.length_cons, be_length] at *; omega)) (by first | omega | (simp only [List.length_append, List.length_nil, List.length_cons, be_length] at *; omega))) ?_
   rintro _ _ ⟨rp20, rc21, rfl, rfl⟩
   refine lv e_assign ?_
   refine lnc ?_
   refine lv e_move ?_
   refine lnf ?_
   refine c_block ?_
   refine csr ?_
   refine lv (v := .bool true) (e_eql (a := (0 : Int)) (b := (0 : Int)) rfl rfl) ?_
   refine lv e_assign ?_
   refine lnf ?_
   refine c_yes rfl ?_
   refine c_region ?_
   refine lv e_move ?_
   refine lv (e_fieldPt rfl tf22) ?_
   refine lu (m_store 2 tf21 (cs' := #[sB pH k.head cH, sB rp20 (ys ++ [x13]) rc21, sB pB k.b cB, Ix (pl k.power (j + 1))]) rfl rfl rfl rfl rfl rfl rfl) ?_
   refine l_nil ?_
   refine f_block ?_
   refine f_block ?_
   refine f_then ?_
   refine c_region ?_
   refine lv e_move ?_
   refine lv (v := Nx (j + 1)) (e_add (a := ((j : Nat) : Int)) (b := (1 : Int)) rfl rfl (i64n (by omega) (by omega))) ?_
   refine lv e_assign ?_
   refine l_nil ?_
   refine f_mask (L' := [pt b2 (.cells #[.slice none 0 0, .slice none 0 0, .slice none 0 0, .int .i64 (0)] 32), pt b1 (.cells #[sB pH k.head cH, sB rp20 (ys ++ [x13]) rc21, sB pB k.b cB, Ix (pl k.power (j + 1))] 32), rB pH k.head cH, rB rp20 (ys ++ [x13]) rc21, rB pB k.b cB]) [false, true, true, true, true, true] rfl ?_
   exact f_cut ⟨(j + 1, ys ++ [x13], rp20, rc21), ⟨⟨rfl, rfl, rfl, rfl, rfl, rfl⟩, rfl, ⟨hpst.1, by rw [hys, wr_take hx14, if_neg (by rw [← hys]; omega)]⟩⟩, (show bs.length - (j + 1) < bs.length - j from by omega)⟩
  refine csk ?_
  refine c_seq ?_
  have hq : pl k.power j = pl k.power (j + 1) := by have h9 := hpst.2; unfold spendP at h9; split at h9 <;> omega
  refine c_re (L' := [pt b2 (.cells #[.slice none 0 0, .slice none 0 0, .slice none 0 0, .int .i64 (0)] 32), pt b1 (.cells #[sB pH k.head cH, sB p ys c, sB pB k.b cB, Ix (pl k.power (j + 1))] 32), rB pH k.head cH, rB p ys c, rB pB k.b cB]) (by show [pt b2 (.cells #[.slice none 0 0, .slice none 0 0, .slice none 0 0, .int .i64 (0)] 32), pt b1 (.cells #[sB pH k.head cH, sB p ys c, sB pB k.b cB, Ix (pl k.power j)] 32), rB pH k.head cH, rB p ys c, rB pB k.b cB] = _; rw [hq]) ?_
  refine c_rowcap 3 rfl (fun hcl hcm => ?_)
  refine c_region ?_
  refine lv (e_fieldPt rfl tf20) ?_
  refine lv (v := sB pH k.head cH) (e_load1 tf21 rfl (k_pt 1 rfl rfl)) ?_
  refine lv e_assign ?_
  refine lnf ?_
  refine cs2 ?_
  refine c_region ?_
  refine lv e_move ?_
  refine lv (v := .bool true) (e_lss (a := (0 : Int)) (b := (2 : Int)) rfl rfl) ?_
  refine lnf ?_
  refine c_yes rfl ?_
  refine c_region ?_
  refine lv (v := .agg #[sB pH k.head cH, sB p ys c, sB pB k.b cB, Ix (pl k.power (j + 1))]) (e_load tf56 rfl (k_pt 1 rfl rfl) rfl) ?_
  refine lv e_move ?_
  refine lcf (cl0 (vs := [.agg #[sB pH k.head cH, sB p ys c, sB pB k.b cB, Ix (pl k.power (j + 1))], .int .i64 (0)]) tf145 rfl rfl) rfl fun w β1 sb kn hw1 back => (rarea0_ok β1 w hw1 0 (by decide) ({ k with a := ys, power := pl k.power (j + 1) } : KS) _ _ _ (kU kn 2 rfl) (kU kn 3 rfl) (kU kn 4 rfl)).mono ?_
  rintro e w' ⟨rfl, hw'⟩
  refine ⟨_, rfl, _, back _ _ hw', ?_⟩
  clear hw1 hw' back kn sb
  refine lv e_assign ?_
  refine lnf ?_
  refine cs2 ?_
  refine c_region ?_
  refine lv e_move ?_
  refine lv e_move ?_
  refine lv (v := Nx (at_ + j)) (e_add (a := ((at_ : Nat) : Int)) (b := ((j : Nat) : Int)) rfl rfl (i64n (by omega) (by omega))) ?_
  refine lv e_move ?_
  refine lv (v := Nx ((ys).length)) (e_len (a := p) (n := (ys).length) (c := c) rfl tf11) ?_
  refine lv (e_lss (a := ((at_ + j : Nat) : Int)) (b := (((ys).length : Nat) : Int)) rfl rfl) ?_
  refine lnf ?_
  refine c_if (((at_ + j : Nat) : Int) < (((ys).length : Nat) : Int)) rfl (fun hc22 => ?_) (fun hc22 => ?_)
  ·refine c_region ?_
   refine lv e_move ?_
   refine lv e_move ?_
   refine lv e_move ?_
   refine lv (v := Nx (at_ + j)) (e_add (a := ((at_ : Nat) : Int)) (b := ((j : Nat) : Int)) rfl rfl (i64n (by omega) (by omega))) ?_
   refine lv e_move ?_
   refine lv e_move ?_
   obtain ⟨x23, hx24⟩ : ∃ x_, (bs)[j]? = some x_ := ⟨_, List.getElem?_eq_getElem (by omega)⟩
   obtain ⟨ha25, cs26, hc27, rfl⟩ := ve _ _ hx24
   refine lv (v := .pointer (some ((ba va).add (j * 1)))) (e_indexAddr (k := j) (len := bs.length) (cap := vc) (a := va) rfl rfl tf12 (by omega) ha25) ?_
   refine lv (v := Bx (x23)) (e_load1 tf13 rfl (kB hc27)) ?_
   refine lv (v := .pointer (some ((ba p).add ((at_ + j) * 1)))) (e_indexRow 3 (j := at_ + j) (len := (ys).length) (cap := c) (p := p) rfl rfl tf12 (by omega) (by omega) rfl) ?_
   refine lu (m_storeRow 3 tf13 (o := (at_ + j) * 1) (v := Bx (x23)) rfl rfl rfl rfl rfl (by omega) (by omega)) ?_
   refine l_re (L' := [pt b2 (.cells #[.slice none 0 0, .slice none 0 0, .slice none 0 0, .int .i64 (0)] 32), pt b1 (.cells #[.slice pH (k.head).length cH, .slice p ((ys.set (at_ + j) x23)).length c, .slice pB (k.b).length cB, Ix (pl k.power (j + 1))] 32), row (.slice pH (k.head).length cH) 5 1 ((k.head).length) (BX k.head), row (.slice p ((ys.set (at_ + j) x23)).length c) 5 1 (((ys.set (at_ + j) x23)).length) (BX (ys.set (at_ + j) x23)), row (.slice pB (k.b).length cB) 5 1 ((k.b).length) (BX k.b)]) (by show [pt b2 (.cells #[.slice none 0 0, .slice none 0 0, .slice none 0 0, .int .i64 (0)] 32), pt b1 (.cells #[.slice pH (k.head).length cH, .slice p (ys).length c, .slice pB (k.b).length cB, Ix (pl k.power (j + 1))] 32), row (.slice pH (k.head).length cH) 5 1 ((k.head).length) (BX k.head), row (.slice p (ys).length c) 5 1 ((ys).length) ((overL (BX ys) ((at_ + j) * 1) [Bx (x23)])), row (.slice pB (k.b).length cB) 5 1 ((k.b).length) (BX k.b)] = _; rw [overL_bx (by omega)]; simp only [List.length_set]) ?_
   refine lnf ?_
   refine c_seq ?_
   refine rebase (d := 11) (v := sB p ((ys.set (at_ + j) x23)) c) (show (sB p ys c : Value) = _ by simp only [sB, List.length_set]) ?_
   refine c_region ?_
   refine lv e_move ?_
   refine lnf ?_
   refine c_block ?_
   refine csr ?_
   refine lv (v := .bool true) (e_eql (a := (0 : Int)) (b := (0 : Int)) rfl rfl) ?_
   refine lv e_assign ?_
   refine lnf ?_
   refine c_yes rfl ?_
   refine c_region ?_
   refine lv e_move ?_
   refine lv (e_fieldPt rfl tf22) ?_
   refine lu (m_store 1 tf21 (cs' := #[sB pH k.head cH, sB p ((ys.set (at_ + j) x23)) c, sB pB k.b cB, Ix (pl k.power (j + 1))]) rfl rfl rfl rfl rfl rfl rfl) ?_
   refine l_nil ?_
   refine f_block ?_
   refine f_block ?_
   refine f_then ?_
   refine c_region ?_
   refine lv e_move ?_
   refine lv (v := Nx (j + 1)) (e_add (a := ((j : Nat) : Int)) (b := (1 : Int)) rfl rfl (i64n (by omega) (by omega))) ?_
   refine lv e_assign ?_
   refine l_nil ?_
   exact f_cut ⟨(j + 1, (ys.set (at_ + j) x23), p, c), ⟨⟨rfl, rfl, rfl, rfl, rfl, rfl⟩, rfl, ⟨hpst.1, by rw [hys, wr_take hx24, if_pos (by rw [← hys]; omega)]⟩⟩, (show bs.length - (j + 1) < bs.length - j from by omega)⟩
  refine c_region ?_
  refine lv e_move ?_
  refine lv e_move ?_
  refine lv e_move ?_
  obtain ⟨x29, hx30⟩ : ∃ x_, (bs)[j]? = some x_ := ⟨_, List.getElem?_eq_getElem (by omega)⟩
  obtain ⟨ha31, cs32, hc33, rfl⟩ := ve _ _ hx30
  refine lv (v := .pointer (some ((ba va).add (j * 1)))) (e_indexAddr (k := j) (len := bs.length) (cap := vc) (a := va) rfl rfl tf12 (by omega) ha31) ?_
  refine lv (v := Bx (x29)) (e_load1 tf13 rfl (kB hc33)) ?_
  refine l_mv rfl rfl rfl (m_slices tf12 tf14 (cells := #[Bx (x29)]) rfl rfl rfl rfl) ?_
  rintro _ _ ⟨b35, rfl, rfl⟩
  refine l_mv rfl rfl rfl (m_appendE (enc := fun c : UInt8 => Bx c) 4 bx_cell tf12 tf15 (v := sB p ys c) (xs := ys) (ys := [x29]) (ao := some ⟨b35, 0, none⟩) (c := 1) rfl rfl (by first | rfl | simp) rfl (by first | rfl | simp) (k_ptE 0 (xs := [x29]) rfl) (by first | omega | (simp only [List.length_append, List.length_nil, List.length_cons, be_length] at *; omega)) (by first | omega | (simp only [List.length_append, List.length_nil, List.length_cons, be_length] at *; omega))) ?_
  rintro _ _ ⟨rp36, rc37, rfl, rfl⟩
  refine lv e_assign ?_
  refine lnc ?_
  refine lv e_move ?_
  refine lnf ?_
  refine c_block ?_
  refine csr ?_
  refine lv (v := .bool true) (e_eql (a := (0 : Int)) (b := (0 : Int)) rfl rfl) ?_
  refine lv e_assign ?_
  refine lnf ?_
  refine c_yes rfl ?_
  refine c_region ?_
  refine lv e_move ?_
  refine lv (e_fieldPt rfl tf22) ?_
  refine lu (m_store 2 tf21 (cs' := #[sB pH k.head cH, sB rp36 (ys ++ [x29]) rc37, sB pB k.b cB, Ix (pl k.power (j + 1))]) rfl rfl rfl rfl rfl rfl rfl) ?_
  refine l_nil ?_
  refine f_block ?_
  refine f_block ?_
  refine f_then ?_
  refine c_region ?_
  refine lv e_move ?_
  refine lv (v := Nx (j + 1)) (e_add (a := ((j : Nat) : Int)) (b := (1 : Int)) rfl rfl (i64n (by omega) (by omega))) ?_
  refine lv e_assign ?_
  refine l_nil ?_
  refine f_mask (L' := [pt b2 (.cells #[.slice none 0 0, .slice none 0 0, .slice none 0 0, .int .i64 (0)] 32), pt b1 (.cells #[sB pH k.head cH, sB rp36 (ys ++ [x29]) rc37, sB pB k.b cB, Ix (pl k.power (j + 1))] 32), rB pH k.head cH, rB rp36 (ys ++ [x29]) rc37, rB pB k.b cB]) [false, true, true, true, true, true] rfl ?_
  exact f_cut ⟨(j + 1, ys ++ [x29], rp36, rc37), ⟨⟨rfl, rfl, rfl, rfl, rfl, rfl⟩, rfl, ⟨hpst.1, by rw [hys, wr_take hx30, if_neg (by rw [← hys]; omega)]⟩⟩, (show bs.length - (j + 1) < bs.length - j from by omega)⟩
 refine c_exit ?_
 refine f_then_exit ?_
 refine f_then_exit ?_
 refine f_exit ?_
 refine ftc ?_
 refine lv (v := .agg #[sB pH k.head cH, sB p ys c, sB pB k.b cB, Ix (pl k.power j)]) (e_load tf56 rfl (k_pt 1 rfl rfl) rfl) ?_
 refine lu (m_store 0 tf56 (cs' := #[sB pH k.head cH, sB p ys c, sB pB k.b cB, Ix (pl k.power j)]) rfl rfl rfl rfl rfl rfl rfl) ?_
 refine lv e_assign ?_
 refine lnf ?_
 refine c_ret ?_
 refine retG (m := [.agg #[sB pH k.head cH, sB p ys c, sB pB k.b cB, Ix (pl k.power j)], .bool false]) Try.results64 ⟨rd_cell tf56 rfl (k_pt 0 rfl rfl) rfl, rd_tmp (v := .bool false) rfl, trivial⟩ rfl ?_
 intro w hw
 have hw2 := st_mask [true, true, true, false, false] rfl (hw.perm (L' := [rB pH k.head cH, rB p ys c, rB pB k.b cB, pt b2 (.cells #[sB pH k.head cH, sB p ys c, sB pB k.b cB, Ix (pl k.power j)] 32), pt b1 (.cells #[sB pH k.head cH, sB p ys c, sB pB k.b cB, Ix (pl k.power j)] 32)]) (by exact (perm_ix [2, 3, 4, 0, 1] 5 rfl (by kernel_rfl) (by kernel_rfl))))
 obtain ⟨e1, e0⟩ := pw_all hj (by omega)
 have e4 : pl k.power j = pl k.power bs.length := by rw [e0]
 have ec : wrOk k.power bs := e1
 have e2 : ys = wrA k.a k.power at_ bs := by rw [hys, wrA, e1, e0]
 rw [e4, e2] at hw2 ⊢
 rw [← wrS_even he]
 exact ⟨p, c, by simp [ec], hw2⟩
set_option maxHeartbeats 4000000 in
theorem rwriteB_ok (β : Base) (w : World) (pH pA pB : Option Addr) (cH cA cB : Nat) (k : KS) (hk : k.head.length ≤ 1048576 ∧ k.a.length ≤ 1048576 ∧ k.b.length ≤ 1048576 ∧ k.power ≤ 9223372036854775807) (e : Nat) (he : e % 2 = 1) (at_ : Nat) (hat : at_ ≤ 1048576) (bs : Bs) (v : Value) (hb : bs.length ≤ 1048576) (hs : Sl U8R β.heap v bs) (hw : St β [rB pH k.head cH, rB pA k.a cA, rB pB k.b cB] w) : Calls Try.prog 64 #[.agg #[sB pH k.head cH, sB pA k.a cA, sB pB k.b cB, Ix k.power], .int .i64 1, Nx at_, v] w fun r w' => ∃ p c, r = .returned (.tuple #[.agg #[sB pH ((wrS k e at_ bs).head) cH, sB pA ((wrS k e at_ bs).a) cA, sB p ((wrS k e at_ bs).b) c, Ix (wrS k e at_ bs).power], .bool (decide (¬ wrOk k.power bs))]) ∧ St β [rB pH ((wrS k e at_ bs).head) cH, rB pA ((wrS k e at_ bs).a) cA, rB p ((wrS k e at_ bs).b) c] w' := by
 obtain ⟨va, vc, rfl, vl, vm, ve⟩ := hs.get
 refine enter (n := 70) Try.func64 rfl Try.ntmps64 rfl ?_ hw
 refine csr ?_
 refine l_mv rfl rfl rfl (m_box (v := .agg #[sB pH k.head cH, sB pA k.a cA, sB pB k.b cB, Ix (k.power)]) rfl) ?_
 rintro _ _ ⟨b1, rfl, rfl⟩
 refine l_mv rfl rfl rfl (m_alloc tf106) ?_
 rintro _ _ ⟨b2, rfl, rfl⟩
 refine lv e_assign ?_
 refine lnf ?_
 refine cs2 ?_
 refine c_region ?_
 refine lv e_assign ?_
 refine lnf ?_
 refine c_block ?_
 refine c_loop (fun (x_ : Nat × Bs × Option Addr × Nat) (f : Fm) (L : List Res) => match x_ with | (j, ys, p, c) => (f 1 = .int .i64 (1) ∧ f 2 = Nx (at_) ∧ f 3 = sB va bs (vc) ∧ f 4 = pp b1 0 ∧ f 8 = pp b2 0 ∧ f 10 = Nx (j)) ∧ L = [pt b2 (.cells #[.slice none 0 0, .slice none 0 0, .slice none 0 0, .int .i64 (0)] 32), pt b1 (.cells #[sB pH k.head cH, sB pA k.a cA, sB p ys c, Ix (pl k.power j)] 32), rB pH k.head cH, rB pA k.a cA, rB p ys c] ∧ (j ≤ pw k.power bs.length ∧ ys = wr k.b at_ (bs.take j))) (fun (x_ : Nat × Bs × Option Addr × Nat) => match x_ with | (j, ys, p, c) => bs.length - j) (0, k.b, pB, cB) ?_ ?_
 ·exact ⟨⟨rfl, rfl, rfl, rfl, rfl, rfl⟩, (by rw [pl_zero]; rfl), ⟨by omega, by simp [wr]⟩⟩
 rintro ⟨j, ys, p, c⟩ f0 L0 ⟨⟨hs1, hs2, hs3, hs4, hs8, hs10⟩, hL, ⟨hj, hys⟩⟩
 subst L0
 refine rebase (d := 1) hs1 ?_
 refine rebase (d := 2) hs2 ?_
 refine rebase (d := 3) hs3 ?_
 refine rebase (d := 4) hs4 ?_
 refine rebase (d := 8) hs8 ?_
 refine rebase (d := 10) hs10 ?_
 clear hs1 hs2 hs3 hs4 hs8 hs10
 have hyl : ys.length ≤ k.b.length + bs.length := by rw [hys]; refine Nat.le_trans wr_length ?_; simp; omega
 have hpl := pl_le k.power j
 have hpm := hk.2.2.2
 refine cs2 ?_
 refine c_region ?_
 refine lv e_move ?_
 refine lv e_move ?_
 refine lv (v := Nx (bs.length)) (e_len (a := va) (n := bs.length) (c := vc) rfl tf11) ?_
 refine lv (e_lss (a := ((j : Nat) : Int)) (b := ((bs.length : Nat) : Int)) rfl rfl) ?_
 refine lnf ?_
 refine c_if (((j : Nat) : Int) < ((bs.length : Nat) : Int)) rfl (fun hc3 => ?_) (fun hc3 => ?_)
 ·have hc_ : j < bs.length := by omega
  refine csk ?_
  refine c_seq ?_
  refine c_block ?_
  refine cs2 ?_
  refine c_region ?_
  refine lv (e_fieldPt rfl tf24) ?_
  refine lv (v := Ix (pl k.power j)) (e_load1 tf25 rfl (k_pt 1 rfl rfl)) ?_
  refine lv (e_eql (a := (pl k.power j)) (b := (0 : Int)) rfl rfl) ?_
  refine lnf ?_
  refine c_if ((pl k.power j) = (0 : Int)) rfl (fun hc4 => ?_) (fun hc4 => ?_)
  ·refine csr ?_
   refine lv (v := .agg #[sB pH k.head cH, sB pA k.a cA, sB p ys c, Ix (pl k.power j)]) (e_load tf56 rfl (k_pt 1 rfl rfl) rfl) ?_
   refine lu (m_store 0 tf56 (cs' := #[sB pH k.head cH, sB pA k.a cA, sB p ys c, Ix (pl k.power j)]) rfl rfl rfl rfl rfl rfl rfl) ?_
   refine lv e_assign ?_
   refine lnf ?_
   refine c_ret ?_
   refine f_then_ret ?_
   refine f_block_ret ?_
   refine f_then_ret ?_
   refine f_then_ret ?_
   refine f_block_ret ?_
   refine f_then_ret ?_
   refine retG (m := [.agg #[sB pH k.head cH, sB pA k.a cA, sB p ys c, Ix (pl k.power j)], .bool true]) Try.results64 ⟨rd_cell tf56 rfl (k_pt 0 rfl rfl) rfl, rd_tmp (v := .bool true) rfl, trivial⟩ rfl ?_
   intro w hw
   have hw2 := st_mask [true, true, true, false, false] rfl (hw.perm (L' := [rB pH k.head cH, rB pA k.a cA, rB p ys c, pt b2 (.cells #[sB pH k.head cH, sB pA k.a cA, sB p ys c, Ix (pl k.power j)] 32), pt b1 (.cells #[sB pH k.head cH, sB pA k.a cA, sB p ys c, Ix (pl k.power j)] 32)]) (by exact (perm_ix [2, 3, 4, 0, 1] 5 rfl (by kernel_rfl) (by kernel_rfl))))
   obtain ⟨e1, e3⟩ := pw_stop hj hc_ hc4
   have e4 : pl k.power j = pl k.power bs.length := by rw [hc4, e3]
   have ec : ¬ wrOk k.power bs := by unfold wrOk; omega
   have e2 : ys = wrA k.b k.power at_ bs := by rw [hys, wrA, e1]
   rw [e4, e2] at hw2 ⊢
   rw [← wrS_odd he]
   exact ⟨p, c, by simp [ec], hw2⟩
  refine csk ?_
  refine cs2 ?_
  have hpst := pw_step hj hc_ hc4
  refine c_region ?_
  refine lv (e_fieldPt rfl tf24) ?_
  refine lv (v := Ix (pl k.power j)) (e_load1 tf25 rfl (k_pt 1 rfl rfl)) ?_
  refine lv (e_gtr (a := (pl k.power j)) (b := (0 : Int)) rfl rfl) ?_
  refine lnf ?_
  refine c_if ((0 : Int) < (pl k.power j)) rfl (fun hc5 => ?_) (fun hc5 => ?_)
  ·refine c_region ?_
   refine lv (e_fieldPt rfl tf24) ?_
   refine lv (v := Ix (pl k.power j)) (e_load1 tf25 rfl (k_pt 1 rfl rfl)) ?_
   refine lv (v := Ix ((pl k.power j) - (1 : Int))) (e_sub (a := (pl k.power j)) (b := (1 : Int)) rfl rfl (i64w (by omega))) ?_
   refine lv (e_fieldPt rfl tf24) ?_
   refine lu (m_store 1 tf25 (cs' := #[sB pH k.head cH, sB pA k.a cA, sB p ys c, Ix ((pl k.power j) - (1 : Int))]) rfl rfl rfl rfl rfl rfl rfl) ?_
   refine lnf ?_
   refine c_seq ?_
   have hq : (pl k.power j) - (1 : Int) = pl k.power (j + 1) := by have h9 := hpst.2; unfold spendP at h9; split at h9 <;> omega
   refine c_re (L' := [pt b2 (.cells #[.slice none 0 0, .slice none 0 0, .slice none 0 0, .int .i64 (0)] 32), pt b1 (.cells #[sB pH k.head cH, sB pA k.a cA, sB p ys c, Ix (pl k.power (j + 1))] 32), rB pH k.head cH, rB pA k.a cA, rB p ys c]) (by show [pt b2 (.cells #[.slice none 0 0, .slice none 0 0, .slice none 0 0, .int .i64 (0)] 32), pt b1 (.cells #[sB pH k.head cH, sB pA k.a cA, sB p ys c, Ix ((pl k.power j) - (1 : Int))] 32), rB pH k.head cH, rB pA k.a cA, rB p ys c] = _; rw [hq]) ?_
   refine c_rowcap 4 rfl (fun hcl hcm => ?_)
   refine c_region ?_
   refine lv (e_fieldPt rfl tf20) ?_
   refine lv (v := sB pH k.head cH) (e_load1 tf21 rfl (k_pt 1 rfl rfl)) ?_
   refine lv e_assign ?_
   refine lnf ?_
   refine cs2 ?_
   refine c_region ?_
   refine lv e_move ?_
   refine lv (v := .bool true) (e_lss (a := (1 : Int)) (b := (2 : Int)) rfl rfl) ?_
   refine lnf ?_
   refine c_yes rfl ?_
   refine c_region ?_
   refine lv (v := .agg #[sB pH k.head cH, sB pA k.a cA, sB p ys c, Ix (pl k.power (j + 1))]) (e_load tf56 rfl (k_pt 1 rfl rfl) rfl) ?_
   refine lv e_move ?_
   refine lcf (cl0 (vs := [.agg #[sB pH k.head cH, sB pA k.a cA, sB p ys c, Ix (pl k.power (j + 1))], .int .i64 (1)]) tf145 rfl rfl) rfl fun w β1 sb kn hw1 back => (rarea1_ok β1 w hw1 1 (by decide) ({ k with b := ys, power := pl k.power (j + 1) } : KS) _ _ _ (kU kn 2 rfl) (kU kn 3 rfl) (kU kn 4 rfl)).mono ?_
   rintro e w' ⟨rfl, hw'⟩
   refine ⟨_, rfl, _, back _ _ hw', ?_⟩
   clear hw1 hw' back kn sb
   refine lv e_assign ?_
   refine lnf ?_
   refine cs2 ?_
   refine c_region ?_
   refine lv e_move ?_
   refine lv e_move ?_
   refine lv (v := Nx (at_ + j)) (e_add (a := ((at_ : Nat) : Int)) (b := ((j : Nat) : Int)) rfl rfl (i64n (by omega) (by omega))) ?_
   refine lv e_move ?_
   refine lv (v := Nx ((ys).length)) (e_len (a := p) (n := (ys).length) (c := c) rfl tf11) ?_
   refine lv (e_lss (a := ((at_ + j : Nat) : Int)) (b := (((ys).length : Nat) : Int)) rfl rfl) ?_
   refine lnf ?_
   refine c_if (((at_ + j : Nat) : Int) < (((ys).length : Nat) : Int)) rfl (fun hc6 => ?_) (fun hc6 => ?_)
   ·refine c_region ?_
    refine lv e_move ?_
    refine lv e_move ?_
    refine lv e_move ?_
    refine lv (v := Nx (at_ + j)) (e_add (a := ((at_ : Nat) : Int)) (b := ((j : Nat) : Int)) rfl rfl (i64n (by omega) (by omega))) ?_
    refine lv e_move ?_
    refine lv e_move ?_
    obtain ⟨x7, hx8⟩ : ∃ x_, (bs)[j]? = some x_ := ⟨_, List.getElem?_eq_getElem (by omega)⟩
    obtain ⟨ha9, cs10, hc11, rfl⟩ := ve _ _ hx8
    refine lv (v := .pointer (some ((ba va).add (j * 1)))) (e_indexAddr (k := j) (len := bs.length) (cap := vc) (a := va) rfl rfl tf12 (by omega) ha9) ?_
    refine lv (v := Bx (x7)) (e_load1 tf13 rfl (kB hc11)) ?_
    refine lv (v := .pointer (some ((ba p).add ((at_ + j) * 1)))) (e_indexRow 4 (j := at_ + j) (len := (ys).length) (cap := c) (p := p) rfl rfl tf12 (by omega) (by omega) rfl) ?_
    refine lu (m_storeRow 4 tf13 (o := (at_ + j) * 1) (v := Bx (x7)) rfl rfl rfl rfl rfl (by omega) (by omega)) ?_
    refine l_re (L' := [pt b2 (.cells #[.slice none 0 0, .slice none 0 0, .slice none 0 0, .int .i64 (0)] 32), pt b1 (.cells #[.slice pH (k.head).length cH, .slice pA (k.a).length cA, .slice p ((ys.set (at_ + j) x7)).length c, Ix (pl k.power (j + 1))] 32), row (.slice pH (k.head).length cH) 5 1 ((k.head).length) (BX k.head), row (.slice pA (k.a).length cA) 5 1 ((k.a).length) (BX k.a), row (.slice p ((ys.set (at_ + j) x7)).length c) 5 1 (((ys.set (at_ + j) x7)).length) (BX (ys.set (at_ + j) x7))]) (by show [pt b2 (.cells #[.slice none 0 0, .slice none 0 0, .slice none 0 0, .int .i64 (0)] 32), pt b1 (.cells #[.slice pH (k.head).length cH, .slice pA (k.a).length cA, .slice p (ys).length c, Ix (pl k.power (j + 1))] 32), row (.slice pH (k.head).length cH) 5 1 ((k.head).length) (BX k.head), row (.slice pA (k.a).length cA) 5 1 ((k.a).length) (BX k.a), row (.slice p (ys).length c) 5 1 ((ys).length) ((overL (BX ys) ((at_ + j) * 1) [Bx (x7)]))] = _; rw [overL_bx (by omega)]; simp only [List.length_set]) ?_
    refine lnf ?_
    refine c_seq ?_
    refine rebase (d := 11) (v := sB p ((ys.set (at_ + j) x7)) c) (show (sB p ys c : Value) = _ by simp only [sB, List.length_set]) ?_
    refine c_region ?_
    refine lv e_move ?_
    refine lnf ?_
    refine c_block ?_
    refine csr ?_
    refine lv (v := .bool false) (e_eql (a := (1 : Int)) (b := (0 : Int)) rfl rfl) ?_
    refine lv e_assign ?_
    refine lnf ?_
    refine c_no rfl ?_
    refine csr ?_
    refine lv (v := .bool true) (e_eql (a := (1 : Int)) (b := (1 : Int)) rfl rfl) ?_
    refine lv e_assign ?_
    refine lnf ?_
    refine c_yes rfl ?_
    refine c_region ?_
    refine lv e_move ?_
    refine lv (e_fieldPt rfl tf23) ?_
    refine lu (m_store 1 tf21 (cs' := #[sB pH k.head cH, sB pA k.a cA, sB p ((ys.set (at_ + j) x7)) c, Ix (pl k.power (j + 1))]) rfl rfl rfl rfl rfl rfl rfl) ?_
    refine l_nil ?_
    refine f_block ?_
    refine f_block ?_
    refine f_then ?_
    refine c_region ?_
    refine lv e_move ?_
    refine lv (v := Nx (j + 1)) (e_add (a := ((j : Nat) : Int)) (b := (1 : Int)) rfl rfl (i64n (by omega) (by omega))) ?_
    refine lv e_assign ?_
    refine l_nil ?_
    exact f_cut ⟨(j + 1, (ys.set (at_ + j) x7), p, c), ⟨⟨rfl, rfl, rfl, rfl, rfl, rfl⟩, rfl, ⟨hpst.1, by rw [hys, wr_take hx8, if_pos (by rw [← hys]; omega)]⟩⟩, (show bs.length - (j + 1) < bs.length - j from by omega)⟩
   refine c_region ?_
   refine lv e_move ?_
   refine lv e_move ?_
   refine lv e_move ?_
   obtain ⟨x13, hx14⟩ : ∃ x_, (bs)[j]? = some x_ := ⟨_, List.getElem?_eq_getElem (by omega)⟩
   obtain ⟨ha15, cs16, hc17, rfl⟩ := ve _ _ hx14
   refine lv (v := .pointer (some ((ba va).add (j * 1)))) (e_indexAddr (k := j) (len := bs.length) (cap := vc) (a := va) rfl rfl tf12 (by omega) ha15) ?_
   refine lv (v := Bx (x13)) (e_load1 tf13 rfl (kB hc17)) ?_
   refine l_mv rfl rfl rfl (m_slices tf12 tf14 (cells := #[Bx (x13)]) rfl rfl rfl rfl) ?_
   rintro _ _ ⟨b19, rfl, rfl⟩
   refine l_mv rfl rfl rfl (m_appendE (enc := fun c : UInt8 => Bx c) 5 bx_cell tf12 tf15 (v := sB p ys c) (xs := ys) (ys := [x13]) (ao := some ⟨b19, 0, none⟩) (c := 1) rfl rfl (by first | rfl | simp) rfl (by first | rfl | simp) (k_ptE 0 (xs := [x13]) rfl) (by first | omega | (simp only [List.length_append, List.length_nil, List.length_cons, be_length] at *; omega)) (by first | omega | (simp only [List.length_append, List.length_nil, List.length_cons, be_length] at *; omega))) ?_
   rintro _ _ ⟨rp20, rc21, rfl, rfl⟩
   refine lv e_assign ?_
   refine lnc ?_
   refine lv e_move ?_
   refine lnf ?_
   refine c_block ?_
   refine csr ?_
   refine lv (v := .bool false) (e_eql (a := (1 : Int)) (b := (0 : Int)) rfl rfl) ?_
   refine lv e_assign ?_
   refine lnf ?_
   refine c_no rfl ?_
   refine csr ?_
   refine lv (v := .bool true) (e_eql (a := (1 : Int)) (b := (1 : Int)) rfl rfl) ?_
   refine lv e_assign ?_
   refine lnf ?_
   refine c_yes rfl ?_
   refine c_region ?_
   refine lv e_move ?_
   refine lv (e_fieldPt rfl tf23) ?_
   refine lu (m_store 2 tf21 (cs' := #[sB pH k.head cH, sB pA k.a cA, sB rp20 (ys ++ [x13]) rc21, Ix (pl k.power (j + 1))]) rfl rfl rfl rfl rfl rfl rfl) ?_
   refine l_nil ?_
   refine f_block ?_
   refine f_block ?_
   refine f_then ?_
   refine c_region ?_
   refine lv e_move ?_
   refine lv (v := Nx (j + 1)) (e_add (a := ((j : Nat) : Int)) (b := (1 : Int)) rfl rfl (i64n (by omega) (by omega))) ?_
   refine lv e_assign ?_
   refine l_nil ?_
   refine f_mask (L' := [pt b2 (.cells #[.slice none 0 0, .slice none 0 0, .slice none 0 0, .int .i64 (0)] 32), pt b1 (.cells #[sB pH k.head cH, sB pA k.a cA, sB rp20 (ys ++ [x13]) rc21, Ix (pl k.power (j + 1))] 32), rB pH k.head cH, rB pA k.a cA, rB rp20 (ys ++ [x13]) rc21]) [false, true, true, true, true, true] rfl ?_
   exact f_cut ⟨(j + 1, ys ++ [x13], rp20, rc21), ⟨⟨rfl, rfl, rfl, rfl, rfl, rfl⟩, rfl, ⟨hpst.1, by rw [hys, wr_take hx14, if_neg (by rw [← hys]; omega)]⟩⟩, (show bs.length - (j + 1) < bs.length - j from by omega)⟩
  refine csk ?_
  refine c_seq ?_
  have hq : pl k.power j = pl k.power (j + 1) := by have h9 := hpst.2; unfold spendP at h9; split at h9 <;> omega
  refine c_re (L' := [pt b2 (.cells #[.slice none 0 0, .slice none 0 0, .slice none 0 0, .int .i64 (0)] 32), pt b1 (.cells #[sB pH k.head cH, sB pA k.a cA, sB p ys c, Ix (pl k.power (j + 1))] 32), rB pH k.head cH, rB pA k.a cA, rB p ys c]) (by show [pt b2 (.cells #[.slice none 0 0, .slice none 0 0, .slice none 0 0, .int .i64 (0)] 32), pt b1 (.cells #[sB pH k.head cH, sB pA k.a cA, sB p ys c, Ix (pl k.power j)] 32), rB pH k.head cH, rB pA k.a cA, rB p ys c] = _; rw [hq]) ?_
  refine c_rowcap 4 rfl (fun hcl hcm => ?_)
  refine c_region ?_
  refine lv (e_fieldPt rfl tf20) ?_
  refine lv (v := sB pH k.head cH) (e_load1 tf21 rfl (k_pt 1 rfl rfl)) ?_
  refine lv e_assign ?_
  refine lnf ?_
  refine cs2 ?_
  refine c_region ?_
  refine lv e_move ?_
  refine lv (v := .bool true) (e_lss (a := (1 : Int)) (b := (2 : Int)) rfl rfl) ?_
  refine lnf ?_
  refine c_yes rfl ?_
  refine c_region ?_
  refine lv (v := .agg #[sB pH k.head cH, sB pA k.a cA, sB p ys c, Ix (pl k.power (j + 1))]) (e_load tf56 rfl (k_pt 1 rfl rfl) rfl) ?_
  refine lv e_move ?_
  refine lcf (cl0 (vs := [.agg #[sB pH k.head cH, sB pA k.a cA, sB p ys c, Ix (pl k.power (j + 1))], .int .i64 (1)]) tf145 rfl rfl) rfl fun w β1 sb kn hw1 back => (rarea1_ok β1 w hw1 1 (by decide) ({ k with b := ys, power := pl k.power (j + 1) } : KS) _ _ _ (kU kn 2 rfl) (kU kn 3 rfl) (kU kn 4 rfl)).mono ?_
  rintro e w' ⟨rfl, hw'⟩
  refine ⟨_, rfl, _, back _ _ hw', ?_⟩
  clear hw1 hw' back kn sb
  refine lv e_assign ?_
  refine lnf ?_
  refine cs2 ?_
  refine c_region ?_
  refine lv e_move ?_
  refine lv e_move ?_
  refine lv (v := Nx (at_ + j)) (e_add (a := ((at_ : Nat) : Int)) (b := ((j : Nat) : Int)) rfl rfl (i64n (by omega) (by omega))) ?_
  refine lv e_move ?_
  refine lv (v := Nx ((ys).length)) (e_len (a := p) (n := (ys).length) (c := c) rfl tf11) ?_
  refine lv (e_lss (a := ((at_ + j : Nat) : Int)) (b := (((ys).length : Nat) : Int)) rfl rfl) ?_
  refine lnf ?_
  refine c_if (((at_ + j : Nat) : Int) < (((ys).length : Nat) : Int)) rfl (fun hc22 => ?_) (fun hc22 => ?_)
  ·refine c_region ?_
   refine lv e_move ?_
   refine lv e_move ?_
   refine lv e_move ?_
   refine lv (v := Nx (at_ + j)) (e_add (a := ((at_ : Nat) : Int)) (b := ((j : Nat) : Int)) rfl rfl (i64n (by omega) (by omega))) ?_
   refine lv e_move ?_
   refine lv e_move ?_
   obtain ⟨x23, hx24⟩ : ∃ x_, (bs)[j]? = some x_ := ⟨_, List.getElem?_eq_getElem (by omega)⟩
   obtain ⟨ha25, cs26, hc27, rfl⟩ := ve _ _ hx24
   refine lv (v := .pointer (some ((ba va).add (j * 1)))) (e_indexAddr (k := j) (len := bs.length) (cap := vc) (a := va) rfl rfl tf12 (by omega) ha25) ?_
   refine lv (v := Bx (x23)) (e_load1 tf13 rfl (kB hc27)) ?_
   refine lv (v := .pointer (some ((ba p).add ((at_ + j) * 1)))) (e_indexRow 4 (j := at_ + j) (len := (ys).length) (cap := c) (p := p) rfl rfl tf12 (by omega) (by omega) rfl) ?_
   refine lu (m_storeRow 4 tf13 (o := (at_ + j) * 1) (v := Bx (x23)) rfl rfl rfl rfl rfl (by omega) (by omega)) ?_
   refine l_re (L' := [pt b2 (.cells #[.slice none 0 0, .slice none 0 0, .slice none 0 0, .int .i64 (0)] 32), pt b1 (.cells #[.slice pH (k.head).length cH, .slice pA (k.a).length cA, .slice p ((ys.set (at_ + j) x23)).length c, Ix (pl k.power (j + 1))] 32), row (.slice pH (k.head).length cH) 5 1 ((k.head).length) (BX k.head), row (.slice pA (k.a).length cA) 5 1 ((k.a).length) (BX k.a), row (.slice p ((ys.set (at_ + j) x23)).length c) 5 1 (((ys.set (at_ + j) x23)).length) (BX (ys.set (at_ + j) x23))]) (by show [pt b2 (.cells #[.slice none 0 0, .slice none 0 0, .slice none 0 0, .int .i64 (0)] 32), pt b1 (.cells #[.slice pH (k.head).length cH, .slice pA (k.a).length cA, .slice p (ys).length c, Ix (pl k.power (j + 1))] 32), row (.slice pH (k.head).length cH) 5 1 ((k.head).length) (BX k.head), row (.slice pA (k.a).length cA) 5 1 ((k.a).length) (BX k.a), row (.slice p (ys).length c) 5 1 ((ys).length) ((overL (BX ys) ((at_ + j) * 1) [Bx (x23)]))] = _; rw [overL_bx (by omega)]; simp only [List.length_set]) ?_
   refine lnf ?_
   refine c_seq ?_
   refine rebase (d := 11) (v := sB p ((ys.set (at_ + j) x23)) c) (show (sB p ys c : Value) = _ by simp only [sB, List.length_set]) ?_
   refine c_region ?_
   refine lv e_move ?_
   refine lnf ?_
   refine c_block ?_
   refine csr ?_
   refine lv (v := .bool false) (e_eql (a := (1 : Int)) (b := (0 : Int)) rfl rfl) ?_
   refine lv e_assign ?_
   refine lnf ?_
   refine c_no rfl ?_
   refine csr ?_
   refine lv (v := .bool true) (e_eql (a := (1 : Int)) (b := (1 : Int)) rfl rfl) ?_
   refine lv e_assign ?_
   refine lnf ?_
   refine c_yes rfl ?_
   refine c_region ?_
   refine lv e_move ?_
   refine lv (e_fieldPt rfl tf23) ?_
   refine lu (m_store 1 tf21 (cs' := #[sB pH k.head cH, sB pA k.a cA, sB p ((ys.set (at_ + j) x23)) c, Ix (pl k.power (j + 1))]) rfl rfl rfl rfl rfl rfl rfl) ?_
   refine l_nil ?_
   refine f_block ?_
   refine f_block ?_
   refine f_then ?_
   refine c_region ?_
   refine lv e_move ?_
   refine lv (v := Nx (j + 1)) (e_add (a := ((j : Nat) : Int)) (b := (1 : Int)) rfl rfl (i64n (by omega) (by omega))) ?_
   refine lv e_assign ?_
   refine l_nil ?_
   exact f_cut ⟨(j + 1, (ys.set (at_ + j) x23), p, c), ⟨⟨rfl, rfl, rfl, rfl, rfl, rfl⟩, rfl, ⟨hpst.1, by rw [hys, wr_take hx24, if_pos (by rw [← hys]; omega)]⟩⟩, (show bs.length - (j + 1) < bs.length - j from by omega)⟩
  refine c_region ?_
  refine lv e_move ?_
  refine lv e_move ?_
  refine lv e_move ?_
  obtain ⟨x29, hx30⟩ : ∃ x_, (bs)[j]? = some x_ := ⟨_, List.getElem?_eq_getElem (by omega)⟩
  obtain ⟨ha31, cs32, hc33, rfl⟩ := ve _ _ hx30
  refine lv (v := .pointer (some ((ba va).add (j * 1)))) (e_indexAddr (k := j) (len := bs.length) (cap := vc) (a := va) rfl rfl tf12 (by omega) ha31) ?_
  refine lv (v := Bx (x29)) (e_load1 tf13 rfl (kB hc33)) ?_
  refine l_mv rfl rfl rfl (m_slices tf12 tf14 (cells := #[Bx (x29)]) rfl rfl rfl rfl) ?_
  rintro _ _ ⟨b35, rfl, rfl⟩
  refine l_mv rfl rfl rfl (m_appendE (enc := fun c : UInt8 => Bx c) 5 bx_cell tf12 tf15 (v := sB p ys c) (xs := ys) (ys := [x29]) (ao := some ⟨b35, 0, none⟩) (c := 1) rfl rfl (by first | rfl | simp) rfl (by first | rfl | simp) (k_ptE 0 (xs := [x29]) rfl) (by first | omega | (simp only [List.length_append, List.length_nil, List.length_cons, be_length] at *; omega)) (by first | omega | (simp only [List.length_append, List.length_nil, List.length_cons, be_length] at *; omega))) ?_
  rintro _ _ ⟨rp36, rc37, rfl, rfl⟩
  refine lv e_assign ?_
  refine lnc ?_
  refine lv e_move ?_
  refine lnf ?_
  refine c_block ?_
  refine csr ?_
  refine lv (v := .bool false) (e_eql (a := (1 : Int)) (b := (0 : Int)) rfl rfl) ?_
  refine lv e_assign ?_
  refine lnf ?_
  refine c_no rfl ?_
  refine csr ?_
  refine lv (v := .bool true) (e_eql (a := (1 : Int)) (b := (1 : Int)) rfl rfl) ?_
  refine lv e_assign ?_
  refine lnf ?_
  refine c_yes rfl ?_
  refine c_region ?_
  refine lv e_move ?_
  refine lv (e_fieldPt rfl tf23) ?_
  refine lu (m_store 2 tf21 (cs' := #[sB pH k.head cH, sB pA k.a cA, sB rp36 (ys ++ [x29]) rc37, Ix (pl k.power (j + 1))]) rfl rfl rfl rfl rfl rfl rfl) ?_
  refine l_nil ?_
  refine f_block ?_
  refine f_block ?_
  refine f_then ?_
  refine c_region ?_
  refine lv e_move ?_
  refine lv (v := Nx (j + 1)) (e_add (a := ((j : Nat) : Int)) (b := (1 : Int)) rfl rfl (i64n (by omega) (by omega))) ?_
  refine lv e_assign ?_
  refine l_nil ?_
  refine f_mask (L' := [pt b2 (.cells #[.slice none 0 0, .slice none 0 0, .slice none 0 0, .int .i64 (0)] 32), pt b1 (.cells #[sB pH k.head cH, sB pA k.a cA, sB rp36 (ys ++ [x29]) rc37, Ix (pl k.power (j + 1))] 32), rB pH k.head cH, rB pA k.a cA, rB rp36 (ys ++ [x29]) rc37]) [false, true, true, true, true, true] rfl ?_
  exact f_cut ⟨(j + 1, ys ++ [x29], rp36, rc37), ⟨⟨rfl, rfl, rfl, rfl, rfl, rfl⟩, rfl, ⟨hpst.1, by rw [hys, wr_take hx30, if_neg (by rw [← hys]; omega)]⟩⟩, (show bs.length - (j + 1) < bs.length - j from by omega)⟩
 refine c_exit ?_
 refine f_then_exit ?_
 refine f_then_exit ?_
 refine f_exit ?_
 refine ftc ?_
 refine lv (v := .agg #[sB pH k.head cH, sB pA k.a cA, sB p ys c, Ix (pl k.power j)]) (e_load tf56 rfl (k_pt 1 rfl rfl) rfl) ?_
 refine lu (m_store 0 tf56 (cs' := #[sB pH k.head cH, sB pA k.a cA, sB p ys c, Ix (pl k.power j)]) rfl rfl rfl rfl rfl rfl rfl) ?_
 refine lv e_assign ?_
 refine lnf ?_
 refine c_ret ?_
 refine retG (m := [.agg #[sB pH k.head cH, sB pA k.a cA, sB p ys c, Ix (pl k.power j)], .bool false]) Try.results64 ⟨rd_cell tf56 rfl (k_pt 0 rfl rfl) rfl, rd_tmp (v := .bool false) rfl, trivial⟩ rfl ?_
 intro w hw
 have hw2 := st_mask [true, true, true, false, false] rfl (hw.perm (L' := [rB pH k.head cH, rB pA k.a cA, rB p ys c, pt b2 (.cells #[sB pH k.head cH, sB pA k.a cA, sB p ys c, Ix (pl k.power j)] 32), pt b1 (.cells #[sB pH k.head cH, sB pA k.a cA, sB p ys c, Ix (pl k.power j)] 32)]) (by exact (perm_ix [2, 3, 4, 0, 1] 5 rfl (by kernel_rfl) (by kernel_rfl))))
 obtain ⟨e1, e0⟩ := pw_all hj (by omega)
 have e4 : pl k.power j = pl k.power bs.length := by rw [e0]
 have ec : wrOk k.power bs := e1
 have e2 : ys = wrA k.b k.power at_ bs := by rw [hys, wrA, e1, e0]
 rw [e4, e2] at hw2 ⊢
 rw [← wrS_odd he]
 exact ⟨p, c, by simp [ec], hw2⟩
theorem rcutX_ok (β : Base) (w : World) (pH pA pB : Option Addr) (cH cA cB : Nat) (k : KS) (e size : Nat) (hs : size ≤ (k.area e).length) (hp : k.power ≤ 9223372036854775807) (hw : St β [rB pH k.head cH, rB pA k.a cA, rB pB k.b cB] w) : Calls Try.prog 66 #[.agg #[sB pH k.head cH, sB pA k.a cA, sB pB k.b cB, Ix k.power], Nx (e % 2), Nx size] w fun r w' => r = .returned (.tuple #[.agg #[sB pH ((cutS k e size).head) cH, sB pA ((cutS k e size).a) cA, sB pB ((cutS k e size).b) cB, Ix (cutS k e size).power], .bool (decide (¬ cutOk (k.area e) k.power size))]) ∧ St β [rB pH ((cutS k e size).head) cH, rB pA ((cutS k e size).a) cA, rB pB ((cutS k e size).b) cB] w' := by
 rcases Nat.mod_two_eq_zero_or_one e with he | he
 ·rw [he]; exact rcutA_ok β w pH pA pB cH cA cB k e size he hs hp hw
 rw [he]; exact rcutB_ok β w pH pA pB cH cA cB k e size he hs hp hw
theorem rwriteX_ok (β : Base) (w : World) (pH pA pB : Option Addr) (cH cA cB : Nat) (k : KS) (hk : k.head.length ≤ 1048576 ∧ k.a.length ≤ 1048576 ∧ k.b.length ≤ 1048576 ∧ k.power ≤ 9223372036854775807) (e : Nat) (at_ : Nat) (hat : at_ ≤ 1048576) (bs : Bs) (v : Value) (hb : bs.length ≤ 1048576) (hs : Sl U8R β.heap v bs) (hw : St β [rB pH k.head cH, rB pA k.a cA, rB pB k.b cB] w) : Calls Try.prog 64 #[.agg #[sB pH k.head cH, sB pA k.a cA, sB pB k.b cB, Ix k.power], Nx (e % 2), Nx at_, v] w fun r w' => ∃ pA' pB' cA' cB', r = .returned (.tuple #[.agg #[sB pH ((wrS k e at_ bs).head) cH, sB pA' ((wrS k e at_ bs).a) cA', sB pB' ((wrS k e at_ bs).b) cB', Ix (wrS k e at_ bs).power], .bool (decide (¬ wrOk k.power bs))]) ∧ St β [rB pH ((wrS k e at_ bs).head) cH, rB pA' ((wrS k e at_ bs).a) cA', rB pB' ((wrS k e at_ bs).b) cB'] w' := by
 rcases Nat.mod_two_eq_zero_or_one e with he | he
 ·rw [he]; exact (rwriteA_ok β w pH pA pB cH cA cB k hk e he at_ hat bs v hb hs hw).mono fun r w' ⟨p, c, h⟩ => ⟨p, _, c, _, h⟩
 rw [he]; exact (rwriteB_ok β w pH pA pB cH cA cB k hk e he at_ hat bs v hb hs hw).mono fun r w' ⟨p, c, h⟩ => ⟨_, p, _, c, h⟩
end Go.Proofs
