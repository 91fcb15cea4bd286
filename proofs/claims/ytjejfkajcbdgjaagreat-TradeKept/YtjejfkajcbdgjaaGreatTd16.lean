/-
 The chapter's examples: walked. Printed by a program of my own.
-/
import Derived.Test.YtjejfkajcbdgjaaGreatTd15
import Derived.Test.YtjejfkajcbdgjaaGreatTdHouE
import Derived.Test.YtjejfkajcbdgjaaGreatSlA
import Derived.Test.YtjejfkajcbdgjaaGreatSlN
namespace Go.Proofs
open Go Go.Sl Go.Td Go.Jn
/-- a new store -/
theorem new_shelf {β : Base} {b : Nat} {p : Int} {w : World} (h : St β [pt b (.cells #[.slice none 0 0, .slice none 0 0, .slice none 0 0, Ix p] 29)] w) (hp : -1 ≤ p ∧ p ≤ 1000) : St β [shelfR b freshX 0 0 p] w := by
 have h1 := ((h.emp (r := row (.slice none 0 0) 5 1 0 (BX [])) (row_nil _ _ _)).emp (r := row (.slice none 0 0) 5 1 0 (BX [])) (row_nil _ _ _)).emp (r := row (.slice none 0 0) 5 1 0 (BX [])) (row_nil _ _ _)
 have h2 := h1.perm (L' := [pt b (.cells #[.slice none 0 0,.slice none 0 0,.slice none 0 0,Ix p] 29),row (.slice none 0 0) 5 1 0 (BX []),row (.slice none 0 0) 5 1 0 (BX []),row (.slice none 0 0) 5 1 0 (BX [])]) (by exact (perm_ix [3,0,1,2] 4 rfl (by kernel_rfl) (by kernel_rfl)))
 exact St.closeShelf (M := []) (sok_fresh hp) rfl (St.closeStore (k := ⟨[],[],[],p⟩) (pH := none) (pA := none) (pB := none) (cH := 0) (cA := 0) (cB := 0) (M := []) h2)
theorem openh_new (β : Base) (w : World) (b : Nat) (p : Int) (hw : St β [pt b (.cells #[.slice none 0 0, .slice none 0 0, .slice none 0 0, Ix p] 29)] w) (hp : p = -1) : Calls Tryz.prog 21 #[pp b 0] w fun r w' => ∃ H, r = .returned (.tuple #[pp H 0, .int .i64 0]) ∧ St β [houseR H b freshX 0 0 (-1)] w' := by
 subst hp; exact openh_ok β w b 0 0 freshX (new_shelf hw (by decide)) (by decide)
theorem opened_new (β : Base) (w : World) (b : Nat) (p : Int) (hw : St β [pt b (.cells #[.slice none 0 0, .slice none 0 0, .slice none 0 0, Ix p] 29)] w) (hp : -1 ≤ p ∧ p ≤ 1000) : Calls Tryz.prog 10 #[pp b 0] w fun r w' => ∃ H, r = .returned (.tuple #[pp H 0, .bool true]) ∧ St β [houseR H b freshX 0 0 (-1)] w' :=
 opened_ok β w b 0 0 freshX p (new_shelf hw hp) (by decide)
/-- a transaction whose outcome is known -/
theorem do_eq (β : Base) (w : World) (H S N W : Nat) (X : KHs) (hw : St β [houseR H S X N W (-1)] w) (au nu : Int) (v : Value) (al : List KAct) (hs : Sl ActF.R β.heap v al) (hal : al.length ≤ 1048576) (hb : hb63 al) (hN : N ≤ 400) {X1 : KHs} {R : KRes} {e1 : Int} (hd : doF X au nu al = (X1, R, e1)) :
  Calls Tryz.prog 12 #[pp H 0,Ix au,Ix nu,v] w fun r w' => ∃ p c,r = .returned (.tuple #[.agg #[.bool R.done,Ix R.at_,Ix R.e,sB p R.holds c],Ix e1]) ∧ St β [rowF IntF 3 p c R.holds,houseR H S X1 (N + 1) (W + 494) (-1)] w' := by
 refine (do_ok β w H S N W (-1) X hw au nu v al hs hal hb (Nat.le_trans hN (by decide)) hN).mono ?_
 rintro r w' ⟨X2,R2,e2,h1,h2⟩
 rw [hd] at h1
 injection h1 with h3 h4
 injection h4 with h4 h5
 subst h3; subst h4; subst h5
 rcases h2 with ⟨p,c,q,hq,h6,h7⟩ | ⟨h6,_⟩
 ·rw [hq rfl] at h7; exact ⟨p,c,h6,h7⟩
 exact absurd rfl h6
theorem purse_eq (β : Base) (w : World) (H S N W : Nat) (pw : Int) (X : KHs) (hw : St β [houseR H S X N W pw] w) (n : Int) (a : KAm) (h : puA X.s.ps n = a) : Calls Tryz.prog 44 #[pp H 0, Ix n] w fun r w' => r = .returned (.agg (amC a)) ∧ St β [houseR H S X N W pw] w' := by
 subst h; exact purse_ok β w H S N W pw X hw n
theorem supply_eq (β : Base) (w : World) (H S N W : Nat) (pw : Int) (X : KHs) (hw : St β [houseR H S X N W pw] w) (a : KAm) (h : X.s.su = a) : Calls Tryz.prog 15 #[pp H 0] w fun r w' => r = .returned (.agg (amC a)) ∧ St β [houseR H S X N W pw] w' := by
 subst h; exact supply_ok β w H S N W pw X hw
theorem holds_eq (β : Base) (w : World) (H S N W : Nat) (pw : Int) (X : KHs) (hw : St β [houseR H S X N W pw] w) (l : List KHo) (h : holdsX X = l) : Calls Tryz.prog 13 #[pp H 0] w fun r w' => ∃ p c, r = .returned (sB p l c) ∧ St β [rowF HoF 104 p c l, houseR H S X N W pw] w' := by
 subst h; exact holds_ok β w H S N W pw X hw
theorem last_eq (β : Base) (w : World) (H S N W : Nat) (pw : Int) (X : KHs) (hw : St β [houseR H S X N W pw] w) (au : Int) {nu : Int} {R : KRes} {so : Bool} (h : lastX X au = (nu, R, so)) : Calls Tryz.prog 18 #[pp H 0, Ix au] w fun r w' => ∃ p c, r = .returned (.tuple #[Ix nu, .agg #[.bool R.done, Ix R.at_, Ix R.e, sB p R.holds c], .bool so]) ∧ St β [rowF IntF 3 p c R.holds, houseR H S X N W pw] w' := by
 refine (last_ok β w H S N W pw X hw au).mono ?_
 rintro r w' ⟨nu2,R2,so2,h1,p,c,h2,h3⟩
 rw [h] at h1
 injection h1 with e1 e2
 injection e2 with e2 e3
 subst e1; subst e2; subst e3
 exact ⟨p,c,h2,h3⟩
theorem tt175 : stB Tryz.prog 29 [(0, 1), (1, 1), (2, 1), (3, 1)] = true := by kernel_rfl
instance tt176 : ZerC Tryz.prog 29 (.agg #[.slice none 0 0, .slice none 0 0, .slice none 0 0, .int .i64 (0)]) := ⟨by kernel_rfl⟩
instance tt177 : CfC Tryz.prog 12 := ⟨by kernel_rfl⟩
instance tt178 : CfC Tryz.prog 44 := ⟨by kernel_rfl⟩
instance tt179 : CfC Tryz.prog 15 := ⟨by kernel_rfl⟩
instance tt180 : CfC Tryz.prog 13 := ⟨by kernel_rfl⟩
instance tt181 : UndC Tryz.prog 40 104 := ⟨by kernel_rfl⟩
theorem tt182 : lay Tryz.prog 10000 104 = some [.int .i64, .int .i64, .int .i64, .int .i64, .int .i64, .int .i64] := by kernel_rfl
theorem tt183 : isAggT Tryz.prog 104 = true := by kernel_rfl
theorem tt184 : Tryz.prog.eqGuardType Tryz.prog.depth 104 = false := by kernel_rfl
set_option maxHeartbeats 4000000 in
theorem awake_ok (β : Base) (w : World) (hw : St β [] w) : Ret Tryz.prog 17 #[] β w (.bool true) := by
 refine enter (n := 178) Tryz.func17 rfl Tryz.ntmps17 rfl ?_ hw
 refine csr (lE oab (lnc ?_))
 refine lv (v := .agg #[.slice none 0 0,.slice none 0 0,.slice none 0 0,.int .i64 (-1)]) (e_build tt176.ok tt175 (vs := [(3,.int .i64 (-1))]) (cells := #[.slice none 0 0,.slice none 0 0,.slice none 0 0,.int .i64 (-1)]) rfl rfl) ?_
 refine bxa fun b1 => ?_
 refine l_call rfl rfl rfl (cl0 (vs := [pp b1 0]) tt164.ok rfl rfl) ?_
 intro w hw
 replace hw := hw.perm (L' := _ :: []) (by exact (perm_front 0 rfl))
 obtain ⟨β1,sb,kn,hw1,back⟩ := St.frame (L := [_]) (M := []) hw
 refine (openh_new β1 w b1 (-1) hw1 (by decide)).mono ?_
 rintro e w' ⟨H2,rfl,hw'⟩
 refine ⟨_,rfl,_,back _ _ hw',?_⟩
 clear hw hw1 hw' back kn sb
 refine lE omt (lE oxp (lE oxi (lE oap (lE oai (lnf (cs2 (c_region (lE omi (lE onq (lE omb (gE omp ?_)))))))))))
 refine g_val (v := .bool false) rfl rfl rfl rfl rfl (e_eql_pnil (p := some (⟨H2,0,none⟩)) rfl rfl tt89) (lE okfb (lnf (c_no rfl (csk (csr (lE omp ?_))))))
 refine lcR clA (fun w β1 sb kn hw1 => act_ok β1 w hw1 (1 : UInt8) 1 0 0 100) ?_
 refine l_mv rfl rfl rfl (m_slices tt16 tt47.ok (cells := #[.int .u8 (1),.int .i64 (1),.int .i64 (0),.int .i64 (0),.int .i64 (100),.int .i64 (0),.int .i64 (0),.int .i64 (0)]) rfl rfl rfl (by kernel_rfl)) ?_
 rintro _ _ ⟨b3,rfl,rfl⟩
 refine l_call rfl rfl rfl (cl0 (vs := [pp H2 0,.int .i64 (1),.int .i64 (1),.slice (some ⟨b3,0,none⟩) 1 1]) tt177.ok rfl rfl) ?_
 intro w hw
 replace hw := hw.perm (L' := _ :: _ :: []) (by exact ((perm_front 0 rfl).trans (perm_front 1 rfl)))
 obtain ⟨β1,sb,kn,hw1,back⟩ := St.frame (L := [_]) (M := _ :: []) hw
 refine (do_eq β1 w H2 b1 0 0 freshX hw1 1 1 _ [(⟨1,1,0,0,(⟨100,0,0,0⟩ : KAm)⟩ : KAct)] (kn _ (Knows.of_res 0 rfl (Sl.mono _ _ _) fun a h => rowF_sl (pt_rowF (F := ActF) (xs := [(⟨1,1,0,0,(⟨100,0,0,0⟩ : KAm)⟩ : KAct)]) rfl (by first | decide | simp) a h))) (by decide) (by decide) (by omega) aw_d1).mono ?_
 rintro e w' ⟨p4,c5,rfl,hw'⟩
 refine ⟨_,rfl,_,back _ _ hw',?_⟩
 clear hw hw1 hw' back kn sb
 refine lE omt (lE oxa (lE oxi (alE fun b6 => lu (mS 0 (#[.bool true,.int .i64 (0),.int .i64 (0),.slice p4 (0) c5])) (lE oai (lnf (cs2 (c_region ?_)))))))
 refine lE omi (lE onq (lE omb (gE ofp (gE (olb 0) (gE ont (lE okfb (lE omb (gE omp ?_))))))))
 refine g_call rfl rfl rfl rfl rfl (cl0 (vs := [pp H2 0,.int .i64 (1)]) tt178.ok rfl rfl) ?_
 intro w hw
 replace hw := hw.perm (L' := _ :: _ :: _ :: _ :: []) (by exact ((((perm_front 3 rfl).trans (perm_front 2 rfl)).trans (perm_front 2 rfl)).trans (perm_front 3 rfl)))
 obtain ⟨β1,sb,kn,hw1,back⟩ := St.frame (L := [_]) (M := _ :: _ :: _ :: []) hw
 refine (purse_eq β1 w H2 b1 (0 + 1) (0 + 494) (-1) aX1 hw1 1 _ aw_p1).mono ?_
 rintro e w' ⟨rfl,hw'⟩
 refine ⟨_,rfl,_,back _ _ hw',?_⟩
 clear hw hw1 hw' back kn sb
 refine g_val (v := .agg #[.int .i64 (100),.int .i64 (0),.int .i64 (0),.int .i64 (0)]) rfl rfl rfl rfl rfl (e_build_a tt3.ok tt1.ok (vs := [(0,.int .i64 (100))]) (cells := #[.int .i64 (100),.int .i64 (0),.int .i64 (0),.int .i64 (0)]) rfl rfl) ?_
 refine g_val (v := .bool (decide (¬ ((⟨100,0,0,0⟩ : KAm) = (⟨100,0,0,0⟩ : KAm))))) rfl rfl rfl rfl rfl (e_neq_t (xs := amE (⟨100,0,0,0⟩ : KAm)) (ys := amE (⟨100,0,0,0⟩ : KAm)) tt12 tt13 tt14 rfl rfl rfl rfl (not_congr (am_eq (x := (⟨100,0,0,0⟩ : KAm)) (y := (⟨100,0,0,0⟩ : KAm))))) ?_
 refine lE okfb (lE omb (l_split (s := 44) rfl (fun h => ?_) (fun h => ?_)))
 exact absurd h (fun q => q rfl)
 refine gE omp (g_call rfl rfl rfl rfl rfl (cl0 (vs := [pp H2 0]) tt179.ok rfl rfl) ?_)
 intro w hw
 replace hw := hw.perm (L' := _ :: _ :: _ :: _ :: []) (by exact ((((perm_front 3 rfl).trans (perm_front 3 rfl)).trans (perm_front 3 rfl)).trans (perm_front 3 rfl)))
 obtain ⟨β1,sb,kn,hw1,back⟩ := St.frame (L := [_]) (M := _ :: _ :: _ :: []) hw
 refine (supply_eq β1 w H2 b1 (0 + 1) (0 + 494) (-1) aX1 hw1 _ aw_s1).mono ?_
 rintro e w' ⟨rfl,hw'⟩
 refine ⟨_,rfl,_,back _ _ hw',?_⟩
 clear hw hw1 hw' back kn sb
 refine g_val (v := .agg #[.int .i64 (100),.int .i64 (0),.int .i64 (0),.int .i64 (0)]) rfl rfl rfl rfl rfl (e_build_a tt3.ok tt1.ok (vs := [(0,.int .i64 (100))]) (cells := #[.int .i64 (100),.int .i64 (0),.int .i64 (0),.int .i64 (0)]) rfl rfl) ?_
 refine g_val (v := .bool (decide (¬ ((⟨100,0,0,0⟩ : KAm) = (⟨100,0,0,0⟩ : KAm))))) rfl rfl rfl rfl rfl (e_neq_t (xs := amE (⟨100,0,0,0⟩ : KAm)) (ys := amE (⟨100,0,0,0⟩ : KAm)) tt12 tt13 tt14 rfl rfl rfl rfl (not_congr (am_eq (x := (⟨100,0,0,0⟩ : KAm)) (y := (⟨100,0,0,0⟩ : KAm))))) ?_
 refine lE okfb (lnf (c_if _ rfl (fun hc7 => ?_) (fun hc7 => ?_)))
 ·exact absurd hc7 (fun q => q rfl)
 refine csk (csr (lcR clA (fun w β1 sb kn hw1 => act_ok β1 w hw1 (3 : UInt8) 1 2 0 30) ?_))
 refine lcR clA (fun w β1 sb kn hw1 => act_ok β1 w hw1 (4 : UInt8) 1 0 0 50) ?_
 refine l_mv rfl rfl rfl (m_slices tt16 tt47.ok (cells := #[.int .u8 (3),.int .i64 (1),.int .i64 (2),.int .i64 (0),.int .i64 (30),.int .i64 (0),.int .i64 (0),.int .i64 (0),.int .u8 (4),.int .i64 (1),.int .i64 (0),.int .i64 (0),.int .i64 (50),.int .i64 (0),.int .i64 (0),.int .i64 (0)]) rfl rfl rfl (by kernel_rfl)) ?_
 rintro _ _ ⟨b8,rfl,rfl⟩
 refine lE oas (lnf (cs2 (c_region (lE omi (lnf (c_block (c_unroll 3 (un_succ 2 (csr (lE olt (lnf (c_seq (c_yes rfl (csk (c_seq (c_block (csr ?_)))))))))))))))))
 refine lE omp (lE oms (l_call rfl rfl rfl (cl0 (vs := [pp H2 0,.int .i64 (5),.int .i64 (1),.slice (some ⟨b8,0,none⟩) 2 2]) tt177.ok rfl rfl) ?_))
 intro w hw
 replace hw := hw.perm (L' := _ :: _ :: _ :: _ :: _ :: []) (by exact (((((perm_front 4 rfl).trans (perm_front 4 rfl)).trans (perm_front 4 rfl)).trans (perm_front 3 rfl)).trans (perm_front 4 rfl)))
 obtain ⟨β1,sb,kn,hw1,back⟩ := St.frame (L := [_]) (M := _ :: _ :: _ :: _ :: []) hw
 refine (do_eq β1 w H2 b1 (0 + 1) (0 + 494) aX1 hw1 5 1 _ [(⟨3,1,2,0,(⟨30,0,0,0⟩ : KAm)⟩ : KAct),(⟨4,1,0,0,(⟨50,0,0,0⟩ : KAm)⟩ : KAct)] (kn _ (Knows.of_res 0 rfl (Sl.mono _ _ _) fun a h => rowF_sl (pt_rowF (F := ActF) (xs := [(⟨3,1,2,0,(⟨30,0,0,0⟩ : KAm)⟩ : KAct),(⟨4,1,0,0,(⟨50,0,0,0⟩ : KAm)⟩ : KAct)]) rfl (by first | decide | simp) a h))) (by decide) (by decide) (by omega) aw_d2).mono ?_
 rintro e w' ⟨p9,c10,rfl,hw'⟩
 refine ⟨_,rfl,_,back _ _ hw',?_⟩
 clear hw hw1 hw' back kn sb
 refine lE omt (lE oxa (lE oxi (alE fun b11 => lu (mS 0 (#[.bool true,.int .i64 (0),.int .i64 (0),.slice p9 (1) c10])) (lE oai (lnc (lE omi (lE onq ?_)))))))
 refine lE omb (gE ofp (gE (olb 0) (gE ont (lE okfb (lE omb (gE ofp (gE (ols 0) ?_)))))))
 refine g_mv rfl rfl rfl rfl rfl (m_slices tt29 tt64.ok (cells := #[.int .i64 (1)]) rfl rfl rfl rfl) ?_
 rintro _ _ ⟨b12,rfl,rfl⟩
 refine g_call rfl rfl rfl rfl rfl (cl0 (vs := [.slice p9 (1) c10,.slice (some ⟨b12,0,none⟩) 1 1]) tt174.ok rfl rfl) ?_
 intro w hw
 obtain ⟨β1,sb,kn,hw1,back⟩ := St.frame_all hw
 refine (sameI_ok β1 w hw1 _ _ [1] ([1] : List Int) (kn _ (k_flN 2 (F := IntF) (m := 1) rfl rfl)) (kn _ (Knows.of_res 0 rfl (Sl.mono _ _ _) fun a h => rowF_sl (pt_rowF (F := IntF) (xs := ([1] : List Int)) rfl (by first | decide | simp) a h)))).mono ?_
 rintro e w' ⟨rfl,hw'⟩
 refine ⟨_,rfl,_,back _ _ hw',?_⟩
 clear hw hw1 hw' back kn sb
 refine gE ond (lE okfb (lE omb (l_split (s := 75) rfl (fun h => ?_) (fun h => ?_))))
 exact absurd h (fun q => q rfl)
 refine gE omp (g_call rfl rfl rfl rfl rfl (cl0 (vs := [pp H2 0,.int .i64 (1)]) tt178.ok rfl rfl) ?_)
 intro w hw
 replace hw := hw.perm (L' := _ :: _ :: _ :: _ :: _ :: _ :: _ :: _ :: []) (by exact ((((((((perm_front 7 rfl).trans (perm_front 7 rfl)).trans (perm_front 7 rfl)).trans (perm_front 7 rfl)).trans (perm_front 6 rfl)).trans (perm_front 6 rfl)).trans (perm_front 6 rfl)).trans (perm_front 7 rfl)))
 obtain ⟨β1,sb,kn,hw1,back⟩ := St.frame (L := [_]) (M := _ :: _ :: _ :: _ :: _ :: _ :: _ :: []) hw
 refine (purse_eq β1 w H2 b1 ((0 + 1) + 1) ((0 + 494) + 494) (-1) aX2 hw1 1 _ aw_p2).mono ?_
 rintro e w' ⟨rfl,hw'⟩
 refine ⟨_,rfl,_,back _ _ hw',?_⟩
 clear hw hw1 hw' back kn sb
 refine g_val (v := .agg #[.int .i64 (20),.int .i64 (0),.int .i64 (0),.int .i64 (0)]) rfl rfl rfl rfl rfl (e_build_a tt3.ok tt1.ok (vs := [(0,.int .i64 (20))]) (cells := #[.int .i64 (20),.int .i64 (0),.int .i64 (0),.int .i64 (0)]) rfl rfl) ?_
 refine g_val (v := .bool (decide (¬ ((⟨20,0,0,0⟩ : KAm) = (⟨20,0,0,0⟩ : KAm))))) rfl rfl rfl rfl rfl (e_neq_t (xs := amE (⟨20,0,0,0⟩ : KAm)) (ys := amE (⟨20,0,0,0⟩ : KAm)) tt12 tt13 tt14 rfl rfl rfl rfl (not_congr (am_eq (x := (⟨20,0,0,0⟩ : KAm)) (y := (⟨20,0,0,0⟩ : KAm))))) ?_
 refine lE okfb (lE omb (l_split (s := 81) rfl (fun h => ?_) (fun h => ?_)))
 exact absurd h (fun q => q rfl)
 refine gE omp (g_call rfl rfl rfl rfl rfl (cl0 (vs := [pp H2 0,.int .i64 (2)]) tt178.ok rfl rfl) ?_)
 intro w hw
 replace hw := hw.perm (L' := _ :: _ :: _ :: _ :: _ :: _ :: _ :: _ :: []) (by exact ((((((((perm_front 7 rfl).trans (perm_front 7 rfl)).trans (perm_front 7 rfl)).trans (perm_front 7 rfl)).trans (perm_front 7 rfl)).trans (perm_front 7 rfl)).trans (perm_front 7 rfl)).trans (perm_front 7 rfl)))
 obtain ⟨β1,sb,kn,hw1,back⟩ := St.frame (L := [_]) (M := _ :: _ :: _ :: _ :: _ :: _ :: _ :: []) hw
 refine (purse_eq β1 w H2 b1 ((0 + 1) + 1) ((0 + 494) + 494) (-1) aX2 hw1 2 _ aw_q2).mono ?_
 rintro e w' ⟨rfl,hw'⟩
 refine ⟨_,rfl,_,back _ _ hw',?_⟩
 clear hw hw1 hw' back kn sb
 refine g_val (v := .agg #[.int .i64 (30),.int .i64 (0),.int .i64 (0),.int .i64 (0)]) rfl rfl rfl rfl rfl (e_build_a tt3.ok tt1.ok (vs := [(0,.int .i64 (30))]) (cells := #[.int .i64 (30),.int .i64 (0),.int .i64 (0),.int .i64 (0)]) rfl rfl) ?_
 refine g_val (v := .bool (decide (¬ ((⟨30,0,0,0⟩ : KAm) = (⟨30,0,0,0⟩ : KAm))))) rfl rfl rfl rfl rfl (e_neq_t (xs := amE (⟨30,0,0,0⟩ : KAm)) (ys := amE (⟨30,0,0,0⟩ : KAm)) tt12 tt13 tt14 rfl rfl rfl rfl (not_congr (am_eq (x := (⟨30,0,0,0⟩ : KAm)) (y := (⟨30,0,0,0⟩ : KAm))))) ?_
 refine lE okfb (lE omb (l_split (s := 87) rfl (fun h => ?_) (fun h => ?_)))
 exact absurd h (fun q => q rfl)
 refine gE omp (g_call rfl rfl rfl rfl rfl (cl0 (vs := [pp H2 0]) tt180.ok rfl rfl) ?_)
 intro w hw
 replace hw := hw.perm (L' := _ :: _ :: _ :: _ :: _ :: _ :: _ :: _ :: []) (by exact ((((((((perm_front 7 rfl).trans (perm_front 7 rfl)).trans (perm_front 7 rfl)).trans (perm_front 7 rfl)).trans (perm_front 7 rfl)).trans (perm_front 7 rfl)).trans (perm_front 7 rfl)).trans (perm_front 7 rfl)))
 obtain ⟨β1,sb,kn,hw1,back⟩ := St.frame (L := [_]) (M := _ :: _ :: _ :: _ :: _ :: _ :: _ :: []) hw
 refine (holds_eq β1 w H2 b1 ((0 + 1) + 1) ((0 + 494) + 494) (-1) aX2 hw1 _ aw_h2).mono ?_
 rintro e w' ⟨p13,c14,rfl,hw'⟩
 refine ⟨_,rfl,_,back _ _ hw',?_⟩
 clear hw hw1 hw' back kn sb
 refine gE oln (gE onq (lE okfb (lE omb (l_split (s := 93) rfl (fun h => ?_) (fun h => ?_)))))
 exact absurd h (by decide)
 refine gE omp (g_call rfl rfl rfl rfl rfl (cl0 (vs := [pp H2 0]) tt180.ok rfl rfl) ?_)
 intro w hw
 replace hw := hw.perm (L' := _ :: _ :: _ :: _ :: _ :: _ :: _ :: _ :: _ :: []) (by exact (((((((((perm_front 8 rfl).trans (perm_front 8 rfl)).trans (perm_front 8 rfl)).trans (perm_front 8 rfl)).trans (perm_front 8 rfl)).trans (perm_front 8 rfl)).trans (perm_front 8 rfl)).trans (perm_front 7 rfl)).trans (perm_front 8 rfl)))
 obtain ⟨β1,sb,kn,hw1,back⟩ := St.frame (L := [_]) (M := _ :: _ :: _ :: _ :: _ :: _ :: _ :: _ :: []) hw
 refine (holds_eq β1 w H2 b1 ((0 + 1) + 1) ((0 + 494) + 494) (-1) aX2 hw1 _ aw_h2).mono ?_
 rintro e w' ⟨p15,c16,rfl,hw'⟩
 refine ⟨_,rfl,_,back _ _ hw',?_⟩
 clear hw hw1 hw' back kn sb
 refine g_val (v := .pointer (some ((ba p15).add (0 * 6)))) rfl rfl rfl rfl rfl (e_indexFlN 0 (F := HoF) rfl rfl rfl tt116 (by omega) rfl) ?_
 obtain ⟨x17,hx18⟩ : ∃ x_,[(⟨1,1,⟨50,0,0,0⟩⟩ : KHo)][0]? = some x_ := ⟨_,List.getElem?_eq_getElem (by first | omega | decide)⟩
 refine g_val (v := .agg #[Ix (x17.number),Ix (x17.owner),Ix (x17.a.a0),Ix (x17.a.a1),Ix (x17.a.a2),Ix (x17.a.a3)]) rfl rfl rfl rfl rfl (e_load tt43.ok rfl (k_flAt 0 (F := HoF) rfl hx18) rfl) ?_
 refine g_val (v := .agg #[.int .i64 (50),.int .i64 (0),.int .i64 (0),.int .i64 (0)]) rfl rfl rfl rfl rfl (e_build_a tt3.ok tt1.ok (vs := [(0,.int .i64 (50))]) (cells := #[.int .i64 (50),.int .i64 (0),.int .i64 (0),.int .i64 (0)]) rfl rfl) ?_
 refine g_val (v := .agg #[.int .i64 (1),.int .i64 (1),.int .i64 (50),.int .i64 (0),.int .i64 (0),.int .i64 (0)]) rfl rfl rfl rfl rfl (e_build tt42.ok tt41 (vs := [(0,.int .i64 (1)),(1,.int .i64 (1)),(2,.agg #[.int .i64 (50),.int .i64 (0),.int .i64 (0),.int .i64 (0)])]) (cells := #[.int .i64 (1),.int .i64 (1),.int .i64 (50),.int .i64 (0),.int .i64 (0),.int .i64 (0)]) rfl rfl) ?_
 refine g_val (v := .bool (decide (¬ (x17 = (⟨1,1,(⟨50,0,0,0⟩ : KAm)⟩ : KHo))))) rfl rfl rfl rfl rfl (e_neq_t (xs := hoE x17) (ys := hoE (⟨1,1,(⟨50,0,0,0⟩ : KAm)⟩ : KHo)) tt182 tt183 tt184 rfl rfl rfl rfl (not_congr (ho_eq (x := x17) (y := (⟨1,1,(⟨50,0,0,0⟩ : KAm)⟩ : KHo))))) ?_
 refine lE okfb (lnf (c_if _ rfl (fun hc19 => ?_) (fun hc19 => ?_)))
 ·exact absurd hc19 (fun q => q (by injection hx18 with e; exact e.symm))
 refine c_skip (f_block (f_then (c_region (lE opl (lE omi (l_nil (f_cut (un_succ 1 (csr (lE olt (lnf (c_seq (c_yes rfl (csk (c_seq (c_block (csr ?_)))))))))))))))))
 refine lE omp (lE oms (l_call rfl rfl rfl (cl0 (vs := [pp H2 0,.int .i64 (5),.int .i64 (1),.slice (some ⟨b8,0,none⟩) 2 2]) tt177.ok rfl rfl) ?_))
 intro w hw
 replace hw := hw.perm (L' := [houseR H2 b1 aX2 ((0 + 1) + 1) ((0 + 494) + 494) (-1),rowF HoF 104 p15 c16 [(⟨1,1,⟨50,0,0,0⟩⟩ : KHo)],rowF HoF 104 p13 c14 [(⟨1,1,⟨50,0,0,0⟩⟩ : KHo)],pt b12 (.cells #[.int .i64 (1)] 3),pt b11 (.cells #[.bool true,.int .i64 (0),.int .i64 (0),.slice p9 (1) c10] 37),rowF IntF 3 p9 c10 [1],pt b8 (.cells #[.int .u8 (3),.int .i64 (1),.int .i64 (2),.int .i64 (0),.int .i64 (30),.int .i64 (0),.int .i64 (0),.int .i64 (0),.int .u8 (4),.int .i64 (1),.int .i64 (0),.int .i64 (0),.int .i64 (50),.int .i64 (0),.int .i64 (0),.int .i64 (0)] 47),pt b6 (.cells #[.bool true,.int .i64 (0),.int .i64 (0),.slice p4 (0) c5] 37),rowF IntF 3 p4 c5 [],pt b3 (.cells #[.int .u8 (1),.int .i64 (1),.int .i64 (0),.int .i64 (0),.int .i64 (100),.int .i64 (0),.int .i64 (0),.int .i64 (0)] 47)]) (by exact (perm_ix [1,0,2,3,4,5,6,7,8,9] 10 rfl (by kernel_rfl) (by kernel_rfl)))
 obtain ⟨β1,sb,kn,hw1,back⟩ := St.frame (L := [_]) (M := _ :: _ :: _ :: _ :: _ :: _ :: _ :: _ :: _ :: []) hw
 refine (do_eq β1 w H2 b1 ((0 + 1) + 1) ((0 + 494) + 494) aX2 hw1 5 1 _ [(⟨3,1,2,0,(⟨30,0,0,0⟩ : KAm)⟩ : KAct),(⟨4,1,0,0,(⟨50,0,0,0⟩ : KAm)⟩ : KAct)] (kn _ (Knows.of_res 5 rfl (Sl.mono _ _ _) fun a h => rowF_sl (pt_rowF (F := ActF) (xs := [(⟨3,1,2,0,(⟨30,0,0,0⟩ : KAm)⟩ : KAct),(⟨4,1,0,0,(⟨50,0,0,0⟩ : KAm)⟩ : KAct)]) rfl (by first | decide | simp) a h))) (by decide) (by decide) (by omega) aw_d3).mono ?_
 rintro e w' ⟨p20,c21,rfl,hw'⟩
 refine ⟨_,rfl,_,back _ _ hw',?_⟩
 clear hw hw1 hw' back kn sb
 refine lE omt (lE oxa (lE oxi (alE fun b22 => lu (mS 0 (#[.bool true,.int .i64 (0),.int .i64 (0),.slice p20 (1) c21])) (lE oai (lnc (lE omi ?_))))))
 refine lE onq (lE omb (gE ofp (gE (olb 0) (gE ont (lE okfb (lE omb (gE ofp (gE (ols 0) ?_))))))))
 refine g_mv rfl rfl rfl rfl rfl (m_slices tt29 tt64.ok (cells := #[.int .i64 (1)]) rfl rfl rfl rfl) ?_
 rintro _ _ ⟨b23,rfl,rfl⟩
 refine g_call rfl rfl rfl rfl rfl (cl0 (vs := [.slice p20 (1) c21,.slice (some ⟨b23,0,none⟩) 1 1]) tt174.ok rfl rfl) ?_
 intro w hw
 obtain ⟨β1,sb,kn,hw1,back⟩ := St.frame_all hw
 refine (sameI_ok β1 w hw1 _ _ [1] ([1] : List Int) (kn _ (k_flN 2 (F := IntF) (m := 1) rfl rfl)) (kn _ (Knows.of_res 0 rfl (Sl.mono _ _ _) fun a h => rowF_sl (pt_rowF (F := IntF) (xs := ([1] : List Int)) rfl (by first | decide | simp) a h)))).mono ?_
 rintro e w' ⟨rfl,hw'⟩
 refine ⟨_,rfl,_,back _ _ hw',?_⟩
 clear hw hw1 hw' back kn sb
 refine gE ond (lE okfb (lE omb (l_split (s := 75) rfl (fun h => ?_) (fun h => ?_))))
 exact absurd h (fun q => q rfl)
 refine gE omp (g_call rfl rfl rfl rfl rfl (cl0 (vs := [pp H2 0,.int .i64 (1)]) tt178.ok rfl rfl) ?_)
 intro w hw
 replace hw := hw.perm (L' := [houseR H2 b1 aX2 (((0 + 1) + 1) + 1) (((0 + 494) + 494) + 494) (-1),pt b23 (.cells #[.int .i64 (1)] 3),pt b22 (.cells #[.bool true,.int .i64 (0),.int .i64 (0),.slice p20 (1) c21] 37),rowF IntF 3 p20 c21 [1],rowF HoF 104 p15 c16 [(⟨1,1,⟨50,0,0,0⟩⟩ : KHo)],rowF HoF 104 p13 c14 [(⟨1,1,⟨50,0,0,0⟩⟩ : KHo)],pt b12 (.cells #[.int .i64 (1)] 3),pt b11 (.cells #[.bool true,.int .i64 (0),.int .i64 (0),.slice p9 (1) c10] 37),rowF IntF 3 p9 c10 [1],pt b8 (.cells #[.int .u8 (3),.int .i64 (1),.int .i64 (2),.int .i64 (0),.int .i64 (30),.int .i64 (0),.int .i64 (0),.int .i64 (0),.int .u8 (4),.int .i64 (1),.int .i64 (0),.int .i64 (0),.int .i64 (50),.int .i64 (0),.int .i64 (0),.int .i64 (0)] 47),pt b6 (.cells #[.bool true,.int .i64 (0),.int .i64 (0),.slice p4 (0) c5] 37),rowF IntF 3 p4 c5 [],pt b3 (.cells #[.int .u8 (1),.int .i64 (1),.int .i64 (0),.int .i64 (0),.int .i64 (100),.int .i64 (0),.int .i64 (0),.int .i64 (0)] 47)]) (by exact (perm_ix [3,0,1,2,4,5,6,7,8,9,10,11,12] 13 rfl (by kernel_rfl) (by kernel_rfl)))
 obtain ⟨β1,sb,kn,hw1,back⟩ := St.frame (L := [_]) (M := _ :: _ :: _ :: _ :: _ :: _ :: _ :: _ :: _ :: _ :: _ :: _ :: []) hw
 refine (purse_eq β1 w H2 b1 (((0 + 1) + 1) + 1) (((0 + 494) + 494) + 494) (-1) aX2 hw1 1 _ aw_p2).mono ?_
 rintro e w' ⟨rfl,hw'⟩
 refine ⟨_,rfl,_,back _ _ hw',?_⟩
 clear hw hw1 hw' back kn sb
 refine g_val (v := .agg #[.int .i64 (20),.int .i64 (0),.int .i64 (0),.int .i64 (0)]) rfl rfl rfl rfl rfl (e_build_a tt3.ok tt1.ok (vs := [(0,.int .i64 (20))]) (cells := #[.int .i64 (20),.int .i64 (0),.int .i64 (0),.int .i64 (0)]) rfl rfl) ?_
 refine g_val (v := .bool (decide (¬ ((⟨20,0,0,0⟩ : KAm) = (⟨20,0,0,0⟩ : KAm))))) rfl rfl rfl rfl rfl (e_neq_t (xs := amE (⟨20,0,0,0⟩ : KAm)) (ys := amE (⟨20,0,0,0⟩ : KAm)) tt12 tt13 tt14 rfl rfl rfl rfl (not_congr (am_eq (x := (⟨20,0,0,0⟩ : KAm)) (y := (⟨20,0,0,0⟩ : KAm))))) ?_
 refine lE okfb (lE omb (l_split (s := 81) rfl (fun h => ?_) (fun h => ?_)))
 exact absurd h (fun q => q rfl)
 refine gE omp (g_call rfl rfl rfl rfl rfl (cl0 (vs := [pp H2 0,.int .i64 (2)]) tt178.ok rfl rfl) ?_)
 intro w hw
 replace hw := hw.perm (L' := [houseR H2 b1 aX2 (((0 + 1) + 1) + 1) (((0 + 494) + 494) + 494) (-1),pt b23 (.cells #[.int .i64 (1)] 3),pt b22 (.cells #[.bool true,.int .i64 (0),.int .i64 (0),.slice p20 (1) c21] 37),rowF IntF 3 p20 c21 [1],rowF HoF 104 p15 c16 [(⟨1,1,⟨50,0,0,0⟩⟩ : KHo)],rowF HoF 104 p13 c14 [(⟨1,1,⟨50,0,0,0⟩⟩ : KHo)],pt b12 (.cells #[.int .i64 (1)] 3),pt b11 (.cells #[.bool true,.int .i64 (0),.int .i64 (0),.slice p9 (1) c10] 37),rowF IntF 3 p9 c10 [1],pt b8 (.cells #[.int .u8 (3),.int .i64 (1),.int .i64 (2),.int .i64 (0),.int .i64 (30),.int .i64 (0),.int .i64 (0),.int .i64 (0),.int .u8 (4),.int .i64 (1),.int .i64 (0),.int .i64 (0),.int .i64 (50),.int .i64 (0),.int .i64 (0),.int .i64 (0)] 47),pt b6 (.cells #[.bool true,.int .i64 (0),.int .i64 (0),.slice p4 (0) c5] 37),rowF IntF 3 p4 c5 [],pt b3 (.cells #[.int .u8 (1),.int .i64 (1),.int .i64 (0),.int .i64 (0),.int .i64 (100),.int .i64 (0),.int .i64 (0),.int .i64 (0)] 47)]) (by exact (perm_ix [0,1,2,3,4,5,6,7,8,9,10,11,12] 13 rfl (by kernel_rfl) (by kernel_rfl)))
 obtain ⟨β1,sb,kn,hw1,back⟩ := St.frame (L := [_]) (M := _ :: _ :: _ :: _ :: _ :: _ :: _ :: _ :: _ :: _ :: _ :: _ :: []) hw
 refine (purse_eq β1 w H2 b1 (((0 + 1) + 1) + 1) (((0 + 494) + 494) + 494) (-1) aX2 hw1 2 _ aw_q2).mono ?_
 rintro e w' ⟨rfl,hw'⟩
 refine ⟨_,rfl,_,back _ _ hw',?_⟩
 clear hw hw1 hw' back kn sb
 refine g_val (v := .agg #[.int .i64 (30),.int .i64 (0),.int .i64 (0),.int .i64 (0)]) rfl rfl rfl rfl rfl (e_build_a tt3.ok tt1.ok (vs := [(0,.int .i64 (30))]) (cells := #[.int .i64 (30),.int .i64 (0),.int .i64 (0),.int .i64 (0)]) rfl rfl) ?_
 refine g_val (v := .bool (decide (¬ ((⟨30,0,0,0⟩ : KAm) = (⟨30,0,0,0⟩ : KAm))))) rfl rfl rfl rfl rfl (e_neq_t (xs := amE (⟨30,0,0,0⟩ : KAm)) (ys := amE (⟨30,0,0,0⟩ : KAm)) tt12 tt13 tt14 rfl rfl rfl rfl (not_congr (am_eq (x := (⟨30,0,0,0⟩ : KAm)) (y := (⟨30,0,0,0⟩ : KAm))))) ?_
 refine lE okfb (lE omb (l_split (s := 87) rfl (fun h => ?_) (fun h => ?_)))
 exact absurd h (fun q => q rfl)
 refine gE omp (g_call rfl rfl rfl rfl rfl (cl0 (vs := [pp H2 0]) tt180.ok rfl rfl) ?_)
 intro w hw
 replace hw := hw.perm (L' := [houseR H2 b1 aX2 (((0 + 1) + 1) + 1) (((0 + 494) + 494) + 494) (-1),pt b23 (.cells #[.int .i64 (1)] 3),pt b22 (.cells #[.bool true,.int .i64 (0),.int .i64 (0),.slice p20 (1) c21] 37),rowF IntF 3 p20 c21 [1],rowF HoF 104 p15 c16 [(⟨1,1,⟨50,0,0,0⟩⟩ : KHo)],rowF HoF 104 p13 c14 [(⟨1,1,⟨50,0,0,0⟩⟩ : KHo)],pt b12 (.cells #[.int .i64 (1)] 3),pt b11 (.cells #[.bool true,.int .i64 (0),.int .i64 (0),.slice p9 (1) c10] 37),rowF IntF 3 p9 c10 [1],pt b8 (.cells #[.int .u8 (3),.int .i64 (1),.int .i64 (2),.int .i64 (0),.int .i64 (30),.int .i64 (0),.int .i64 (0),.int .i64 (0),.int .u8 (4),.int .i64 (1),.int .i64 (0),.int .i64 (0),.int .i64 (50),.int .i64 (0),.int .i64 (0),.int .i64 (0)] 47),pt b6 (.cells #[.bool true,.int .i64 (0),.int .i64 (0),.slice p4 (0) c5] 37),rowF IntF 3 p4 c5 [],pt b3 (.cells #[.int .u8 (1),.int .i64 (1),.int .i64 (0),.int .i64 (0),.int .i64 (100),.int .i64 (0),.int .i64 (0),.int .i64 (0)] 47)]) (by exact (perm_ix [0,1,2,3,4,5,6,7,8,9,10,11,12] 13 rfl (by kernel_rfl) (by kernel_rfl)))
 obtain ⟨β1,sb,kn,hw1,back⟩ := St.frame (L := [_]) (M := _ :: _ :: _ :: _ :: _ :: _ :: _ :: _ :: _ :: _ :: _ :: _ :: []) hw
 refine (holds_eq β1 w H2 b1 (((0 + 1) + 1) + 1) (((0 + 494) + 494) + 494) (-1) aX2 hw1 _ aw_h2).mono ?_
 rintro e w' ⟨p24,c25,rfl,hw'⟩
 refine ⟨_,rfl,_,back _ _ hw',?_⟩
 clear hw hw1 hw' back kn sb
 refine gE oln (gE onq (lE okfb (lE omb (l_split (s := 93) rfl (fun h => ?_) (fun h => ?_)))))
 exact absurd h (by decide)
 refine gE omp (g_call rfl rfl rfl rfl rfl (cl0 (vs := [pp H2 0]) tt180.ok rfl rfl) ?_)
 intro w hw
 replace hw := hw.perm (L' := [houseR H2 b1 aX2 (((0 + 1) + 1) + 1) (((0 + 494) + 494) + 494) (-1),rowF HoF 104 p24 c25 [(⟨1,1,⟨50,0,0,0⟩⟩ : KHo)],pt b23 (.cells #[.int .i64 (1)] 3),pt b22 (.cells #[.bool true,.int .i64 (0),.int .i64 (0),.slice p20 (1) c21] 37),rowF IntF 3 p20 c21 [1],rowF HoF 104 p15 c16 [(⟨1,1,⟨50,0,0,0⟩⟩ : KHo)],rowF HoF 104 p13 c14 [(⟨1,1,⟨50,0,0,0⟩⟩ : KHo)],pt b12 (.cells #[.int .i64 (1)] 3),pt b11 (.cells #[.bool true,.int .i64 (0),.int .i64 (0),.slice p9 (1) c10] 37),rowF IntF 3 p9 c10 [1],pt b8 (.cells #[.int .u8 (3),.int .i64 (1),.int .i64 (2),.int .i64 (0),.int .i64 (30),.int .i64 (0),.int .i64 (0),.int .i64 (0),.int .u8 (4),.int .i64 (1),.int .i64 (0),.int .i64 (0),.int .i64 (50),.int .i64 (0),.int .i64 (0),.int .i64 (0)] 47),pt b6 (.cells #[.bool true,.int .i64 (0),.int .i64 (0),.slice p4 (0) c5] 37),rowF IntF 3 p4 c5 [],pt b3 (.cells #[.int .u8 (1),.int .i64 (1),.int .i64 (0),.int .i64 (0),.int .i64 (100),.int .i64 (0),.int .i64 (0),.int .i64 (0)] 47)]) (by exact (perm_ix [1,0,2,3,4,5,6,7,8,9,10,11,12,13] 14 rfl (by kernel_rfl) (by kernel_rfl)))
 obtain ⟨β1,sb,kn,hw1,back⟩ := St.frame (L := [_]) (M := _ :: _ :: _ :: _ :: _ :: _ :: _ :: _ :: _ :: _ :: _ :: _ :: _ :: []) hw
 refine (holds_eq β1 w H2 b1 (((0 + 1) + 1) + 1) (((0 + 494) + 494) + 494) (-1) aX2 hw1 _ aw_h2).mono ?_
 rintro e w' ⟨p26,c27,rfl,hw'⟩
 refine ⟨_,rfl,_,back _ _ hw',?_⟩
 clear hw hw1 hw' back kn sb
 refine g_val (v := .pointer (some ((ba p26).add (0 * 6)))) rfl rfl rfl rfl rfl (e_indexFlN 0 (F := HoF) rfl rfl rfl tt116 (by omega) rfl) ?_
 obtain ⟨x28,hx29⟩ : ∃ x_,[(⟨1,1,⟨50,0,0,0⟩⟩ : KHo)][0]? = some x_ := ⟨_,List.getElem?_eq_getElem (by first | omega | decide)⟩
 refine g_val (v := .agg #[Ix (x28.number),Ix (x28.owner),Ix (x28.a.a0),Ix (x28.a.a1),Ix (x28.a.a2),Ix (x28.a.a3)]) rfl rfl rfl rfl rfl (e_load tt43.ok rfl (k_flAt 0 (F := HoF) rfl hx29) rfl) ?_
 refine g_val (v := .agg #[.int .i64 (50),.int .i64 (0),.int .i64 (0),.int .i64 (0)]) rfl rfl rfl rfl rfl (e_build_a tt3.ok tt1.ok (vs := [(0,.int .i64 (50))]) (cells := #[.int .i64 (50),.int .i64 (0),.int .i64 (0),.int .i64 (0)]) rfl rfl) ?_
 refine g_val (v := .agg #[.int .i64 (1),.int .i64 (1),.int .i64 (50),.int .i64 (0),.int .i64 (0),.int .i64 (0)]) rfl rfl rfl rfl rfl (e_build tt42.ok tt41 (vs := [(0,.int .i64 (1)),(1,.int .i64 (1)),(2,.agg #[.int .i64 (50),.int .i64 (0),.int .i64 (0),.int .i64 (0)])]) (cells := #[.int .i64 (1),.int .i64 (1),.int .i64 (50),.int .i64 (0),.int .i64 (0),.int .i64 (0)]) rfl rfl) ?_
 refine g_val (v := .bool (decide (¬ (x28 = (⟨1,1,(⟨50,0,0,0⟩ : KAm)⟩ : KHo))))) rfl rfl rfl rfl rfl (e_neq_t (xs := hoE x28) (ys := hoE (⟨1,1,(⟨50,0,0,0⟩ : KAm)⟩ : KHo)) tt182 tt183 tt184 rfl rfl rfl rfl (not_congr (ho_eq (x := x28) (y := (⟨1,1,(⟨50,0,0,0⟩ : KAm)⟩ : KHo))))) ?_
 refine lE okfb (lnf (c_if _ rfl (fun hc30 => ?_) (fun hc30 => ?_)))
 ·exact absurd hc30 (fun q => q (by injection hx29 with e; exact e.symm))
 refine c_skip (f_block (f_then (c_region (lE opl (lE omi (l_nil (f_cut (un_succ 0 (csr (lE olt (lnf (c_seq (c_no rfl (c_exit (f_then_exit ?_)))))))))))))))
 refine f_then_exit (f_exit (ftc (lE omp (lcR clA (fun w β1 sb kn hw1 => act_ok β1 w hw1 (6 : UInt8) 0 2 1 0) ?_))))
 refine lcR clA (fun w β1 sb kn hw1 => act_ok β1 w hw1 (3 : UInt8) 1 2 0 100) ?_
 refine l_mv rfl rfl rfl (m_slices tt16 tt47.ok (cells := #[.int .u8 (6),.int .i64 (0),.int .i64 (2),.int .i64 (1),.int .i64 (0),.int .i64 (0),.int .i64 (0),.int .i64 (0),.int .u8 (3),.int .i64 (1),.int .i64 (2),.int .i64 (0),.int .i64 (100),.int .i64 (0),.int .i64 (0),.int .i64 (0)]) rfl rfl rfl (by kernel_rfl)) ?_
 rintro _ _ ⟨b31,rfl,rfl⟩
 refine l_call rfl rfl rfl (cl0 (vs := [pp H2 0,.int .i64 (5),.int .i64 (2),.slice (some ⟨b31,0,none⟩) 2 2]) tt177.ok rfl rfl) ?_
 intro w hw
 replace hw := hw.perm (L' := [houseR H2 b1 aX2 (((0 + 1) + 1) + 1) (((0 + 494) + 494) + 494) (-1),pt b31 (.cells #[.int .u8 (6),.int .i64 (0),.int .i64 (2),.int .i64 (1),.int .i64 (0),.int .i64 (0),.int .i64 (0),.int .i64 (0),.int .u8 (3),.int .i64 (1),.int .i64 (2),.int .i64 (0),.int .i64 (100),.int .i64 (0),.int .i64 (0),.int .i64 (0)] 47),rowF HoF 104 p26 c27 [(⟨1,1,⟨50,0,0,0⟩⟩ : KHo)],rowF HoF 104 p24 c25 [(⟨1,1,⟨50,0,0,0⟩⟩ : KHo)],pt b23 (.cells #[.int .i64 (1)] 3),pt b22 (.cells #[.bool true,.int .i64 (0),.int .i64 (0),.slice p20 (1) c21] 37),rowF IntF 3 p20 c21 [1],rowF HoF 104 p15 c16 [(⟨1,1,⟨50,0,0,0⟩⟩ : KHo)],rowF HoF 104 p13 c14 [(⟨1,1,⟨50,0,0,0⟩⟩ : KHo)],pt b12 (.cells #[.int .i64 (1)] 3),pt b11 (.cells #[.bool true,.int .i64 (0),.int .i64 (0),.slice p9 (1) c10] 37),rowF IntF 3 p9 c10 [1],pt b8 (.cells #[.int .u8 (3),.int .i64 (1),.int .i64 (2),.int .i64 (0),.int .i64 (30),.int .i64 (0),.int .i64 (0),.int .i64 (0),.int .u8 (4),.int .i64 (1),.int .i64 (0),.int .i64 (0),.int .i64 (50),.int .i64 (0),.int .i64 (0),.int .i64 (0)] 47),pt b6 (.cells #[.bool true,.int .i64 (0),.int .i64 (0),.slice p4 (0) c5] 37),rowF IntF 3 p4 c5 [],pt b3 (.cells #[.int .u8 (1),.int .i64 (1),.int .i64 (0),.int .i64 (0),.int .i64 (100),.int .i64 (0),.int .i64 (0),.int .i64 (0)] 47)]) (by exact (perm_ix [2,0,1,3,4,5,6,7,8,9,10,11,12,13,14,15] 16 rfl (by kernel_rfl) (by kernel_rfl)))
 obtain ⟨β1,sb,kn,hw1,back⟩ := St.frame (L := [_]) (M := _ :: _ :: _ :: _ :: _ :: _ :: _ :: _ :: _ :: _ :: _ :: _ :: _ :: _ :: _ :: []) hw
 refine (do_eq β1 w H2 b1 (((0 + 1) + 1) + 1) (((0 + 494) + 494) + 494) aX2 hw1 5 2 _ [(⟨6,0,2,1,zeroA⟩ : KAct),(⟨3,1,2,0,(⟨100,0,0,0⟩ : KAm)⟩ : KAct)] (kn _ (Knows.of_res 0 rfl (Sl.mono _ _ _) fun a h => rowF_sl (pt_rowF (F := ActF) (xs := [(⟨6,0,2,1,zeroA⟩ : KAct),(⟨3,1,2,0,(⟨100,0,0,0⟩ : KAm)⟩ : KAct)]) rfl (by first | decide | simp) a h))) (by decide) (by decide) (by omega) aw_d4).mono ?_
 rintro e w' ⟨p32,c33,rfl,hw'⟩
 refine ⟨_,rfl,_,back _ _ hw',?_⟩
 clear hw hw1 hw' back kn sb
 refine lE omt (lE oxa (lE oxi (alE fun b34 => lu (mS 0 (#[.bool false,.int .i64 (1),.int .i64 (330),.slice p32 (0) c33])) (lE oai (lnc (lE omp ?_))))))
 refine lE oms (l_call rfl rfl rfl (cl0 (vs := [pp H2 0,.int .i64 (5),.int .i64 (1),.slice (some ⟨b8,0,none⟩) 2 2]) tt177.ok rfl rfl) ?_)
 intro w hw
 replace hw := hw.perm (L' := [houseR H2 b1 aX3 ((((0 + 1) + 1) + 1) + 1) ((((0 + 494) + 494) + 494) + 494) (-1),pt b34 (.cells #[.bool false,.int .i64 (1),.int .i64 (330),.slice p32 (0) c33] 37),rowF IntF 3 p32 c33 [],pt b31 (.cells #[.int .u8 (6),.int .i64 (0),.int .i64 (2),.int .i64 (1),.int .i64 (0),.int .i64 (0),.int .i64 (0),.int .i64 (0),.int .u8 (3),.int .i64 (1),.int .i64 (2),.int .i64 (0),.int .i64 (100),.int .i64 (0),.int .i64 (0),.int .i64 (0)] 47),rowF HoF 104 p26 c27 [(⟨1,1,⟨50,0,0,0⟩⟩ : KHo)],rowF HoF 104 p24 c25 [(⟨1,1,⟨50,0,0,0⟩⟩ : KHo)],pt b23 (.cells #[.int .i64 (1)] 3),pt b22 (.cells #[.bool true,.int .i64 (0),.int .i64 (0),.slice p20 (1) c21] 37),rowF IntF 3 p20 c21 [1],rowF HoF 104 p15 c16 [(⟨1,1,⟨50,0,0,0⟩⟩ : KHo)],rowF HoF 104 p13 c14 [(⟨1,1,⟨50,0,0,0⟩⟩ : KHo)],pt b12 (.cells #[.int .i64 (1)] 3),pt b11 (.cells #[.bool true,.int .i64 (0),.int .i64 (0),.slice p9 (1) c10] 37),rowF IntF 3 p9 c10 [1],pt b8 (.cells #[.int .u8 (3),.int .i64 (1),.int .i64 (2),.int .i64 (0),.int .i64 (30),.int .i64 (0),.int .i64 (0),.int .i64 (0),.int .u8 (4),.int .i64 (1),.int .i64 (0),.int .i64 (0),.int .i64 (50),.int .i64 (0),.int .i64 (0),.int .i64 (0)] 47),pt b6 (.cells #[.bool true,.int .i64 (0),.int .i64 (0),.slice p4 (0) c5] 37),rowF IntF 3 p4 c5 [],pt b3 (.cells #[.int .u8 (1),.int .i64 (1),.int .i64 (0),.int .i64 (0),.int .i64 (100),.int .i64 (0),.int .i64 (0),.int .i64 (0)] 47)]) (by exact (perm_ix [2,0,1,3,4,5,6,7,8,9,10,11,12,13,14,15,16,17] 18 rfl (by kernel_rfl) (by kernel_rfl)))
 obtain ⟨β1,sb,kn,hw1,back⟩ := St.frame (L := [_]) (M := _ :: _ :: _ :: _ :: _ :: _ :: _ :: _ :: _ :: _ :: _ :: _ :: _ :: _ :: _ :: _ :: _ :: []) hw
 refine (do_eq β1 w H2 b1 ((((0 + 1) + 1) + 1) + 1) ((((0 + 494) + 494) + 494) + 494) aX3 hw1 5 1 _ [(⟨3,1,2,0,(⟨30,0,0,0⟩ : KAm)⟩ : KAct),(⟨4,1,0,0,(⟨50,0,0,0⟩ : KAm)⟩ : KAct)] (kn _ (Knows.of_res 13 rfl (Sl.mono _ _ _) fun a h => rowF_sl (pt_rowF (F := ActF) (xs := [(⟨3,1,2,0,(⟨30,0,0,0⟩ : KAm)⟩ : KAct),(⟨4,1,0,0,(⟨50,0,0,0⟩ : KAm)⟩ : KAct)]) rfl (by first | decide | simp) a h))) (by decide) (by decide) (by omega) aw_d5).mono ?_
 rintro e w' ⟨p35,c36,rfl,hw'⟩
 refine ⟨_,rfl,_,back _ _ hw',?_⟩
 clear hw hw1 hw' back kn sb
 refine lE omt (lE oxa (lE oxi (alE fun b37 => lu (mS 0 (#[.bool false,.int .i64 (0),.int .i64 (0),.slice p35 (0) c36])) (lE oai (lnc (lE omp ?_))))))
 refine lE oms (l_call rfl rfl rfl (cl0 (vs := [pp H2 0,.int .i64 (5),.int .i64 (2),.slice (some ⟨b8,0,none⟩) 2 2]) tt177.ok rfl rfl) ?_)
 intro w hw
 replace hw := hw.perm (L' := [houseR H2 b1 aX3 (((((0 + 1) + 1) + 1) + 1) + 1) (((((0 + 494) + 494) + 494) + 494) + 494) (-1),pt b37 (.cells #[.bool false,.int .i64 (0),.int .i64 (0),.slice p35 (0) c36] 37),rowF IntF 3 p35 c36 [],pt b34 (.cells #[.bool false,.int .i64 (1),.int .i64 (330),.slice p32 (0) c33] 37),rowF IntF 3 p32 c33 [],pt b31 (.cells #[.int .u8 (6),.int .i64 (0),.int .i64 (2),.int .i64 (1),.int .i64 (0),.int .i64 (0),.int .i64 (0),.int .i64 (0),.int .u8 (3),.int .i64 (1),.int .i64 (2),.int .i64 (0),.int .i64 (100),.int .i64 (0),.int .i64 (0),.int .i64 (0)] 47),rowF HoF 104 p26 c27 [(⟨1,1,⟨50,0,0,0⟩⟩ : KHo)],rowF HoF 104 p24 c25 [(⟨1,1,⟨50,0,0,0⟩⟩ : KHo)],pt b23 (.cells #[.int .i64 (1)] 3),pt b22 (.cells #[.bool true,.int .i64 (0),.int .i64 (0),.slice p20 (1) c21] 37),rowF IntF 3 p20 c21 [1],rowF HoF 104 p15 c16 [(⟨1,1,⟨50,0,0,0⟩⟩ : KHo)],rowF HoF 104 p13 c14 [(⟨1,1,⟨50,0,0,0⟩⟩ : KHo)],pt b12 (.cells #[.int .i64 (1)] 3),pt b11 (.cells #[.bool true,.int .i64 (0),.int .i64 (0),.slice p9 (1) c10] 37),rowF IntF 3 p9 c10 [1],pt b8 (.cells #[.int .u8 (3),.int .i64 (1),.int .i64 (2),.int .i64 (0),.int .i64 (30),.int .i64 (0),.int .i64 (0),.int .i64 (0),.int .u8 (4),.int .i64 (1),.int .i64 (0),.int .i64 (0),.int .i64 (50),.int .i64 (0),.int .i64 (0),.int .i64 (0)] 47),pt b6 (.cells #[.bool true,.int .i64 (0),.int .i64 (0),.slice p4 (0) c5] 37),rowF IntF 3 p4 c5 [],pt b3 (.cells #[.int .u8 (1),.int .i64 (1),.int .i64 (0),.int .i64 (0),.int .i64 (100),.int .i64 (0),.int .i64 (0),.int .i64 (0)] 47)]) (by exact (perm_ix [2,0,1,3,4,5,6,7,8,9,10,11,12,13,14,15,16,17,18,19] 20 rfl (by kernel_rfl) (by kernel_rfl)))
 obtain ⟨β1,sb,kn,hw1,back⟩ := St.frame (L := [_]) (M := _ :: _ :: _ :: _ :: _ :: _ :: _ :: _ :: _ :: _ :: _ :: _ :: _ :: _ :: _ :: _ :: _ :: _ :: _ :: []) hw
 refine (do_eq β1 w H2 b1 (((((0 + 1) + 1) + 1) + 1) + 1) (((((0 + 494) + 494) + 494) + 494) + 494) aX3 hw1 5 2 _ [(⟨3,1,2,0,(⟨30,0,0,0⟩ : KAm)⟩ : KAct),(⟨4,1,0,0,(⟨50,0,0,0⟩ : KAm)⟩ : KAct)] (kn _ (Knows.of_res 15 rfl (Sl.mono _ _ _) fun a h => rowF_sl (pt_rowF (F := ActF) (xs := [(⟨3,1,2,0,(⟨30,0,0,0⟩ : KAm)⟩ : KAct),(⟨4,1,0,0,(⟨50,0,0,0⟩ : KAm)⟩ : KAct)]) rfl (by first | decide | simp) a h))) (by decide) (by decide) (by omega) aw_d6).mono ?_
 rintro e w' ⟨p38,c39,rfl,hw'⟩
 refine ⟨_,rfl,_,back _ _ hw',?_⟩
 clear hw hw1 hw' back kn sb
 refine lE omt (lE oxa (lE oxi (alE fun b40 => lu (mS 0 (#[.bool false,.int .i64 (0),.int .i64 (0),.slice p38 (0) c39])) (lE oai (lnf (cs2 ?_))))))
 refine c_region (lE omi (lE onq (lE omb (gE ofp (gE (olb 5) (lE okfb (lE omb (gE ofp (gE (oli 5) (gE onq (lE okfb (lE omb (gE ofp (gE (oli 5) ?_))))))))))))))
 refine gE onq (lE okfb (lE omb (gE omi (gE onq (lE okfb (lE omb (gE omi (gE onq (lE okfb (lE omb (gE omp ?_)))))))))))
 refine g_call rfl rfl rfl rfl rfl (cl0 (vs := [pp H2 0]) tt180.ok rfl rfl) ?_
 intro w hw
 replace hw := hw.perm (L' := [houseR H2 b1 aX3 ((((((0 + 1) + 1) + 1) + 1) + 1) + 1) ((((((0 + 494) + 494) + 494) + 494) + 494) + 494) (-1),pt b40 (.cells #[.bool false,.int .i64 (0),.int .i64 (0),.slice p38 (0) c39] 37),rowF IntF 3 p38 c39 [],pt b37 (.cells #[.bool false,.int .i64 (0),.int .i64 (0),.slice p35 (0) c36] 37),rowF IntF 3 p35 c36 [],pt b34 (.cells #[.bool false,.int .i64 (1),.int .i64 (330),.slice p32 (0) c33] 37),rowF IntF 3 p32 c33 [],pt b31 (.cells #[.int .u8 (6),.int .i64 (0),.int .i64 (2),.int .i64 (1),.int .i64 (0),.int .i64 (0),.int .i64 (0),.int .i64 (0),.int .u8 (3),.int .i64 (1),.int .i64 (2),.int .i64 (0),.int .i64 (100),.int .i64 (0),.int .i64 (0),.int .i64 (0)] 47),rowF HoF 104 p26 c27 [(⟨1,1,⟨50,0,0,0⟩⟩ : KHo)],rowF HoF 104 p24 c25 [(⟨1,1,⟨50,0,0,0⟩⟩ : KHo)],pt b23 (.cells #[.int .i64 (1)] 3),pt b22 (.cells #[.bool true,.int .i64 (0),.int .i64 (0),.slice p20 (1) c21] 37),rowF IntF 3 p20 c21 [1],rowF HoF 104 p15 c16 [(⟨1,1,⟨50,0,0,0⟩⟩ : KHo)],rowF HoF 104 p13 c14 [(⟨1,1,⟨50,0,0,0⟩⟩ : KHo)],pt b12 (.cells #[.int .i64 (1)] 3),pt b11 (.cells #[.bool true,.int .i64 (0),.int .i64 (0),.slice p9 (1) c10] 37),rowF IntF 3 p9 c10 [1],pt b8 (.cells #[.int .u8 (3),.int .i64 (1),.int .i64 (2),.int .i64 (0),.int .i64 (30),.int .i64 (0),.int .i64 (0),.int .i64 (0),.int .u8 (4),.int .i64 (1),.int .i64 (0),.int .i64 (0),.int .i64 (50),.int .i64 (0),.int .i64 (0),.int .i64 (0)] 47),pt b6 (.cells #[.bool true,.int .i64 (0),.int .i64 (0),.slice p4 (0) c5] 37),rowF IntF 3 p4 c5 [],pt b3 (.cells #[.int .u8 (1),.int .i64 (1),.int .i64 (0),.int .i64 (0),.int .i64 (100),.int .i64 (0),.int .i64 (0),.int .i64 (0)] 47)]) (by exact (perm_ix [2,0,1,3,4,5,6,7,8,9,10,11,12,13,14,15,16,17,18,19,20,21] 22 rfl (by kernel_rfl) (by kernel_rfl)))
 obtain ⟨β1,sb,kn,hw1,back⟩ := St.frame (L := [_]) (M := _ :: _ :: _ :: _ :: _ :: _ :: _ :: _ :: _ :: _ :: _ :: _ :: _ :: _ :: _ :: _ :: _ :: _ :: _ :: _ :: _ :: []) hw
 refine (holds_eq β1 w H2 b1 ((((((0 + 1) + 1) + 1) + 1) + 1) + 1) ((((((0 + 494) + 494) + 494) + 494) + 494) + 494) (-1) aX3 hw1 _ aw_h3).mono ?_
 rintro e w' ⟨p41,c42,rfl,hw'⟩
 refine ⟨_,rfl,_,back _ _ hw',?_⟩
 clear hw hw1 hw' back kn sb
 refine gE oln (gE onq (lE okfb (lnf (c_if _ rfl (fun hc43 => ?_) (fun hc43 => ?_)))))
 ·exact absurd hc43 (by decide)
 refine csk (csr (lE omp (lcR clA (fun w β1 sb kn hw1 => act_ok β1 w hw1 (5 : UInt8) 0 0 1 0) ?_)))
 refine l_mv rfl rfl rfl (m_slices tt16 tt47.ok (cells := #[.int .u8 (5),.int .i64 (0),.int .i64 (0),.int .i64 (1),.int .i64 (0),.int .i64 (0),.int .i64 (0),.int .i64 (0)]) rfl rfl rfl (by kernel_rfl)) ?_
 rintro _ _ ⟨b44,rfl,rfl⟩
 refine l_call rfl rfl rfl (cl0 (vs := [pp H2 0,.int .i64 (5),.int .i64 (3),.slice (some ⟨b44,0,none⟩) 1 1]) tt177.ok rfl rfl) ?_
 intro w hw
 replace hw := hw.perm (L' := [houseR H2 b1 aX3 ((((((0 + 1) + 1) + 1) + 1) + 1) + 1) ((((((0 + 494) + 494) + 494) + 494) + 494) + 494) (-1),pt b44 (.cells #[.int .u8 (5),.int .i64 (0),.int .i64 (0),.int .i64 (1),.int .i64 (0),.int .i64 (0),.int .i64 (0),.int .i64 (0)] 47),rowF HoF 104 p41 c42 [(⟨1,1,⟨50,0,0,0⟩⟩ : KHo)],pt b40 (.cells #[.bool false,.int .i64 (0),.int .i64 (0),.slice p38 (0) c39] 37),rowF IntF 3 p38 c39 [],pt b37 (.cells #[.bool false,.int .i64 (0),.int .i64 (0),.slice p35 (0) c36] 37),rowF IntF 3 p35 c36 [],pt b34 (.cells #[.bool false,.int .i64 (1),.int .i64 (330),.slice p32 (0) c33] 37),rowF IntF 3 p32 c33 [],pt b31 (.cells #[.int .u8 (6),.int .i64 (0),.int .i64 (2),.int .i64 (1),.int .i64 (0),.int .i64 (0),.int .i64 (0),.int .i64 (0),.int .u8 (3),.int .i64 (1),.int .i64 (2),.int .i64 (0),.int .i64 (100),.int .i64 (0),.int .i64 (0),.int .i64 (0)] 47),rowF HoF 104 p26 c27 [(⟨1,1,⟨50,0,0,0⟩⟩ : KHo)],rowF HoF 104 p24 c25 [(⟨1,1,⟨50,0,0,0⟩⟩ : KHo)],pt b23 (.cells #[.int .i64 (1)] 3),pt b22 (.cells #[.bool true,.int .i64 (0),.int .i64 (0),.slice p20 (1) c21] 37),rowF IntF 3 p20 c21 [1],rowF HoF 104 p15 c16 [(⟨1,1,⟨50,0,0,0⟩⟩ : KHo)],rowF HoF 104 p13 c14 [(⟨1,1,⟨50,0,0,0⟩⟩ : KHo)],pt b12 (.cells #[.int .i64 (1)] 3),pt b11 (.cells #[.bool true,.int .i64 (0),.int .i64 (0),.slice p9 (1) c10] 37),rowF IntF 3 p9 c10 [1],pt b8 (.cells #[.int .u8 (3),.int .i64 (1),.int .i64 (2),.int .i64 (0),.int .i64 (30),.int .i64 (0),.int .i64 (0),.int .i64 (0),.int .u8 (4),.int .i64 (1),.int .i64 (0),.int .i64 (0),.int .i64 (50),.int .i64 (0),.int .i64 (0),.int .i64 (0)] 47),pt b6 (.cells #[.bool true,.int .i64 (0),.int .i64 (0),.slice p4 (0) c5] 37),rowF IntF 3 p4 c5 [],pt b3 (.cells #[.int .u8 (1),.int .i64 (1),.int .i64 (0),.int .i64 (0),.int .i64 (100),.int .i64 (0),.int .i64 (0),.int .i64 (0)] 47)]) (by exact (perm_ix [2,0,1,3,4,5,6,7,8,9,10,11,12,13,14,15,16,17,18,19,20,21,22,23] 24 rfl (by kernel_rfl) (by kernel_rfl)))
 obtain ⟨β1,sb,kn,hw1,back⟩ := St.frame (L := [_]) (M := _ :: _ :: _ :: _ :: _ :: _ :: _ :: _ :: _ :: _ :: _ :: _ :: _ :: _ :: _ :: _ :: _ :: _ :: _ :: _ :: _ :: _ :: _ :: []) hw
 refine (do_eq β1 w H2 b1 ((((((0 + 1) + 1) + 1) + 1) + 1) + 1) ((((((0 + 494) + 494) + 494) + 494) + 494) + 494) aX3 hw1 5 3 _ [(⟨5,0,0,1,zeroA⟩ : KAct)] (kn _ (Knows.of_res 0 rfl (Sl.mono _ _ _) fun a h => rowF_sl (pt_rowF (F := ActF) (xs := [(⟨5,0,0,1,zeroA⟩ : KAct)]) rfl (by first | decide | simp) a h))) (by decide) (by decide) (by omega) aw_d7).mono ?_
 rintro e w' ⟨p45,c46,rfl,hw'⟩
 refine ⟨_,rfl,_,back _ _ hw',?_⟩
 clear hw hw1 hw' back kn sb
 refine lE omt (lE oxa (lE oxi (lu (mS 8 (#[.bool true,.int .i64 (0),.int .i64 (0),.slice p45 (0) c46])) (lE oai (lnc (lE omi (lE oeq_ (lE omb ?_))))))))
 refine gE ofp (gE (olb 8) (lE oktb (lE omb (gE omp (g_call rfl rfl rfl rfl rfl (cl0 (vs := [pp H2 0,.int .i64 (1)]) tt178.ok rfl rfl) ?_)))))
 intro w hw
 replace hw := hw.perm (L' := [houseR H2 b1 aX4 (((((((0 + 1) + 1) + 1) + 1) + 1) + 1) + 1) (((((((0 + 494) + 494) + 494) + 494) + 494) + 494) + 494) (-1),rowF IntF 3 p45 c46 [],pt b44 (.cells #[.int .u8 (5),.int .i64 (0),.int .i64 (0),.int .i64 (1),.int .i64 (0),.int .i64 (0),.int .i64 (0),.int .i64 (0)] 47),rowF HoF 104 p41 c42 [(⟨1,1,⟨50,0,0,0⟩⟩ : KHo)],pt b40 (.cells #[.bool false,.int .i64 (0),.int .i64 (0),.slice p38 (0) c39] 37),rowF IntF 3 p38 c39 [],pt b37 (.cells #[.bool false,.int .i64 (0),.int .i64 (0),.slice p35 (0) c36] 37),rowF IntF 3 p35 c36 [],pt b34 (.cells #[.bool true,.int .i64 (0),.int .i64 (0),.slice p45 (0) c46] 37),rowF IntF 3 p32 c33 [],pt b31 (.cells #[.int .u8 (6),.int .i64 (0),.int .i64 (2),.int .i64 (1),.int .i64 (0),.int .i64 (0),.int .i64 (0),.int .i64 (0),.int .u8 (3),.int .i64 (1),.int .i64 (2),.int .i64 (0),.int .i64 (100),.int .i64 (0),.int .i64 (0),.int .i64 (0)] 47),rowF HoF 104 p26 c27 [(⟨1,1,⟨50,0,0,0⟩⟩ : KHo)],rowF HoF 104 p24 c25 [(⟨1,1,⟨50,0,0,0⟩⟩ : KHo)],pt b23 (.cells #[.int .i64 (1)] 3),pt b22 (.cells #[.bool true,.int .i64 (0),.int .i64 (0),.slice p20 (1) c21] 37),rowF IntF 3 p20 c21 [1],rowF HoF 104 p15 c16 [(⟨1,1,⟨50,0,0,0⟩⟩ : KHo)],rowF HoF 104 p13 c14 [(⟨1,1,⟨50,0,0,0⟩⟩ : KHo)],pt b12 (.cells #[.int .i64 (1)] 3),pt b11 (.cells #[.bool true,.int .i64 (0),.int .i64 (0),.slice p9 (1) c10] 37),rowF IntF 3 p9 c10 [1],pt b8 (.cells #[.int .u8 (3),.int .i64 (1),.int .i64 (2),.int .i64 (0),.int .i64 (30),.int .i64 (0),.int .i64 (0),.int .i64 (0),.int .u8 (4),.int .i64 (1),.int .i64 (0),.int .i64 (0),.int .i64 (50),.int .i64 (0),.int .i64 (0),.int .i64 (0)] 47),pt b6 (.cells #[.bool true,.int .i64 (0),.int .i64 (0),.slice p4 (0) c5] 37),rowF IntF 3 p4 c5 [],pt b3 (.cells #[.int .u8 (1),.int .i64 (1),.int .i64 (0),.int .i64 (0),.int .i64 (100),.int .i64 (0),.int .i64 (0),.int .i64 (0)] 47)]) (by exact (perm_ix [1,0,2,3,4,5,6,7,8,9,10,11,12,13,14,15,16,17,18,19,20,21,22,23,24] 25 rfl (by kernel_rfl) (by kernel_rfl)))
 obtain ⟨β1,sb,kn,hw1,back⟩ := St.frame (L := [_]) (M := _ :: _ :: _ :: _ :: _ :: _ :: _ :: _ :: _ :: _ :: _ :: _ :: _ :: _ :: _ :: _ :: _ :: _ :: _ :: _ :: _ :: _ :: _ :: _ :: []) hw
 refine (purse_eq β1 w H2 b1 (((((((0 + 1) + 1) + 1) + 1) + 1) + 1) + 1) (((((((0 + 494) + 494) + 494) + 494) + 494) + 494) + 494) (-1) aX4 hw1 1 _ aw_p4).mono ?_
 rintro e w' ⟨rfl,hw'⟩
 refine ⟨_,rfl,_,back _ _ hw',?_⟩
 clear hw hw1 hw' back kn sb
 refine g_val (v := .agg #[.int .i64 (70),.int .i64 (0),.int .i64 (0),.int .i64 (0)]) rfl rfl rfl rfl rfl (e_build_a tt3.ok tt1.ok (vs := [(0,.int .i64 (70))]) (cells := #[.int .i64 (70),.int .i64 (0),.int .i64 (0),.int .i64 (0)]) rfl rfl) ?_
 refine g_val (v := .bool (decide ((⟨70,0,0,0⟩ : KAm) = (⟨70,0,0,0⟩ : KAm)))) rfl rfl rfl rfl rfl (e_eql_t (xs := amE (⟨70,0,0,0⟩ : KAm)) (ys := amE (⟨70,0,0,0⟩ : KAm)) tt12 tt13 tt14 rfl rfl rfl rfl (am_eq (x := (⟨70,0,0,0⟩ : KAm)) (y := (⟨70,0,0,0⟩ : KAm)))) ?_
 refine lE oktb (lE omb (l_split (s := 172) rfl (fun h => ?_) (fun h => ?_)))
 rotate_left; exact absurd rfl h
 refine gE omp (g_call rfl rfl rfl rfl rfl (cl0 (vs := [pp H2 0]) tt180.ok rfl rfl) ?_)
 intro w hw
 replace hw := hw.perm (L' := [houseR H2 b1 aX4 (((((((0 + 1) + 1) + 1) + 1) + 1) + 1) + 1) (((((((0 + 494) + 494) + 494) + 494) + 494) + 494) + 494) (-1),rowF IntF 3 p45 c46 [],pt b44 (.cells #[.int .u8 (5),.int .i64 (0),.int .i64 (0),.int .i64 (1),.int .i64 (0),.int .i64 (0),.int .i64 (0),.int .i64 (0)] 47),rowF HoF 104 p41 c42 [(⟨1,1,⟨50,0,0,0⟩⟩ : KHo)],pt b40 (.cells #[.bool false,.int .i64 (0),.int .i64 (0),.slice p38 (0) c39] 37),rowF IntF 3 p38 c39 [],pt b37 (.cells #[.bool false,.int .i64 (0),.int .i64 (0),.slice p35 (0) c36] 37),rowF IntF 3 p35 c36 [],pt b34 (.cells #[.bool true,.int .i64 (0),.int .i64 (0),.slice p45 (0) c46] 37),rowF IntF 3 p32 c33 [],pt b31 (.cells #[.int .u8 (6),.int .i64 (0),.int .i64 (2),.int .i64 (1),.int .i64 (0),.int .i64 (0),.int .i64 (0),.int .i64 (0),.int .u8 (3),.int .i64 (1),.int .i64 (2),.int .i64 (0),.int .i64 (100),.int .i64 (0),.int .i64 (0),.int .i64 (0)] 47),rowF HoF 104 p26 c27 [(⟨1,1,⟨50,0,0,0⟩⟩ : KHo)],rowF HoF 104 p24 c25 [(⟨1,1,⟨50,0,0,0⟩⟩ : KHo)],pt b23 (.cells #[.int .i64 (1)] 3),pt b22 (.cells #[.bool true,.int .i64 (0),.int .i64 (0),.slice p20 (1) c21] 37),rowF IntF 3 p20 c21 [1],rowF HoF 104 p15 c16 [(⟨1,1,⟨50,0,0,0⟩⟩ : KHo)],rowF HoF 104 p13 c14 [(⟨1,1,⟨50,0,0,0⟩⟩ : KHo)],pt b12 (.cells #[.int .i64 (1)] 3),pt b11 (.cells #[.bool true,.int .i64 (0),.int .i64 (0),.slice p9 (1) c10] 37),rowF IntF 3 p9 c10 [1],pt b8 (.cells #[.int .u8 (3),.int .i64 (1),.int .i64 (2),.int .i64 (0),.int .i64 (30),.int .i64 (0),.int .i64 (0),.int .i64 (0),.int .u8 (4),.int .i64 (1),.int .i64 (0),.int .i64 (0),.int .i64 (50),.int .i64 (0),.int .i64 (0),.int .i64 (0)] 47),pt b6 (.cells #[.bool true,.int .i64 (0),.int .i64 (0),.slice p4 (0) c5] 37),rowF IntF 3 p4 c5 [],pt b3 (.cells #[.int .u8 (1),.int .i64 (1),.int .i64 (0),.int .i64 (0),.int .i64 (100),.int .i64 (0),.int .i64 (0),.int .i64 (0)] 47)]) (by exact (perm_ix [0,1,2,3,4,5,6,7,8,9,10,11,12,13,14,15,16,17,18,19,20,21,22,23,24] 25 rfl (by kernel_rfl) (by kernel_rfl)))
 obtain ⟨β1,sb,kn,hw1,back⟩ := St.frame (L := [_]) (M := _ :: _ :: _ :: _ :: _ :: _ :: _ :: _ :: _ :: _ :: _ :: _ :: _ :: _ :: _ :: _ :: _ :: _ :: _ :: _ :: _ :: _ :: _ :: _ :: []) hw
 refine (holds_eq β1 w H2 b1 (((((((0 + 1) + 1) + 1) + 1) + 1) + 1) + 1) (((((((0 + 494) + 494) + 494) + 494) + 494) + 494) + 494) (-1) aX4 hw1 _ aw_h4).mono ?_
 rintro e w' ⟨p47,c48,rfl,hw'⟩
 refine ⟨_,rfl,_,back _ _ hw',?_⟩
 clear hw hw1 hw' back kn sb
 refine gE oln (gE oeq_ (lE oktb (lE oab (lnf (c_ret (ret1 Tryz.results17 rfl ?_))))))
 intro w hw
 exact ⟨rfl,st_mask [false,false,false,false,false,false,false,false,false,false,false,false,false,false,false,false,false,false,false,false,false,false,false,false,false,false] rfl hw⟩
end Go.Proofs
