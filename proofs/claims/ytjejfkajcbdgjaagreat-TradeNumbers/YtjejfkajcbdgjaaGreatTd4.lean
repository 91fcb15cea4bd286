/-
 Copies of maps; a transaction carried out: walked. Printed by a program of my own.
-/
import Derived.Test.YtjejfkajcbdgjaaGreatTdKind
import Derived.Test.YtjejfkajcbdgjaaGreatSlJb
namespace Go.Proofs
open Go Go.Sl Go.Td
theorem tt49 : Tryz.prog.underlying 84 = some (.map 3 44) := by kernel_rfl
theorem tt50 : Tryz.prog.underlying 85 = some (.map 3 104) := by kernel_rfl
theorem tt51 : Tryz.prog.underlying 86 = some (.map 3 82) := by kernel_rfl
theorem tt52 : (Tryz.prog.info? 88).bind (·.zero) = some (.agg #[.map none, .map none, .int .i64 (0), .int .i64 (0), .int .i64 (0), .int .i64 (0), .int .i64 (0), .map none]) := by kernel_rfl
theorem tt53 : (Tryz.prog.info? 37).bind (·.zero) = some (.agg #[.bool false, .int .i64 (0), .int .i64 (0), .slice none 0 0]) := by kernel_rfl
theorem tt54 : tyB Tryz.prog 88 true 8 = true := by kernel_rfl
theorem tt55 : cfB Tryz.prog 74 = true := by kernel_rfl
theorem tt56 : cfB Tryz.prog 75 = true := by kernel_rfl
theorem tt57 : fldB Tryz.prog 88 4 7 1 false = true := by kernel_rfl
theorem tt58 : tyB Tryz.prog 86 false 1 = true := by kernel_rfl
theorem tt59 : cfB Tryz.prog 76 = true := by kernel_rfl
theorem tt60 : stB Tryz.prog 37 [(0, 1), (1, 1), (2, 1), (3, 1)] = true := by kernel_rfl
theorem tt61 : tyB Tryz.prog 37 true 4 = true := by kernel_rfl
theorem tt62 : fldB Tryz.prog 37 3 3 1 false = true := by kernel_rfl
theorem tt63 : tyB Tryz.prog 35 false 1 = true := by kernel_rfl
theorem tt64 : (Tryz.prog.info? 3).bind (·.zero) = some (.int .i64 (0)) := by kernel_rfl
theorem tt65 : tyB Tryz.prog 80 true 3 = true := by kernel_rfl
theorem tt66 : stB Tryz.prog 82 [(0, 3), (3, 4)] = true := by kernel_rfl
theorem tt67 : (Tryz.prog.info? 82).bind (·.zero) = some (.agg #[.int .i64 (0), .int .i64 (0), .slice none 0 0, .bool false, .int .i64 (0), .int .i64 (0), .slice none 0 0]) := by kernel_rfl
theorem cloneP_ok (β : Base) (w : World) (m : Nat) (ks : List (Int × KAm)) (hw : St β [mpR PuM m ks] w) : Calls Tryz.prog 74 #[.map (some m)] w fun r w' => ∃ b, r = .returned (.map (some b)) ∧ St β [mpR PuM b ks, mpR PuM m ks] w' := by
 refine enter (n := 9) Tryz.func74 rfl Tryz.ntmps74 rfl ?_ hw
 refine c_seq ?_
 refine c_region ?_
 refine l_val (v := .map none) rfl rfl rfl (e_assign) ?_
 refine l_nil ?_
 refine f_then ?_
 refine c_seq ?_
 refine c_seq ?_
 refine c_region ?_
 refine l_val (v := .map (some m)) rfl rfl rfl (e_move) ?_
 refine l_val (v := .bool false) rfl rfl rfl (e_eql_mnil (b := some m) rfl rfl tt49) ?_
 refine l_nil ?_
 refine f_then ?_
 refine c_no rfl ?_
 refine c_skip ?_
 refine f_then ?_
 refine c_seq ?_
 refine c_region ?_
 refine l_val (v := .map (some m)) rfl rfl rfl (e_move) ?_
 refine l_val (v := .iface 84 (.map (some m))) rfl rfl rfl (e_mkiface (v := .map (some m)) rfl tt49 rfl) ?_
 refine l_mv rfl rfl rfl (m_clone (K := PuM) (h := 110) (b := m) (ks := ks) 0 rfl clone110 rfl rfl) ?_
 rintro _ _ ⟨b1, rfl, rfl⟩
 refine l_val (v := .map (some b1)) rfl rfl rfl (e_assert (v := .map (some b1)) rfl tt49 rfl) ?_
 refine l_val (v := .map (some b1)) rfl rfl rfl (e_assign) ?_
 refine l_nil ?_
 refine f_then ?_
 refine c_ret ?_
 refine ret1 Tryz.results74 (v := .map (some b1)) rfl ?_
 intro w hw
 exact ⟨b1, rfl, st_mask [true, true] rfl hw⟩
theorem cloneH_ok (β : Base) (w : World) (m : Nat) (ks : List (Int × KHo)) (hw : St β [mpR HoM m ks] w) : Calls Tryz.prog 75 #[.map (some m)] w fun r w' => ∃ b, r = .returned (.map (some b)) ∧ St β [mpR HoM b ks, mpR HoM m ks] w' := by
 refine enter (n := 9) Tryz.func75 rfl Tryz.ntmps75 rfl ?_ hw
 refine c_seq ?_
 refine c_region ?_
 refine l_val (v := .map none) rfl rfl rfl (e_assign) ?_
 refine l_nil ?_
 refine f_then ?_
 refine c_seq ?_
 refine c_seq ?_
 refine c_region ?_
 refine l_val (v := .map (some m)) rfl rfl rfl (e_move) ?_
 refine l_val (v := .bool false) rfl rfl rfl (e_eql_mnil (b := some m) rfl rfl tt50) ?_
 refine l_nil ?_
 refine f_then ?_
 refine c_no rfl ?_
 refine c_skip ?_
 refine f_then ?_
 refine c_seq ?_
 refine c_region ?_
 refine l_val (v := .map (some m)) rfl rfl rfl (e_move) ?_
 refine l_val (v := .iface 85 (.map (some m))) rfl rfl rfl (e_mkiface (v := .map (some m)) rfl tt50 rfl) ?_
 refine l_mv rfl rfl rfl (m_clone (K := HoM) (h := 110) (b := m) (ks := ks) 0 rfl clone110 rfl rfl) ?_
 rintro _ _ ⟨b1, rfl, rfl⟩
 refine l_val (v := .map (some b1)) rfl rfl rfl (e_assert (v := .map (some b1)) rfl tt50 rfl) ?_
 refine l_val (v := .map (some b1)) rfl rfl rfl (e_assign) ?_
 refine l_nil ?_
 refine f_then ?_
 refine c_ret ?_
 refine ret1 Tryz.results75 (v := .map (some b1)) rfl ?_
 intro w hw
 exact ⟨b1, rfl, st_mask [true, true] rfl hw⟩
theorem cloneM_ok (β : Base) (w : World) (m : Nat) (ks : List (Int × KMh)) (hw : St β [mpR MeM m ks] w) : Calls Tryz.prog 76 #[.map (some m)] w fun r w' => ∃ b, r = .returned (.map (some b)) ∧ St β [mpR MeM b ks, mpR MeM m ks] w' := by
 refine enter (n := 9) Tryz.func76 rfl Tryz.ntmps76 rfl ?_ hw
 refine c_seq ?_
 refine c_region ?_
 refine l_val (v := .map none) rfl rfl rfl (e_assign) ?_
 refine l_nil ?_
 refine f_then ?_
 refine c_seq ?_
 refine c_seq ?_
 refine c_region ?_
 refine l_val (v := .map (some m)) rfl rfl rfl (e_move) ?_
 refine l_val (v := .bool false) rfl rfl rfl (e_eql_mnil (b := some m) rfl rfl tt51) ?_
 refine l_nil ?_
 refine f_then ?_
 refine c_no rfl ?_
 refine c_skip ?_
 refine f_then ?_
 refine c_seq ?_
 refine c_region ?_
 refine l_val (v := .map (some m)) rfl rfl rfl (e_move) ?_
 refine l_val (v := .iface 86 (.map (some m))) rfl rfl rfl (e_mkiface (v := .map (some m)) rfl tt51 rfl) ?_
 refine l_mv rfl rfl rfl (m_clone (K := MeM) (h := 110) (b := m) (ks := ks) 0 rfl clone110 rfl rfl) ?_
 rintro _ _ ⟨b1, rfl, rfl⟩
 refine l_val (v := .map (some b1)) rfl rfl rfl (e_assert (v := .map (some b1)) rfl tt51 rfl) ?_
 refine l_val (v := .map (some b1)) rfl rfl rfl (e_assign) ?_
 refine l_nil ?_
 refine f_then ?_
 refine c_ret ?_
 refine ret1 Tryz.results76 (v := .map (some b1)) rfl ?_
 intro w hw
 exact ⟨b1, rfl, st_mask [true, true] rfl hw⟩
set_option maxHeartbeats 4000000 in
theorem carry_ok (β : Base) (w : World) (mp mh mm : Nat) (s : KSt) (ms : List (Int × KMh)) (hw : St β [mpR PuM mp s.ps, mpR HoM mh s.hs, mpR MeM mm ms] w) (au nu : Int) (v : Value) (xs : List KAct) (hs : Sl ActF.R β.heap v xs) (hfo : ∀ x ∈ xs, x.formed = true) (hn : xs.length ≤ 16) (M : Int) (hM : M ≤ 1152921504606846976) (hg : GoodS s M) : Calls Tryz.prog 39 #[.agg (stC mp mh mm s.last s.su), .agg #[Ix au, Ix nu, v]] w fun r w' => ∃ mq hq mn p c z ro, carryF s xs = (z, ro) ∧ r = .returned (.tuple #[.agg (stC mq hq mn z.last z.su), .agg #[.bool ro.done, Ix ro.at_, Ix ro.e, .slice p ro.holds.length c]]) ∧ St β [mpR PuM mq z.ps, mpR HoM hq z.hs, mpR MeM mn (MeM.put ms au ⟨au, nu, sla v, xs.length, slc v, ro.done, ro.at_, ro.e, p, ro.holds.length, c⟩), rowF IntF 3 p c ro.holds] w' := by
 obtain ⟨va, vc, rfl, vl, vm, ve⟩ := hs.get
 refine enter (n := 83) Tryz.func39 rfl Tryz.ntmps39 rfl ?_ hw
 refine c_seq ?_
 refine c_region ?_
 refine l_mv rfl rfl rfl (m_box (v := .agg #[.map (some mp), .map (some mh), Ix (s.last), Ix (s.su.a0), Ix (s.su.a1), Ix (s.su.a2), Ix (s.su.a3), .map (some mm)]) rfl) ?_
 rintro _ _ ⟨b1, rfl, rfl⟩
 refine l_mv rfl rfl rfl (m_box (v := .agg #[Ix (au), Ix (nu), .slice va (xs.length) (vc)]) rfl) ?_
 rintro _ _ ⟨b2, rfl, rfl⟩
 refine l_mv rfl rfl rfl (m_alloc tt52) ?_
 rintro _ _ ⟨b3, rfl, rfl⟩
 refine l_mv rfl rfl rfl (m_alloc tt53) ?_
 rintro _ _ ⟨b4, rfl, rfl⟩
 refine l_nil ?_
 refine f_then ?_
 refine c_scope ?_
 refine c_seq ?_
 refine c_region ?_
 refine l_mv rfl rfl rfl (m_mkmap (K := KiM)) ?_
 rintro _ _ ⟨b5, rfl, rfl⟩
 refine l_mu rfl rfl (m_minsert (K := KiM) (b := b5) (ks := []) (k := 1) (v := (some 67)) 0 rfl rfl rfl rfl rfl) ?_
 refine l_mu rfl rfl (m_minsert (K := KiM) (b := b5) (ks := (KiM.put [] 1 (some 67))) (k := 2) (v := (some 68)) 0 rfl rfl rfl rfl rfl) ?_
 refine l_mu rfl rfl (m_minsert (K := KiM) (b := b5) (ks := (KiM.put (KiM.put [] 1 (some 67)) 2 (some 68))) (k := 3) (v := (some 69)) 0 rfl rfl rfl rfl rfl) ?_
 refine l_mu rfl rfl (m_minsert (K := KiM) (b := b5) (ks := (KiM.put (KiM.put (KiM.put [] 1 (some 67)) 2 (some 68)) 3 (some 69))) (k := 4) (v := (some 70)) 0 rfl rfl rfl rfl rfl) ?_
 refine l_mu rfl rfl (m_minsert (K := KiM) (b := b5) (ks := (KiM.put (KiM.put (KiM.put (KiM.put [] 1 (some 67)) 2 (some 68)) 3 (some 69)) 4 (some 70))) (k := 5) (v := (some 71)) 0 rfl rfl rfl rfl rfl) ?_
 refine l_mu rfl rfl (m_minsert (K := KiM) (b := b5) (ks := (KiM.put (KiM.put (KiM.put (KiM.put (KiM.put [] 1 (some 67)) 2 (some 68)) 3 (some 69)) 4 (some 70)) 5 (some 71))) (k := 6) (v := (some 72)) 0 rfl rfl rfl rfl rfl) ?_
 refine l_mu rfl rfl (m_minsert (K := KiM) (b := b5) (ks := (KiM.put (KiM.put (KiM.put (KiM.put (KiM.put (KiM.put [] 1 (some 67)) 2 (some 68)) 3 (some 69)) 4 (some 70)) 5 (some 71)) 6 (some 72))) (k := 7) (v := (some 73)) 0 rfl rfl rfl rfl rfl) ?_
 refine l_val (v := .map (some b5)) rfl rfl rfl (e_move) ?_
 refine l_val (v := .map (some b5)) rfl rfl rfl (e_assign) ?_
 refine l_nil ?_
 refine f_then ?_
 refine c_seq ?_
 rw [kinds_put]
 refine c_region ?_
 refine l_val (v := .agg #[.map (some mp), .map (some mh), Ix (s.last), Ix (s.su.a0), Ix (s.su.a1), Ix (s.su.a2), Ix (s.su.a3), .map (some mm)]) rfl rfl rfl (e_load tt54 (cs := [.map (some mp), .map (some mh), Ix (s.last), Ix (s.su.a0), Ix (s.su.a1), Ix (s.su.a2), Ix (s.su.a3), .map (some mm)]) rfl (k_pt 4 (cs := #[.map (some mp), .map (some mh), Ix (s.last), Ix (s.su.a0), Ix (s.su.a1), Ix (s.su.a2), Ix (s.su.a3), .map (some mm)]) (vs := [.map (some mp), .map (some mh), Ix (s.last), Ix (s.su.a0), Ix (s.su.a1), Ix (s.su.a2), Ix (s.su.a3), .map (some mm)]) rfl rfl) rfl) ?_
 refine l_mv rfl rfl rfl (m_alloc tt52) ?_
 rintro _ _ ⟨b6, rfl, rfl⟩
 refine l_mu rfl rfl (m_store 0 tt54 (b := b6) (o := 0) (T := 88) (cs := #[.map none, .map none, .int .i64 (0), .int .i64 (0), .int .i64 (0), .int .i64 (0), .int .i64 (0), .map none]) (cs' := #[.map (some mp), .map (some mh), Ix (s.last), Ix (s.su.a0), Ix (s.su.a1), Ix (s.su.a2), Ix (s.su.a3), .map (some mm)]) (v := .agg #[.map (some mp), .map (some mh), Ix (s.last), Ix (s.su.a0), Ix (s.su.a1), Ix (s.su.a2), Ix (s.su.a3), .map (some mm)]) rfl rfl rfl rfl rfl rfl rfl) ?_
 refine l_nil ?_
 refine f_then ?_
 refine c_seq ?_
 refine c_any [⟨[], [], [0], [16], fun f => f 16 = .pointer (some ⟨b1, 0, none⟩)⟩, ⟨[0], [0], [], [17], fun f => f 17 = .map (some mp)⟩, ⟨[0, 1], [1], [], [18], fun f => f 18 = .map (some (mpb (f 18)))⟩, ⟨[], [], [0], [19], fun f => f 19 = .pointer (some ⟨b1, 1, none⟩)⟩, ⟨[3], [3], [], [20], fun f => f 20 = .map (some mh)⟩, ⟨[0, 1, 2, 3, 4], [4], [], [21], fun f => f 21 = .map (some (mpb (f 21)))⟩, ⟨[], [], [0], [22], fun f => f 22 = .pointer (some ⟨b1, 7, none⟩)⟩, ⟨[6], [6], [], [23], fun f => f 23 = .map (some mm)⟩, ⟨[0, 1, 2, 3, 4, 5, 6, 7], [7], [], [24], fun f => f 24 = .map (some (mpb (f 24)))⟩, ⟨[0, 1, 2, 3, 4, 5, 6, 7, 8], [], [1], [25], fun f => f 25 = .pointer (some ⟨b6, 0, none⟩)⟩, ⟨[0, 1, 2, 3, 4, 5, 6, 7, 8, 9], [9, 2], [], [], fun _ => True⟩, ⟨[0, 1, 2, 3, 4, 5, 6, 7, 8, 9, 10], [], [1], [26], fun f => f 26 = .pointer (some ⟨b6, 1, none⟩)⟩, ⟨[0, 1, 2, 3, 4, 5, 6, 7, 8, 9, 10, 11], [11, 5], [], [], fun _ => True⟩, ⟨[0, 1, 2, 3, 4, 5, 6, 7, 8, 9, 10, 11, 12], [], [1], [27], fun f => f 27 = .pointer (some ⟨b6, 7, none⟩)⟩, ⟨[0, 1, 2, 3, 4, 5, 6, 7, 8, 9, 10, 11, 12, 13], [13, 8], [], [], fun _ => True⟩] [⟨none, (some 10), [10], [], fun _ => pt b6 (.cells #[.map (some mp), .map (some mh), Ix (s.last), Ix (s.su.a0), Ix (s.su.a1), Ix (s.su.a2), Ix (s.su.a3), .map (some mm)] 88)⟩, ⟨none, none, [], [], fun _ => mpR KiM b5 kindsL⟩, ⟨none, none, [], [], fun _ => pt b4 (.cells #[.bool false, .int .i64 (0), .int .i64 (0), .slice none 0 0] 37)⟩, ⟨none, none, [], [], fun _ => pt b3 (.cells #[.map none, .map none, .int .i64 (0), .int .i64 (0), .int .i64 (0), .int .i64 (0), .int .i64 (0), .map none] 88)⟩, ⟨none, none, [], [], fun _ => pt b2 (.cells #[Ix (au), Ix (nu), .slice va (xs.length) (vc)] 80)⟩, ⟨none, none, [1, 4, 7], [], fun _ => pt b1 (.cells #[.map (some mp), .map (some mh), Ix (s.last), Ix (s.su.a0), Ix (s.su.a1), Ix (s.su.a2), Ix (s.su.a3), .map (some mm)] 88)⟩, ⟨none, (some 2), [2], [], fun _ => mpR PuM mp s.ps⟩, ⟨none, (some 5), [5], [], fun _ => mpR HoM mh s.hs⟩, ⟨none, (some 8), [8], [], fun _ => mpR MeM mm ms⟩, ⟨(some 2), none, [], [18], fun f => mpR PuM (mpb (f 18)) s.ps⟩, ⟨(some 2), none, [], [], fun _ => mpR PuM mp s.ps⟩, ⟨(some 5), none, [], [21], fun f => mpR HoM (mpb (f 21)) s.hs⟩, ⟨(some 5), none, [], [], fun _ => mpR HoM mh s.hs⟩, ⟨(some 8), none, [], [24], fun f => mpR MeM (mpb (f 24)) ms⟩, ⟨(some 8), none, [], [], fun _ => mpR MeM mm ms⟩, ⟨(some 10), (some 12), [12], [18], fun f => pt b6 (.cells #[.map (some (mpb (f 18))), .map (some mh), Ix (s.last), Ix (s.su.a0), Ix (s.su.a1), Ix (s.su.a2), Ix (s.su.a3), .map (some mm)] 88)⟩, ⟨(some 12), (some 14), [14], [18, 21], fun f => pt b6 (.cells #[.map (some (mpb (f 18))), .map (some (mpb (f 21))), Ix (s.last), Ix (s.su.a0), Ix (s.su.a1), Ix (s.su.a2), Ix (s.su.a3), .map (some mm)] 88)⟩, ⟨(some 14), none, [], [18, 21, 24], fun f => pt b6 (.cells #[.map (some (mpb (f 18))), .map (some (mpb (f 21))), Ix (s.last), Ix (s.su.a0), Ix (s.su.a1), Ix (s.su.a2), Ix (s.su.a3), .map (some (mpb (f 24)))] 88)⟩] [(2, .pointer (some ⟨b1, 0, none⟩)), (7, .pointer (some ⟨b6, 0, none⟩)), (3, .pointer (some ⟨b2, 0, none⟩)), (4, .pointer (some ⟨b3, 0, none⟩)), (5, .pointer (some ⟨b4, 0, none⟩)), (6, .map (some b5))] [0, 2, 3, 4, 5, 1] [] (by kernel_rfl) (by kernel_rfl) (by kernel_rfl) (by kernel_rfl) rfl ⟨rfl, rfl, rfl, rfl, rfl, rfl, trivial⟩ ⟨?_, ?_, ?_, ?_, ?_, ?_, ?_, ?_, ?_, ?_, ?_, ?_, ?_, ?_, ?_, trivial⟩ ?_
 ·rintro f M - ⟨i0, -⟩
  have hs2 : f 2 = .pointer (some ⟨b1, 0, none⟩) := i0
  refine ob_start (L' := M) (by rfl) (up_cons rfl hs2) ?_
  refine l_val (v := .pointer (some ⟨b1, 0, none⟩)) rfl rfl rfl (e_fieldPt (b := b1) (o := 0) rfl tt32) ?_
  refine l_nil ?_
  exact f_owes_d (up_cons rfl hs2) rfl (List.Perm.refl _)
 ·rintro f M ⟨k0, -⟩ -
  have hs16 : f 16 = .pointer (some ⟨b1, 0, none⟩) := k0
  refine ob_start (L' := pt b1 (.cells #[.map (some mp), .map (some mh), Ix (s.last), Ix (s.su.a0), Ix (s.su.a1), Ix (s.su.a2), Ix (s.su.a3), .map (some mm)] 88) :: M) (by rfl) (up_cons rfl hs16) ?_
  refine l_val (v := .map (some mp)) rfl rfl rfl (e_load1 tt33 (v := .map (some mp)) rfl (k_pt 0 (cs := #[.map (some mp), .map (some mh), Ix (s.last), Ix (s.su.a0), Ix (s.su.a1), Ix (s.su.a2), Ix (s.su.a3), .map (some mm)]) (vs := [.map (some mp)]) rfl rfl)) ?_
  refine l_nil ?_
  exact f_owes_d (up_cons rfl hs16) rfl (perm_front 0 rfl)
 ·rintro f M ⟨k0, -⟩ -
  have hs17 : f 17 = .map (some mp) := k0
  refine ob_start (L' := mpR PuM mp s.ps :: M) (by rfl) (up_cons rfl hs17) ?_
  refine l_call rfl rfl rfl (cl_value (fst := []) (cap := []) (vs := [.map (some mp)]) (all := [.map (some mp)]) tt55 rfl rfl rfl) ?_
  intro w hw
  replace hw := hw.perm (L' := _ :: M) (by exact (perm_front 0 rfl))
  obtain ⟨β1, sb, kn, hw1, back⟩ := St.frame (L := [_]) (M := M) hw
  refine (cloneP_ok β1 w mp s.ps hw1).mono ?_
  rintro e w' ⟨b8, rfl, hw'⟩
  refine ⟨_, rfl, _, back _ _ hw', ?_⟩
  clear hw hw1 hw' back kn sb
  refine l_nil ?_
  exact f_owes_d (up_cons rfl hs17) rfl ((perm_front 1 rfl).trans (perm_front 1 rfl))
 ·rintro f M - ⟨i0, -⟩
  have hs2 : f 2 = .pointer (some ⟨b1, 0, none⟩) := i0
  refine ob_start (L' := M) (by rfl) (up_cons rfl hs2) ?_
  refine l_val (v := .pointer (some ⟨b1, 1, none⟩)) rfl rfl rfl (e_fieldPt (b := b1) (o := 0) rfl tt38) ?_
  refine l_nil ?_
  exact f_owes_d (up_cons rfl hs2) rfl (List.Perm.refl _)
 ·rintro f M ⟨k0, -⟩ -
  have hs19 : f 19 = .pointer (some ⟨b1, 1, none⟩) := k0
  refine ob_start (L' := pt b1 (.cells #[.map (some mp), .map (some mh), Ix (s.last), Ix (s.su.a0), Ix (s.su.a1), Ix (s.su.a2), Ix (s.su.a3), .map (some mm)] 88) :: M) (by rfl) (up_cons rfl hs19) ?_
  refine l_val (v := .map (some mh)) rfl rfl rfl (e_load1 tt39 (v := .map (some mh)) rfl (k_pt 0 (cs := #[.map (some mp), .map (some mh), Ix (s.last), Ix (s.su.a0), Ix (s.su.a1), Ix (s.su.a2), Ix (s.su.a3), .map (some mm)]) (vs := [.map (some mh)]) rfl rfl)) ?_
  refine l_nil ?_
  exact f_owes_d (up_cons rfl hs19) rfl (perm_front 0 rfl)
 ·rintro f M ⟨k0, -⟩ -
  have hs20 : f 20 = .map (some mh) := k0
  refine ob_start (L' := mpR HoM mh s.hs :: M) (by rfl) (up_cons rfl hs20) ?_
  refine l_call rfl rfl rfl (cl_value (fst := []) (cap := []) (vs := [.map (some mh)]) (all := [.map (some mh)]) tt56 rfl rfl rfl) ?_
  intro w hw
  replace hw := hw.perm (L' := _ :: M) (by exact (perm_front 0 rfl))
  obtain ⟨β1, sb, kn, hw1, back⟩ := St.frame (L := [_]) (M := M) hw
  refine (cloneH_ok β1 w mh s.hs hw1).mono ?_
  rintro e w' ⟨b10, rfl, hw'⟩
  refine ⟨_, rfl, _, back _ _ hw', ?_⟩
  clear hw hw1 hw' back kn sb
  refine l_nil ?_
  exact f_owes_d (up_cons rfl hs20) rfl ((perm_front 1 rfl).trans (perm_front 1 rfl))
 ·rintro f M - ⟨i0, -⟩
  have hs2 : f 2 = .pointer (some ⟨b1, 0, none⟩) := i0
  refine ob_start (L' := M) (by rfl) (up_cons rfl hs2) ?_
  refine l_val (v := .pointer (some ⟨b1, 7, none⟩)) rfl rfl rfl (e_fieldPt (b := b1) (o := 0) rfl tt57) ?_
  refine l_nil ?_
  exact f_owes_d (up_cons rfl hs2) rfl (List.Perm.refl _)
 ·rintro f M ⟨k0, -⟩ -
  have hs22 : f 22 = .pointer (some ⟨b1, 7, none⟩) := k0
  refine ob_start (L' := pt b1 (.cells #[.map (some mp), .map (some mh), Ix (s.last), Ix (s.su.a0), Ix (s.su.a1), Ix (s.su.a2), Ix (s.su.a3), .map (some mm)] 88) :: M) (by rfl) (up_cons rfl hs22) ?_
  refine l_val (v := .map (some mm)) rfl rfl rfl (e_load1 tt58 (v := .map (some mm)) rfl (k_pt 0 (cs := #[.map (some mp), .map (some mh), Ix (s.last), Ix (s.su.a0), Ix (s.su.a1), Ix (s.su.a2), Ix (s.su.a3), .map (some mm)]) (vs := [.map (some mm)]) rfl rfl)) ?_
  refine l_nil ?_
  exact f_owes_d (up_cons rfl hs22) rfl (perm_front 0 rfl)
 ·rintro f M ⟨k0, -⟩ -
  have hs23 : f 23 = .map (some mm) := k0
  refine ob_start (L' := mpR MeM mm ms :: M) (by rfl) (up_cons rfl hs23) ?_
  refine l_call rfl rfl rfl (cl_value (fst := []) (cap := []) (vs := [.map (some mm)]) (all := [.map (some mm)]) tt59 rfl rfl rfl) ?_
  intro w hw
  replace hw := hw.perm (L' := _ :: M) (by exact (perm_front 0 rfl))
  obtain ⟨β1, sb, kn, hw1, back⟩ := St.frame (L := [_]) (M := M) hw
  refine (cloneM_ok β1 w mm ms hw1).mono ?_
  rintro e w' ⟨b12, rfl, hw'⟩
  refine ⟨_, rfl, _, back _ _ hw', ?_⟩
  clear hw hw1 hw' back kn sb
  refine l_nil ?_
  exact f_owes_d (up_cons rfl hs23) rfl ((perm_front 1 rfl).trans (perm_front 1 rfl))
 ·rintro f M - ⟨i0, -⟩
  have hs7 : f 7 = .pointer (some ⟨b6, 0, none⟩) := i0
  refine ob_start (L' := M) (by rfl) (up_cons rfl hs7) ?_
  refine l_val (v := .pointer (some ⟨b6, 0, none⟩)) rfl rfl rfl (e_fieldPt (b := b6) (o := 0) rfl tt32) ?_
  refine l_nil ?_
  exact f_owes_d (up_cons rfl hs7) rfl (List.Perm.refl _)
 ·rintro f M ⟨k0, k1, -⟩ -
  have hs25 : f 25 = .pointer (some ⟨b6, 0, none⟩) := k0
  have hs18 : f 18 = .map (some (mpb (f 18))) := k1
  refine ob_start (L' := pt b6 (.cells #[.map (some mp), .map (some mh), Ix (s.last), Ix (s.su.a0), Ix (s.su.a1), Ix (s.su.a2), Ix (s.su.a3), .map (some mm)] 88) :: M) (by rfl) (up_cons (up_cons rfl hs25) hs18) ?_
  refine l_mu rfl rfl (m_store 0 tt33 (b := b6) (o := 0) (T := 88) (cs := #[.map (some mp), .map (some mh), Ix (s.last), Ix (s.su.a0), Ix (s.su.a1), Ix (s.su.a2), Ix (s.su.a3), .map (some mm)]) (cs' := #[.map (some (mpb (f 18))), .map (some mh), Ix (s.last), Ix (s.su.a0), Ix (s.su.a1), Ix (s.su.a2), Ix (s.su.a3), .map (some mm)]) (v := .map (some (mpb (f 18)))) rfl rfl rfl rfl rfl rfl rfl) ?_
  refine l_nil ?_
  exact f_owes_n (up_cons (up_cons rfl hs25) hs18) trivial (perm_front 0 rfl)
 ·rintro f M - ⟨i0, -⟩
  have hs7 : f 7 = .pointer (some ⟨b6, 0, none⟩) := i0
  refine ob_start (L' := M) (by rfl) (up_cons rfl hs7) ?_
  refine l_val (v := .pointer (some ⟨b6, 1, none⟩)) rfl rfl rfl (e_fieldPt (b := b6) (o := 0) rfl tt38) ?_
  refine l_nil ?_
  exact f_owes_d (up_cons rfl hs7) rfl (List.Perm.refl _)
 ·rintro f M ⟨k0, k1, -⟩ -
  have hs26 : f 26 = .pointer (some ⟨b6, 1, none⟩) := k0
  have hs21 : f 21 = .map (some (mpb (f 21))) := k1
  refine ob_start (L' := pt b6 (.cells #[.map (some (mpb (f 18))), .map (some mh), Ix (s.last), Ix (s.su.a0), Ix (s.su.a1), Ix (s.su.a2), Ix (s.su.a3), .map (some mm)] 88) :: M) (by rfl) (up_cons (up_cons rfl hs26) hs21) ?_
  refine l_mu rfl rfl (m_store 0 tt39 (b := b6) (o := 1) (T := 88) (cs := #[.map (some (mpb (f 18))), .map (some mh), Ix (s.last), Ix (s.su.a0), Ix (s.su.a1), Ix (s.su.a2), Ix (s.su.a3), .map (some mm)]) (cs' := #[.map (some (mpb (f 18))), .map (some (mpb (f 21))), Ix (s.last), Ix (s.su.a0), Ix (s.su.a1), Ix (s.su.a2), Ix (s.su.a3), .map (some mm)]) (v := .map (some (mpb (f 21)))) rfl rfl rfl rfl rfl rfl rfl) ?_
  refine l_nil ?_
  exact f_owes_n (up_cons (up_cons rfl hs26) hs21) trivial (perm_front 0 rfl)
 ·rintro f M - ⟨i0, -⟩
  have hs7 : f 7 = .pointer (some ⟨b6, 0, none⟩) := i0
  refine ob_start (L' := M) (by rfl) (up_cons rfl hs7) ?_
  refine l_val (v := .pointer (some ⟨b6, 7, none⟩)) rfl rfl rfl (e_fieldPt (b := b6) (o := 0) rfl tt57) ?_
  refine l_nil ?_
  exact f_owes_d (up_cons rfl hs7) rfl (List.Perm.refl _)
 ·rintro f M ⟨k0, k1, -⟩ -
  have hs27 : f 27 = .pointer (some ⟨b6, 7, none⟩) := k0
  have hs24 : f 24 = .map (some (mpb (f 24))) := k1
  refine ob_start (L' := pt b6 (.cells #[.map (some (mpb (f 18))), .map (some (mpb (f 21))), Ix (s.last), Ix (s.su.a0), Ix (s.su.a1), Ix (s.su.a2), Ix (s.su.a3), .map (some mm)] 88) :: M) (by rfl) (up_cons (up_cons rfl hs27) hs24) ?_
  refine l_mu rfl rfl (m_store 0 tt58 (b := b6) (o := 7) (T := 88) (cs := #[.map (some (mpb (f 18))), .map (some (mpb (f 21))), Ix (s.last), Ix (s.su.a0), Ix (s.su.a1), Ix (s.su.a2), Ix (s.su.a3), .map (some mm)]) (cs' := #[.map (some (mpb (f 18))), .map (some (mpb (f 21))), Ix (s.last), Ix (s.su.a0), Ix (s.su.a1), Ix (s.su.a2), Ix (s.su.a3), .map (some (mpb (f 24)))]) (v := .map (some (mpb (f 24)))) rfl rfl rfl rfl rfl rfl rfl) ?_
  refine l_nil ?_
  exact f_owes_n (up_cons (up_cons rfl hs27) hs24) trivial (perm_front 0 rfl)
 rintro fa13 ⟨-, -, -, -, -, -, -, -, -, -, -, -, -, -, -, -⟩ ⟨j0, j1, j2, j3, j4, j5, -⟩
 refine f_re (L' := [mpR KiM b5 kindsL, pt b4 (.cells #[.bool false, .int .i64 (0), .int .i64 (0), .slice none 0 0] 37), pt b3 (.cells #[.map none, .map none, .int .i64 (0), .int .i64 (0), .int .i64 (0), .int .i64 (0), .int .i64 (0), .map none] 88), pt b2 (.cells #[Ix (au), Ix (nu), .slice va (xs.length) (vc)] 80), pt b1 (.cells #[.map (some mp), .map (some mh), Ix (s.last), Ix (s.su.a0), Ix (s.su.a1), Ix (s.su.a2), Ix (s.su.a3), .map (some mm)] 88), mpR PuM (mpb (fa13 18)) s.ps, mpR PuM mp s.ps, mpR HoM (mpb (fa13 21)) s.hs, mpR HoM mh s.hs, mpR MeM (mpb (fa13 24)) ms, mpR MeM mm ms, pt b6 (.cells #[.map (some (mpb (fa13 18))), .map (some (mpb (fa13 21))), Ix (s.last), Ix (s.su.a0), Ix (s.su.a1), Ix (s.su.a2), Ix (s.su.a3), .map (some (mpb (fa13 24)))] 88)]) (by rfl) ?_
 refine f_rebase (d := 2) (v := .pointer (some ⟨b1, 0, none⟩)) j0 ?_
 refine f_rebase (d := 3) (v := .pointer (some ⟨b2, 0, none⟩)) j1 ?_
 refine f_rebase (d := 4) (v := .pointer (some ⟨b3, 0, none⟩)) j2 ?_
 refine f_rebase (d := 5) (v := .pointer (some ⟨b4, 0, none⟩)) j3 ?_
 refine f_rebase (d := 6) (v := .map (some b5)) j4 ?_
 refine f_rebase (d := 7) (v := .pointer (some ⟨b6, 0, none⟩)) j5 ?_
 refine f_then ?_
 refine c_seq ?_
 refine c_region ?_
 refine l_val (v := .agg #[.bool true, .int .i64 (0), .int .i64 (0), .slice none 0 0]) rfl rfl rfl (e_build tt53 tt60 (vs := [(0, .bool true)]) (cells := #[.bool true, .int .i64 (0), .int .i64 (0), .slice none 0 0]) rfl rfl) ?_
 refine l_mv rfl rfl rfl (m_alloc tt53) ?_
 rintro _ _ ⟨b14, rfl, rfl⟩
 refine l_mu rfl rfl (m_store 0 tt61 (b := b14) (o := 0) (T := 37) (cs := #[.bool false, .int .i64 (0), .int .i64 (0), .slice none 0 0]) (cs' := #[.bool true, .int .i64 (0), .int .i64 (0), .slice none 0 0]) (v := .agg #[.bool true, .int .i64 (0), .int .i64 (0), .slice none 0 0]) rfl rfl rfl rfl rfl rfl rfl) ?_
 refine l_nil ?_
 refine f_then ?_
 refine c_seq ?_
 refine c_label ?_
 refine f_then ?_
 refine c_seq_cut (fun (f : Fm) (L : List Res) => ∃ (mq : Nat) (hq : Nat) (z : KSt) (ro : KRes) (p : Option Addr) (c : Nat), (f 3 = .pointer (some ⟨b2, 0, none⟩) ∧ f 4 = .pointer (some ⟨b3, 0, none⟩) ∧ f 5 = .pointer (some ⟨b4, 0, none⟩) ∧ f 7 = .pointer (some ⟨b6, 0, none⟩) ∧ f 8 = .pointer (some ⟨b14, 0, none⟩)) ∧ L = [pt b14 (.cells #[.bool (ro.done), Ix (ro.at_), Ix (ro.e), .slice p (ro.holds.length) c] 37), pt b4 (.cells #[.bool false, .int .i64 (0), .int .i64 (0), .slice none 0 0] 37), pt b3 (.cells #[.map none, .map none, .int .i64 (0), .int .i64 (0), .int .i64 (0), .int .i64 (0), .int .i64 (0), .map none] 88), pt b2 (.cells #[Ix (au), Ix (nu), .slice va (xs.length) (vc)] 80), mpR MeM (mpb (fa13 24)) ms, mpR MeM mm ms, pt b6 (.cells #[.map (some mq), .map (some hq), Ix (z.last), Ix (z.su.a0), Ix (z.su.a1), Ix (z.su.a2), Ix (z.su.a3), .map (some (mpb (fa13 24)))] 88), mpR PuM mq z.ps, mpR HoM hq z.hs, rowF IntF 3 p c ro.holds] ∧ ((z, ro) = carryF s xs)) ?_ ?_
 ·
  refine c_seq ?_
  refine c_emp (r := rowF IntF 3 none 0 []) (row_nil _ _ _) ?_
  refine c_region ?_
  refine l_val (v := .pointer (some ⟨b2, 2, none⟩)) rfl rfl rfl (e_fieldPt (b := b2) (o := 0) rfl tt22) ?_
  refine l_val (v := .slice va (xs.length) (vc)) rfl rfl rfl (e_load1 tt23 (v := .slice va (xs.length) (vc)) rfl (k_pt 5 (cs := #[Ix (au), Ix (nu), .slice va (xs.length) (vc)]) (vs := [.slice va (xs.length) (vc)]) rfl rfl)) ?_
  refine l_val (v := Nx (xs.length)) rfl rfl rfl (e_len (a := va) (n := xs.length) (c := vc) rfl tt15) ?_
  refine l_val (v := .int .i64 (0)) rfl rfl rfl (e_move) ?_
  refine l_nil ?_
  refine f_then ?_
  refine c_block ?_
  refine c_loop (fun (x_ : Nat × KSt × List Int × Option Addr × Nat) (f : Fm) (L : List Res) => match x_ with | (k, z, made, p, c) => (f 2 = .pointer (some ⟨b1, 0, none⟩) ∧ f 3 = .pointer (some ⟨b2, 0, none⟩) ∧ f 4 = .pointer (some ⟨b3, 0, none⟩) ∧ f 5 = .pointer (some ⟨b4, 0, none⟩) ∧ f 6 = .map (some b5) ∧ f 7 = .pointer (some ⟨b6, 0, none⟩) ∧ f 8 = .pointer (some ⟨b14, 0, none⟩) ∧ f 30 = .slice va (xs.length) (vc) ∧ f 31 = Nx (xs.length) ∧ f 32 = Nx (k)) ∧ L = [rowF IntF 3 p c made, pt b14 (.cells #[.bool true, .int .i64 (0), .int .i64 (0), .slice p (made.length) c] 37), mpR KiM b5 kindsL, pt b4 (.cells #[.bool false, .int .i64 (0), .int .i64 (0), .slice none 0 0] 37), pt b3 (.cells #[.map none, .map none, .int .i64 (0), .int .i64 (0), .int .i64 (0), .int .i64 (0), .int .i64 (0), .map none] 88), pt b2 (.cells #[Ix (au), Ix (nu), .slice va (xs.length) (vc)] 80), pt b1 (.cells #[.map (some mp), .map (some mh), Ix (s.last), Ix (s.su.a0), Ix (s.su.a1), Ix (s.su.a2), Ix (s.su.a3), .map (some mm)] 88), mpR PuM (mpb (fa13 18)) z.ps, mpR PuM mp s.ps, mpR HoM (mpb (fa13 21)) z.hs, mpR HoM mh s.hs, mpR MeM (mpb (fa13 24)) ms, mpR MeM mm ms, pt b6 (.cells #[.map (some (mpb (fa13 18))), .map (some (mpb (fa13 21))), Ix (z.last), Ix (z.su.a0), Ix (z.su.a1), Ix (z.su.a2), Ix (z.su.a3), .map (some (mpb (fa13 24)))] 88)] ∧ (k ≤ xs.length ∧ made.length ≤ k ∧ runA s z made k (xs.drop k) = carryF s xs ∧ GoodS z (M + k * 2147483648))) (fun (x_ : Nat × KSt × List Int × Option Addr × Nat) => match x_ with | (k, z, made, p, c) => xs.length - k) (0, s, [], none, 0) ?_ ?_
  ·exact ⟨⟨rfl, rfl, rfl, rfl, rfl, rfl, rfl, rfl, rfl, rfl⟩, rfl, ⟨by omega, by simp, rfl, hg.le (by omega)⟩⟩
  rintro ⟨k, z, made, p, c⟩ f0 L0 ⟨⟨hs2, hs3, hs4, hs5, hs6, hs7, hs8, hs30, hs31, hs32⟩, hL, ⟨hk, hmk, hrun, hg1⟩⟩
  subst L0
  refine rebase (d := 2) hs2 ?_
  refine rebase (d := 3) hs3 ?_
  refine rebase (d := 4) hs4 ?_
  refine rebase (d := 5) hs5 ?_
  refine rebase (d := 6) hs6 ?_
  refine rebase (d := 7) hs7 ?_
  refine rebase (d := 8) hs8 ?_
  refine rebase (d := 30) hs30 ?_
  refine rebase (d := 31) hs31 ?_
  refine rebase (d := 32) hs32 ?_
  clear hs2 hs3 hs4 hs5 hs6 hs7 hs8 hs30 hs31 hs32
  refine c_seq ?_
  refine c_region ?_
  refine l_val (v := .bool (decide (((k : Nat) : Int) < ((xs.length : Nat) : Int)))) rfl rfl rfl (e_lss (a := ((k : Nat) : Int)) (b := ((xs.length : Nat) : Int)) rfl rfl) ?_
  refine l_nil ?_
  refine f_then ?_
  refine c_seq ?_
  refine c_if (((k : Nat) : Int) < ((xs.length : Nat) : Int)) rfl (fun hc15 => ?_) (fun hc15 => ?_)
  ·
   refine c_skip ?_
   refine f_then ?_
   refine c_seq ?_
   refine c_block ?_
   refine c_seq ?_
   refine c_region ?_
   refine l_val (v := Nx (k)) rfl rfl rfl (e_move) ?_
   obtain ⟨x16, hx17⟩ : ∃ x_, (xs)[k]? = some x_ := ⟨_, List.getElem?_eq_getElem (by omega)⟩
   obtain ⟨ha18, cs19, hc20, rfl⟩ := ve _ _ hx17
   refine l_val (v := .pointer (some ((ba va).add (k * 8)))) rfl rfl rfl (e_indexAddr (k := k) (len := xs.length) (cap := vc) (a := va) rfl rfl tt16 (by omega) ha18) ?_
   refine l_val (v := .agg #[Bx (x16.kind), Ix (x16.owner), Ix (x16.other), Ix (x16.hold), Ix (x16.a.a0), Ix (x16.a.a1), Ix (x16.a.a2), Ix (x16.a.a3)]) rfl rfl rfl (e_load tt17 (cs := [Bx (x16.kind), Ix (x16.owner), Ix (x16.other), Ix (x16.hold), Ix (x16.a.a0), Ix (x16.a.a1), Ix (x16.a.a2), Ix (x16.a.a3)]) rfl (Knows.of_base (Cs.mono _ _) hc20) rfl) ?_
   refine l_mv rfl rfl rfl (m_alloc tt47) ?_
   rintro _ _ ⟨b22, rfl, rfl⟩
   refine l_val (v := Nx (k)) rfl rfl rfl (e_assign) ?_
   refine l_mu rfl rfl (m_store 0 tt17 (b := b22) (o := 0) (T := 47) (cs := #[.int .u8 (0), .int .i64 (0), .int .i64 (0), .int .i64 (0), .int .i64 (0), .int .i64 (0), .int .i64 (0), .int .i64 (0)]) (cs' := #[Bx (x16.kind), Ix (x16.owner), Ix (x16.other), Ix (x16.hold), Ix (x16.a.a0), Ix (x16.a.a1), Ix (x16.a.a2), Ix (x16.a.a3)]) (v := .agg #[Bx (x16.kind), Ix (x16.owner), Ix (x16.other), Ix (x16.hold), Ix (x16.a.a0), Ix (x16.a.a1), Ix (x16.a.a2), Ix (x16.a.a3)]) rfl rfl rfl rfl rfl rfl rfl) ?_
   refine l_nil ?_
   refine f_then ?_
   refine c_seq ?_
   have hxf := hfo _ (List.mem_of_getElem? hx17)
   have hklt := (List.getElem?_eq_some_iff.1 hx17).1
   obtain ⟨gg, hgg, hcf, hact⟩ := act_call x16 hxf
   refine c_region ?_
   refine l_val (v := .map (some b5)) rfl rfl rfl (e_move) ?_
   refine l_val (v := .pointer (some ⟨b22, 0, none⟩)) rfl rfl rfl (e_fieldPt (b := b22) (o := 0) rfl tt4) ?_
   refine l_val (v := Bx (x16.kind)) rfl rfl rfl (e_load1 tt5 (v := Bx (x16.kind)) rfl (k_pt 0 (cs := #[Bx (x16.kind), Ix (x16.owner), Ix (x16.other), Ix (x16.hold), Ix (x16.a.a0), Ix (x16.a.a1), Ix (x16.a.a2), Ix (x16.a.a3)]) (vs := [Bx (x16.kind)]) rfl rfl)) ?_
   refine l_val (v := .func (.func gg) #[] #[]) rfl rfl rfl (ev_eq (congrArg KiM.encv hgg) (e_look1 (K := KiM) (b := b5) (ks := kindsL) (k := ((x16.kind).toNat : Int)) rfl rfl rfl (Knows.of_res 3 rfl (mpR.mono _ _ _) fun _ h => h))) ?_
   refine l_val (v := .agg #[Bx (x16.kind), Ix (x16.owner), Ix (x16.other), Ix (x16.hold), Ix (x16.a.a0), Ix (x16.a.a1), Ix (x16.a.a2), Ix (x16.a.a3)]) rfl rfl rfl (e_load tt17 (cs := [Bx (x16.kind), Ix (x16.owner), Ix (x16.other), Ix (x16.hold), Ix (x16.a.a0), Ix (x16.a.a1), Ix (x16.a.a2), Ix (x16.a.a3)]) rfl (k_pt 0 (cs := #[Bx (x16.kind), Ix (x16.owner), Ix (x16.other), Ix (x16.hold), Ix (x16.a.a0), Ix (x16.a.a1), Ix (x16.a.a2), Ix (x16.a.a3)]) (vs := [Bx (x16.kind), Ix (x16.owner), Ix (x16.other), Ix (x16.hold), Ix (x16.a.a0), Ix (x16.a.a1), Ix (x16.a.a2), Ix (x16.a.a3)]) rfl rfl) rfl) ?_
   refine l_call rfl rfl rfl (cl_value (fst := []) (cap := []) (vs := [.pointer (some ⟨b6, 0, none⟩), .agg #[Bx (x16.kind), Ix (x16.owner), Ix (x16.other), Ix (x16.hold), Ix (x16.a.a0), Ix (x16.a.a1), Ix (x16.a.a2), Ix (x16.a.a3)]]) (all := [.pointer (some ⟨b6, 0, none⟩), .agg #[Bx (x16.kind), Ix (x16.owner), Ix (x16.other), Ix (x16.hold), Ix (x16.a.a0), Ix (x16.a.a1), Ix (x16.a.a2), Ix (x16.a.a3)]]) hcf rfl rfl rfl) ?_
   intro w hw
   replace hw := hw.perm (L' := [pt b6 (.cells #[.map (some (mpb (fa13 18))), .map (some (mpb (fa13 21))), Ix (z.last), Ix (z.su.a0), Ix (z.su.a1), Ix (z.su.a2), Ix (z.su.a3), .map (some (mpb (fa13 24)))] 88), mpR PuM (mpb (fa13 18)) z.ps, mpR HoM (mpb (fa13 21)) z.hs, pt b22 (.cells #[Bx (x16.kind), Ix (x16.owner), Ix (x16.other), Ix (x16.hold), Ix (x16.a.a0), Ix (x16.a.a1), Ix (x16.a.a2), Ix (x16.a.a3)] 47), rowF IntF 3 p c made, pt b14 (.cells #[.bool true, .int .i64 (0), .int .i64 (0), .slice p (made.length) c] 37), mpR KiM b5 kindsL, pt b4 (.cells #[.bool false, .int .i64 (0), .int .i64 (0), .slice none 0 0] 37), pt b3 (.cells #[.map none, .map none, .int .i64 (0), .int .i64 (0), .int .i64 (0), .int .i64 (0), .int .i64 (0), .map none] 88), pt b2 (.cells #[Ix (au), Ix (nu), .slice va (xs.length) (vc)] 80), pt b1 (.cells #[.map (some mp), .map (some mh), Ix (s.last), Ix (s.su.a0), Ix (s.su.a1), Ix (s.su.a2), Ix (s.su.a3), .map (some mm)] 88), mpR PuM mp s.ps, mpR HoM mh s.hs, mpR MeM (mpb (fa13 24)) ms, mpR MeM mm ms]) (by exact (perm_ix [14, 8, 10, 0, 1, 2, 3, 4, 5, 6, 7, 9, 11, 12, 13] 15 rfl (by kernel_rfl) (by kernel_rfl)))
   obtain ⟨β1, sb, kn, hw1, back⟩ := St.frame (L := [_, _, _]) (M := _ :: _ :: _ :: _ :: _ :: _ :: _ :: _ :: _ :: _ :: _ :: _ :: []) hw
   refine (hact β1 w b6 (mpb (fa13 18)) (mpb (fa13 21)) (mpb (fa13 24)) z hw1 hg1.p hg1.h (bd_le hg1.su (by omega)) ⟨by have := hg1.l0; omega, by have := hg1.lM; omega⟩).mono ?_
   rintro e w' ⟨rfl, hw'⟩
   refine ⟨_, rfl, _, back _ _ hw', ?_⟩
   clear hw hw1 hw' back kn sb
   refine l_val (v := .tuple #[Ix ((actS z x16).2.1), Ix ((actS z x16).2.2)]) rfl rfl rfl (e_move) ?_
   refine l_val (v := Ix ((actS z x16).2.1)) rfl rfl rfl (e_extract (vs := #[Ix ((actS z x16).2.1), Ix ((actS z x16).2.2)]) rfl rfl) ?_
   refine l_val (v := Ix ((actS z x16).2.2)) rfl rfl rfl (e_extract (vs := #[Ix ((actS z x16).2.1), Ix ((actS z x16).2.2)]) rfl rfl) ?_
   refine l_val (v := Ix ((actS z x16).2.1)) rfl rfl rfl (e_assign) ?_
   refine l_val (v := Ix ((actS z x16).2.2)) rfl rfl rfl (e_assign) ?_
   refine l_nil ?_
   refine f_then ?_
   refine c_block ?_
   refine c_seq ?_
   refine c_region ?_
   refine l_val (v := Ix ((actS z x16).2.2)) rfl rfl rfl (e_move) ?_
   refine l_val (v := .bool (decide (((actS z x16).2.2) ≠ (0 : Int)))) rfl rfl rfl (e_neq (a := ((actS z x16).2.2)) (b := (0 : Int)) rfl rfl) ?_
   refine l_val (v := .bool (decide (((actS z x16).2.2) ≠ (0 : Int)))) rfl rfl rfl (e_assign) ?_
   refine l_nil ?_
   refine f_then ?_
   refine c_if (((actS z x16).2.2) ≠ (0 : Int)) rfl (fun hc23 => ?_) (fun hc23 => ?_)
   ·
    refine c_seq ?_
    refine c_region ?_
    refine l_val (v := Nx (k)) rfl rfl rfl (e_move) ?_
    refine l_val (v := Ix ((actS z x16).2.2)) rfl rfl rfl (e_move) ?_
    refine l_val (v := .agg #[.bool false, Nx (k), Ix ((actS z x16).2.2), .slice none 0 0]) rfl rfl rfl (e_build tt53 tt60 (vs := [(1, Nx (k)), (2, Ix ((actS z x16).2.2))]) (cells := #[.bool false, Nx (k), Ix ((actS z x16).2.2), .slice none 0 0]) rfl rfl) ?_
    refine l_mu rfl rfl (m_store 5 tt61 (b := b14) (o := 0) (T := 37) (cs := #[.bool true, .int .i64 (0), .int .i64 (0), .slice p (made.length) c]) (cs' := #[.bool false, Nx (k), Ix ((actS z x16).2.2), .slice none 0 0]) (v := .agg #[.bool false, Nx (k), Ix ((actS z x16).2.2), .slice none 0 0]) rfl rfl rfl rfl rfl rfl rfl) ?_
    refine l_nil ?_
    refine f_then ?_
    refine c_seq ?_
    refine c_any [⟨[], [], [0], [52], fun f => f 52 = .pointer (some ⟨b1, 0, none⟩)⟩, ⟨[0], [0], [], [53], fun f => f 53 = .map (some mp)⟩, ⟨[], [], [0], [54], fun f => f 54 = .pointer (some ⟨b1, 1, none⟩)⟩, ⟨[2], [2], [], [55], fun f => f 55 = .map (some mh)⟩, ⟨[], [], [0], [56], fun f => f 56 = .pointer (some ⟨b1, 2, none⟩)⟩, ⟨[4], [4], [], [57], fun f => f 57 = Ix (s.last)⟩, ⟨[], [], [0], [58], fun f => f 58 = .pointer (some ⟨b1, 3, none⟩)⟩, ⟨[6], [6], [], [59], fun f => f 59 = .agg (amC s.su)⟩, ⟨[0, 1], [], [1], [60], fun f => f 60 = .pointer (some ⟨b6, 0, none⟩)⟩, ⟨[0, 1, 8], [8, 1], [], [], fun _ => True⟩, ⟨[0, 1, 2, 3, 8, 9], [], [1], [61], fun f => f 61 = .pointer (some ⟨b6, 1, none⟩)⟩, ⟨[0, 1, 2, 3, 8, 9, 10], [10, 3], [], [], fun _ => True⟩, ⟨[0, 1, 2, 3, 4, 5, 8, 9, 10, 11], [], [1], [62], fun f => f 62 = .pointer (some ⟨b6, 2, none⟩)⟩, ⟨[0, 1, 2, 3, 4, 5, 8, 9, 10, 11, 12], [12, 5], [], [], fun _ => True⟩, ⟨[0, 1, 2, 3, 4, 5, 6, 7, 8, 9, 10, 11, 12, 13], [], [1], [63], fun f => f 63 = .pointer (some ⟨b6, 3, none⟩)⟩, ⟨[0, 1, 2, 3, 4, 5, 6, 7, 8, 9, 10, 11, 12, 13, 14], [14, 7], [], [], fun _ => True⟩] [⟨none, (some 9), [9], [], fun _ => pt b6 (.cells #[.map (some (mpb (fa13 18))), .map (some (mpb (fa13 21))), Ix ((actS z x16).1.last), Ix ((actS z x16).1.su.a0), Ix ((actS z x16).1.su.a1), Ix ((actS z x16).1.su.a2), Ix ((actS z x16).1.su.a3), .map (some (mpb (fa13 24)))] 88)⟩, ⟨none, none, [], [], fun _ => mpR PuM (mpb (fa13 18)) ((actS z x16).1.ps)⟩, ⟨none, none, [], [], fun _ => mpR HoM (mpb (fa13 21)) ((actS z x16).1.hs)⟩, ⟨none, none, [], [], fun _ => pt b22 (.cells #[Bx (x16.kind), Ix (x16.owner), Ix (x16.other), Ix (x16.hold), Ix (x16.a.a0), Ix (x16.a.a1), Ix (x16.a.a2), Ix (x16.a.a3)] 47)⟩, ⟨none, none, [], [], fun _ => rowF IntF 3 p c made⟩, ⟨none, none, [], [], fun _ => pt b14 (.cells #[.bool false, Nx (k), Ix ((actS z x16).2.2), .slice none 0 0] 37)⟩, ⟨none, none, [], [], fun _ => mpR KiM b5 kindsL⟩, ⟨none, none, [], [], fun _ => pt b4 (.cells #[.bool false, .int .i64 (0), .int .i64 (0), .slice none 0 0] 37)⟩, ⟨none, none, [], [], fun _ => pt b3 (.cells #[.map none, .map none, .int .i64 (0), .int .i64 (0), .int .i64 (0), .int .i64 (0), .int .i64 (0), .map none] 88)⟩, ⟨none, none, [], [], fun _ => pt b2 (.cells #[Ix (au), Ix (nu), .slice va (xs.length) (vc)] 80)⟩, ⟨none, none, [1, 3, 5, 7], [], fun _ => pt b1 (.cells #[.map (some mp), .map (some mh), Ix (s.last), Ix (s.su.a0), Ix (s.su.a1), Ix (s.su.a2), Ix (s.su.a3), .map (some mm)] 88)⟩, ⟨none, none, [], [], fun _ => mpR PuM mp s.ps⟩, ⟨none, none, [], [], fun _ => mpR HoM mh s.hs⟩, ⟨none, none, [], [], fun _ => mpR MeM (mpb (fa13 24)) ms⟩, ⟨none, none, [], [], fun _ => mpR MeM mm ms⟩, ⟨(some 9), (some 11), [11], [], fun _ => pt b6 (.cells #[.map (some mp), .map (some (mpb (fa13 21))), Ix ((actS z x16).1.last), Ix ((actS z x16).1.su.a0), Ix ((actS z x16).1.su.a1), Ix ((actS z x16).1.su.a2), Ix ((actS z x16).1.su.a3), .map (some (mpb (fa13 24)))] 88)⟩, ⟨(some 11), (some 13), [13], [], fun _ => pt b6 (.cells #[.map (some mp), .map (some mh), Ix ((actS z x16).1.last), Ix ((actS z x16).1.su.a0), Ix ((actS z x16).1.su.a1), Ix ((actS z x16).1.su.a2), Ix ((actS z x16).1.su.a3), .map (some (mpb (fa13 24)))] 88)⟩, ⟨(some 13), (some 15), [15], [], fun _ => pt b6 (.cells #[.map (some mp), .map (some mh), Ix (s.last), Ix ((actS z x16).1.su.a0), Ix ((actS z x16).1.su.a1), Ix ((actS z x16).1.su.a2), Ix ((actS z x16).1.su.a3), .map (some (mpb (fa13 24)))] 88)⟩, ⟨(some 15), none, [], [], fun _ => pt b6 (.cells #[.map (some mp), .map (some mh), Ix (s.last), Ix (s.su.a0), Ix (s.su.a1), Ix (s.su.a2), Ix (s.su.a3), .map (some (mpb (fa13 24)))] 88)⟩] [(2, .pointer (some ⟨b1, 0, none⟩)), (7, .pointer (some ⟨b6, 0, none⟩)), (3, .pointer (some ⟨b2, 0, none⟩)), (4, .pointer (some ⟨b3, 0, none⟩)), (5, .pointer (some ⟨b4, 0, none⟩)), (8, .pointer (some ⟨b14, 0, none⟩))] [2, 3, 4, 1, 5] [] (by kernel_rfl) (by kernel_rfl) (by kernel_rfl) (by kernel_rfl) rfl ⟨rfl, rfl, rfl, rfl, rfl, rfl, trivial⟩ ⟨?_, ?_, ?_, ?_, ?_, ?_, ?_, ?_, ?_, ?_, ?_, ?_, ?_, ?_, ?_, ?_, trivial⟩ ?_
    ·rintro f M - ⟨i0, -⟩
     have hs2 : f 2 = .pointer (some ⟨b1, 0, none⟩) := i0
     refine ob_start (L' := M) (by rfl) (up_cons rfl hs2) ?_
     refine l_val (v := .pointer (some ⟨b1, 0, none⟩)) rfl rfl rfl (e_fieldPt (b := b1) (o := 0) rfl tt32) ?_
     refine l_nil ?_
     exact f_owes_d (up_cons rfl hs2) rfl (List.Perm.refl _)
    ·rintro f M ⟨k0, -⟩ -
     have hs52 : f 52 = .pointer (some ⟨b1, 0, none⟩) := k0
     refine ob_start (L' := pt b1 (.cells #[.map (some mp), .map (some mh), Ix (s.last), Ix (s.su.a0), Ix (s.su.a1), Ix (s.su.a2), Ix (s.su.a3), .map (some mm)] 88) :: M) (by rfl) (up_cons rfl hs52) ?_
     refine l_val (v := .map (some mp)) rfl rfl rfl (e_load1 tt33 (v := .map (some mp)) rfl (k_pt 0 (cs := #[.map (some mp), .map (some mh), Ix (s.last), Ix (s.su.a0), Ix (s.su.a1), Ix (s.su.a2), Ix (s.su.a3), .map (some mm)]) (vs := [.map (some mp)]) rfl rfl)) ?_
     refine l_nil ?_
     exact f_owes_d (up_cons rfl hs52) rfl (perm_front 0 rfl)
    ·rintro f M - ⟨i0, -⟩
     have hs2 : f 2 = .pointer (some ⟨b1, 0, none⟩) := i0
     refine ob_start (L' := M) (by rfl) (up_cons rfl hs2) ?_
     refine l_val (v := .pointer (some ⟨b1, 1, none⟩)) rfl rfl rfl (e_fieldPt (b := b1) (o := 0) rfl tt38) ?_
     refine l_nil ?_
     exact f_owes_d (up_cons rfl hs2) rfl (List.Perm.refl _)
    ·rintro f M ⟨k0, -⟩ -
     have hs54 : f 54 = .pointer (some ⟨b1, 1, none⟩) := k0
     refine ob_start (L' := pt b1 (.cells #[.map (some mp), .map (some mh), Ix (s.last), Ix (s.su.a0), Ix (s.su.a1), Ix (s.su.a2), Ix (s.su.a3), .map (some mm)] 88) :: M) (by rfl) (up_cons rfl hs54) ?_
     refine l_val (v := .map (some mh)) rfl rfl rfl (e_load1 tt39 (v := .map (some mh)) rfl (k_pt 0 (cs := #[.map (some mp), .map (some mh), Ix (s.last), Ix (s.su.a0), Ix (s.su.a1), Ix (s.su.a2), Ix (s.su.a3), .map (some mm)]) (vs := [.map (some mh)]) rfl rfl)) ?_
     refine l_nil ?_
     exact f_owes_d (up_cons rfl hs54) rfl (perm_front 0 rfl)
    ·rintro f M - ⟨i0, -⟩
     have hs2 : f 2 = .pointer (some ⟨b1, 0, none⟩) := i0
     refine ob_start (L' := M) (by rfl) (up_cons rfl hs2) ?_
     refine l_val (v := .pointer (some ⟨b1, 2, none⟩)) rfl rfl rfl (e_fieldPt (b := b1) (o := 0) rfl tt40) ?_
     refine l_nil ?_
     exact f_owes_d (up_cons rfl hs2) rfl (List.Perm.refl _)
    ·rintro f M ⟨k0, -⟩ -
     have hs56 : f 56 = .pointer (some ⟨b1, 2, none⟩) := k0
     refine ob_start (L' := pt b1 (.cells #[.map (some mp), .map (some mh), Ix (s.last), Ix (s.su.a0), Ix (s.su.a1), Ix (s.su.a2), Ix (s.su.a3), .map (some mm)] 88) :: M) (by rfl) (up_cons rfl hs56) ?_
     refine l_val (v := Ix (s.last)) rfl rfl rfl (e_load1 tt2 (v := Ix (s.last)) rfl (k_pt 0 (cs := #[.map (some mp), .map (some mh), Ix (s.last), Ix (s.su.a0), Ix (s.su.a1), Ix (s.su.a2), Ix (s.su.a3), .map (some mm)]) (vs := [Ix (s.last)]) rfl rfl)) ?_
     refine l_nil ?_
     exact f_owes_d (up_cons rfl hs56) rfl (perm_front 0 rfl)
    ·rintro f M - ⟨i0, -⟩
     have hs2 : f 2 = .pointer (some ⟨b1, 0, none⟩) := i0
     refine ob_start (L' := M) (by rfl) (up_cons rfl hs2) ?_
     refine l_val (v := .pointer (some ⟨b1, 3, none⟩)) rfl rfl rfl (e_fieldPt (b := b1) (o := 0) rfl tt36) ?_
     refine l_nil ?_
     exact f_owes_d (up_cons rfl hs2) rfl (List.Perm.refl _)
    ·rintro f M ⟨k0, -⟩ -
     have hs58 : f 58 = .pointer (some ⟨b1, 3, none⟩) := k0
     refine ob_start (L' := pt b1 (.cells #[.map (some mp), .map (some mh), Ix (s.last), Ix (s.su.a0), Ix (s.su.a1), Ix (s.su.a2), Ix (s.su.a3), .map (some mm)] 88) :: M) (by rfl) (up_cons rfl hs58) ?_
     refine l_val (v := .agg (amC s.su)) rfl rfl rfl (e_load tt0 (cs := (amE s.su)) rfl (k_pt 0 (cs := #[.map (some mp), .map (some mh), Ix (s.last), Ix (s.su.a0), Ix (s.su.a1), Ix (s.su.a2), Ix (s.su.a3), .map (some mm)]) (vs := (amE s.su)) rfl rfl) rfl) ?_
     refine l_nil ?_
     exact f_owes_d (up_cons rfl hs58) rfl (perm_front 0 rfl)
    ·rintro f M - ⟨i0, -⟩
     have hs7 : f 7 = .pointer (some ⟨b6, 0, none⟩) := i0
     refine ob_start (L' := M) (by rfl) (up_cons rfl hs7) ?_
     refine l_val (v := .pointer (some ⟨b6, 0, none⟩)) rfl rfl rfl (e_fieldPt (b := b6) (o := 0) rfl tt32) ?_
     refine l_nil ?_
     exact f_owes_d (up_cons rfl hs7) rfl (List.Perm.refl _)
    ·rintro f M ⟨k0, k1, -⟩ -
     have hs60 : f 60 = .pointer (some ⟨b6, 0, none⟩) := k0
     have hs53 : f 53 = .map (some mp) := k1
     refine ob_start (L' := pt b6 (.cells #[.map (some (mpb (fa13 18))), .map (some (mpb (fa13 21))), Ix ((actS z x16).1.last), Ix ((actS z x16).1.su.a0), Ix ((actS z x16).1.su.a1), Ix ((actS z x16).1.su.a2), Ix ((actS z x16).1.su.a3), .map (some (mpb (fa13 24)))] 88) :: M) (by rfl) (up_cons (up_cons rfl hs60) hs53) ?_
     refine l_mu rfl rfl (m_store 0 tt33 (b := b6) (o := 0) (T := 88) (cs := #[.map (some (mpb (fa13 18))), .map (some (mpb (fa13 21))), Ix ((actS z x16).1.last), Ix ((actS z x16).1.su.a0), Ix ((actS z x16).1.su.a1), Ix ((actS z x16).1.su.a2), Ix ((actS z x16).1.su.a3), .map (some (mpb (fa13 24)))]) (cs' := #[.map (some mp), .map (some (mpb (fa13 21))), Ix ((actS z x16).1.last), Ix ((actS z x16).1.su.a0), Ix ((actS z x16).1.su.a1), Ix ((actS z x16).1.su.a2), Ix ((actS z x16).1.su.a3), .map (some (mpb (fa13 24)))]) (v := .map (some mp)) rfl rfl rfl rfl rfl rfl rfl) ?_
     refine l_nil ?_
     exact f_owes_n (up_cons (up_cons rfl hs60) hs53) trivial (perm_front 0 rfl)
    ·rintro f M - ⟨i0, -⟩
     have hs7 : f 7 = .pointer (some ⟨b6, 0, none⟩) := i0
     refine ob_start (L' := M) (by rfl) (up_cons rfl hs7) ?_
     refine l_val (v := .pointer (some ⟨b6, 1, none⟩)) rfl rfl rfl (e_fieldPt (b := b6) (o := 0) rfl tt38) ?_
     refine l_nil ?_
     exact f_owes_d (up_cons rfl hs7) rfl (List.Perm.refl _)
    ·rintro f M ⟨k0, k1, -⟩ -
     have hs61 : f 61 = .pointer (some ⟨b6, 1, none⟩) := k0
     have hs55 : f 55 = .map (some mh) := k1
     refine ob_start (L' := pt b6 (.cells #[.map (some mp), .map (some (mpb (fa13 21))), Ix ((actS z x16).1.last), Ix ((actS z x16).1.su.a0), Ix ((actS z x16).1.su.a1), Ix ((actS z x16).1.su.a2), Ix ((actS z x16).1.su.a3), .map (some (mpb (fa13 24)))] 88) :: M) (by rfl) (up_cons (up_cons rfl hs61) hs55) ?_
     refine l_mu rfl rfl (m_store 0 tt39 (b := b6) (o := 1) (T := 88) (cs := #[.map (some mp), .map (some (mpb (fa13 21))), Ix ((actS z x16).1.last), Ix ((actS z x16).1.su.a0), Ix ((actS z x16).1.su.a1), Ix ((actS z x16).1.su.a2), Ix ((actS z x16).1.su.a3), .map (some (mpb (fa13 24)))]) (cs' := #[.map (some mp), .map (some mh), Ix ((actS z x16).1.last), Ix ((actS z x16).1.su.a0), Ix ((actS z x16).1.su.a1), Ix ((actS z x16).1.su.a2), Ix ((actS z x16).1.su.a3), .map (some (mpb (fa13 24)))]) (v := .map (some mh)) rfl rfl rfl rfl rfl rfl rfl) ?_
     refine l_nil ?_
     exact f_owes_n (up_cons (up_cons rfl hs61) hs55) trivial (perm_front 0 rfl)
    ·rintro f M - ⟨i0, -⟩
     have hs7 : f 7 = .pointer (some ⟨b6, 0, none⟩) := i0
     refine ob_start (L' := M) (by rfl) (up_cons rfl hs7) ?_
     refine l_val (v := .pointer (some ⟨b6, 2, none⟩)) rfl rfl rfl (e_fieldPt (b := b6) (o := 0) rfl tt40) ?_
     refine l_nil ?_
     exact f_owes_d (up_cons rfl hs7) rfl (List.Perm.refl _)
    ·rintro f M ⟨k0, k1, -⟩ -
     have hs62 : f 62 = .pointer (some ⟨b6, 2, none⟩) := k0
     have hs57 : f 57 = Ix (s.last) := k1
     refine ob_start (L' := pt b6 (.cells #[.map (some mp), .map (some mh), Ix ((actS z x16).1.last), Ix ((actS z x16).1.su.a0), Ix ((actS z x16).1.su.a1), Ix ((actS z x16).1.su.a2), Ix ((actS z x16).1.su.a3), .map (some (mpb (fa13 24)))] 88) :: M) (by rfl) (up_cons (up_cons rfl hs62) hs57) ?_
     refine l_mu rfl rfl (m_store 0 tt2 (b := b6) (o := 2) (T := 88) (cs := #[.map (some mp), .map (some mh), Ix ((actS z x16).1.last), Ix ((actS z x16).1.su.a0), Ix ((actS z x16).1.su.a1), Ix ((actS z x16).1.su.a2), Ix ((actS z x16).1.su.a3), .map (some (mpb (fa13 24)))]) (cs' := #[.map (some mp), .map (some mh), Ix (s.last), Ix ((actS z x16).1.su.a0), Ix ((actS z x16).1.su.a1), Ix ((actS z x16).1.su.a2), Ix ((actS z x16).1.su.a3), .map (some (mpb (fa13 24)))]) (v := Ix (s.last)) rfl rfl rfl rfl rfl rfl rfl) ?_
     refine l_nil ?_
     exact f_owes_n (up_cons (up_cons rfl hs62) hs57) trivial (perm_front 0 rfl)
    ·rintro f M - ⟨i0, -⟩
     have hs7 : f 7 = .pointer (some ⟨b6, 0, none⟩) := i0
     refine ob_start (L' := M) (by rfl) (up_cons rfl hs7) ?_
     refine l_val (v := .pointer (some ⟨b6, 3, none⟩)) rfl rfl rfl (e_fieldPt (b := b6) (o := 0) rfl tt36) ?_
     refine l_nil ?_
     exact f_owes_d (up_cons rfl hs7) rfl (List.Perm.refl _)
    ·rintro f M ⟨k0, k1, -⟩ -
     have hs63 : f 63 = .pointer (some ⟨b6, 3, none⟩) := k0
     have hs59 : f 59 = .agg (amC s.su) := k1
     refine ob_start (L' := pt b6 (.cells #[.map (some mp), .map (some mh), Ix (s.last), Ix ((actS z x16).1.su.a0), Ix ((actS z x16).1.su.a1), Ix ((actS z x16).1.su.a2), Ix ((actS z x16).1.su.a3), .map (some (mpb (fa13 24)))] 88) :: M) (by rfl) (up_cons (up_cons rfl hs63) hs59) ?_
     refine l_mu rfl rfl (m_store 0 tt0 (b := b6) (o := 3) (T := 88) (cs := #[.map (some mp), .map (some mh), Ix (s.last), Ix ((actS z x16).1.su.a0), Ix ((actS z x16).1.su.a1), Ix ((actS z x16).1.su.a2), Ix ((actS z x16).1.su.a3), .map (some (mpb (fa13 24)))]) (cs' := #[.map (some mp), .map (some mh), Ix (s.last), Ix (s.su.a0), Ix (s.su.a1), Ix (s.su.a2), Ix (s.su.a3), .map (some (mpb (fa13 24)))]) (v := .agg (amC s.su)) rfl rfl rfl rfl rfl rfl rfl) ?_
     refine l_nil ?_
     exact f_owes_n (up_cons (up_cons rfl hs63) hs59) trivial (perm_front 0 rfl)
    rintro fa24 ⟨-, -, -, -, -, -, -, -, -, -, -, -, -, -, -, -, -⟩ ⟨j0, j1, j2, j3, j4, -⟩
    refine f_re (L' := [mpR PuM (mpb (fa13 18)) ((actS z x16).1.ps), mpR HoM (mpb (fa13 21)) ((actS z x16).1.hs), pt b22 (.cells #[Bx (x16.kind), Ix (x16.owner), Ix (x16.other), Ix (x16.hold), Ix (x16.a.a0), Ix (x16.a.a1), Ix (x16.a.a2), Ix (x16.a.a3)] 47), rowF IntF 3 p c made, pt b14 (.cells #[.bool false, Nx (k), Ix ((actS z x16).2.2), .slice none 0 0] 37), mpR KiM b5 kindsL, pt b4 (.cells #[.bool false, .int .i64 (0), .int .i64 (0), .slice none 0 0] 37), pt b3 (.cells #[.map none, .map none, .int .i64 (0), .int .i64 (0), .int .i64 (0), .int .i64 (0), .int .i64 (0), .map none] 88), pt b2 (.cells #[Ix (au), Ix (nu), .slice va (xs.length) (vc)] 80), pt b1 (.cells #[.map (some mp), .map (some mh), Ix (s.last), Ix (s.su.a0), Ix (s.su.a1), Ix (s.su.a2), Ix (s.su.a3), .map (some mm)] 88), mpR PuM mp s.ps, mpR HoM mh s.hs, mpR MeM (mpb (fa13 24)) ms, mpR MeM mm ms, pt b6 (.cells #[.map (some mp), .map (some mh), Ix (s.last), Ix (s.su.a0), Ix (s.su.a1), Ix (s.su.a2), Ix (s.su.a3), .map (some (mpb (fa13 24)))] 88)]) (by rfl) ?_
    refine f_rebase (d := 3) (v := .pointer (some ⟨b2, 0, none⟩)) j0 ?_
    refine f_rebase (d := 4) (v := .pointer (some ⟨b3, 0, none⟩)) j1 ?_
    refine f_rebase (d := 5) (v := .pointer (some ⟨b4, 0, none⟩)) j2 ?_
    refine f_rebase (d := 7) (v := .pointer (some ⟨b6, 0, none⟩)) j3 ?_
    refine f_rebase (d := 8) (v := .pointer (some ⟨b14, 0, none⟩)) j4 ?_
    refine f_then ?_
    refine c_exit ?_
    refine f_exit_other rfl ?_
    refine f_exit_other rfl ?_
    refine f_then_exit ?_
    refine f_then_exit ?_
    refine f_exit ?_
    refine f_emp (r := rowF IntF 3 none 0 []) (row_nil _ _ _) ?_
    refine f_perm (L' := [pt b14 (.cells #[.bool false, Nx (k), Ix ((actS z x16).2.2), .slice none 0 0] 37), pt b4 (.cells #[.bool false, .int .i64 (0), .int .i64 (0), .slice none 0 0] 37), pt b3 (.cells #[.map none, .map none, .int .i64 (0), .int .i64 (0), .int .i64 (0), .int .i64 (0), .int .i64 (0), .map none] 88), pt b2 (.cells #[Ix (au), Ix (nu), .slice va (xs.length) (vc)] 80), mpR MeM (mpb (fa13 24)) ms, mpR MeM mm ms, pt b6 (.cells #[.map (some mp), .map (some mh), Ix (s.last), Ix (s.su.a0), Ix (s.su.a1), Ix (s.su.a2), Ix (s.su.a3), .map (some (mpb (fa13 24)))] 88), mpR PuM mp s.ps, mpR HoM mh s.hs, rowF IntF 3 none 0 [], mpR PuM (mpb (fa13 18)) ((actS z x16).1.ps), mpR HoM (mpb (fa13 21)) ((actS z x16).1.hs), pt b22 (.cells #[Bx (x16.kind), Ix (x16.owner), Ix (x16.other), Ix (x16.hold), Ix (x16.a.a0), Ix (x16.a.a1), Ix (x16.a.a2), Ix (x16.a.a3)] 47), rowF IntF 3 p c made, mpR KiM b5 kindsL, pt b1 (.cells #[.map (some mp), .map (some mh), Ix (s.last), Ix (s.su.a0), Ix (s.su.a1), Ix (s.su.a2), Ix (s.su.a3), .map (some mm)] 88)]) (perm_ix [5, 7, 8, 9, 13, 14, 15, 11, 12, 0, 1, 2, 3, 4, 6, 10] 16 rfl (by kernel_rfl) (by kernel_rfl)) ?_
    refine f_mask (L' := [pt b14 (.cells #[.bool false, Nx (k), Ix ((actS z x16).2.2), .slice none 0 0] 37), pt b4 (.cells #[.bool false, .int .i64 (0), .int .i64 (0), .slice none 0 0] 37), pt b3 (.cells #[.map none, .map none, .int .i64 (0), .int .i64 (0), .int .i64 (0), .int .i64 (0), .int .i64 (0), .map none] 88), pt b2 (.cells #[Ix (au), Ix (nu), .slice va (xs.length) (vc)] 80), mpR MeM (mpb (fa13 24)) ms, mpR MeM mm ms, pt b6 (.cells #[.map (some mp), .map (some mh), Ix (s.last), Ix (s.su.a0), Ix (s.su.a1), Ix (s.su.a2), Ix (s.su.a3), .map (some (mpb (fa13 24)))] 88), mpR PuM mp s.ps, mpR HoM mh s.hs, rowF IntF 3 none 0 []]) [true, true, true, true, true, true, true, true, true, true, false, false, false, false, false, false] rfl ?_
    exact f_cut ⟨mp, mh, s, ⟨false, ((k : Nat) : Int), (actS z x16).2.2, []⟩, none, 0, ⟨rfl, rfl, rfl, rfl, rfl⟩, rfl, by rw [← hrun, run_bad hx17 hc23]⟩
   ·
    refine c_seq ?_
    refine c_region ?_
    refine l_val (v := Ix ((actS z x16).2.1)) rfl rfl rfl (e_move) ?_
    refine l_val (v := .bool (decide ((0 : Int) < ((actS z x16).2.1)))) rfl rfl rfl (e_gtr (a := ((actS z x16).2.1)) (b := (0 : Int)) rfl rfl) ?_
    refine l_val (v := .bool (decide ((0 : Int) < ((actS z x16).2.1)))) rfl rfl rfl (e_assign) ?_
    refine l_nil ?_
    refine f_then ?_
    refine c_if ((0 : Int) < ((actS z x16).2.1)) rfl (fun hc25 => ?_) (fun hc25 => ?_)
    ·
     refine c_region ?_
     refine l_val (v := .pointer (some ⟨b14, 3, none⟩)) rfl rfl rfl (e_fieldPt (b := b14) (o := 0) rfl tt62) ?_
     refine l_val (v := .slice p (made.length) c) rfl rfl rfl (e_load1 tt63 (v := .slice p (made.length) c) rfl (k_pt 5 (cs := #[.bool true, .int .i64 (0), .int .i64 (0), .slice p (made.length) c]) (vs := [.slice p (made.length) c]) rfl rfl)) ?_
     refine l_val (v := Ix ((actS z x16).2.1)) rfl rfl rfl (e_move) ?_
     refine l_mv rfl rfl rfl (m_slices tt29 tt64 (vs := [(0, Ix ((actS z x16).2.1))]) (cells := #[Ix ((actS z x16).2.1)]) rfl rfl rfl rfl) ?_
     rintro _ _ ⟨b26, rfl, rfl⟩
     refine l_mv rfl rfl rfl (m_appendFlN (F := IntF) 5 tt29 tt31 (p := p) (m := made.length) (xs := made) (ys := [((actS z x16).2.1)]) (ao := (some ⟨b26, 0, none⟩)) (k := 1) (c := 1) rfl rfl rfl rfl rfl (k_ptFl (z := ((actS z x16).2.1)) 0 rfl rfl) (by first | omega | simp only [List.length_nil, List.length_cons, List.length_append, List.length_set]; omega) (by first | omega | simp only [List.length_nil, List.length_cons, List.length_append, List.length_set]; omega)) ?_
     rintro _ _ ⟨rp27, rc28, rfl, rfl⟩
     refine l_val (v := .pointer (some ⟨b14, 3, none⟩)) rfl rfl rfl (e_fieldPt (b := b14) (o := 0) rfl tt62) ?_
     refine l_mu rfl rfl (m_store 6 tt63 (b := b14) (o := 3) (T := 37) (cs := #[.bool true, .int .i64 (0), .int .i64 (0), .slice p (made.length) c]) (cs' := #[.bool true, .int .i64 (0), .int .i64 (0), .slice rp27 ((made ++ [((actS z x16).2.1)]).length) rc28]) (v := .slice rp27 ((made ++ [((actS z x16).2.1)]).length) rc28) rfl rfl rfl rfl rfl rfl rfl) ?_
     refine l_nil ?_
     refine f_block ?_
     refine f_block ?_
     refine f_then ?_
     refine c_region ?_
     refine l_val (v := Nx (k + 1)) rfl rfl rfl (e_add (a := ((k : Nat) : Int)) (b := (1 : Int)) rfl rfl (i64n (by omega) (by omega))) ?_
     refine l_val (v := Nx (k + 1)) rfl rfl rfl (e_move) ?_
     refine l_nil ?_
     refine f_perm (L' := [rowF IntF 3 rp27 rc28 (made ++ [((actS z x16).2.1)]), pt b14 (.cells #[.bool true, .int .i64 (0), .int .i64 (0), .slice rp27 ((made ++ [((actS z x16).2.1)]).length) rc28] 37), mpR KiM b5 kindsL, pt b4 (.cells #[.bool false, .int .i64 (0), .int .i64 (0), .slice none 0 0] 37), pt b3 (.cells #[.map none, .map none, .int .i64 (0), .int .i64 (0), .int .i64 (0), .int .i64 (0), .int .i64 (0), .map none] 88), pt b2 (.cells #[Ix (au), Ix (nu), .slice va (xs.length) (vc)] 80), pt b1 (.cells #[.map (some mp), .map (some mh), Ix (s.last), Ix (s.su.a0), Ix (s.su.a1), Ix (s.su.a2), Ix (s.su.a3), .map (some mm)] 88), mpR PuM (mpb (fa13 18)) ((actS z x16).1.ps), mpR PuM mp s.ps, mpR HoM (mpb (fa13 21)) ((actS z x16).1.hs), mpR HoM mh s.hs, mpR MeM (mpb (fa13 24)) ms, mpR MeM mm ms, pt b6 (.cells #[.map (some (mpb (fa13 18))), .map (some (mpb (fa13 21))), Ix ((actS z x16).1.last), Ix ((actS z x16).1.su.a0), Ix ((actS z x16).1.su.a1), Ix ((actS z x16).1.su.a2), Ix ((actS z x16).1.su.a3), .map (some (mpb (fa13 24)))] 88), pt b26 (.cells #[Ix ((actS z x16).2.1)] 3), pt b22 (.cells #[Bx (x16.kind), Ix (x16.owner), Ix (x16.other), Ix (x16.hold), Ix (x16.a.a0), Ix (x16.a.a1), Ix (x16.a.a2), Ix (x16.a.a3)] 47)]) (perm_ix [5, 6, 7, 8, 9, 10, 11, 2, 12, 3, 13, 14, 15, 1, 0, 4] 16 rfl (by kernel_rfl) (by kernel_rfl)) ?_
     refine f_mask (L' := [rowF IntF 3 rp27 rc28 (made ++ [((actS z x16).2.1)]), pt b14 (.cells #[.bool true, .int .i64 (0), .int .i64 (0), .slice rp27 ((made ++ [((actS z x16).2.1)]).length) rc28] 37), mpR KiM b5 kindsL, pt b4 (.cells #[.bool false, .int .i64 (0), .int .i64 (0), .slice none 0 0] 37), pt b3 (.cells #[.map none, .map none, .int .i64 (0), .int .i64 (0), .int .i64 (0), .int .i64 (0), .int .i64 (0), .map none] 88), pt b2 (.cells #[Ix (au), Ix (nu), .slice va (xs.length) (vc)] 80), pt b1 (.cells #[.map (some mp), .map (some mh), Ix (s.last), Ix (s.su.a0), Ix (s.su.a1), Ix (s.su.a2), Ix (s.su.a3), .map (some mm)] 88), mpR PuM (mpb (fa13 18)) ((actS z x16).1.ps), mpR PuM mp s.ps, mpR HoM (mpb (fa13 21)) ((actS z x16).1.hs), mpR HoM mh s.hs, mpR MeM (mpb (fa13 24)) ms, mpR MeM mm ms, pt b6 (.cells #[.map (some (mpb (fa13 18))), .map (some (mpb (fa13 21))), Ix ((actS z x16).1.last), Ix ((actS z x16).1.su.a0), Ix ((actS z x16).1.su.a1), Ix ((actS z x16).1.su.a2), Ix ((actS z x16).1.su.a3), .map (some (mpb (fa13 24)))] 88)]) [true, true, true, true, true, true, true, true, true, true, true, true, true, true, false, false] rfl ?_
     exact f_cut ⟨(k + 1, (actS z x16).1, (made ++ [((actS z x16).2.1)]), rp27, rc28), ⟨⟨rfl, rfl, rfl, rfl, rfl, rfl, rfl, rfl, rfl, rfl⟩, rfl, ⟨by omega, by first | omega | (simp only [List.length_append, List.length_cons, List.length_nil]; omega), by rw [← hrun, run_next hx17 (Decidable.not_not.1 hc23), if_pos hc25], (actS_good hg1 (formed_within hxf)).le (by omega)⟩⟩, (show xs.length - (k + 1) < xs.length - k from by omega)⟩
    ·
     refine c_skip ?_
     refine f_block ?_
     refine f_block ?_
     refine f_then ?_
     refine c_region ?_
     refine l_val (v := Nx (k + 1)) rfl rfl rfl (e_add (a := ((k : Nat) : Int)) (b := (1 : Int)) rfl rfl (i64n (by omega) (by omega))) ?_
     refine l_val (v := Nx (k + 1)) rfl rfl rfl (e_move) ?_
     refine l_nil ?_
     refine f_perm (L' := [rowF IntF 3 p c made, pt b14 (.cells #[.bool true, .int .i64 (0), .int .i64 (0), .slice p (made.length) c] 37), mpR KiM b5 kindsL, pt b4 (.cells #[.bool false, .int .i64 (0), .int .i64 (0), .slice none 0 0] 37), pt b3 (.cells #[.map none, .map none, .int .i64 (0), .int .i64 (0), .int .i64 (0), .int .i64 (0), .int .i64 (0), .map none] 88), pt b2 (.cells #[Ix (au), Ix (nu), .slice va (xs.length) (vc)] 80), pt b1 (.cells #[.map (some mp), .map (some mh), Ix (s.last), Ix (s.su.a0), Ix (s.su.a1), Ix (s.su.a2), Ix (s.su.a3), .map (some mm)] 88), mpR PuM (mpb (fa13 18)) ((actS z x16).1.ps), mpR PuM mp s.ps, mpR HoM (mpb (fa13 21)) ((actS z x16).1.hs), mpR HoM mh s.hs, mpR MeM (mpb (fa13 24)) ms, mpR MeM mm ms, pt b6 (.cells #[.map (some (mpb (fa13 18))), .map (some (mpb (fa13 21))), Ix ((actS z x16).1.last), Ix ((actS z x16).1.su.a0), Ix ((actS z x16).1.su.a1), Ix ((actS z x16).1.su.a2), Ix ((actS z x16).1.su.a3), .map (some (mpb (fa13 24)))] 88), pt b22 (.cells #[Bx (x16.kind), Ix (x16.owner), Ix (x16.other), Ix (x16.hold), Ix (x16.a.a0), Ix (x16.a.a1), Ix (x16.a.a2), Ix (x16.a.a3)] 47)]) (perm_ix [4, 5, 6, 7, 8, 9, 10, 1, 11, 2, 12, 13, 14, 0, 3] 15 rfl (by kernel_rfl) (by kernel_rfl)) ?_
     refine f_mask (L' := [rowF IntF 3 p c made, pt b14 (.cells #[.bool true, .int .i64 (0), .int .i64 (0), .slice p (made.length) c] 37), mpR KiM b5 kindsL, pt b4 (.cells #[.bool false, .int .i64 (0), .int .i64 (0), .slice none 0 0] 37), pt b3 (.cells #[.map none, .map none, .int .i64 (0), .int .i64 (0), .int .i64 (0), .int .i64 (0), .int .i64 (0), .map none] 88), pt b2 (.cells #[Ix (au), Ix (nu), .slice va (xs.length) (vc)] 80), pt b1 (.cells #[.map (some mp), .map (some mh), Ix (s.last), Ix (s.su.a0), Ix (s.su.a1), Ix (s.su.a2), Ix (s.su.a3), .map (some mm)] 88), mpR PuM (mpb (fa13 18)) ((actS z x16).1.ps), mpR PuM mp s.ps, mpR HoM (mpb (fa13 21)) ((actS z x16).1.hs), mpR HoM mh s.hs, mpR MeM (mpb (fa13 24)) ms, mpR MeM mm ms, pt b6 (.cells #[.map (some (mpb (fa13 18))), .map (some (mpb (fa13 21))), Ix ((actS z x16).1.last), Ix ((actS z x16).1.su.a0), Ix ((actS z x16).1.su.a1), Ix ((actS z x16).1.su.a2), Ix ((actS z x16).1.su.a3), .map (some (mpb (fa13 24)))] 88)]) [true, true, true, true, true, true, true, true, true, true, true, true, true, true, false] rfl ?_
     exact f_cut ⟨(k + 1, (actS z x16).1, made, p, c), ⟨⟨rfl, rfl, rfl, rfl, rfl, rfl, rfl, rfl, rfl, rfl⟩, rfl, ⟨by omega, by first | omega | (simp only [List.length_append, List.length_cons, List.length_nil]; omega), by rw [← hrun, run_next hx17 (Decidable.not_not.1 hc23), if_neg hc25], (actS_good hg1 (formed_within hxf)).le (by omega)⟩⟩, (show xs.length - (k + 1) < xs.length - k from by omega)⟩
  ·
   refine c_exit ?_
   refine f_then_exit ?_
   refine f_then_exit ?_
   refine f_exit ?_
   refine f_perm (L' := [pt b14 (.cells #[.bool true, .int .i64 (0), .int .i64 (0), .slice p (made.length) c] 37), pt b4 (.cells #[.bool false, .int .i64 (0), .int .i64 (0), .slice none 0 0] 37), pt b3 (.cells #[.map none, .map none, .int .i64 (0), .int .i64 (0), .int .i64 (0), .int .i64 (0), .int .i64 (0), .map none] 88), pt b2 (.cells #[Ix (au), Ix (nu), .slice va (xs.length) (vc)] 80), mpR MeM (mpb (fa13 24)) ms, mpR MeM mm ms, pt b6 (.cells #[.map (some (mpb (fa13 18))), .map (some (mpb (fa13 21))), Ix (z.last), Ix (z.su.a0), Ix (z.su.a1), Ix (z.su.a2), Ix (z.su.a3), .map (some (mpb (fa13 24)))] 88), mpR PuM (mpb (fa13 18)) z.ps, mpR HoM (mpb (fa13 21)) z.hs, rowF IntF 3 p c made, mpR KiM b5 kindsL, pt b1 (.cells #[.map (some mp), .map (some mh), Ix (s.last), Ix (s.su.a0), Ix (s.su.a1), Ix (s.su.a2), Ix (s.su.a3), .map (some mm)] 88), mpR PuM mp s.ps, mpR HoM mh s.hs]) (perm_ix [1, 3, 4, 5, 11, 12, 13, 7, 9, 0, 2, 6, 8, 10] 14 rfl (by kernel_rfl) (by kernel_rfl)) ?_
   refine f_mask (L' := [pt b14 (.cells #[.bool true, .int .i64 (0), .int .i64 (0), .slice p (made.length) c] 37), pt b4 (.cells #[.bool false, .int .i64 (0), .int .i64 (0), .slice none 0 0] 37), pt b3 (.cells #[.map none, .map none, .int .i64 (0), .int .i64 (0), .int .i64 (0), .int .i64 (0), .int .i64 (0), .map none] 88), pt b2 (.cells #[Ix (au), Ix (nu), .slice va (xs.length) (vc)] 80), mpR MeM (mpb (fa13 24)) ms, mpR MeM mm ms, pt b6 (.cells #[.map (some (mpb (fa13 18))), .map (some (mpb (fa13 21))), Ix (z.last), Ix (z.su.a0), Ix (z.su.a1), Ix (z.su.a2), Ix (z.su.a3), .map (some (mpb (fa13 24)))] 88), mpR PuM (mpb (fa13 18)) z.ps, mpR HoM (mpb (fa13 21)) z.hs, rowF IntF 3 p c made]) [true, true, true, true, true, true, true, true, true, true, false, false, false, false] rfl ?_
   exact f_cut ⟨(mpb (fa13 18)), (mpb (fa13 21)), z, ⟨true, 0, 0, made⟩, p, c, ⟨rfl, rfl, rfl, rfl, rfl⟩, rfl, by rw [← hrun, run_nil (by omega)]⟩
 rintro f0 L0 ⟨mq, hq, z, ro, p, c, ⟨hs3, hs4, hs5, hs7, hs8⟩, hL, hcar⟩
 subst L0
 refine rebase (d := 3) hs3 ?_
 refine rebase (d := 4) hs4 ?_
 refine rebase (d := 5) hs5 ?_
 refine rebase (d := 7) hs7 ?_
 refine rebase (d := 8) hs8 ?_
 clear hs3 hs4 hs5 hs7 hs8
 refine c_seq ?_
 refine c_region ?_
 refine l_val (v := .pointer (some ⟨b6, 7, none⟩)) rfl rfl rfl (e_fieldPt (b := b6) (o := 0) rfl tt57) ?_
 refine l_val (v := .map (some (mpb (fa13 24)))) rfl rfl rfl (e_load1 tt58 (v := .map (some (mpb (fa13 24)))) rfl (k_pt 6 (cs := #[.map (some mq), .map (some hq), Ix (z.last), Ix (z.su.a0), Ix (z.su.a1), Ix (z.su.a2), Ix (z.su.a3), .map (some (mpb (fa13 24)))]) (vs := [.map (some (mpb (fa13 24)))]) rfl rfl)) ?_
 refine l_val (v := .pointer (some ⟨b2, 0, none⟩)) rfl rfl rfl (e_fieldPt (b := b2) (o := 0) rfl tt20) ?_
 refine l_val (v := Ix (au)) rfl rfl rfl (e_load1 tt2 (v := Ix (au)) rfl (k_pt 3 (cs := #[Ix (au), Ix (nu), .slice va (xs.length) (vc)]) (vs := [Ix (au)]) rfl rfl)) ?_
 refine l_val (v := .agg #[Ix (au), Ix (nu), .slice va (xs.length) (vc)]) rfl rfl rfl (e_load tt65 (cs := [Ix (au), Ix (nu), .slice va (xs.length) (vc)]) rfl (k_pt 3 (cs := #[Ix (au), Ix (nu), .slice va (xs.length) (vc)]) (vs := [Ix (au), Ix (nu), .slice va (xs.length) (vc)]) rfl rfl) rfl) ?_
 refine l_val (v := .agg #[.bool (ro.done), Ix (ro.at_), Ix (ro.e), .slice p (ro.holds.length) c]) rfl rfl rfl (e_load tt61 (cs := [.bool (ro.done), Ix (ro.at_), Ix (ro.e), .slice p (ro.holds.length) c]) rfl (k_pt 0 (cs := #[.bool (ro.done), Ix (ro.at_), Ix (ro.e), .slice p (ro.holds.length) c]) (vs := [.bool (ro.done), Ix (ro.at_), Ix (ro.e), .slice p (ro.holds.length) c]) rfl rfl) rfl) ?_
 refine l_val (v := .agg #[Ix (au), Ix (nu), .slice va (xs.length) (vc), .bool (ro.done), Ix (ro.at_), Ix (ro.e), .slice p (ro.holds.length) c]) rfl rfl rfl (e_build tt67 tt66 (vs := [(0, .agg #[Ix (au), Ix (nu), .slice va (xs.length) (vc)]), (1, .agg #[.bool (ro.done), Ix (ro.at_), Ix (ro.e), .slice p (ro.holds.length) c])]) (cells := #[Ix (au), Ix (nu), .slice va (xs.length) (vc), .bool (ro.done), Ix (ro.at_), Ix (ro.e), .slice p (ro.holds.length) c]) rfl rfl) ?_
 refine l_mu rfl rfl (m_mput (K := MeM) (b := (mpb (fa13 24))) (ks := ms) (k := (au)) (v := (⟨au, nu, va, xs.length, vc, ro.done, ro.at_, ro.e, p, ro.holds.length, c⟩ : KMh)) 4 rfl rfl rfl rfl rfl) ?_
 refine l_nil ?_
 refine f_then ?_
 refine c_seq ?_
 refine c_any [⟨[], [], [0], [81], fun f => f 81 = .agg #[.map (some mq), .map (some hq), Ix (z.last), Ix (z.su.a0), Ix (z.su.a1), Ix (z.su.a2), Ix (z.su.a3), .map (some (mpb (fa13 24)))]⟩, ⟨[], [], [1], [82], fun f => f 82 = .agg #[.bool (ro.done), Ix (ro.at_), Ix (ro.e), .slice p (ro.holds.length) c]⟩, ⟨[0], [0], [2], [], fun _ => True⟩, ⟨[0, 1, 2], [1], [3], [], fun _ => True⟩] [⟨none, none, [1], [], fun _ => pt b14 (.cells #[.bool (ro.done), Ix (ro.at_), Ix (ro.e), .slice p (ro.holds.length) c] 37)⟩, ⟨none, (some 3), [3], [], fun _ => pt b4 (.cells #[.bool false, .int .i64 (0), .int .i64 (0), .slice none 0 0] 37)⟩, ⟨none, (some 2), [2], [], fun _ => pt b3 (.cells #[.map none, .map none, .int .i64 (0), .int .i64 (0), .int .i64 (0), .int .i64 (0), .int .i64 (0), .map none] 88)⟩, ⟨none, none, [], [], fun _ => pt b2 (.cells #[Ix (au), Ix (nu), .slice va (xs.length) (vc)] 80)⟩, ⟨none, none, [], [], fun _ => mpR MeM (mpb (fa13 24)) (MeM.put ms (au) (⟨au, nu, va, xs.length, vc, ro.done, ro.at_, ro.e, p, ro.holds.length, c⟩ : KMh))⟩, ⟨none, none, [], [], fun _ => mpR MeM mm ms⟩, ⟨none, none, [0], [], fun _ => pt b6 (.cells #[.map (some mq), .map (some hq), Ix (z.last), Ix (z.su.a0), Ix (z.su.a1), Ix (z.su.a2), Ix (z.su.a3), .map (some (mpb (fa13 24)))] 88)⟩, ⟨none, none, [], [], fun _ => mpR PuM mq z.ps⟩, ⟨none, none, [], [], fun _ => mpR HoM hq z.hs⟩, ⟨none, none, [], [], fun _ => rowF IntF 3 p c ro.holds⟩, ⟨(some 2), none, [], [], fun _ => pt b3 (.cells #[.map (some mq), .map (some hq), Ix (z.last), Ix (z.su.a0), Ix (z.su.a1), Ix (z.su.a2), Ix (z.su.a3), .map (some (mpb (fa13 24)))] 88)⟩, ⟨(some 3), none, [], [], fun _ => pt b4 (.cells #[.bool (ro.done), Ix (ro.at_), Ix (ro.e), .slice p (ro.holds.length) c] 37)⟩] [(7, .pointer (some ⟨b6, 0, none⟩)), (8, .pointer (some ⟨b14, 0, none⟩)), (4, .pointer (some ⟨b3, 0, none⟩)), (5, .pointer (some ⟨b4, 0, none⟩))] [2, 3] [] (by kernel_rfl) (by kernel_rfl) (by kernel_rfl) (by kernel_rfl) rfl ⟨rfl, rfl, rfl, rfl, trivial⟩ ⟨?_, ?_, ?_, ?_, trivial⟩ ?_
 ·rintro f M - ⟨i0, -⟩
  have hs7 : f 7 = .pointer (some ⟨b6, 0, none⟩) := i0
  refine ob_start (L' := pt b6 (.cells #[.map (some mq), .map (some hq), Ix (z.last), Ix (z.su.a0), Ix (z.su.a1), Ix (z.su.a2), Ix (z.su.a3), .map (some (mpb (fa13 24)))] 88) :: M) (by rfl) (up_cons rfl hs7) ?_
  refine l_val (v := .agg #[.map (some mq), .map (some hq), Ix (z.last), Ix (z.su.a0), Ix (z.su.a1), Ix (z.su.a2), Ix (z.su.a3), .map (some (mpb (fa13 24)))]) rfl rfl rfl (e_load tt54 (cs := [.map (some mq), .map (some hq), Ix (z.last), Ix (z.su.a0), Ix (z.su.a1), Ix (z.su.a2), Ix (z.su.a3), .map (some (mpb (fa13 24)))]) rfl (k_pt 0 (cs := #[.map (some mq), .map (some hq), Ix (z.last), Ix (z.su.a0), Ix (z.su.a1), Ix (z.su.a2), Ix (z.su.a3), .map (some (mpb (fa13 24)))]) (vs := [.map (some mq), .map (some hq), Ix (z.last), Ix (z.su.a0), Ix (z.su.a1), Ix (z.su.a2), Ix (z.su.a3), .map (some (mpb (fa13 24)))]) rfl rfl) rfl) ?_
  refine l_nil ?_
  exact f_owes_d (up_cons rfl hs7) rfl (perm_front 0 rfl)
 ·rintro f M - ⟨i0, -⟩
  have hs8 : f 8 = .pointer (some ⟨b14, 0, none⟩) := i0
  refine ob_start (L' := pt b14 (.cells #[.bool (ro.done), Ix (ro.at_), Ix (ro.e), .slice p (ro.holds.length) c] 37) :: M) (by rfl) (up_cons rfl hs8) ?_
  refine l_val (v := .agg #[.bool (ro.done), Ix (ro.at_), Ix (ro.e), .slice p (ro.holds.length) c]) rfl rfl rfl (e_load tt61 (cs := [.bool (ro.done), Ix (ro.at_), Ix (ro.e), .slice p (ro.holds.length) c]) rfl (k_pt 0 (cs := #[.bool (ro.done), Ix (ro.at_), Ix (ro.e), .slice p (ro.holds.length) c]) (vs := [.bool (ro.done), Ix (ro.at_), Ix (ro.e), .slice p (ro.holds.length) c]) rfl rfl) rfl) ?_
  refine l_nil ?_
  exact f_owes_d (up_cons rfl hs8) rfl (perm_front 0 rfl)
 ·rintro f M ⟨k0, -⟩ ⟨i0, -⟩
  have hs4 : f 4 = .pointer (some ⟨b3, 0, none⟩) := i0
  have hs81 : f 81 = .agg #[.map (some mq), .map (some hq), Ix (z.last), Ix (z.su.a0), Ix (z.su.a1), Ix (z.su.a2), Ix (z.su.a3), .map (some (mpb (fa13 24)))] := k0
  refine ob_start (L' := pt b3 (.cells #[.map none, .map none, .int .i64 (0), .int .i64 (0), .int .i64 (0), .int .i64 (0), .int .i64 (0), .map none] 88) :: M) (by rfl) (up_cons (up_cons rfl hs4) hs81) ?_
  refine l_mu rfl rfl (m_store 0 tt54 (b := b3) (o := 0) (T := 88) (cs := #[.map none, .map none, .int .i64 (0), .int .i64 (0), .int .i64 (0), .int .i64 (0), .int .i64 (0), .map none]) (cs' := #[.map (some mq), .map (some hq), Ix (z.last), Ix (z.su.a0), Ix (z.su.a1), Ix (z.su.a2), Ix (z.su.a3), .map (some (mpb (fa13 24)))]) (v := .agg #[.map (some mq), .map (some hq), Ix (z.last), Ix (z.su.a0), Ix (z.su.a1), Ix (z.su.a2), Ix (z.su.a3), .map (some (mpb (fa13 24)))]) rfl rfl rfl rfl rfl rfl rfl) ?_
  refine l_nil ?_
  exact f_owes_n (up_cons (up_cons rfl hs4) hs81) trivial (perm_front 0 rfl)
 ·rintro f M ⟨k0, -⟩ ⟨i0, -⟩
  have hs5 : f 5 = .pointer (some ⟨b4, 0, none⟩) := i0
  have hs82 : f 82 = .agg #[.bool (ro.done), Ix (ro.at_), Ix (ro.e), .slice p (ro.holds.length) c] := k0
  refine ob_start (L' := pt b4 (.cells #[.bool false, .int .i64 (0), .int .i64 (0), .slice none 0 0] 37) :: M) (by rfl) (up_cons (up_cons rfl hs5) hs82) ?_
  refine l_mu rfl rfl (m_store 0 tt61 (b := b4) (o := 0) (T := 37) (cs := #[.bool false, .int .i64 (0), .int .i64 (0), .slice none 0 0]) (cs' := #[.bool (ro.done), Ix (ro.at_), Ix (ro.e), .slice p (ro.holds.length) c]) (v := .agg #[.bool (ro.done), Ix (ro.at_), Ix (ro.e), .slice p (ro.holds.length) c]) rfl rfl rfl rfl rfl rfl rfl) ?_
  refine l_nil ?_
  exact f_owes_n (up_cons (up_cons rfl hs5) hs82) trivial (perm_front 0 rfl)
 rintro fa29 ⟨-, -, -, -, -⟩ ⟨j0, j1, -⟩
 refine f_re (L' := [pt b14 (.cells #[.bool (ro.done), Ix (ro.at_), Ix (ro.e), .slice p (ro.holds.length) c] 37), pt b2 (.cells #[Ix (au), Ix (nu), .slice va (xs.length) (vc)] 80), mpR MeM (mpb (fa13 24)) (MeM.put ms (au) (⟨au, nu, va, xs.length, vc, ro.done, ro.at_, ro.e, p, ro.holds.length, c⟩ : KMh)), mpR MeM mm ms, pt b6 (.cells #[.map (some mq), .map (some hq), Ix (z.last), Ix (z.su.a0), Ix (z.su.a1), Ix (z.su.a2), Ix (z.su.a3), .map (some (mpb (fa13 24)))] 88), mpR PuM mq z.ps, mpR HoM hq z.hs, rowF IntF 3 p c ro.holds, pt b3 (.cells #[.map (some mq), .map (some hq), Ix (z.last), Ix (z.su.a0), Ix (z.su.a1), Ix (z.su.a2), Ix (z.su.a3), .map (some (mpb (fa13 24)))] 88), pt b4 (.cells #[.bool (ro.done), Ix (ro.at_), Ix (ro.e), .slice p (ro.holds.length) c] 37)]) (by rfl) ?_
 refine f_rebase (d := 4) (v := .pointer (some ⟨b3, 0, none⟩)) j0 ?_
 refine f_rebase (d := 5) (v := .pointer (some ⟨b4, 0, none⟩)) j1 ?_
 refine f_then ?_
 refine c_ret ?_
 refine f_scope_ret ?_
 refine retG (l := [.cell 4 88, .cell 5 37]) (m := [.agg #[.map (some mq), .map (some hq), Ix (z.last), Ix (z.su.a0), Ix (z.su.a1), Ix (z.su.a2), Ix (z.su.a3), .map (some (mpb (fa13 24)))], .agg #[.bool (ro.done), Ix (ro.at_), Ix (ro.e), .slice p (ro.holds.length) c]]) (v := .tuple #[.agg #[.map (some mq), .map (some hq), Ix (z.last), Ix (z.su.a0), Ix (z.su.a1), Ix (z.su.a2), Ix (z.su.a3), .map (some (mpb (fa13 24)))], .agg #[.bool (ro.done), Ix (ro.at_), Ix (ro.e), .slice p (ro.holds.length) c]]) Tryz.results39 ⟨rd_cell tt54 (cs := [.map (some mq), .map (some hq), Ix (z.last), Ix (z.su.a0), Ix (z.su.a1), Ix (z.su.a2), Ix (z.su.a3), .map (some (mpb (fa13 24)))]) rfl (k_pt 8 (cs := #[.map (some mq), .map (some hq), Ix (z.last), Ix (z.su.a0), Ix (z.su.a1), Ix (z.su.a2), Ix (z.su.a3), .map (some (mpb (fa13 24)))]) (vs := [.map (some mq), .map (some hq), Ix (z.last), Ix (z.su.a0), Ix (z.su.a1), Ix (z.su.a2), Ix (z.su.a3), .map (some (mpb (fa13 24)))]) rfl rfl) rfl, rd_cell tt61 (cs := [.bool (ro.done), Ix (ro.at_), Ix (ro.e), .slice p (ro.holds.length) c]) rfl (k_pt 9 (cs := #[.bool (ro.done), Ix (ro.at_), Ix (ro.e), .slice p (ro.holds.length) c]) (vs := [.bool (ro.done), Ix (ro.at_), Ix (ro.e), .slice p (ro.holds.length) c]) rfl rfl) rfl, trivial⟩ rfl ?_
 intro w hw
 replace hw := hw.perm (L' := [mpR PuM mq z.ps, mpR HoM hq z.hs, mpR MeM (mpb (fa13 24)) (MeM.put ms (au) (⟨au, nu, va, xs.length, vc, ro.done, ro.at_, ro.e, p, ro.holds.length, c⟩ : KMh)), rowF IntF 3 p c ro.holds, pt b14 (.cells #[.bool (ro.done), Ix (ro.at_), Ix (ro.e), .slice p (ro.holds.length) c] 37), pt b2 (.cells #[Ix (au), Ix (nu), .slice va (xs.length) (vc)] 80), mpR MeM mm ms, pt b6 (.cells #[.map (some mq), .map (some hq), Ix (z.last), Ix (z.su.a0), Ix (z.su.a1), Ix (z.su.a2), Ix (z.su.a3), .map (some (mpb (fa13 24)))] 88), pt b3 (.cells #[.map (some mq), .map (some hq), Ix (z.last), Ix (z.su.a0), Ix (z.su.a1), Ix (z.su.a2), Ix (z.su.a3), .map (some (mpb (fa13 24)))] 88), pt b4 (.cells #[.bool (ro.done), Ix (ro.at_), Ix (ro.e), .slice p (ro.holds.length) c] 37)]) (by exact (perm_ix [5, 6, 2, 7, 0, 1, 3, 4, 8, 9] 10 rfl (by kernel_rfl) (by kernel_rfl)))
 exact ⟨mq, hq, (mpb (fa13 24)), p, c, z, ro, hcar.symm, rfl, st_mask (L' := [mpR PuM mq z.ps, mpR HoM hq z.hs, mpR MeM (mpb (fa13 24)) (MeM.put ms (au) (⟨au, nu, va, xs.length, vc, ro.done, ro.at_, ro.e, p, ro.holds.length, c⟩ : KMh)), rowF IntF 3 p c ro.holds]) [true, true, true, true, false, false, false, false, false, false] rfl hw⟩
end Go.Proofs
