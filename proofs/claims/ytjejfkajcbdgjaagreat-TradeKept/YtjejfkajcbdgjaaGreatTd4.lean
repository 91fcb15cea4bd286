/-
 Copies of maps; a transaction carried out: walked. Printed by a program of my own.
-/
import Derived.Test.YtjejfkajcbdgjaaGreatTdKind
import Derived.Test.YtjejfkajcbdgjaaGreatSlJb
import Derived.Test.YtjejfkajcbdgjaaGreatSlA
import Derived.Test.YtjejfkajcbdgjaaGreatSlN
namespace Go.Proofs
open Go Go.Sl Go.Td
theorem tt49 : Tryz.prog.underlying 84 = some (.map 3 44) := by kernel_rfl
theorem tt50 : Tryz.prog.underlying 85 = some (.map 3 104) := by kernel_rfl
theorem tt51 : Tryz.prog.underlying 86 = some (.map 3 82) := by kernel_rfl
instance tt52 : ZerC Tryz.prog 88 (.agg #[.map none, .map none, .int .i64 (0), .int .i64 (0), .int .i64 (0), .int .i64 (0), .int .i64 (0), .map none]) := ⟨by kernel_rfl⟩
instance tt53 : ZerC Tryz.prog 37 (.agg #[.bool false, .int .i64 (0), .int .i64 (0), .slice none 0 0]) := ⟨by kernel_rfl⟩
instance tt54 : TyC Tryz.prog 88 true 8 := ⟨by kernel_rfl⟩
instance tt55 : CfC Tryz.prog 74 := ⟨by kernel_rfl⟩
instance tt56 : CfC Tryz.prog 75 := ⟨by kernel_rfl⟩
instance tt57 : FldC Tryz.prog 88 4 7 1 false := ⟨by kernel_rfl⟩
instance tt58 : TyC Tryz.prog 86 false 1 := ⟨by kernel_rfl⟩
instance tt59 : CfC Tryz.prog 76 := ⟨by kernel_rfl⟩
theorem tt60 : stB Tryz.prog 37 [(0, 1), (1, 1), (2, 1), (3, 1)] = true := by kernel_rfl
instance tt61 : TyC Tryz.prog 37 true 4 := ⟨by kernel_rfl⟩
instance tt62 : FldC Tryz.prog 37 3 3 1 false := ⟨by kernel_rfl⟩
instance tt63 : TyC Tryz.prog 35 false 1 := ⟨by kernel_rfl⟩
instance tt64 : ZerC Tryz.prog 3 (.int .i64 (0)) := ⟨by kernel_rfl⟩
instance tt65 : TyC Tryz.prog 80 true 3 := ⟨by kernel_rfl⟩
theorem tt66 : stB Tryz.prog 82 [(0, 3), (3, 4)] = true := by kernel_rfl
instance tt67 : ZerC Tryz.prog 82 (.agg #[.int .i64 (0), .int .i64 (0), .slice none 0 0, .bool false, .int .i64 (0), .int .i64 (0), .slice none 0 0]) := ⟨by kernel_rfl⟩
theorem cloneP_ok (β : Base) (w : World) (m : Nat) (ks : List (Int × KAm)) (hw : St β [mpR PuM m ks] w) : Calls Tryz.prog 74 #[.map (some m)] w fun r w' => ∃ b, r = .returned (.map (some b)) ∧ St β [mpR PuM b ks, mpR PuM m ks] w' := by
 refine enter (n := 9) Tryz.func74 rfl Tryz.ntmps74 rfl ?_ hw
 refine csr (lv e_assign (lnf (cs2 (c_region (lv e_move (lv (v := .bool false) (e_eql_mnil (b := some m) rfl rfl tt49) (lnf (c_no rfl (csk (csr ?_))))))))))
 refine lv e_move (lv (v := .iface 84 (.map (some m))) (e_mkiface (v := .map (some m)) rfl tt49 rfl) ?_)
 refine l_mv rfl rfl rfl (m_clone (K := PuM) (h := 110) (b := m) (ks := ks) 0 rfl clone110 rfl rfl) ?_
 rintro _ _ ⟨b1,rfl,rfl⟩
 refine lv (v := .map (some b1)) (e_assert (v := .map (some b1)) rfl tt49 rfl) (lv e_assign (lnf (c_ret (ret1 Tryz.results74 rfl ?_))))
 intro w hw
 exact ⟨b1,rfl,st_mask [true,true] rfl hw⟩
theorem cloneH_ok (β : Base) (w : World) (m : Nat) (ks : List (Int × KHo)) (hw : St β [mpR HoM m ks] w) : Calls Tryz.prog 75 #[.map (some m)] w fun r w' => ∃ b, r = .returned (.map (some b)) ∧ St β [mpR HoM b ks, mpR HoM m ks] w' := by
 refine enter (n := 9) Tryz.func75 rfl Tryz.ntmps75 rfl ?_ hw
 refine csr (lv e_assign (lnf (cs2 (c_region (lv e_move (lv (v := .bool false) (e_eql_mnil (b := some m) rfl rfl tt50) (lnf (c_no rfl (csk (csr ?_))))))))))
 refine lv e_move (lv (v := .iface 85 (.map (some m))) (e_mkiface (v := .map (some m)) rfl tt50 rfl) ?_)
 refine l_mv rfl rfl rfl (m_clone (K := HoM) (h := 110) (b := m) (ks := ks) 0 rfl clone110 rfl rfl) ?_
 rintro _ _ ⟨b1,rfl,rfl⟩
 refine lv (v := .map (some b1)) (e_assert (v := .map (some b1)) rfl tt50 rfl) (lv e_assign (lnf (c_ret (ret1 Tryz.results75 rfl ?_))))
 intro w hw
 exact ⟨b1,rfl,st_mask [true,true] rfl hw⟩
theorem cloneM_ok (β : Base) (w : World) (m : Nat) (ks : List (Int × KMh)) (hw : St β [mpR MeM m ks] w) : Calls Tryz.prog 76 #[.map (some m)] w fun r w' => ∃ b, r = .returned (.map (some b)) ∧ St β [mpR MeM b ks, mpR MeM m ks] w' := by
 refine enter (n := 9) Tryz.func76 rfl Tryz.ntmps76 rfl ?_ hw
 refine csr (lv e_assign (lnf (cs2 (c_region (lv e_move (lv (v := .bool false) (e_eql_mnil (b := some m) rfl rfl tt51) (lnf (c_no rfl (csk (csr ?_))))))))))
 refine lv e_move (lv (v := .iface 86 (.map (some m))) (e_mkiface (v := .map (some m)) rfl tt51 rfl) ?_)
 refine l_mv rfl rfl rfl (m_clone (K := MeM) (h := 110) (b := m) (ks := ks) 0 rfl clone110 rfl rfl) ?_
 rintro _ _ ⟨b1,rfl,rfl⟩
 refine lv (v := .map (some b1)) (e_assert (v := .map (some b1)) rfl tt51 rfl) (lv e_assign (lnf (c_ret (ret1 Tryz.results76 rfl ?_))))
 intro w hw
 exact ⟨b1,rfl,st_mask [true,true] rfl hw⟩
set_option maxHeartbeats 4000000 in
theorem carry_ok (β : Base) (w : World) (mp mh mm : Nat) (s : KSt) (ms : List (Int × KMh)) (hw : St β [mpR PuM mp s.ps, mpR HoM mh s.hs, mpR MeM mm ms] w) (au nu : Int) (v : Value) (xs : List KAct) (hs : Sl ActF.R β.heap v xs) (hfo : ∀ x ∈ xs, x.formed = true) (hn : xs.length ≤ 16) (M : Int) (hM : M ≤ 1152921504606846976) (hg : GoodS s M) : Calls Tryz.prog 39 #[.agg (stC mp mh mm s.last s.su), .agg #[Ix au, Ix nu, v]] w fun r w' => ∃ mq hq mn p c z ro, carryF s xs = (z, ro) ∧ r = .returned (.tuple #[.agg (stC mq hq mn z.last z.su), .agg #[.bool ro.done, Ix ro.at_, Ix ro.e, sB p ro.holds c]]) ∧ St β [mpR PuM mq z.ps, mpR HoM hq z.hs, mpR MeM mn (MeM.put ms au ⟨au, nu, sla v, xs.length, slc v, ro.done, ro.at_, ro.e, p, ro.holds.length, c⟩), rowF IntF 3 p c ro.holds] w' := by
 obtain ⟨va,vc,rfl,vl,vm,ve⟩ := hs.get
 refine enter (n := 83) Tryz.func39 rfl Tryz.ntmps39 rfl ?_ hw
 refine csr (bxa fun b1 => ?_)
 refine bxa fun b2 => ?_
 refine alE fun b3 => alE fun b4 => lnf (c_scope (csr (l_mv rfl rfl rfl (m_mkmap (K := KiM)) ?_)))
 rintro _ _ ⟨b5,rfl,rfl⟩
 refine lu (m_minsert (K := KiM) (b := b5) (ks := []) (k := 1) (v := (some 67)) 0 rfl rfl rfl rfl rfl) ?_
 refine lu (m_minsert (K := KiM) (b := b5) (ks := (KiM.put [] 1 (some 67))) (k := 2) (v := (some 68)) 0 rfl rfl rfl rfl rfl) ?_
 refine lu (m_minsert (K := KiM) (b := b5) (ks := (KiM.put (KiM.put [] 1 (some 67)) 2 (some 68))) (k := 3) (v := (some 69)) 0 rfl rfl rfl rfl rfl) ?_
 refine lu (m_minsert (K := KiM) (b := b5) (ks := (KiM.put (KiM.put (KiM.put [] 1 (some 67)) 2 (some 68)) 3 (some 69))) (k := 4) (v := (some 70)) 0 rfl rfl rfl rfl rfl) ?_
 refine lu (m_minsert (K := KiM) (b := b5) (ks := (KiM.put (KiM.put (KiM.put (KiM.put [] 1 (some 67)) 2 (some 68)) 3 (some 69)) 4 (some 70))) (k := 5) (v := (some 71)) 0 rfl rfl rfl rfl rfl) ?_
 refine lu (m_minsert (K := KiM) (b := b5) (ks := (KiM.put (KiM.put (KiM.put (KiM.put (KiM.put [] 1 (some 67)) 2 (some 68)) 3 (some 69)) 4 (some 70)) 5 (some 71))) (k := 6) (v := (some 72)) 0 rfl rfl rfl rfl rfl) ?_
 refine lu (m_minsert (K := KiM) (b := b5) (ks := (KiM.put (KiM.put (KiM.put (KiM.put (KiM.put (KiM.put [] 1 (some 67)) 2 (some 68)) 3 (some 69)) 4 (some 70)) 5 (some 71)) 6 (some 72))) (k := 7) (v := (some 73)) 0 rfl rfl rfl rfl rfl) ?_
 refine lv e_move (lv e_assign (lnf (c_seq ?_)))
 rw [kinds_put]
 refine c_region (lE (olg 4) (alE fun b6 => ?_))
 refine lu (mS 0 (#[.map (some mp),.map (some mh),Ix (s.last),Ix (s.su.a0),Ix (s.su.a1),Ix (s.su.a2),Ix (s.su.a3),.map (some mm)])) (lnf (c_seq ?_))
 refine cnz [sv 16 (pp b1 0) [] [] [0],sv 17 (.map (some mp)) [0] [0] [],⟨[0,1],[1],[],[18],fun f => f 18 = .map (some (mpb (f 18)))⟩,sv 19 (pp b1 1) [] [] [0],sv 20 (.map (some mh)) [3] [3] [],⟨[0,1,2,3,4],[4],[],[21],fun f => f 21 = .map (some (mpb (f 21)))⟩,sv 22 (pp b1 7) [] [] [0],sv 23 (.map (some mm)) [6] [6] [],⟨(List.range 8),[7],[],[24],fun f => f 24 = .map (some (mpb (f 24)))⟩,sv 25 (pp b6 0) (List.range 9) [] [1],⟨(List.range 10),[9,2],[],[],fun _ => True⟩,sv 26 (pp b6 1) (List.range 11) [] [1],⟨(List.range 12),[11,5],[],[],fun _ => True⟩,sv 27 (pp b6 7) (List.range 13) [] [1],⟨(List.range 14),[13,8],[],[],fun _ => True⟩] [(some 10,[10]),u0,u0,u0,u0,u1 [1,4,7],(some 2,[2]),(some 5,[5]),(some 8,[8])] [⟨(some 2),none,[],[18],fun f => mpR PuM (mpb (f 18)) s.ps⟩,⟨(some 2),none,[],[],fun _ => mpR PuM mp s.ps⟩,⟨(some 5),none,[],[21],fun f => mpR HoM (mpb (f 21)) s.hs⟩,⟨(some 5),none,[],[],fun _ => mpR HoM mh s.hs⟩,⟨(some 8),none,[],[24],fun f => mpR MeM (mpb (f 24)) ms⟩,⟨(some 8),none,[],[],fun _ => mpR MeM mm ms⟩,⟨(some 10),(some 12),[12],[18],fun f => pt b6 (.cells #[.map (some (mpb (f 18))),.map (some mh),Ix (s.last),Ix (s.su.a0),Ix (s.su.a1),Ix (s.su.a2),Ix (s.su.a3),.map (some mm)] 88)⟩,⟨(some 12),(some 14),[14],[18,21],fun f => pt b6 (.cells #[.map (some (mpb (f 18))),.map (some (mpb (f 21))),Ix (s.last),Ix (s.su.a0),Ix (s.su.a1),Ix (s.su.a2),Ix (s.su.a3),.map (some mm)] 88)⟩,⟨(some 14),none,[],[18,21,24],fun f => pt b6 (.cells #[.map (some (mpb (f 18))),.map (some (mpb (f 21))),Ix (s.last),Ix (s.su.a0),Ix (s.su.a1),Ix (s.su.a2),Ix (s.su.a3),.map (some (mpb (f 24)))] 88)⟩] [(2,pp b1 0),(7,pp b6 0),(3,pp b2 0),(4,pp b3 0),(5,pp b4 0),(6,.map (some b5))] [0,2,3,4,5,1] ⟨rfl,rfl,rfl,rfl,rfl,rfl,trivial⟩ ⟨?_,?_,?_,?_,?_,?_,?_,?_,?_,?_,?_,?_,?_,?_,?_,trivial⟩ ?_
 ·rintro f M - ⟨i0,-⟩
  exact obE ofp
 ·rintro f M ⟨k0,-⟩ -
  exact obv (L' := pt b1 (.cells #[.map (some mp),.map (some mh),Ix (s.last),Ix (s.su.a0),Ix (s.su.a1),Ix (s.su.a2),Ix (s.su.a3),.map (some mm)] 88) :: M) (up_cons (d := 16) rfl k0) rfl (e_load1 tt33.ok rfl (k_pt 0 rfl rfl)) (perm_front 0 rfl) (by rfl)
 ·rintro f M ⟨k0,-⟩ -
  refine obS (up_cons (d := 17) rfl k0) ?_
  refine l_call rfl rfl rfl (cl0 (vs := [.map (some mp)]) tt55.ok rfl rfl) ?_
  intro w hw
  replace hw := hw.perm (L' := _ :: M) (by exact (perm_front 0 rfl))
  obtain ⟨β1,sb,kn,hw1,back⟩ := St.frame (L := [_]) (M := M) hw
  refine (cloneP_ok β1 w mp s.ps hw1).mono ?_
  rintro e w' ⟨b8,rfl,hw'⟩
  refine ⟨_,rfl,_,back _ _ hw',?_⟩
  clear hw hw1 hw' back kn sb
  refine l_nil ?_
  exact f_owes_d (up_cons (d := 17) rfl k0) rfl ((perm_front 1 rfl).trans (perm_front 1 rfl))
 ·rintro f M - ⟨i0,-⟩
  exact obE ofp
 ·rintro f M ⟨k0,-⟩ -
  exact obv (L' := pt b1 (.cells #[.map (some mp),.map (some mh),Ix (s.last),Ix (s.su.a0),Ix (s.su.a1),Ix (s.su.a2),Ix (s.su.a3),.map (some mm)] 88) :: M) (up_cons (d := 19) rfl k0) rfl (e_load1 tt39.ok rfl (k_pt 0 rfl rfl)) (perm_front 0 rfl) (by rfl)
 ·rintro f M ⟨k0,-⟩ -
  refine obS (up_cons (d := 20) rfl k0) ?_
  refine l_call rfl rfl rfl (cl0 (vs := [.map (some mh)]) tt56.ok rfl rfl) ?_
  intro w hw
  replace hw := hw.perm (L' := _ :: M) (by exact (perm_front 0 rfl))
  obtain ⟨β1,sb,kn,hw1,back⟩ := St.frame (L := [_]) (M := M) hw
  refine (cloneH_ok β1 w mh s.hs hw1).mono ?_
  rintro e w' ⟨b10,rfl,hw'⟩
  refine ⟨_,rfl,_,back _ _ hw',?_⟩
  clear hw hw1 hw' back kn sb
  refine l_nil ?_
  exact f_owes_d (up_cons (d := 20) rfl k0) rfl ((perm_front 1 rfl).trans (perm_front 1 rfl))
 ·rintro f M - ⟨i0,-⟩
  exact obE ofp
 ·rintro f M ⟨k0,-⟩ -
  exact obv (L' := pt b1 (.cells #[.map (some mp),.map (some mh),Ix (s.last),Ix (s.su.a0),Ix (s.su.a1),Ix (s.su.a2),Ix (s.su.a3),.map (some mm)] 88) :: M) (up_cons (d := 22) rfl k0) rfl (e_load1 tt58.ok rfl (k_pt 0 rfl rfl)) (perm_front 0 rfl) (by rfl)
 ·rintro f M ⟨k0,-⟩ -
  refine obS (up_cons (d := 23) rfl k0) ?_
  refine l_call rfl rfl rfl (cl0 (vs := [.map (some mm)]) tt59.ok rfl rfl) ?_
  intro w hw
  replace hw := hw.perm (L' := _ :: M) (by exact (perm_front 0 rfl))
  obtain ⟨β1,sb,kn,hw1,back⟩ := St.frame (L := [_]) (M := M) hw
  refine (cloneM_ok β1 w mm ms hw1).mono ?_
  rintro e w' ⟨b12,rfl,hw'⟩
  refine ⟨_,rfl,_,back _ _ hw',?_⟩
  clear hw hw1 hw' back kn sb
  refine l_nil ?_
  exact f_owes_d (up_cons (d := 23) rfl k0) rfl ((perm_front 1 rfl).trans (perm_front 1 rfl))
 ·rintro f M - ⟨i0,-⟩
  exact obE ofp
 ·rintro f M ⟨k0,k1,-⟩ -
  have hs18 : f 18 = .map (some (mpb (f 18))) := k1
  refine obS (up_cons (up_cons (d := 25) rfl k0) hs18) ?_
  refine lu (mS 0 (#[.map (some (mpb (f 18))),.map (some mh),Ix (s.last),Ix (s.su.a0),Ix (s.su.a1),Ix (s.su.a2),Ix (s.su.a3),.map (some mm)])) ?_
  refine l_nil ?_
  exact f_owes_n (up_cons (up_cons (d := 25) rfl k0) hs18) trivial (perm_front 0 rfl)
 ·rintro f M - ⟨i0,-⟩
  exact obE ofp
 ·rintro f M ⟨k0,k1,-⟩ -
  have hs21 : f 21 = .map (some (mpb (f 21))) := k1
  refine obS (up_cons (up_cons (d := 26) rfl k0) hs21) ?_
  refine lu (mS 0 (#[.map (some (mpb (f 18))),.map (some (mpb (f 21))),Ix (s.last),Ix (s.su.a0),Ix (s.su.a1),Ix (s.su.a2),Ix (s.su.a3),.map (some mm)])) ?_
  refine l_nil ?_
  exact f_owes_n (up_cons (up_cons (d := 26) rfl k0) hs21) trivial (perm_front 0 rfl)
 ·rintro f M - ⟨i0,-⟩
  exact obE ofp
 ·rintro f M ⟨k0,k1,-⟩ -
  have hs24 : f 24 = .map (some (mpb (f 24))) := k1
  refine obS (up_cons (up_cons (d := 27) rfl k0) hs24) ?_
  refine lu (mS 0 (#[.map (some (mpb (f 18))),.map (some (mpb (f 21))),Ix (s.last),Ix (s.su.a0),Ix (s.su.a1),Ix (s.su.a2),Ix (s.su.a3),.map (some (mpb (f 24)))])) ?_
  refine l_nil ?_
  exact f_owes_n (up_cons (up_cons (d := 27) rfl k0) hs24) trivial (perm_front 0 rfl)
 rintro fa13 ⟨-,-,-,-,-,-,-,-,-,-,-,-,-,-,-,-⟩ ⟨j0,j1,j2,j3,j4,j5,-⟩
 refine fre ?_
 refine f_rebase (d := 2) j0 (f_rebase (d := 3) j1 (f_rebase (d := 4) j2 (f_rebase (d := 5) j3 (f_rebase (d := 6) j4 (f_rebase (d := 7) j5 (ftc ?_))))))
 refine lv (v := .agg #[.bool true,.int .i64 (0),.int .i64 (0),.slice none 0 0]) (e_build tt53.ok tt60 (vs := [(0,.bool true)]) (cells := #[.bool true,.int .i64 (0),.int .i64 (0),.slice none 0 0]) rfl rfl) ?_
 refine alE fun b14 => lu (mS 0 (#[.bool true,.int .i64 (0),.int .i64 (0),.slice none 0 0])) (lnf (c_seq (c_label (f_then ?_))))
 refine c_seq_cut (fun (f : Fm) (L : List Res) => ∃ (mq : Nat) (hq : Nat) (z : KSt) (ro : KRes) (p : Option Addr) (c : Nat),(f 3 = pp b2 0 ∧ f 4 = pp b3 0 ∧ f 5 = pp b4 0 ∧ f 7 = pp b6 0 ∧ f 8 = pp b14 0) ∧ L = [pt b14 (.cells #[.bool (ro.done),Ix (ro.at_),Ix (ro.e),sB p ro.holds c] 37),pt b4 (.cells #[.bool false,.int .i64 (0),.int .i64 (0),.slice none 0 0] 37),pt b3 (.cells #[.map none,.map none,.int .i64 (0),.int .i64 (0),.int .i64 (0),.int .i64 (0),.int .i64 (0),.map none] 88),pt b2 (.cells #[Ix (au),Ix (nu),sB va xs (vc)] 80),mpR MeM (mpb (fa13 24)) ms,mpR MeM mm ms,pt b6 (.cells #[.map (some mq),.map (some hq),Ix (z.last),Ix (z.su.a0),Ix (z.su.a1),Ix (z.su.a2),Ix (z.su.a3),.map (some (mpb (fa13 24)))] 88),mpR PuM mq z.ps,mpR HoM hq z.hs,rowF IntF 3 p c ro.holds] ∧ ((z,ro) = carryF s xs)) ?_ ?_
 ·refine c_seq (c_emp (r := rowF IntF 3 none 0 []) (row_nil _ _ _) (c_region (lE ofp (lE (ols 5) (lE oln (lE omi (lnf (c_block ?_))))))))
  refine c_loop (fun (x_ : Nat × KSt × List Int × Option Addr × Nat) f L => match x_ with | (k,z,made,p,c) => (f 2 = pp b1 0 ∧ f 3 = pp b2 0 ∧ f 4 = pp b3 0 ∧ f 5 = pp b4 0 ∧ f 6 = .map (some b5) ∧ f 7 = pp b6 0 ∧ f 8 = pp b14 0 ∧ f 30 = sB va xs (vc) ∧ f 31 = Nx (xs.length) ∧ f 32 = Nx (k)) ∧ L = [rowF IntF 3 p c made,pt b14 (.cells #[.bool true,.int .i64 (0),.int .i64 (0),sB p made c] 37),mpR KiM b5 kindsL,pt b4 (.cells #[.bool false,.int .i64 (0),.int .i64 (0),.slice none 0 0] 37),pt b3 (.cells #[.map none,.map none,.int .i64 (0),.int .i64 (0),.int .i64 (0),.int .i64 (0),.int .i64 (0),.map none] 88),pt b2 (.cells #[Ix (au),Ix (nu),sB va xs (vc)] 80),pt b1 (.cells #[.map (some mp),.map (some mh),Ix (s.last),Ix (s.su.a0),Ix (s.su.a1),Ix (s.su.a2),Ix (s.su.a3),.map (some mm)] 88),mpR PuM (mpb (fa13 18)) z.ps,mpR PuM mp s.ps,mpR HoM (mpb (fa13 21)) z.hs,mpR HoM mh s.hs,mpR MeM (mpb (fa13 24)) ms,mpR MeM mm ms,pt b6 (.cells #[.map (some (mpb (fa13 18))),.map (some (mpb (fa13 21))),Ix (z.last),Ix (z.su.a0),Ix (z.su.a1),Ix (z.su.a2),Ix (z.su.a3),.map (some (mpb (fa13 24)))] 88)] ∧ (k ≤ xs.length ∧ made.length ≤ k ∧ runA s z made k (xs.drop k) = carryF s xs ∧ GoodS z (M + k * 2147483648))) (fun (k,z,made,p,c) => xs.length - k) (0,s,[],none,0) ?_ ?_
  ·exact ⟨⟨rfl,rfl,rfl,rfl,rfl,rfl,rfl,rfl,rfl,rfl⟩,rfl,⟨by omega,by simp,rfl,hg.le (by omega)⟩⟩
  rintro ⟨k,z,made,p,c⟩ f0 L0 ⟨⟨hs2,hs3,hs4,hs5,hs6,hs7,hs8,hs30,hs31,hs32⟩,hL,⟨hk,hmk,hrun,hg1⟩⟩
  subst L0
  refine rbs 2 hs2 (rbs 3 hs3 (rbs 4 hs4 (rbs 5 hs5 (rbs 6 hs6 (rbs 7 hs7 (rbs 8 hs8 (rbs 30 hs30 (rbs 31 hs31 (rbs 32 hs32 (csr (lE olt (lnf (c_seq ?_)))))))))))))
  refine c_if _ rfl (fun hc15 => ?_) (fun hc15 => ?_)
  ·refine csk (c_seq (c_block (csr (lE omi ?_))))
   obtain ⟨x16,hx17⟩ := getx xs k (by omega)
   obtain ⟨ha18,cs19,hc20,rfl⟩ := ve _ _ hx17
   refine lE (oia tt16 ha18) ?_
   refine lv (v := .agg #[Bx (x16.kind),Ix (x16.owner),Ix (x16.other),Ix (x16.hold),Ix (x16.a.a0),Ix (x16.a.a1),Ix (x16.a.a2),Ix (x16.a.a3)]) (e_load tt17.ok rfl (kB hc20) rfl) ?_
   refine alE fun b22 => lE oai ?_
   refine lu (mS 0 (#[Bx (x16.kind),Ix (x16.owner),Ix (x16.other),Ix (x16.hold),Ix (x16.a.a0),Ix (x16.a.a1),Ix (x16.a.a2),Ix (x16.a.a3)])) (lnf ?_)
   refine c_seq ?_
   have hxf := hfo _ (List.mem_of_getElem? hx17)
   have hklt := (List.getElem?_eq_some_iff.1 hx17).1
   obtain ⟨gg,hgg,hcf,hact⟩ := act_call x16 hxf
   refine c_region (lv e_move (lE ofp (lE (oli 0) ?_)))
   refine lv (v := .func (.func gg) #[] #[]) (ev_eq (congrArg KiM.encv hgg) (e_look1 (K := KiM) (b := b5) (ks := kindsL) (k := ((x16.kind).toNat : Int)) rfl rfl rfl (Knows.of_res 3 rfl (mpR.mono _ _ _) fun _ h => h))) ?_
   refine lE (olg 0) ?_
   refine l_call rfl rfl rfl (cl0 (vs := [pp b6 0,.agg #[Bx (x16.kind),Ix (x16.owner),Ix (x16.other),Ix (x16.hold),Ix (x16.a.a0),Ix (x16.a.a1),Ix (x16.a.a2),Ix (x16.a.a3)]]) hcf rfl rfl) ?_
   intro w hw
   replace hw := hw.perm (L' := [pt b6 (.cells #[.map (some (mpb (fa13 18))),.map (some (mpb (fa13 21))),Ix (z.last),Ix (z.su.a0),Ix (z.su.a1),Ix (z.su.a2),Ix (z.su.a3),.map (some (mpb (fa13 24)))] 88),mpR PuM (mpb (fa13 18)) z.ps,mpR HoM (mpb (fa13 21)) z.hs,pt b22 (.cells #[Bx (x16.kind),Ix (x16.owner),Ix (x16.other),Ix (x16.hold),Ix (x16.a.a0),Ix (x16.a.a1),Ix (x16.a.a2),Ix (x16.a.a3)] 47),rowF IntF 3 p c made,pt b14 (.cells #[.bool true,.int .i64 (0),.int .i64 (0),sB p made c] 37),mpR KiM b5 kindsL,pt b4 (.cells #[.bool false,.int .i64 (0),.int .i64 (0),.slice none 0 0] 37),pt b3 (.cells #[.map none,.map none,.int .i64 (0),.int .i64 (0),.int .i64 (0),.int .i64 (0),.int .i64 (0),.map none] 88),pt b2 (.cells #[Ix (au),Ix (nu),sB va xs (vc)] 80),pt b1 (.cells #[.map (some mp),.map (some mh),Ix (s.last),Ix (s.su.a0),Ix (s.su.a1),Ix (s.su.a2),Ix (s.su.a3),.map (some mm)] 88),mpR PuM mp s.ps,mpR HoM mh s.hs,mpR MeM (mpb (fa13 24)) ms,mpR MeM mm ms]) (by exact (perm_ix [14,8,10,0,1,2,3,4,5,6,7,9,11,12,13] 15 rfl (by kernel_rfl) (by kernel_rfl)))
   obtain ⟨β1,sb,kn,hw1,back⟩ := St.frame (L := [_,_,_]) (M := _ :: _ :: _ :: _ :: _ :: _ :: _ :: _ :: _ :: _ :: _ :: _ :: []) hw
   refine (hact β1 w b6 (mpb (fa13 18)) (mpb (fa13 21)) (mpb (fa13 24)) z hw1 hg1.p hg1.h (bd_le hg1.su (by omega)) ⟨by have := hg1.l0; omega,by have := hg1.lM; omega⟩).mono ?_
   rintro e w' ⟨rfl,hw'⟩
   refine ⟨_,rfl,_,back _ _ hw',?_⟩
   clear hw hw1 hw' back kn sb
   refine lE omt (lE oxi (lE oxi (lE oai (lE oai (lnf (c_block (csr (lE omi (lE onq (lE oab (lnf (c_if _ rfl (fun hc23 => ?_) (fun hc23 => ?_)))))))))))))
   ·refine csr (lE omi (lE omi ?_))
    refine lv (v := .agg #[.bool false,Nx (k),Ix ((actS z x16).2.2),.slice none 0 0]) (e_build tt53.ok tt60 (vs := [(1,Nx (k)),(2,Ix ((actS z x16).2.2))]) (cells := #[.bool false,Nx (k),Ix ((actS z x16).2.2),.slice none 0 0]) rfl rfl) ?_
    refine lu (mS 5 (#[.bool false,Nx (k),Ix ((actS z x16).2.2),.slice none 0 0])) (lnf (c_seq ?_))
    refine cnz [sv 52 (pp b1 0) [] [] [0],sv 53 (.map (some mp)) [0] [0] [],sv 54 (pp b1 1) [] [] [0],sv 55 (.map (some mh)) [2] [2] [],sv 56 (pp b1 2) [] [] [0],sv 57 (Ix (s.last)) [4] [4] [],sv 58 (pp b1 3) [] [] [0],sv 59 (.agg (amC s.su)) [6] [6] [],sv 60 (pp b6 0) [0,1] [] [1],⟨[0,1,8],[8,1],[],[],fun _ => True⟩,sv 61 (pp b6 1) [0,1,2,3,8,9] [] [1],⟨[0,1,2,3,8,9,10],[10,3],[],[],fun _ => True⟩,sv 62 (pp b6 2) [0,1,2,3,4,5,8,9,10,11] [] [1],⟨[0,1,2,3,4,5,8,9,10,11,12],[12,5],[],[],fun _ => True⟩,sv 63 (pp b6 3) (List.range 14) [] [1],⟨(List.range 15),[14,7],[],[],fun _ => True⟩] [(some 9,[9]),u0,u0,u0,u0,u0,u0,u0,u0,u0,u1 [1,3,5,7]] [⟨(some 9),(some 11),[11],[],fun _ => pt b6 (.cells #[.map (some mp),.map (some (mpb (fa13 21))),Ix ((actS z x16).1.last),Ix ((actS z x16).1.su.a0),Ix ((actS z x16).1.su.a1),Ix ((actS z x16).1.su.a2),Ix ((actS z x16).1.su.a3),.map (some (mpb (fa13 24)))] 88)⟩,⟨(some 11),(some 13),[13],[],fun _ => pt b6 (.cells #[.map (some mp),.map (some mh),Ix ((actS z x16).1.last),Ix ((actS z x16).1.su.a0),Ix ((actS z x16).1.su.a1),Ix ((actS z x16).1.su.a2),Ix ((actS z x16).1.su.a3),.map (some (mpb (fa13 24)))] 88)⟩,⟨(some 13),(some 15),[15],[],fun _ => pt b6 (.cells #[.map (some mp),.map (some mh),Ix (s.last),Ix ((actS z x16).1.su.a0),Ix ((actS z x16).1.su.a1),Ix ((actS z x16).1.su.a2),Ix ((actS z x16).1.su.a3),.map (some (mpb (fa13 24)))] 88)⟩,⟨(some 15),none,[],[],fun _ => pt b6 (.cells #[.map (some mp),.map (some mh),Ix (s.last),Ix (s.su.a0),Ix (s.su.a1),Ix (s.su.a2),Ix (s.su.a3),.map (some (mpb (fa13 24)))] 88)⟩] [(2,pp b1 0),(7,pp b6 0),(3,pp b2 0),(4,pp b3 0),(5,pp b4 0),(8,pp b14 0)] [2,3,4,1,5] ⟨rfl,rfl,rfl,rfl,rfl,rfl,trivial⟩ ⟨?_,?_,?_,?_,?_,?_,?_,?_,?_,?_,?_,?_,?_,?_,?_,?_,trivial⟩ ?_
    ·rintro f M - ⟨i0,-⟩
     exact obE ofp
    ·rintro f M ⟨k0,-⟩ -
     exact obv (L' := pt b1 (.cells #[.map (some mp),.map (some mh),Ix (s.last),Ix (s.su.a0),Ix (s.su.a1),Ix (s.su.a2),Ix (s.su.a3),.map (some mm)] 88) :: M) (up_cons (d := 52) rfl k0) rfl (e_load1 tt33.ok rfl (k_pt 0 rfl rfl)) (perm_front 0 rfl) (by rfl)
    ·rintro f M - ⟨i0,-⟩
     exact obE ofp
    ·rintro f M ⟨k0,-⟩ -
     exact obv (L' := pt b1 (.cells #[.map (some mp),.map (some mh),Ix (s.last),Ix (s.su.a0),Ix (s.su.a1),Ix (s.su.a2),Ix (s.su.a3),.map (some mm)] 88) :: M) (up_cons (d := 54) rfl k0) rfl (e_load1 tt39.ok rfl (k_pt 0 rfl rfl)) (perm_front 0 rfl) (by rfl)
    ·rintro f M - ⟨i0,-⟩
     exact obE ofp
    ·rintro f M ⟨k0,-⟩ -
     exact obE (oli 0)
    ·rintro f M - ⟨i0,-⟩
     exact obE ofp
    ·rintro f M ⟨k0,-⟩ -
     exact obE (olg 0)
    ·rintro f M - ⟨i0,-⟩
     exact obE ofp
    ·rintro f M ⟨k0,k1,-⟩ -
     refine obS (up_cons (d := 53) (up_cons (d := 60) rfl k0) k1) ?_
     refine lu (mS 0 (#[.map (some mp),.map (some (mpb (fa13 21))),Ix ((actS z x16).1.last),Ix ((actS z x16).1.su.a0),Ix ((actS z x16).1.su.a1),Ix ((actS z x16).1.su.a2),Ix ((actS z x16).1.su.a3),.map (some (mpb (fa13 24)))])) ?_
     refine l_nil ?_
     exact f_owes_n (up_cons (d := 53) (up_cons (d := 60) rfl k0) k1) trivial (perm_front 0 rfl)
    ·rintro f M - ⟨i0,-⟩
     exact obE ofp
    ·rintro f M ⟨k0,k1,-⟩ -
     refine obS (up_cons (d := 55) (up_cons (d := 61) rfl k0) k1) ?_
     refine lu (mS 0 (#[.map (some mp),.map (some mh),Ix ((actS z x16).1.last),Ix ((actS z x16).1.su.a0),Ix ((actS z x16).1.su.a1),Ix ((actS z x16).1.su.a2),Ix ((actS z x16).1.su.a3),.map (some (mpb (fa13 24)))])) ?_
     refine l_nil ?_
     exact f_owes_n (up_cons (d := 55) (up_cons (d := 61) rfl k0) k1) trivial (perm_front 0 rfl)
    ·rintro f M - ⟨i0,-⟩
     exact obE ofp
    ·rintro f M ⟨k0,k1,-⟩ -
     refine obS (up_cons (d := 57) (up_cons (d := 62) rfl k0) k1) ?_
     refine lu (mS 0 (#[.map (some mp),.map (some mh),Ix (s.last),Ix ((actS z x16).1.su.a0),Ix ((actS z x16).1.su.a1),Ix ((actS z x16).1.su.a2),Ix ((actS z x16).1.su.a3),.map (some (mpb (fa13 24)))])) ?_
     refine l_nil ?_
     exact f_owes_n (up_cons (d := 57) (up_cons (d := 62) rfl k0) k1) trivial (perm_front 0 rfl)
    ·rintro f M - ⟨i0,-⟩
     exact obE ofp
    ·rintro f M ⟨k0,k1,-⟩ -
     refine obS (up_cons (d := 59) (up_cons (d := 63) rfl k0) k1) ?_
     refine lu (mS 0 (#[.map (some mp),.map (some mh),Ix (s.last),Ix (s.su.a0),Ix (s.su.a1),Ix (s.su.a2),Ix (s.su.a3),.map (some (mpb (fa13 24)))])) ?_
     refine l_nil ?_
     exact f_owes_n (up_cons (d := 59) (up_cons (d := 63) rfl k0) k1) trivial (perm_front 0 rfl)
    rintro fa24 ⟨-,-,-,-,-,-,-,-,-,-,-,-,-,-,-,-,-⟩ ⟨j0,j1,j2,j3,j4,-⟩
    refine fre ?_
    refine f_rebase (d := 3) j0 (f_rebase (d := 4) j1 (f_rebase (d := 5) j2 (f_rebase (d := 7) j3 (f_rebase (d := 8) j4 (f_then (c_exit ?_))))))
    refine f_exit_other rfl (f_exit_other rfl (f_then_exit (f_then_exit (f_exit (f_emp (r := rowF IntF 3 none 0 []) (row_nil _ _ _) ?_)))))
    refine fpn [5,7,8,9,13,14,15,11,12,0,1,2,3,4,6,10] 16 ?_
    refine f_mask [true,true,true,true,true,true,true,true,true,true,false,false,false,false,false,false] rfl ?_
    exact f_cut ⟨mp,mh,s,⟨false,((k : Nat) : Int),(actS z x16).2.2,[]⟩,none,0,⟨rfl,rfl,rfl,rfl,rfl⟩,rfl,by rw [← hrun,run_bad hx17 hc23]⟩
   refine csr (lE omi (lE ogt (lE oab (lnf (c_if _ rfl (fun hc25 => ?_) (fun hc25 => ?_))))))
   ·refine c_region (lE ofp (lE (ols 5) (lE omi (l_mv rfl rfl rfl (m_slices tt29 tt64.ok (cells := #[Ix ((actS z x16).2.1)]) rfl rfl rfl rfl) ?_))))
    rintro _ _ ⟨b26,rfl,rfl⟩
    refine l_mv rfl rfl rfl (m_appendFlN (F := IntF) 5 tt29 tt31 (p := p) (m := made.length) (xs := made) (ys := [((actS z x16).2.1)]) (ao := (some ⟨b26,0,none⟩)) (k := 1) (c := 1) rfl rfl rfl rfl rfl (k_ptFl (z := ((actS z x16).2.1)) 0 rfl rfl) (by first | omega | simp only [List.length_nil,List.length_cons,List.length_append,List.length_set]; omega) (by first | omega | simp only [List.length_nil,List.length_cons,List.length_append,List.length_set]; omega)) ?_
    rintro _ _ ⟨rp27,rc28,rfl,rfl⟩
    refine lE ofp (lu (mS 6 (#[.bool true,.int .i64 (0),.int .i64 (0),sB rp27 (made ++ [((actS z x16).2.1)]) rc28])) (l_nil (f_block (f_block (f_then ?_)))))
    refine c_region (lv (v := Nx (k + 1)) (e_add rfl rfl (i64n (by omega) (by omega))) (lE omi (l_nil (fpn [5,6,7,8,9,10,11,2,12,3,13,14,15,1,0,4] 16 ?_))))
    refine f_mask [true,true,true,true,true,true,true,true,true,true,true,true,true,true,false,false] rfl ?_
    exact f_cut ⟨(k + 1,(actS z x16).1,(made ++ [((actS z x16).2.1)]),rp27,rc28),⟨⟨rfl,rfl,rfl,rfl,rfl,rfl,rfl,rfl,rfl,rfl⟩,rfl,⟨by omega,by first | omega | (simp only [sB,rB,List.length_append,List.length_cons,List.length_nil]; omega),by rw [← hrun,run_next hx17 (Decidable.not_not.1 hc23),if_pos hc25],(actS_good hg1 (formed_within hxf)).le (by omega)⟩⟩,(show xs.length - (k + 1) < xs.length - k from by omega)⟩
   refine c_skip (f_block (f_block (f_then (c_region (lv (v := Nx (k + 1)) (e_add rfl rfl (i64n (by omega) (by omega))) (lE omi (l_nil ?_)))))))
   refine fpn [4,5,6,7,8,9,10,1,11,2,12,13,14,0,3] 15 ?_
   refine f_mask [true,true,true,true,true,true,true,true,true,true,true,true,true,true,false] rfl ?_
   exact f_cut ⟨(k + 1,(actS z x16).1,made,p,c),⟨⟨rfl,rfl,rfl,rfl,rfl,rfl,rfl,rfl,rfl,rfl⟩,rfl,⟨by omega,by first | omega | (simp only [sB,rB,List.length_append,List.length_cons,List.length_nil]; omega),by rw [← hrun,run_next hx17 (Decidable.not_not.1 hc23),if_neg hc25],(actS_good hg1 (formed_within hxf)).le (by omega)⟩⟩,(show xs.length - (k + 1) < xs.length - k from by omega)⟩
  refine c_exit (f_then_exit (f_then_exit (f_exit (fpn [1,3,4,5,11,12,13,7,9,0,2,6,8,10] 14 ?_))))
  refine f_mask [true,true,true,true,true,true,true,true,true,true,false,false,false,false] rfl ?_
  exact f_cut ⟨(mpb (fa13 18)),(mpb (fa13 21)),z,⟨true,0,0,made⟩,p,c,⟨rfl,rfl,rfl,rfl,rfl⟩,rfl,by rw [← hrun,run_nil (by omega)]⟩
 rintro f0 L0 ⟨mq,hq,z,ro,p,c,⟨hs3,hs4,hs5,hs7,hs8⟩,hL,hcar⟩
 subst L0
 refine rbs 3 hs3 (rbs 4 hs4 (rbs 5 hs5 (rbs 7 hs7 (rbs 8 hs8 (csr (lE ofp ?_))))))
 refine lv (v := .map (some (mpb (fa13 24)))) (e_load1 tt58.ok rfl (k_pt 6 rfl rfl)) (lE ofp (lE (oli 3) (lE (olg 3) (lE (olg 0) ?_))))
 refine lv (v := .agg #[Ix (au),Ix (nu),sB va xs (vc),.bool (ro.done),Ix (ro.at_),Ix (ro.e),sB p ro.holds c]) (e_build tt67.ok tt66 (vs := [(0,.agg #[Ix (au),Ix (nu),sB va xs (vc)]),(1,.agg #[.bool (ro.done),Ix (ro.at_),Ix (ro.e),sB p ro.holds c])]) (cells := #[Ix (au),Ix (nu),sB va xs (vc),.bool (ro.done),Ix (ro.at_),Ix (ro.e),sB p ro.holds c]) rfl rfl) ?_
 refine lu (m_mput (K := MeM) (b := (mpb (fa13 24))) (ks := ms) (k := (au)) (v := (⟨au,nu,va,xs.length,vc,ro.done,ro.at_,ro.e,p,ro.holds.length,c⟩ : KMh)) 4 rfl rfl rfl rfl rfl) ?_
 refine lnf (c_seq ?_)
 refine cnz [sv 81 (.agg #[.map (some mq),.map (some hq),Ix (z.last),Ix (z.su.a0),Ix (z.su.a1),Ix (z.su.a2),Ix (z.su.a3),.map (some (mpb (fa13 24)))]) [] [] [0],sv 82 (.agg #[.bool (ro.done),Ix (ro.at_),Ix (ro.e),sB p ro.holds c]) [] [] [1],⟨[0],[0],[2],[],fun _ => True⟩,⟨[0,1,2],[1],[3],[],fun _ => True⟩] [u1 [1],(some 3,[3]),(some 2,[2]),u0,u0,u0,u1 [0]] [⟨(some 2),none,[],[],fun _ => pt b3 (.cells #[.map (some mq),.map (some hq),Ix (z.last),Ix (z.su.a0),Ix (z.su.a1),Ix (z.su.a2),Ix (z.su.a3),.map (some (mpb (fa13 24)))] 88)⟩,⟨(some 3),none,[],[],fun _ => pt b4 (.cells #[.bool (ro.done),Ix (ro.at_),Ix (ro.e),sB p ro.holds c] 37)⟩] [(7,pp b6 0),(8,pp b14 0),(4,pp b3 0),(5,pp b4 0)] [2,3] ⟨rfl,rfl,rfl,rfl,trivial⟩ ⟨?_,?_,?_,?_,trivial⟩ ?_
 ·rintro f M - ⟨i0,-⟩
  exact obE (olg 0)
 ·rintro f M - ⟨i0,-⟩
  exact obE (olg 0)
 ·rintro f M ⟨k0,-⟩ ⟨i0,-⟩
  refine obS (up_cons (d := 81) (up_cons (d := 4) rfl i0) k0) ?_
  refine lu (mS 0 (#[.map (some mq),.map (some hq),Ix (z.last),Ix (z.su.a0),Ix (z.su.a1),Ix (z.su.a2),Ix (z.su.a3),.map (some (mpb (fa13 24)))])) ?_
  refine l_nil ?_
  exact f_owes_n (up_cons (d := 81) (up_cons (d := 4) rfl i0) k0) trivial (perm_front 0 rfl)
 ·rintro f M ⟨k0,-⟩ ⟨i0,-⟩
  refine obS (up_cons (d := 82) (up_cons (d := 5) rfl i0) k0) ?_
  refine lu (mS 0 (#[.bool (ro.done),Ix (ro.at_),Ix (ro.e),sB p ro.holds c])) (l_nil ?_)
  exact f_owes_n (up_cons (d := 82) (up_cons (d := 5) rfl i0) k0) trivial (perm_front 0 rfl)
 rintro fa29 ⟨-,-,-,-,-⟩ ⟨j0,j1,-⟩
 refine fre ?_
 refine f_rebase (d := 4) j0 (f_rebase (d := 5) j1 (ftr (f_scope_ret ?_)))
 refine retG (m := [.agg #[.map (some mq),.map (some hq),Ix (z.last),Ix (z.su.a0),Ix (z.su.a1),Ix (z.su.a2),Ix (z.su.a3),.map (some (mpb (fa13 24)))],.agg #[.bool (ro.done),Ix (ro.at_),Ix (ro.e),sB p ro.holds c]]) Tryz.results39 ⟨rd_cell tt54.ok rfl (k_pt 8 rfl rfl) rfl,rd_cell tt61.ok rfl (k_pt 9 rfl rfl) rfl,trivial⟩ rfl ?_
 intro w hw
 replace hw := hw.perm (L' := [mpR PuM mq z.ps,mpR HoM hq z.hs,mpR MeM (mpb (fa13 24)) (MeM.put ms (au) (⟨au,nu,va,xs.length,vc,ro.done,ro.at_,ro.e,p,ro.holds.length,c⟩ : KMh)),rowF IntF 3 p c ro.holds,pt b14 (.cells #[.bool (ro.done),Ix (ro.at_),Ix (ro.e),sB p ro.holds c] 37),pt b2 (.cells #[Ix (au),Ix (nu),sB va xs (vc)] 80),mpR MeM mm ms,pt b6 (.cells #[.map (some mq),.map (some hq),Ix (z.last),Ix (z.su.a0),Ix (z.su.a1),Ix (z.su.a2),Ix (z.su.a3),.map (some (mpb (fa13 24)))] 88),pt b3 (.cells #[.map (some mq),.map (some hq),Ix (z.last),Ix (z.su.a0),Ix (z.su.a1),Ix (z.su.a2),Ix (z.su.a3),.map (some (mpb (fa13 24)))] 88),pt b4 (.cells #[.bool (ro.done),Ix (ro.at_),Ix (ro.e),sB p ro.holds c] 37)]) (by exact (perm_ix [5,6,2,7,0,1,3,4,8,9] 10 rfl (by kernel_rfl) (by kernel_rfl)))
 exact ⟨mq,hq,(mpb (fa13 24)),p,c,z,ro,hcar.symm,rfl,st_mask (L' := [mpR PuM mq z.ps,mpR HoM hq z.hs,mpR MeM (mpb (fa13 24)) (MeM.put ms (au) (⟨au,nu,va,xs.length,vc,ro.done,ro.at_,ro.e,p,ro.holds.length,c⟩ : KMh)),rowF IntF 3 p c ro.holds]) [true,true,true,true,false,false,false,false,false,false] rfl hw⟩
end Go.Proofs
