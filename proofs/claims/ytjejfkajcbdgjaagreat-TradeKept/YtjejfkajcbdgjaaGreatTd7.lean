/-
 Do: walked. Printed by a program of my own.
-/
import Derived.Test.YtjejfkajcbdgjaaGreatTd6
import Derived.Test.YtjejfkajcbdgjaaGreatTdHouE
import Derived.Test.YtjejfkajcbdgjaaGreatJn6
import Derived.Test.YtjejfkajcbdgjaaGreatSlA
import Derived.Test.YtjejfkajcbdgjaaGreatSlN
namespace Go.Proofs
open Go Go.Sl Go.Td Go.Jn
def agA : Value → Option Addr | .agg a => sla (a.toList[3]?.getD .nilFunc) | _ => none
def agC : Value → Nat | .agg a => slc (a.toList[3]?.getD .nilFunc) | _ => 0
def tmA (k : Nat) : Value → Nat | .tuple ⟨[.agg a, _]⟩ => mpb (a.toList[k]?.getD .nilFunc) | _ => 0
def tsA : Value → Option Addr | .tuple ⟨[_, .agg a]⟩ => sla (a.toList[3]?.getD .nilFunc) | _ => none
def tcA : Value → Nat | .tuple ⟨[_, .agg a]⟩ => slc (a.toList[3]?.getD .nilFunc) | _ => 0
theorem carry2_ok (β : Base) (w : World) (mp mh mm : Nat) (s : KSt) (ms : List (Int × KMh)) (hw : St β [mpR PuM mp s.ps, mpR HoM mh s.hs, mpR MeM mm ms] w) (au nu : Int) (v : Value) (xs : List KAct) (hs : Sl ActF.R β.heap v xs) (hfo : ∀ x ∈ xs, x.formed = true) (hn : xs.length ≤ 16) (M : Int) (hM : M ≤ 1152921504606846976) (hg : GoodS s M) :
  Calls Tryz.prog 39 #[.agg (stC mp mh mm s.last s.su),.agg #[Ix au,Ix nu,v]] w fun r w' => ∃ mq hq mn p c,r = .returned (.tuple #[.agg (stC mq hq mn (carryF s xs).1.last (carryF s xs).1.su),.agg #[.bool (carryF s xs).2.done,Ix (carryF s xs).2.at_,Ix (carryF s xs).2.e,sB p (carryF s xs).2.holds c]]) ∧ St β [mpR PuM mq (carryF s xs).1.ps,mpR HoM hq (carryF s xs).1.hs,mpR MeM mn (MeM.put ms au ⟨au,nu,sla v,xs.length,slc v,(carryF s xs).2.done,(carryF s xs).2.at_,(carryF s xs).2.e,p,(carryF s xs).2.holds.length,c⟩),rowF IntF 3 p c (carryF s xs).2.holds] w' := by
 refine (carry_ok β w mp mh mm s ms hw au nu v xs hs hfo hn M hM hg).mono ?_
 rintro r w' ⟨mq,hq,mn,p,c,z,ro,h1,h2,h3⟩
 rw [h1]
 exact ⟨mq,hq,mn,p,c,h2,h3⟩
instance tt96 : CfC Tryz.prog 32 := ⟨by kernel_rfl⟩
instance tt97 : CfC Tryz.prog 33 := ⟨by kernel_rfl⟩
theorem tt98 : stB Tryz.prog 80 [(0, 1), (1, 1), (2, 1)] = true := by kernel_rfl
instance tt99 : ZerC Tryz.prog 80 (.agg #[.int .i64 (0), .int .i64 (0), .slice none 0 0]) := ⟨by kernel_rfl⟩
instance tt100 : FldC Tryz.prog 91 1 1 8 true := ⟨by kernel_rfl⟩
instance tt101 : TyC Tryz.prog 82 true 7 := ⟨by kernel_rfl⟩
instance tt102 : CfC Tryz.prog 34 := ⟨by kernel_rfl⟩
instance tt103 : FldC Tryz.prog 82 0 0 3 true := ⟨by kernel_rfl⟩
instance tt104 : CfC Tryz.prog 35 := ⟨by kernel_rfl⟩
instance tt105 : FldC Tryz.prog 82 1 3 4 true := ⟨by kernel_rfl⟩
instance tt106 : CfC Tryz.prog 36 := ⟨by kernel_rfl⟩
instance tt107 : CfC Tryz.prog 37 := ⟨by kernel_rfl⟩
instance tt108 : CfC Tryz.prog 38 := ⟨by kernel_rfl⟩
instance tt109 : CfC Tryz.prog 39 := ⟨by kernel_rfl⟩
set_option maxHeartbeats 4000000 in
theorem doE_ok (β : Base) (w : World) (H S N e z : Nat) (pw : Int) (X : KHs) (hw : St β [houseE H S X N pw e z] w) (au nu : Int) (v : Value) (al : List KAct) (hs : Sl ActF.R β.heap v al) (hal : al.length ≤ 1048576) (hh63 : hb63 al) (hN : N ≤ 1000000) (hz : dformed au nu al = true → z + 24 + (dealB au nu al [] 0).length ≤ 262144) : Calls Tryz.prog 12 #[pp H 0, Ix au, Ix nu, v] w fun r w' => ∃ X1 R e1, doF X au nu al = (X1, R, e1) ∧ ((∃ p c q, (pw = -1 → q = -1) ∧ r = .returned (.tuple #[.agg #[.bool R.done, Ix R.at_, Ix R.e, sB p R.holds c], Ix e1]) ∧ St β [rowF IntF 3 p c R.holds, houseR H S X1 (N + 1) (e * 218000 + z + 494) q] w') ∨ (pw ≠ -1 ∧ e1 = 0 ∧ r = .returned (.tuple #[.agg #[.bool false, .int .i64 0, .int .i64 0, .slice none 0 0], .int .i64 310]) ∧ ∃ q, St β [shelfR S X (N + 1) (e * 218000 + z + 494) q] w')) := by
 obtain ⟨va,vc,rfl,vl,vm,ve⟩ := hs.get
 obtain ⟨J,mp,mh,mm,s,ms,zs,i,k,hk,hpw,hie,hiz,hw⟩ := St.openE hw
 obtain ⟨hd,mal,mhl,hlk,hlo,hnl,hml⟩ := hk.mm.lk au
 have hmb : mhl.length ≤ 1048576 := hlo.few hk.so.ok
 refine enter (n := 132) Tryz.func12 rfl Tryz.ntmps12 rfl ?_ hw
 refine csr (alE fun b1 => lE oai (lnf (cs2 (c_region (lE omp ?_)))))
 refine lcR clA (fun w β1 sb kn hw1 => hready_ok β1 w hw1 _ _ _ _ _ s (kn _ (k_pt 1 rfl rfl))) (lE oai (lnc (lE omi (lE onq (lnf (c_no rfl (csk ?_)))))))
 refine csr (lE omi (lE omi (lE oms ?_)))
 refine lcf (cl0 (vs := [sB va al (vc)]) tt97.ok rfl rfl) rfl fun w β1 sb kn hw1 back => (cloneA_ok β1 w hw1 _ al (Sl.mono _ _ _ _ _ sb (⟨⟨_,_,rfl,vl,vm,ve⟩⟩ : Sl ActF.R _ _ al)) (by omega)).mono ?_
 rintro e w' ⟨p2,c3,rfl,hw'⟩
 refine ⟨_,rfl,_,back _ _ hw',?_⟩
 clear hw1 hw' back kn sb
 refine lv (v := .agg #[Ix (au),Ix (nu),sB p2 al c3]) (e_build tt99.ok tt98 (vs := [(0,Ix (au)),(1,Ix (nu)),(2,sB p2 al c3)]) (cells := #[Ix (au),Ix (nu),sB p2 al c3]) rfl rfl) ?_
 refine alE fun b4 => lu (mS 0 (#[Ix (au),Ix (nu),sB p2 al c3])) (lnc (lE omp (lE onp (lE ofp (lE ofp ?_)))))
 refine lv (v := .map (some mm)) (e_load1 tt58.ok rfl (k_pt 3 rfl rfl)) (lE omi ?_)
 refine lv (v := .tuple #[.agg #[Ix (hd.author),Ix (hd.number),.slice hd.p (hd.n) hd.c,.bool (hd.done),Ix (hd.at_),Ix (hd.e),.slice hd.q (hd.m) hd.k],.bool ((MeM.look ms au).isSome)]) (ev_eq (congrArg (fun z => Value.tuple #[MeM.encv z,.bool (MeM.look ms au).isSome]) hlk) (e_look2 (K := MeM) (b := mm) (ks := ms) (k := au) rfl rfl rfl (Knows.of_res 8 rfl (mpR.mono _ _ _) fun _ h => h))) ?_
 refine lE omt (lE oxa (lE oxb (alE fun b5 => ?_)))
 refine lu (mS 0 (#[Ix (hd.author),Ix (hd.number),.slice hd.p (hd.n) hd.c,.bool (hd.done),Ix (hd.at_),Ix (hd.e),.slice hd.q (hd.m) hd.k])) (lE oab ?_)
 refine lnf (c_seq (c_block (c_seq ?_)))
 cases hfm : dformed au nu al
 ·have hnf : (!dformed au nu al) = true := by rw [hfm]; rfl
  refine c_region (lE (olg 1) (lcR clA (fun w β1 sb kn hw1 => dformed_ok β1 w hw1 au nu _ al (kn _ (k_flN 2 (F := ActF) (m := al.length) rfl rfl))) ?_))
  refine lE ont (lE oab (lnf (c_ifb (!(dformed au nu al)) rfl (fun hc6 => ?_) (fun hc6 => ?_))))
  ·refine csr ?_
   refine lv (v := .agg #[.bool false,.int .i64 (0),.int .i64 (0),.slice none 0 0]) (e_build tt53.ok tt60 (vs := []) (cells := #[.bool false,.int .i64 (0),.int .i64 (0),.slice none 0 0]) rfl rfl) ?_
   refine lu (mS 3 (#[.bool false,.int .i64 (0),.int .i64 (0),.slice none 0 0])) (lE oai (lnf (c_ret (f_block_ret (f_then_ret ?_)))))
   refine retG (m := [.agg #[.bool false,.int .i64 (0),.int .i64 (0),.slice none 0 0],.int .i64 (2)]) Tryz.results12 ⟨rd_cell tt61.ok rfl (k_pt 3 rfl rfl) rfl,rd_tmp (v := .int .i64 (2)) rfl,trivial⟩ rfl ?_
   intro w hw
   replace hw := hw.perm (L' := [pt H (.cells #[pp J 0,.map (some mp),.map (some mh),Ix (s.last),Ix (s.su.a0),Ix (s.su.a1),Ix (s.su.a2),Ix (s.su.a3),.map (some mm),.bool false] 91),jourR J S i false,storeR S k,mpR PuM mp s.ps,mpR HoM mh s.hs,mpR MeM mm ms,memR zs,pt b5 (.cells #[Ix (hd.author),Ix (hd.number),.slice hd.p (hd.n) hd.c,.bool (hd.done),Ix (hd.at_),Ix (hd.e),.slice hd.q (hd.m) hd.k] 82),pt b4 (.cells #[Ix (au),Ix (nu),sB p2 al c3] 80),rowF ActF 47 p2 c3 al,pt b1 (.cells #[.bool false,.int .i64 (0),.int .i64 (0),.slice none 0 0] 37)]) (by exact (perm_ix [4,5,6,7,8,9,10,0,1,2,3] 11 rfl (by kernel_rfl) (by kernel_rfl)))
   replace hw := st_mask (L' := [pt H (.cells #[pp J 0,.map (some mp),.map (some mh),Ix (s.last),Ix (s.su.a0),Ix (s.su.a1),Ix (s.su.a2),Ix (s.su.a3),.map (some mm),.bool false] 91),jourR J S i false,storeR S k,mpR PuM mp s.ps,mpR HoM mh s.hs,mpR MeM mm ms,memR zs]) [true,true,true,true,true,true,true,false,false,false,false] rfl hw
   have hw2 := St.closeHouse (M := []) (hk.mono (Nat.le_add_right N 1) (Nat.le_add_right _ 494)) hpw hw
   exact ⟨_,_,_,do_badF hlo hfm,.inl ⟨none,0,_,id,rfl,hw2.emp (row_nil _ _ _)⟩⟩
  rw [hnf] at hc6; cases hc6
 have hnf : (!dformed au nu al) = false := by rw [hfm]; rfl
 obtain ⟨hfau,hfnu,hfl,hfa⟩ := dformed_iff.1 hfm
 have hlen := recD_len hfm
 refine c_region (lE (olg 1) (lcR clA (fun w β1 sb kn hw1 => dformed_ok β1 w hw1 au nu _ al (kn _ (k_flN 2 (F := ActF) (m := al.length) rfl rfl))) ?_))
 refine lE ont (lE oab (lnf (c_ifb (!(dformed au nu al)) rfl (fun hc7 => ?_) (fun hc7 => ?_))))
 ·rw [hnf] at hc7; cases hc7
 refine csr (lE omb (l_and5 ((MeM.look ms au).isSome) (decide ((hd.number) = (nu))) rfl (fun hb8 hk8 => ?_) (fun z9 z10 z11 z12 z13 => ?_)))
 ·refine gE ofp (gE ofp (gE (oli 0) (gE omi (gE oeq_ (lE oktb ?_)))))
  exact hk8 _ _ _ _ _
 refine l_and5 (((MeM.look ms au).isSome) && (decide ((hd.number) = (nu)))) (decide (mal = al)) rfl (fun hb14 hk14 => ?_) (fun z15 z16 z17 z18 z19 => ?_)
 ·refine gE ofp (gE ofp (gE (ols 0) (gE oms (g_call rfl rfl rfl rfl rfl (cl0 (vs := [.slice hd.p (hd.n) hd.c,sB va al (vc)]) tt104.ok rfl rfl) ?_))))
  intro w hw
  obtain ⟨β1,sb,kn,hw1,back⟩ := St.frame_all hw
  refine (equalA_ok β1 w hw1 _ _ mal al (kn _ (k_lkA 10 rfl hlo)) (Sl.mono _ _ _ _ _ sb (⟨⟨_,_,rfl,vl,vm,ve⟩⟩ : Sl ActF.R _ _ al))).mono ?_
  rintro e w' ⟨rfl,hw'⟩
  refine ⟨_,rfl,_,back _ _ hw',?_⟩
  clear hw hw1 hw' back kn sb
  refine lE oktb ?_
  exact hk14 _ _ _ _ _
 refine lE oab (lnf ?_)
 refine c_ifb (((((MeM.look ms au).isSome) && (decide ((hd.number) = (nu)))) && (decide (mal = al)))) rfl (fun hc20 => ?_) (fun hc20 => ?_)
 ·refine csr (lE ofp (lE (olg 0) ?_))
  refine lcf (cl0 (vs := [.agg #[.bool (hd.done),Ix (hd.at_),Ix (hd.e),.slice hd.q (hd.m) hd.k]]) tt106.ok rfl rfl) rfl fun w β1 sb kn hw1 back => (own_ok β1 w hw1 hd.done hd.at_ hd.e _ mhl (kn _ (k_lkH 10 rfl hlo)) (by omega)).mono ?_
  rintro e w' ⟨p21,c22,rfl,hw'⟩
  refine ⟨_,rfl,_,back _ _ hw',?_⟩
  clear hw1 hw' back kn sb
  refine lu (mS 4 (#[.bool (hd.done),Ix (hd.at_),Ix (hd.e),sB p21 mhl c22])) (lE oai (lnf (c_ret (f_block_ret (f_then_ret ?_)))))
  refine retG (m := [.agg #[.bool (hd.done),Ix (hd.at_),Ix (hd.e),sB p21 mhl c22],.int .i64 (0)]) Tryz.results12 ⟨rd_cell tt61.ok rfl (k_pt 4 rfl rfl) rfl,rd_tmp (v := .int .i64 (0)) rfl,trivial⟩ rfl ?_
  intro w hw
  replace hw := hw.perm (L' := [pt H (.cells #[pp J 0,.map (some mp),.map (some mh),Ix (s.last),Ix (s.su.a0),Ix (s.su.a1),Ix (s.su.a2),Ix (s.su.a3),.map (some mm),.bool false] 91),jourR J S i false,storeR S k,mpR PuM mp s.ps,mpR HoM mh s.hs,mpR MeM mm ms,memR zs,rowF IntF 3 p21 c22 mhl,pt b5 (.cells #[Ix (hd.author),Ix (hd.number),.slice hd.p (hd.n) hd.c,.bool (hd.done),Ix (hd.at_),Ix (hd.e),.slice hd.q (hd.m) hd.k] 82),pt b4 (.cells #[Ix (au),Ix (nu),sB p2 al c3] 80),rowF ActF 47 p2 c3 al,pt b1 (.cells #[.bool (hd.done),Ix (hd.at_),Ix (hd.e),sB p21 mhl c22] 37)]) (by exact (perm_ix [5,6,7,8,9,10,11,0,1,2,3,4] 12 rfl (by kernel_rfl) (by kernel_rfl)))
  replace hw := st_mask (L' := [pt H (.cells #[pp J 0,.map (some mp),.map (some mh),Ix (s.last),Ix (s.su.a0),Ix (s.su.a1),Ix (s.su.a2),Ix (s.su.a3),.map (some mm),.bool false] 91),jourR J S i false,storeR S k,mpR PuM mp s.ps,mpR HoM mh s.hs,mpR MeM mm ms,memR zs,rowF IntF 3 p21 c22 mhl]) [true,true,true,true,true,true,true,true,false,false,false,false] rfl hw
  have hw2 := St.closeHouse (M := [rowF IntF 3 p21 c22 mhl]) (hk.mono (Nat.le_add_right N 1) (Nat.le_add_right _ 494)) hpw hw
  exact ⟨_,_,_,do_sameF hlo hfm hc20,.inl ⟨p21,c22,_,id,rfl,hw2.perm (List.Perm.swap _ _ _)⟩⟩
 refine csr (lE omb (l_and5 ((MeM.look ms au).isSome) (decide ((hd.number) = (nu))) rfl (fun hb23 hk23 => ?_) (fun z24 z25 z26 z27 z28 => ?_)))
 ·refine gE ofp (gE ofp (gE (oli 0) (gE omi (gE oeq_ (lE oktb ?_)))))
  exact hk23 _ _ _ _ _
 refine lE oab (lnf (c_ifb ((((MeM.look ms au).isSome) && (decide ((hd.number) = (nu))))) rfl (fun hc29 => ?_) (fun hc29 => ?_)))
 ·refine csr ?_
  refine lv (v := .agg #[.bool false,.int .i64 (0),.int .i64 (0),.slice none 0 0]) (e_build tt53.ok tt60 (vs := []) (cells := #[.bool false,.int .i64 (0),.int .i64 (0),.slice none 0 0]) rfl rfl) ?_
  refine lu (mS 3 (#[.bool false,.int .i64 (0),.int .i64 (0),.slice none 0 0])) (lE oai (lnf (c_ret (f_block_ret (f_then_ret ?_)))))
  refine retG (m := [.agg #[.bool false,.int .i64 (0),.int .i64 (0),.slice none 0 0],.int .i64 (331)]) Tryz.results12 ⟨rd_cell tt61.ok rfl (k_pt 3 rfl rfl) rfl,rd_tmp (v := .int .i64 (331)) rfl,trivial⟩ rfl ?_
  intro w hw
  replace hw := hw.perm (L' := [pt H (.cells #[pp J 0,.map (some mp),.map (some mh),Ix (s.last),Ix (s.su.a0),Ix (s.su.a1),Ix (s.su.a2),Ix (s.su.a3),.map (some mm),.bool false] 91),jourR J S i false,storeR S k,mpR PuM mp s.ps,mpR HoM mh s.hs,mpR MeM mm ms,memR zs,pt b5 (.cells #[Ix (hd.author),Ix (hd.number),.slice hd.p (hd.n) hd.c,.bool (hd.done),Ix (hd.at_),Ix (hd.e),.slice hd.q (hd.m) hd.k] 82),pt b4 (.cells #[Ix (au),Ix (nu),sB p2 al c3] 80),rowF ActF 47 p2 c3 al,pt b1 (.cells #[.bool false,.int .i64 (0),.int .i64 (0),.slice none 0 0] 37)]) (by exact (perm_ix [4,5,6,7,8,9,10,0,1,2,3] 11 rfl (by kernel_rfl) (by kernel_rfl)))
  replace hw := st_mask (L' := [pt H (.cells #[pp J 0,.map (some mp),.map (some mh),Ix (s.last),Ix (s.su.a0),Ix (s.su.a1),Ix (s.su.a2),Ix (s.su.a3),.map (some mm),.bool false] 91),jourR J S i false,storeR S k,mpR PuM mp s.ps,mpR HoM mh s.hs,mpR MeM mm ms,memR zs]) [true,true,true,true,true,true,true,false,false,false,false] rfl hw
  have hw2 := St.closeHouse (M := []) (hk.mono (Nat.le_add_right N 1) (Nat.le_add_right _ 494)) hpw hw
  exact ⟨_,_,_,do_otherF hlo hfm (by rw [hc20]; decide) hc29,.inl ⟨none,0,_,id,rfl,hw2.emp (row_nil _ _ _)⟩⟩
 refine csr (lE omb (l_and5 ((MeM.look ms au).isSome) (decide ((nu) < (hd.number))) rfl (fun hb30 hk30 => ?_) (fun z31 z32 z33 z34 z35 => ?_)))
 ·refine gE ofp (gE ofp (gE (oli 0) (gE omi (gE ogt (lE oktb ?_)))))
  exact hk30 _ _ _ _ _
 refine lE oab (lnf (c_ifb ((((MeM.look ms au).isSome) && (decide ((nu) < (hd.number))))) rfl (fun hc36 => ?_) (fun hc36 => ?_)))
 ·refine csr ?_
  refine lv (v := .agg #[.bool false,.int .i64 (0),.int .i64 (0),.slice none 0 0]) (e_build tt53.ok tt60 (vs := []) (cells := #[.bool false,.int .i64 (0),.int .i64 (0),.slice none 0 0]) rfl rfl) ?_
  refine lu (mS 3 (#[.bool false,.int .i64 (0),.int .i64 (0),.slice none 0 0])) (lE oai (lnf (c_ret (f_block_ret (f_then_ret ?_)))))
  refine retG (m := [.agg #[.bool false,.int .i64 (0),.int .i64 (0),.slice none 0 0],.int .i64 (332)]) Tryz.results12 ⟨rd_cell tt61.ok rfl (k_pt 3 rfl rfl) rfl,rd_tmp (v := .int .i64 (332)) rfl,trivial⟩ rfl ?_
  intro w hw
  replace hw := hw.perm (L' := [pt H (.cells #[pp J 0,.map (some mp),.map (some mh),Ix (s.last),Ix (s.su.a0),Ix (s.su.a1),Ix (s.su.a2),Ix (s.su.a3),.map (some mm),.bool false] 91),jourR J S i false,storeR S k,mpR PuM mp s.ps,mpR HoM mh s.hs,mpR MeM mm ms,memR zs,pt b5 (.cells #[Ix (hd.author),Ix (hd.number),.slice hd.p (hd.n) hd.c,.bool (hd.done),Ix (hd.at_),Ix (hd.e),.slice hd.q (hd.m) hd.k] 82),pt b4 (.cells #[Ix (au),Ix (nu),sB p2 al c3] 80),rowF ActF 47 p2 c3 al,pt b1 (.cells #[.bool false,.int .i64 (0),.int .i64 (0),.slice none 0 0] 37)]) (by exact (perm_ix [4,5,6,7,8,9,10,0,1,2,3] 11 rfl (by kernel_rfl) (by kernel_rfl)))
  replace hw := st_mask (L' := [pt H (.cells #[pp J 0,.map (some mp),.map (some mh),Ix (s.last),Ix (s.su.a0),Ix (s.su.a1),Ix (s.su.a2),Ix (s.su.a3),.map (some mm),.bool false] 91),jourR J S i false,storeR S k,mpR PuM mp s.ps,mpR HoM mh s.hs,mpR MeM mm ms,memR zs]) [true,true,true,true,true,true,true,false,false,false,false] rfl hw
  have hw2 := St.closeHouse (M := []) (hk.mono (Nat.le_add_right N 1) (Nat.le_add_right _ 494)) hpw hw
  exact ⟨_,_,_,do_oldF hlo hfm (by rw [hc29]; decide) hc36,.inl ⟨none,0,_,id,rfl,hw2.emp (row_nil _ _ _)⟩⟩
 refine c_skip (f_block (ftc (lE (olg 1) ?_)))
 refine lcf (cl0 (vs := [.agg #[Ix (au),Ix (nu),sB p2 al c3]]) tt107.ok rfl rfl) rfl fun w β1 sb kn hw1 back => (trecord_ok β1 w hw1 au nu _ al (kn _ (k_flN 2 (F := ActF) (m := al.length) rfl rfl)) hfa (by omega) (by omega) (by omega)).mono ?_
 rintro e w' ⟨p37,c38,rfl,hw'⟩
 refine ⟨_,rfl,_,back _ _ hw',?_⟩
 clear hw1 hw' back kn sb
 refine lE oas (lnf (c_seq ?_))
 have hr0 : i.size + 24 + (dealB au nu al [] 0).length ≤ 262144 := by rw [hiz]; exact hz hfm
 have hroom := hk.so.room hN hlen hr0
 by_cases ha : apOk k i (dealB au nu al [] 0)
 ·refine c_region (lE omp (lE onp (lE ofp (lE (olp 5) (lE oms ?_)))))
  refine l_call rfl rfl rfl (cl0 (vs := [pp J 0,sB p37 ((dealB au nu al [] 0)) c38]) tt108.ok rfl rfl) ?_
  intro w hw
  replace hw := hw.perm (L' := [jourR J S i false,storeR S k,rB p37 ((dealB au nu al [] 0)) c38,pt b5 (.cells #[Ix (hd.author),Ix (hd.number),.slice hd.p (hd.n) hd.c,.bool (hd.done),Ix (hd.at_),Ix (hd.e),.slice hd.q (hd.m) hd.k] 82),pt b4 (.cells #[Ix (au),Ix (nu),sB p2 al c3] 80),rowF ActF 47 p2 c3 al,pt b1 (.cells #[.bool false,.int .i64 (0),.int .i64 (0),.slice none 0 0] 37),pt H (.cells #[pp J 0,.map (some mp),.map (some mh),Ix (s.last),Ix (s.su.a0),Ix (s.su.a1),Ix (s.su.a2),Ix (s.su.a3),.map (some mm),.bool false] 91),mpR PuM mp s.ps,mpR HoM mh s.hs,mpR MeM mm ms,memR zs]) (by exact (perm_ix [6,7,0,1,2,3,4,5,8,9,10,11] 12 rfl (by kernel_rfl) (by kernel_rfl)))
  obtain ⟨β1,sb,kn,hw1,back⟩ := St.frame (L := [_,_]) (M := _ :: _ :: _ :: _ :: _ :: _ :: _ :: _ :: _ :: _ :: []) hw
  refine (append_ok β1 w J S k i (dealB au nu al [] 0) hroom.1 hroom.2.1 hroom.2.2.1 hroom.2.2.2.1 hroom.2.2.2.2.1 hroom.2.2.2.2.2.1 hroom.2.2.2.2.2.2 ha _ (kU kn 0 rfl) hw1).mono ?_
  rintro e w' ⟨rfl,hw'⟩
  refine ⟨_,rfl,_,back _ _ hw',?_⟩
  clear hw hw1 hw' back kn sb
  refine lE omt (lE oxi (lE oxi (lE oai (lE oai (lnf (cs2 (c_region (lE omi (lE oeq_ (lnf (c_no rfl (csk (cs2 (c_region (lE omi (lE onq (lnf ?_)))))))))))))))))
  refine c_no rfl (csk (c_seq ?_))
  have hgs := hk.goodS hN
  have hch : (carryF s al).2.holds.length ≤ al.length := carry_holds
  refine cnz [sv 118 (pp H 0) [] [] [0],sv 119 (pp H 0) [0] [0] [],sv 120 (pp H 1) [0,1] [1] [],sv 121 (.agg #[.map (some mp),.map (some mh),Ix (s.last),Ix (s.su.a0),Ix (s.su.a1),Ix (s.su.a2),Ix (s.su.a3),.map (some mm)]) [0,1,2] [2] [],sv 122 (.agg #[Ix (au),Ix (nu),sB p2 al c3]) [] [] [1],⟨[0,1,2,3,4],[3,4],[],[123],fun f => f 123 = .tuple #[.agg #[.map (some (tmA 0 (f 123))),.map (some (tmA 1 (f 123))),Ix ((carryF s al).1.last),Ix ((carryF s al).1.su.a0),Ix ((carryF s al).1.su.a1),Ix ((carryF s al).1.su.a2),Ix ((carryF s al).1.su.a3),.map (some (tmA 7 (f 123)))],.agg #[.bool ((carryF s al).2.done),Ix ((carryF s al).2.at_),Ix ((carryF s al).2.e),sB (tsA (f 123)) (carryF s al).2.holds (tcA (f 123))]]⟩,⟨(List.range 6),[5],[],[117,123],fun f => f 117 = .tuple #[.agg #[.map (some (tmA 0 (f 123))),.map (some (tmA 1 (f 123))),Ix ((carryF s al).1.last),Ix ((carryF s al).1.su.a0),Ix ((carryF s al).1.su.a1),Ix ((carryF s al).1.su.a2),Ix ((carryF s al).1.su.a3),.map (some (tmA 7 (f 123)))],.agg #[.bool ((carryF s al).2.done),Ix ((carryF s al).2.at_),Ix ((carryF s al).2.e),sB (tsA (f 123)) (carryF s al).2.holds (tcA (f 123))]]⟩,⟨(List.range 7),[6],[],[123,124],fun f => f 124 = .agg #[.map (some (tmA 0 (f 123))),.map (some (tmA 1 (f 123))),Ix ((carryF s al).1.last),Ix ((carryF s al).1.su.a0),Ix ((carryF s al).1.su.a1),Ix ((carryF s al).1.su.a2),Ix ((carryF s al).1.su.a3),.map (some (tmA 7 (f 123)))]⟩,⟨(List.range 7),[6],[],[123,125],fun f => f 125 = .agg #[.bool ((carryF s al).2.done),Ix ((carryF s al).2.at_),Ix ((carryF s al).2.e),sB (tsA (f 123)) (carryF s al).2.holds (tcA (f 123))]⟩,⟨[],[],[],[17],fun f => f 17 = .pointer (some ⟨(blk (f 17)),0,none⟩)⟩,⟨[],[],[],[18],fun f => f 18 = .pointer (some ⟨(blk (f 18)),0,none⟩)⟩,⟨[0,1,2,3,4,5,6,7,9,10],[9,7],[],[],fun _ => True⟩,⟨(List.range 12),[10,8],[],[],fun _ => True⟩] [u0,u0,u0,u0,u1 [4],u1 [5],u0,u1 [3],(some 5,[5]),(some 5,[5]),(some 5,[5])] [⟨(some 5),none,[],[123],fun f => mpR PuM (tmA 0 (f 123)) ((carryF s al).1.ps)⟩,⟨(some 5),none,[],[123],fun f => mpR HoM (tmA 1 (f 123)) ((carryF s al).1.hs)⟩,⟨(some 5),none,[],[123],fun f => mpR MeM (tmA 7 (f 123)) (MeM.put ms au (⟨au,nu,p2,al.length,c3,(carryF s al).2.done,(carryF s al).2.at_,(carryF s al).2.e,(tsA (f 123)),(carryF s al).2.holds.length,(tcA (f 123))⟩ : KMh))⟩,⟨(some 5),none,[],[123],fun f => rowF IntF 3 (tsA (f 123)) (tcA (f 123)) ((carryF s al).2.holds)⟩,⟨(some 9),(some 11),[11],[17],fun f => pt (blk (f 17)) (.cells #[.map none,.map none,.int .i64 (0),.int .i64 (0),.int .i64 (0),.int .i64 (0),.int .i64 (0),.map none] 88)⟩,⟨(some 10),(some 12),[12],[18],fun f => pt (blk (f 18)) (.cells #[.bool false,.int .i64 (0),.int .i64 (0),.slice none 0 0] 37)⟩,⟨(some 11),none,[],[17,123],fun f => pt (blk (f 17)) (.cells #[.map (some (tmA 0 (f 123))),.map (some (tmA 1 (f 123))),Ix ((carryF s al).1.last),Ix ((carryF s al).1.su.a0),Ix ((carryF s al).1.su.a1),Ix ((carryF s al).1.su.a2),Ix ((carryF s al).1.su.a3),.map (some (tmA 7 (f 123)))] 88)⟩,⟨(some 12),none,[],[18,123],fun f => pt (blk (f 18)) (.cells #[.bool ((carryF s al).2.done),Ix ((carryF s al).2.at_),Ix ((carryF s al).2.e),sB (tsA (f 123)) (carryF s al).2.holds (tcA (f 123))] 37)⟩] [(0,pp H 0),(11,pp b4 0),(8,pp b1 0)] [0,2] ⟨rfl,rfl,rfl,trivial⟩ ⟨?_,?_,?_,?_,?_,?_,?_,?_,?_,?_,?_,?_,?_,trivial⟩ ?_
  ·rintro f M - ⟨i0,-⟩
   exact obE omp
  ·rintro f M ⟨k0,-⟩ -
   exact obE onp
  ·rintro f M ⟨k0,-⟩ -
   exact obE ofp
  ·rintro f M ⟨k0,-⟩ -
   exact obE (olg 0)
  ·rintro f M - ⟨i0,-⟩
   exact obE (olg 0)
  ·rintro f M ⟨k0,k1,-⟩ -
   refine obS (up_cons (d := 122) (up_cons (d := 121) rfl k0) k1) ?_
   refine l_call rfl rfl rfl (cl0 (vs := [.agg #[.map (some mp),.map (some mh),Ix (s.last),Ix (s.su.a0),Ix (s.su.a1),Ix (s.su.a2),Ix (s.su.a3),.map (some mm)],.agg #[Ix (au),Ix (nu),sB p2 al c3]]) tt109.ok rfl rfl) ?_
   intro w hw
   replace hw := hw.perm (L' := _ :: _ :: _ :: _ :: M) (by exact ((((perm_front 0 rfl).trans (perm_front 3 rfl)).trans (perm_front 3 rfl)).trans (perm_front 3 rfl)))
   obtain ⟨β1,sb,kn,hw1,back⟩ := St.frame (L := [_,_,_]) (M := _ :: M) hw
   refine (carry2_ok β1 w mp mh mm s ms hw1 au nu _ al (kn _ (k_flN 0 (F := ActF) (m := al.length) rfl rfl)) hfa (by omega) _ (Int.le_refl _) hgs).mono ?_
   rintro e w' ⟨mq44,hq45,mn46,p47,c48,rfl,hw'⟩
   refine ⟨_,rfl,_,back _ _ hw',?_⟩
   clear hw hw1 hw' back kn sb
   refine l_nil ?_
   exact f_owes_d (up_cons (d := 122) (up_cons (d := 121) rfl k0) k1) rfl (((((perm_front 3 rfl).trans (perm_front 3 rfl)).trans (perm_front 3 rfl)).trans (perm_front 3 rfl)).trans (perm_front 4 rfl))
  ·rintro f M ⟨k0,-⟩ -
   have hs123 : f 123 = .tuple #[.agg #[.map (some (tmA 0 (f 123))),.map (some (tmA 1 (f 123))),Ix ((carryF s al).1.last),Ix ((carryF s al).1.su.a0),Ix ((carryF s al).1.su.a1),Ix ((carryF s al).1.su.a2),Ix ((carryF s al).1.su.a3),.map (some (tmA 7 (f 123)))],.agg #[.bool ((carryF s al).2.done),Ix ((carryF s al).2.at_),Ix ((carryF s al).2.e),sB (tsA (f 123)) (carryF s al).2.holds (tcA (f 123))]] := k0
   exact obE omt
  ·rintro f M ⟨k0,-⟩ -
   have hs117 : f 117 = .tuple #[.agg #[.map (some (tmA 0 (f 123))),.map (some (tmA 1 (f 123))),Ix ((carryF s al).1.last),Ix ((carryF s al).1.su.a0),Ix ((carryF s al).1.su.a1),Ix ((carryF s al).1.su.a2),Ix ((carryF s al).1.su.a3),.map (some (tmA 7 (f 123)))],.agg #[.bool ((carryF s al).2.done),Ix ((carryF s al).2.at_),Ix ((carryF s al).2.e),sB (tsA (f 123)) (carryF s al).2.holds (tcA (f 123))]] := k0
   exact obE oxa
  ·rintro f M ⟨k0,-⟩ -
   have hs117 : f 117 = .tuple #[.agg #[.map (some (tmA 0 (f 123))),.map (some (tmA 1 (f 123))),Ix ((carryF s al).1.last),Ix ((carryF s al).1.su.a0),Ix ((carryF s al).1.su.a1),Ix ((carryF s al).1.su.a2),Ix ((carryF s al).1.su.a3),.map (some (tmA 7 (f 123)))],.agg #[.bool ((carryF s al).2.done),Ix ((carryF s al).2.at_),Ix ((carryF s al).2.e),sB (tsA (f 123)) (carryF s al).2.holds (tcA (f 123))]] := k0
   exact obE oxa
  ·rintro f M - -
   refine obS rfl ?_
   refine alE fun b50 => l_nil ?_
   exact f_owes_d rfl rfl (perm_front 0 rfl)
  ·rintro f M - -
   refine obS rfl ?_
   refine alE fun b52 => l_nil ?_
   exact f_owes_d rfl rfl (perm_front 0 rfl)
  ·rintro f M ⟨k0,k1,-⟩ -
   have hs17 : f 17 = .pointer (some ⟨(blk (f 17)),0,none⟩) := k0
   have hs124 : f 124 = .agg #[.map (some (tmA 0 (f 123))),.map (some (tmA 1 (f 123))),Ix ((carryF s al).1.last),Ix ((carryF s al).1.su.a0),Ix ((carryF s al).1.su.a1),Ix ((carryF s al).1.su.a2),Ix ((carryF s al).1.su.a3),.map (some (tmA 7 (f 123)))] := k1
   refine obS (up_cons (up_cons rfl hs17) hs124) ?_
   refine lu (mS 0 (#[.map (some (tmA 0 (f 123))),.map (some (tmA 1 (f 123))),Ix ((carryF s al).1.last),Ix ((carryF s al).1.su.a0),Ix ((carryF s al).1.su.a1),Ix ((carryF s al).1.su.a2),Ix ((carryF s al).1.su.a3),.map (some (tmA 7 (f 123)))])) ?_
   refine l_nil ?_
   exact f_owes_n (up_cons (up_cons rfl hs17) hs124) trivial (perm_front 0 rfl)
  ·rintro f M ⟨k0,k1,-⟩ -
   have hs18 : f 18 = .pointer (some ⟨(blk (f 18)),0,none⟩) := k0
   have hs125 : f 125 = .agg #[.bool ((carryF s al).2.done),Ix ((carryF s al).2.at_),Ix ((carryF s al).2.e),sB (tsA (f 123)) (carryF s al).2.holds (tcA (f 123))] := k1
   refine obS (up_cons (up_cons rfl hs18) hs125) ?_
   refine lu (mS 0 (#[.bool ((carryF s al).2.done),Ix ((carryF s al).2.at_),Ix ((carryF s al).2.e),sB (tsA (f 123)) (carryF s al).2.holds (tcA (f 123))])) ?_
   refine l_nil ?_
   exact f_owes_n (up_cons (up_cons rfl hs18) hs125) trivial (perm_front 0 rfl)
  rintro fa53 ⟨-,-,-,-,-,-,-,-,-,k9,k10,-,-,-⟩ ⟨j0,j1,-⟩
  refine fre ?_
  refine f_rebase (d := 0) j0 (f_rebase (d := 8) j1 (f_rebase (d := 17) k9 (f_rebase (d := 18) k10 (ftc (lE omp (lE (olg 13) (lE onp (lE ofp ?_))))))))
  refine lu (mS 7 (#[pp J 0,.map (some (tmA 0 (fa53 123))),.map (some (tmA 1 (fa53 123))),Ix ((carryF s al).1.last),Ix ((carryF s al).1.su.a0),Ix ((carryF s al).1.su.a1),Ix ((carryF s al).1.su.a2),Ix ((carryF s al).1.su.a3),.map (some (tmA 7 (fa53 123))),.bool false])) ?_
  refine lnc (lE (olg 14) ?_)
  refine lcf (cl0 (vs := [.agg #[.bool ((carryF s al).2.done),Ix ((carryF s al).2.at_),Ix ((carryF s al).2.e),sB (tsA (fa53 123)) (carryF s al).2.holds (tcA (fa53 123))]]) tt106.ok rfl rfl) rfl fun w β1 sb kn hw1 back => (own_ok β1 w hw1 ((carryF s al).2.done) ((carryF s al).2.at_) ((carryF s al).2.e) _ ((carryF s al).2.holds) (kn _ (k_flN 12 (F := IntF) (m := (carryF s al).2.holds.length) rfl rfl)) (by omega)).mono ?_
  rintro e w' ⟨p54,c55,rfl,hw'⟩
  refine ⟨_,rfl,_,back _ _ hw',?_⟩
  clear hw1 hw' back kn sb
  refine lu (mS 7 (#[.bool ((carryF s al).2.done),Ix ((carryF s al).2.at_),Ix ((carryF s al).2.e),sB p54 ((carryF s al).2.holds) c55])) (lE oai (lnf ?_))
  refine c_ret ?_
  refine retG (m := [.agg #[.bool ((carryF s al).2.done),Ix ((carryF s al).2.at_),Ix ((carryF s al).2.e),sB p54 ((carryF s al).2.holds) c55],.int .i64 (0)]) Tryz.results12 ⟨rd_cell tt61.ok rfl (k_pt 7 rfl rfl) rfl,rd_tmp (v := .int .i64 (0)) rfl,trivial⟩ rfl ?_
  intro w hw
  replace hw := hw.perm (L' := [rowF ActF 47 p2 c3 al,rowF IntF 3 (tsA (fa53 123)) (tcA (fa53 123)) ((carryF s al).2.holds),memR zs,pt H (.cells #[pp J 0,.map (some (tmA 0 (fa53 123))),.map (some (tmA 1 (fa53 123))),Ix ((carryF s al).1.last),Ix ((carryF s al).1.su.a0),Ix ((carryF s al).1.su.a1),Ix ((carryF s al).1.su.a2),Ix ((carryF s al).1.su.a3),.map (some (tmA 7 (fa53 123))),.bool false] 91),jourR J S (apI i (dealB au nu al [] 0)) false,storeR S (apS k i (dealB au nu al [] 0)),mpR PuM (tmA 0 (fa53 123)) ((carryF s al).1.ps),mpR HoM (tmA 1 (fa53 123)) ((carryF s al).1.hs),mpR MeM (tmA 7 (fa53 123)) (MeM.put ms au (⟨au,nu,p2,al.length,c3,(carryF s al).2.done,(carryF s al).2.at_,(carryF s al).2.e,(tsA (fa53 123)),(carryF s al).2.holds.length,(tcA (fa53 123))⟩ : KMh)),rowF IntF 3 p54 c55 ((carryF s al).2.holds),rB p37 ((dealB au nu al [] 0)) c38,pt b5 (.cells #[Ix (hd.author),Ix (hd.number),.slice hd.p (hd.n) hd.c,.bool (hd.done),Ix (hd.at_),Ix (hd.e),.slice hd.q (hd.m) hd.k] 82),pt b4 (.cells #[Ix (au),Ix (nu),sB p2 al c3] 80),pt b1 (.cells #[.bool ((carryF s al).2.done),Ix ((carryF s al).2.at_),Ix ((carryF s al).2.e),sB p54 ((carryF s al).2.holds) c55] 37),pt (blk (fa53 17)) (.cells #[.map (some (tmA 0 (fa53 123))),.map (some (tmA 1 (fa53 123))),Ix ((carryF s al).1.last),Ix ((carryF s al).1.su.a0),Ix ((carryF s al).1.su.a1),Ix ((carryF s al).1.su.a2),Ix ((carryF s al).1.su.a3),.map (some (tmA 7 (fa53 123)))] 88),pt (blk (fa53 18)) (.cells #[.bool ((carryF s al).2.done),Ix ((carryF s al).2.at_),Ix ((carryF s al).2.e),sB (tsA (fa53 123)) (carryF s al).2.holds (tcA (fa53 123))] 37)]) (by exact (perm_ix [6,13,9,8,1,2,10,11,12,0,3,4,5,7,14,15] 16 rfl (by kernel_rfl) (by kernel_rfl)))
  replace hw := st_mask (L' := [rowF ActF 47 p2 c3 al,rowF IntF 3 (tsA (fa53 123)) (tcA (fa53 123)) ((carryF s al).2.holds),memR zs,pt H (.cells #[pp J 0,.map (some (tmA 0 (fa53 123))),.map (some (tmA 1 (fa53 123))),Ix ((carryF s al).1.last),Ix ((carryF s al).1.su.a0),Ix ((carryF s al).1.su.a1),Ix ((carryF s al).1.su.a2),Ix ((carryF s al).1.su.a3),.map (some (tmA 7 (fa53 123))),.bool false] 91),jourR J S (apI i (dealB au nu al [] 0)) false,storeR S (apS k i (dealB au nu al [] 0)),mpR PuM (tmA 0 (fa53 123)) ((carryF s al).1.ps),mpR HoM (tmA 1 (fa53 123)) ((carryF s al).1.hs),mpR MeM (tmA 7 (fa53 123)) (MeM.put ms au (⟨au,nu,p2,al.length,c3,(carryF s al).2.done,(carryF s al).2.at_,(carryF s al).2.e,(tsA (fa53 123)),(carryF s al).2.holds.length,(tcA (fa53 123))⟩ : KMh)),rowF IntF 3 p54 c55 ((carryF s al).2.holds)]) [true,true,true,true,true,true,true,true,true,true,false,false,false,false,false,false] rfl hw
  have hw2 := St.merge (L := [rowF ActF 47 p2 c3 al,rowF IntF 3 (tsA (fa53 123)) (tcA (fa53 123)) ((carryF s al).2.holds),memR zs]) (M := [pt H (.cells #[pp J 0,.map (some (tmA 0 (fa53 123))),.map (some (tmA 1 (fa53 123))),Ix ((carryF s al).1.last),Ix ((carryF s al).1.su.a0),Ix ((carryF s al).1.su.a1),Ix ((carryF s al).1.su.a2),Ix ((carryF s al).1.su.a3),.map (some (tmA 7 (fa53 123))),.bool false] 91),jourR J S (apI i (dealB au nu al [] 0)) false,storeR S (apS k i (dealB au nu al [] 0)),mpR PuM (tmA 0 (fa53 123)) ((carryF s al).1.ps),mpR HoM (tmA 1 (fa53 123)) ((carryF s al).1.hs),mpR MeM (tmA 7 (fa53 123)) (MeM.put ms au (⟨au,nu,p2,al.length,c3,(carryF s al).2.done,(carryF s al).2.at_,(carryF s al).2.e,(tsA (fa53 123)),(carryF s al).2.holds.length,(tcA (fa53 123))⟩ : KMh)),rowF IntF 3 p54 c55 ((carryF s al).2.holds)]) (r := memR (zs ++ [((⟨au,nu,p2,al.length,c3,(carryF s al).2.done,(carryF s al).2.at_,(carryF s al).2.e,(tsA (fa53 123)),(carryF s al).2.holds.length,(tcA (fa53 123))⟩ : KMh),⟨⟨au,nu,al⟩,(carryF s al).2⟩)])) hw (fun a ha => memR_add a ha)
  replace hw := hw2
  replace hw := hw.perm (L' := [pt H (.cells #[pp J 0,.map (some (tmA 0 (fa53 123))),.map (some (tmA 1 (fa53 123))),Ix ((carryF s al).1.last),Ix ((carryF s al).1.su.a0),Ix ((carryF s al).1.su.a1),Ix ((carryF s al).1.su.a2),Ix ((carryF s al).1.su.a3),.map (some (tmA 7 (fa53 123))),.bool false] 91),jourR J S (apI i (dealB au nu al [] 0)) false,storeR S (apS k i (dealB au nu al [] 0)),mpR PuM (tmA 0 (fa53 123)) ((carryF s al).1.ps),mpR HoM (tmA 1 (fa53 123)) ((carryF s al).1.hs),mpR MeM (tmA 7 (fa53 123)) (MeM.put ms au (⟨au,nu,p2,al.length,c3,(carryF s al).2.done,(carryF s al).2.at_,(carryF s al).2.e,(tsA (fa53 123)),(carryF s al).2.holds.length,(tcA (fa53 123))⟩ : KMh)),memR (zs ++ [((⟨au,nu,p2,al.length,c3,(carryF s al).2.done,(carryF s al).2.at_,(carryF s al).2.e,(tsA (fa53 123)),(carryF s al).2.holds.length,(tcA (fa53 123))⟩ : KMh),⟨⟨au,nu,al⟩,(carryF s al).2⟩)]),rowF IntF 3 p54 c55 ((carryF s al).2.holds)]) (by exact (perm_ix [1,2,3,4,5,6,0,7] 8 rfl (by kernel_rfl) (by kernel_rfl)))
  obtain ⟨hk2,hro⟩ := hk.ap (z := (carryF s al).1) (ro := (carryF s al).2) rfl (hk.so.ap hN hfm hh63 hr0 ha) (hd := (⟨au,nu,p2,al.length,c3,(carryF s al).2.done,(carryF s al).2.at_,(carryF s al).2.e,(tsA (fa53 123)),(carryF s al).2.holds.length,(tcA (fa53 123))⟩ : KMh)) ⟨rfl,rfl,rfl,rfl,rfl,rfl,rfl⟩
  have hw2 := St.closeHouse (M := [rowF IntF 3 p54 c55 ((carryF s al).2.holds)]) hk2 rfl hw
  refine ⟨_,_,_,do_newF hlo hfm (by rw [hc29]; decide) (by rw [hc36]; decide),.inl ⟨p54,c55,_,fun q => apS_neg1 (hpw.trans q),by rw [hro] <;> rfl,hw2.perm (L' := [_,_]) (by rw [hro]; exact List.Perm.swap _ _ _)⟩⟩
 refine c_region (lE omp (lE onp (lE ofp (lE (olp 5) (lE oms ?_)))))
 refine l_call rfl rfl rfl (cl0 (vs := [pp J 0,sB p37 ((dealB au nu al [] 0)) c38]) tt108.ok rfl rfl) ?_
 intro w hw
 replace hw := hw.perm (L' := [jourR J S i false,storeR S k,rB p37 ((dealB au nu al [] 0)) c38,pt b5 (.cells #[Ix (hd.author),Ix (hd.number),.slice hd.p (hd.n) hd.c,.bool (hd.done),Ix (hd.at_),Ix (hd.e),.slice hd.q (hd.m) hd.k] 82),pt b4 (.cells #[Ix (au),Ix (nu),sB p2 al c3] 80),rowF ActF 47 p2 c3 al,pt b1 (.cells #[.bool false,.int .i64 (0),.int .i64 (0),.slice none 0 0] 37),pt H (.cells #[pp J 0,.map (some mp),.map (some mh),Ix (s.last),Ix (s.su.a0),Ix (s.su.a1),Ix (s.su.a2),Ix (s.su.a3),.map (some mm),.bool false] 91),mpR PuM mp s.ps,mpR HoM mh s.hs,mpR MeM mm ms,memR zs]) (by exact (perm_ix [6,7,0,1,2,3,4,5,8,9,10,11] 12 rfl (by kernel_rfl) (by kernel_rfl)))
 obtain ⟨β1,sb,kn,hw1,back⟩ := St.frame (L := [_,_]) (M := _ :: _ :: _ :: _ :: _ :: _ :: _ :: _ :: _ :: _ :: []) hw
 refine (append_fail β1 w J S k i (dealB au nu al [] 0) hroom.1 hroom.2.1 hroom.2.2.1 hroom.2.2.2.1 hroom.2.2.2.2.1 hroom.2.2.2.2.2.1 hroom.2.2.2.2.2.2 ha _ (kU kn 0 rfl) hw1).mono ?_
 rintro e w' ⟨rfl,hw'⟩
 refine ⟨_,rfl,_,back _ _ hw',?_⟩
 clear hw hw1 hw' back kn sb
 refine lE omt (lE oxi (lE oxi (lE oai (lE oai (lnf (cs2 (c_region (lE omi (lE oeq_ (lnf (c_no rfl (csk (cs2 (c_region (lE omi (lE onq (lnf ?_)))))))))))))))))
 refine c_yes rfl (csr (lE omp (lE onp (lE ofp ?_))))
 refine lu (mS 7 (#[pp J 0,.map (some mp),.map (some mh),Ix (s.last),Ix (s.su.a0),Ix (s.su.a1),Ix (s.su.a2),Ix (s.su.a3),.map (some mm),.bool true])) ?_
 refine lnc ?_
 refine lv (v := .agg #[.bool false,.int .i64 (0),.int .i64 (0),.slice none 0 0]) (e_build tt53.ok tt60 (vs := []) (cells := #[.bool false,.int .i64 (0),.int .i64 (0),.slice none 0 0]) rfl rfl) ?_
 refine lE omi (lu (mS 6 (#[.bool false,.int .i64 (0),.int .i64 (0),.slice none 0 0])) (lE oai (lnf (c_ret (f_then_ret ?_)))))
 refine retG (m := [.agg #[.bool false,.int .i64 (0),.int .i64 (0),.slice none 0 0],.int .i64 (310)]) Tryz.results12 ⟨rd_cell tt61.ok rfl (k_pt 6 rfl rfl) rfl,rd_tmp (v := .int .i64 (310)) rfl,trivial⟩ rfl ?_
 intro w hw
 replace hw := hw.perm (L' := [storeR S (apS k i (dealB au nu al [] 0)),jourR J S i true,rB p37 ((dealB au nu al [] 0)) c38,pt b5 (.cells #[Ix (hd.author),Ix (hd.number),.slice hd.p (hd.n) hd.c,.bool (hd.done),Ix (hd.at_),Ix (hd.e),.slice hd.q (hd.m) hd.k] 82),pt b4 (.cells #[Ix (au),Ix (nu),sB p2 al c3] 80),rowF ActF 47 p2 c3 al,pt b1 (.cells #[.bool false,.int .i64 (0),.int .i64 (0),.slice none 0 0] 37),pt H (.cells #[pp J 0,.map (some mp),.map (some mh),Ix (s.last),Ix (s.su.a0),Ix (s.su.a1),Ix (s.su.a2),Ix (s.su.a3),.map (some mm),.bool true] 91),mpR PuM mp s.ps,mpR HoM mh s.hs,mpR MeM mm ms,memR zs]) (by exact (perm_ix [1,0,2,3,4,5,6,7,8,9,10,11] 12 rfl (by kernel_rfl) (by kernel_rfl)))
 replace hw := st_mask (L' := [storeR S (apS k i (dealB au nu al [] 0))]) [true,false,false,false,false,false,false,false,false,false,false,false] rfl hw
 exact ⟨_,_,_,do_newF hlo hfm (by rw [hc29]; decide) (by rw [hc36]; decide),.inr ⟨fun q => ha (ap_neg1 (hpw.trans q)),rfl,rfl,_,St.closeShelf (M := []) ((hk.so.ap_no hr0 (by omega) ha).mono (Nat.le_refl _) (by omega)) rfl hw⟩⟩
theorem do_ok (β : Base) (w : World) (H S N W : Nat) (pw : Int) (X : KHs) (hw : St β [houseR H S X N W pw] w) (au nu : Int) (v : Value) (al : List KAct) (hs : Sl ActF.R β.heap v al) (hal : al.length ≤ 1048576) (hh63 : hb63 al) (hN : N ≤ 1000000) (hNs : N ≤ 400) : Calls Tryz.prog 12 #[pp H 0, Ix au, Ix nu, v] w fun r w' => ∃ X1 R e1, doF X au nu al = (X1, R, e1) ∧ ((∃ p c q, (pw = -1 → q = -1) ∧ r = .returned (.tuple #[.agg #[.bool R.done, Ix R.at_, Ix R.e, sB p R.holds c], Ix e1]) ∧ St β [rowF IntF 3 p c R.holds, houseR H S X1 (N + 1) (W + 494) q] w') ∨ (pw ≠ -1 ∧ e1 = 0 ∧ r = .returned (.tuple #[.agg #[.bool false, .int .i64 0, .int .i64 0, .slice none 0 0], .int .i64 310]) ∧ ∃ q, St β [shelfR S X (N + 1) (W + 494) q] w')) := by
 obtain ⟨e,z,h1,h2,hw⟩ := St.toE2 hw
 refine (doE_ok β w H S N e z pw X hw au nu v al hs hal hh63 hN (fun q => by have := recD_len q; have := h2 hNs; omega)).mono ?_
 rintro r w' ⟨X1,R,e1,hd,⟨p,c,q,h3,h4,h5⟩ | ⟨h3,h4,h5,q,h6⟩⟩
 ·exact ⟨X1,R,e1,hd,.inl ⟨p,c,q,h3,h4,h5.conseq_at (r := houseR H S X1 (N + 1) (e * 218000 + z + 494) q) (r' := houseR H S X1 (N + 1) (W + 494) q) 1 rfl (houseR_le (Nat.le_refl _) (Nat.add_le_add_right h1 494))⟩⟩
 exact ⟨X1,R,e1,hd,.inr ⟨h3,h4,h5,q,h6.conseq_at (r := shelfR S X (N + 1) (e * 218000 + z + 494) q) (r' := shelfR S X (N + 1) (W + 494) q) 0 rfl (shelfR_le (Nat.le_refl _) (Nat.add_le_add_right h1 494))⟩⟩
end Go.Proofs
