/-
 Own work; plain Lean (Td24, TdLong).
-/
import Derived.Test.YtjejfkajcbdgjaaGreatTd20
import Derived.Test.YtjejfkajcbdgjaaGreatSlA
import Derived.Test.YtjejfkajcbdgjaaGreatSlB
import Derived.Test.YtjejfkajcbdgjaaGreatTdHouE
namespace Go.Proofs
open Go Go.Sl Go.Td Go.Jn
theorem _root_.Go.Td.SOk.next_le {X : KHs} {i : KI} {k : KS} {N W : Nat} {x : Bool} (h : SOk X i k N W x) (hN : N ≤ 1000000) : i.next ≤ 4611686018427387904 := by have := h.inv.nN; have := h.inv.wf.next; omega
theorem compactZ (β : Base) (w : World) (H S N e z : Nat) (X : KHs) (hw : St β [houseE H S X N (-1) e z] w) (hN : N < 1000000) (hW : e * 218000 + z ≤ 54000000) (hz : 261600 ≤ z) : Calls Tryz.prog 22 #[pp H 0] w fun r w' => r = .returned (Ix 0) ∧ St β [houseZ H S X (N + 1) (e * 218000 + z) (-1) 43324] w' := by
 refine (compactE_ok β w H S N e z (-1) X hw (Nat.le_of_lt hN) hW).mono ?_
 rintro r w' (⟨h3,z2,q,e2,_,h4,h5,h6,h7⟩ | ⟨h3,_⟩)
 ·subst h6
  rw [h4 rfl] at h7
  exact ⟨h3,St.toZ (by rw [Nat.succ_mul]; generalize e * 218000 = y; omega) h5 h7⟩
 ·exact absurd rfl h3
instance tu188 : CfC Tryz.prog 22 := ⟨by kernel_rfl⟩
set_option maxHeartbeats 4000000 in
theorem doFull_ok (β : Base) (w : World) (H S N e z : Nat) (X : KHs) (hw : St β [houseE H S X N (-1) e z] w) (au nu : Int) (v : Value) (al : List KAct) (hs : Sl ActF.R β.heap v al) (hal : al.length ≤ 1048576) (hh63 : hb63 al) (hN : N < 1000000) (hWb : e * 218000 + z ≤ 54000000) (hz : dformed au nu al = true → 262144 < z + 24 + (dealB au nu al [] 0).length) : Calls Tryz.prog 12 #[pp H 0, Ix au, Ix nu, v] w fun r w' => ∃ X1 R e1, doF X au nu al = (X1, R, e1) ∧ ∃ p c, r = .returned (.tuple #[.agg #[.bool R.done, Ix R.at_, Ix R.e, sB p R.holds c], Ix e1]) ∧ St β [rowF IntF 3 p c R.holds, houseR H S X1 (N + 2) (e * 218000 + z + 494) (-1)] w' := by
 obtain ⟨va,vc,rfl,vl,vm,ve⟩ := hs.get
 obtain ⟨J,mp,mh,mm,s,ms,zs,i,k,hk,hpw,hie,hiz,hw⟩ := St.openE hw
 obtain ⟨hd,mal,mhl,hlk,hlo,hnl,hml⟩ := hk.mm.lk au
 have hmb : mhl.length ≤ 1048576 := hlo.few hk.so.ok
 have hN' : N ≤ 1000000 := by omega
 refine enter (n := 132) Tryz.func12 rfl Tryz.ntmps12 rfl ?_ hw
 refine csr (alE fun b1 => lE oai (lnf (cs2 (c_region (lE omp ?_)))))
 refine lcR clA (fun w β1 sb kn hw1 => hready_ok β1 w hw1 _ _ _ _ _ s (kn _ (k_pt 1 rfl rfl))) (lE oai (lnc (lE omi (lE onq (lnf (c_no rfl (csk ?_)))))))
 refine csr (lE omi (lE omi (lE oms ?_)))
 refine lcf (cl0 (vs := [sB va al (vc)]) tt97.ok rfl rfl) rfl fun w β1 sb kn hw1 back => (cloneA_ok β1 w hw1 _ al (Sl.mono _ _ _ _ _ sb (⟨⟨_,_,rfl,vl,vm,ve⟩⟩ : Sl ActF.R _ _ al)) (by omega)).mono ?_
 rintro e w' ⟨p2,c3,rfl,hw'⟩
 refine ⟨_,rfl,_,back _ _ hw',?_⟩
 clear hw1 hw' back kn sb
 refine lv (v := .agg #[Ix (au),Ix (nu),sB p2 al c3]) (e_build tt99.ok tt98 (vs := [(0,Ix (au)),(1,Ix (nu)),(2,sB p2 al c3)]) (cells := #[Ix (au),Ix (nu),sB p2 al c3]) rfl rfl) ?_
 refine alE fun b4 => lu (mS 0 (#[Ix (au),Ix (nu),sB p2 al c3])) (lnc (lE omp (lE onp (lE ofp (lE ofp ?_)))))
 refine lv (v := .map (some mm)) (e_load1 tt58.ok rfl (k_pt 3 rfl rfl)) (lE omi ?_)
 refine lv (v := .tuple #[.agg #[Ix (hd.author),Ix (hd.number),.slice hd.p (hd.n) hd.c,.bool (hd.done),Ix (hd.at_),Ix (hd.e),.slice hd.q (hd.m) hd.k],.bool ((MeM.look ms au).isSome)]) (ev_eq (congrArg (fun z => Value.tuple #[MeM.encv z,.bool (MeM.look ms au).isSome]) hlk) (e_look2 (K := MeM) (b := mm) (ks := ms) (k := au) rfl rfl rfl (Knows.of_res 8 rfl (mpR.mono _ _ _) fun _ h => h))) ?_
 refine lE omt (lE oxa (lE oxb (alE fun b5 => ?_)))
 refine lu (mS 0 (#[Ix (hd.author),Ix (hd.number),.slice hd.p (hd.n) hd.c,.bool (hd.done),Ix (hd.at_),Ix (hd.e),.slice hd.q (hd.m) hd.k])) (lE oab ?_)
 refine lnf (c_seq (c_block (c_seq ?_)))
 cases hfm : dformed au nu al
 ·have hnf : (!dformed au nu al) = true := by rw [hfm]; rfl
  refine c_region (lE (olg 1) (lcR clA (fun w β1 sb kn hw1 => dformed_ok β1 w hw1 au nu _ al (kn _ (k_flN 2 (F := ActF) (m := al.length) rfl rfl))) ?_))
  refine lE ont (lE oab (lnf (c_ifb (!(dformed au nu al)) rfl (fun hc6 => ?_) (fun hc6 => ?_))))
  ·refine csr ?_
   refine lv (v := .agg #[.bool false,.int .i64 (0),.int .i64 (0),.slice none 0 0]) (e_build tt53.ok tt60 (vs := []) (cells := #[.bool false,.int .i64 (0),.int .i64 (0),.slice none 0 0]) rfl rfl) ?_
   refine lu (mS 3 (#[.bool false,.int .i64 (0),.int .i64 (0),.slice none 0 0])) (lE oai (lnf (c_ret (f_block_ret (f_then_ret ?_)))))
   refine retG (m := [.agg #[.bool false,.int .i64 (0),.int .i64 (0),.slice none 0 0],.int .i64 (2)]) Tryz.results12 ⟨rd_cell tt61.ok rfl (k_pt 3 rfl rfl) rfl,rd_tmp (v := .int .i64 (2)) rfl,trivial⟩ rfl ?_
   intro w hw
   replace hw := hw.perm (L' := [pt H (.cells #[pp J 0,.map (some mp),.map (some mh),Ix (s.last),Ix (s.su.a0),Ix (s.su.a1),Ix (s.su.a2),Ix (s.su.a3),.map (some mm),.bool false] 91),jourR J S i false,storeR S k,mpR PuM mp s.ps,mpR HoM mh s.hs,mpR MeM mm ms,memR zs,pt b5 (.cells #[Ix (hd.author),Ix (hd.number),.slice hd.p (hd.n) hd.c,.bool (hd.done),Ix (hd.at_),Ix (hd.e),.slice hd.q (hd.m) hd.k] 82),pt b4 (.cells #[Ix (au),Ix (nu),sB p2 al c3] 80),rowF ActF 47 p2 c3 al,pt b1 (.cells #[.bool false,.int .i64 (0),.int .i64 (0),.slice none 0 0] 37)]) (by exact (perm_ix [4,5,6,7,8,9,10,0,1,2,3] 11 rfl (by kernel_rfl) (by kernel_rfl)))
   replace hw := st_mask (L' := [pt H (.cells #[pp J 0,.map (some mp),.map (some mh),Ix (s.last),Ix (s.su.a0),Ix (s.su.a1),Ix (s.su.a2),Ix (s.su.a3),.map (some mm),.bool false] 91),jourR J S i false,storeR S k,mpR PuM mp s.ps,mpR HoM mh s.hs,mpR MeM mm ms,memR zs]) [true,true,true,true,true,true,true,false,false,false,false] rfl hw
   have hw2 := St.closeHouse (M := []) (hk.mono (Nat.le_add_right N 2) (Nat.le_add_right _ 494)) hpw hw
   exact ⟨_,_,_,do_badF hlo hfm,none,0,rfl,hw2.emp (row_nil _ _ _)⟩
  rw [hnf] at hc6; cases hc6
 have hnf : (!dformed au nu al) = false := by rw [hfm]; rfl
 obtain ⟨hfau,hfnu,hfl,hfa⟩ := dformed_iff.1 hfm
 have hlen := recD_len hfm
 refine c_region (lE (olg 1) (lcR clA (fun w β1 sb kn hw1 => dformed_ok β1 w hw1 au nu _ al (kn _ (k_flN 2 (F := ActF) (m := al.length) rfl rfl))) ?_))
 refine lE ont (lE oab (lnf (c_ifb (!(dformed au nu al)) rfl (fun hc7 => ?_) (fun hc7 => ?_))))
 ·rw [hnf] at hc7; cases hc7
 refine csr (lE omb (l_and5 ((MeM.look ms au).isSome) (decide ((hd.number) = (nu))) rfl (fun hb8 hk8 => ?_) (fun z9 z10 z11 z12 z13 => ?_)))
 ·refine gE ofp (gE ofp (gE (oli 0) (gE omi (gE oeq_ (lE oktb ?_)))))
  exact hk8 _ _ _ _ _
 refine l_and5 (((MeM.look ms au).isSome) && (decide ((hd.number) = (nu)))) (decide (mal = al)) rfl (fun hb14 hk14 => ?_) (fun z15 z16 z17 z18 z19 => ?_)
 ·refine gE ofp (gE ofp (gE (ols 0) (gE oms (g_call rfl rfl rfl rfl rfl (cl0 (vs := [.slice hd.p (hd.n) hd.c,sB va al (vc)]) tt104.ok rfl rfl) ?_))))
  intro w hw
  obtain ⟨β1,sb,kn,hw1,back⟩ := St.frame_all hw
  refine (equalA_ok β1 w hw1 _ _ mal al (kn _ (k_lkA 10 rfl hlo)) (Sl.mono _ _ _ _ _ sb (⟨⟨_,_,rfl,vl,vm,ve⟩⟩ : Sl ActF.R _ _ al))).mono ?_
  rintro e w' ⟨rfl,hw'⟩
  refine ⟨_,rfl,_,back _ _ hw',?_⟩
  clear hw hw1 hw' back kn sb
  refine lE oktb ?_
  exact hk14 _ _ _ _ _
 refine lE oab (lnf ?_)
 refine c_ifb (((((MeM.look ms au).isSome) && (decide ((hd.number) = (nu)))) && (decide (mal = al)))) rfl (fun hc20 => ?_) (fun hc20 => ?_)
 ·refine csr (lE ofp (lE (olg 0) ?_))
  refine lcf (cl0 (vs := [.agg #[.bool (hd.done),Ix (hd.at_),Ix (hd.e),.slice hd.q (hd.m) hd.k]]) tt106.ok rfl rfl) rfl fun w β1 sb kn hw1 back => (own_ok β1 w hw1 hd.done hd.at_ hd.e _ mhl (kn _ (k_lkH 10 rfl hlo)) (by omega)).mono ?_
  rintro e w' ⟨p21,c22,rfl,hw'⟩
  refine ⟨_,rfl,_,back _ _ hw',?_⟩
  clear hw1 hw' back kn sb
  refine lu (mS 4 (#[.bool (hd.done),Ix (hd.at_),Ix (hd.e),sB p21 mhl c22])) (lE oai (lnf (c_ret (f_block_ret (f_then_ret ?_)))))
  refine retG (m := [.agg #[.bool (hd.done),Ix (hd.at_),Ix (hd.e),sB p21 mhl c22],.int .i64 (0)]) Tryz.results12 ⟨rd_cell tt61.ok rfl (k_pt 4 rfl rfl) rfl,rd_tmp (v := .int .i64 (0)) rfl,trivial⟩ rfl ?_
  intro w hw
  replace hw := hw.perm (L' := [pt H (.cells #[pp J 0,.map (some mp),.map (some mh),Ix (s.last),Ix (s.su.a0),Ix (s.su.a1),Ix (s.su.a2),Ix (s.su.a3),.map (some mm),.bool false] 91),jourR J S i false,storeR S k,mpR PuM mp s.ps,mpR HoM mh s.hs,mpR MeM mm ms,memR zs,rowF IntF 3 p21 c22 mhl,pt b5 (.cells #[Ix (hd.author),Ix (hd.number),.slice hd.p (hd.n) hd.c,.bool (hd.done),Ix (hd.at_),Ix (hd.e),.slice hd.q (hd.m) hd.k] 82),pt b4 (.cells #[Ix (au),Ix (nu),sB p2 al c3] 80),rowF ActF 47 p2 c3 al,pt b1 (.cells #[.bool (hd.done),Ix (hd.at_),Ix (hd.e),sB p21 mhl c22] 37)]) (by exact (perm_ix [5,6,7,8,9,10,11,0,1,2,3,4] 12 rfl (by kernel_rfl) (by kernel_rfl)))
  replace hw := st_mask (L' := [pt H (.cells #[pp J 0,.map (some mp),.map (some mh),Ix (s.last),Ix (s.su.a0),Ix (s.su.a1),Ix (s.su.a2),Ix (s.su.a3),.map (some mm),.bool false] 91),jourR J S i false,storeR S k,mpR PuM mp s.ps,mpR HoM mh s.hs,mpR MeM mm ms,memR zs,rowF IntF 3 p21 c22 mhl]) [true,true,true,true,true,true,true,true,false,false,false,false] rfl hw
  have hw2 := St.closeHouse (M := [rowF IntF 3 p21 c22 mhl]) (hk.mono (Nat.le_add_right N 2) (Nat.le_add_right _ 494)) hpw hw
  exact ⟨_,_,_,do_sameF hlo hfm hc20,p21,c22,rfl,hw2.perm (List.Perm.swap _ _ _)⟩
 refine csr (lE omb (l_and5 ((MeM.look ms au).isSome) (decide ((hd.number) = (nu))) rfl (fun hb23 hk23 => ?_) (fun z24 z25 z26 z27 z28 => ?_)))
 ·refine gE ofp (gE ofp (gE (oli 0) (gE omi (gE oeq_ (lE oktb ?_)))))
  exact hk23 _ _ _ _ _
 refine lE oab (lnf (c_ifb ((((MeM.look ms au).isSome) && (decide ((hd.number) = (nu))))) rfl (fun hc29 => ?_) (fun hc29 => ?_)))
 ·refine csr ?_
  refine lv (v := .agg #[.bool false,.int .i64 (0),.int .i64 (0),.slice none 0 0]) (e_build tt53.ok tt60 (vs := []) (cells := #[.bool false,.int .i64 (0),.int .i64 (0),.slice none 0 0]) rfl rfl) ?_
  refine lu (mS 3 (#[.bool false,.int .i64 (0),.int .i64 (0),.slice none 0 0])) (lE oai (lnf (c_ret (f_block_ret (f_then_ret ?_)))))
  refine retG (m := [.agg #[.bool false,.int .i64 (0),.int .i64 (0),.slice none 0 0],.int .i64 (331)]) Tryz.results12 ⟨rd_cell tt61.ok rfl (k_pt 3 rfl rfl) rfl,rd_tmp (v := .int .i64 (331)) rfl,trivial⟩ rfl ?_
  intro w hw
  replace hw := hw.perm (L' := [pt H (.cells #[pp J 0,.map (some mp),.map (some mh),Ix (s.last),Ix (s.su.a0),Ix (s.su.a1),Ix (s.su.a2),Ix (s.su.a3),.map (some mm),.bool false] 91),jourR J S i false,storeR S k,mpR PuM mp s.ps,mpR HoM mh s.hs,mpR MeM mm ms,memR zs,pt b5 (.cells #[Ix (hd.author),Ix (hd.number),.slice hd.p (hd.n) hd.c,.bool (hd.done),Ix (hd.at_),Ix (hd.e),.slice hd.q (hd.m) hd.k] 82),pt b4 (.cells #[Ix (au),Ix (nu),sB p2 al c3] 80),rowF ActF 47 p2 c3 al,pt b1 (.cells #[.bool false,.int .i64 (0),.int .i64 (0),.slice none 0 0] 37)]) (by exact (perm_ix [4,5,6,7,8,9,10,0,1,2,3] 11 rfl (by kernel_rfl) (by kernel_rfl)))
  replace hw := st_mask (L' := [pt H (.cells #[pp J 0,.map (some mp),.map (some mh),Ix (s.last),Ix (s.su.a0),Ix (s.su.a1),Ix (s.su.a2),Ix (s.su.a3),.map (some mm),.bool false] 91),jourR J S i false,storeR S k,mpR PuM mp s.ps,mpR HoM mh s.hs,mpR MeM mm ms,memR zs]) [true,true,true,true,true,true,true,false,false,false,false] rfl hw
  have hw2 := St.closeHouse (M := []) (hk.mono (Nat.le_add_right N 2) (Nat.le_add_right _ 494)) hpw hw
  exact ⟨_,_,_,do_otherF hlo hfm (by rw [hc20]; decide) hc29,none,0,rfl,hw2.emp (row_nil _ _ _)⟩
 refine csr (lE omb (l_and5 ((MeM.look ms au).isSome) (decide ((nu) < (hd.number))) rfl (fun hb30 hk30 => ?_) (fun z31 z32 z33 z34 z35 => ?_)))
 ·refine gE ofp (gE ofp (gE (oli 0) (gE omi (gE ogt (lE oktb ?_)))))
  exact hk30 _ _ _ _ _
 refine lE oab (lnf (c_ifb ((((MeM.look ms au).isSome) && (decide ((nu) < (hd.number))))) rfl (fun hc36 => ?_) (fun hc36 => ?_)))
 ·refine csr ?_
  refine lv (v := .agg #[.bool false,.int .i64 (0),.int .i64 (0),.slice none 0 0]) (e_build tt53.ok tt60 (vs := []) (cells := #[.bool false,.int .i64 (0),.int .i64 (0),.slice none 0 0]) rfl rfl) ?_
  refine lu (mS 3 (#[.bool false,.int .i64 (0),.int .i64 (0),.slice none 0 0])) (lE oai (lnf (c_ret (f_block_ret (f_then_ret ?_)))))
  refine retG (m := [.agg #[.bool false,.int .i64 (0),.int .i64 (0),.slice none 0 0],.int .i64 (332)]) Tryz.results12 ⟨rd_cell tt61.ok rfl (k_pt 3 rfl rfl) rfl,rd_tmp (v := .int .i64 (332)) rfl,trivial⟩ rfl ?_
  intro w hw
  replace hw := hw.perm (L' := [pt H (.cells #[pp J 0,.map (some mp),.map (some mh),Ix (s.last),Ix (s.su.a0),Ix (s.su.a1),Ix (s.su.a2),Ix (s.su.a3),.map (some mm),.bool false] 91),jourR J S i false,storeR S k,mpR PuM mp s.ps,mpR HoM mh s.hs,mpR MeM mm ms,memR zs,pt b5 (.cells #[Ix (hd.author),Ix (hd.number),.slice hd.p (hd.n) hd.c,.bool (hd.done),Ix (hd.at_),Ix (hd.e),.slice hd.q (hd.m) hd.k] 82),pt b4 (.cells #[Ix (au),Ix (nu),sB p2 al c3] 80),rowF ActF 47 p2 c3 al,pt b1 (.cells #[.bool false,.int .i64 (0),.int .i64 (0),.slice none 0 0] 37)]) (by exact (perm_ix [4,5,6,7,8,9,10,0,1,2,3] 11 rfl (by kernel_rfl) (by kernel_rfl)))
  replace hw := st_mask (L' := [pt H (.cells #[pp J 0,.map (some mp),.map (some mh),Ix (s.last),Ix (s.su.a0),Ix (s.su.a1),Ix (s.su.a2),Ix (s.su.a3),.map (some mm),.bool false] 91),jourR J S i false,storeR S k,mpR PuM mp s.ps,mpR HoM mh s.hs,mpR MeM mm ms,memR zs]) [true,true,true,true,true,true,true,false,false,false,false] rfl hw
  have hw2 := St.closeHouse (M := []) (hk.mono (Nat.le_add_right N 2) (Nat.le_add_right _ 494)) hpw hw
  exact ⟨_,_,_,do_oldF hlo hfm (by rw [hc29]; decide) hc36,none,0,rfl,hw2.emp (row_nil _ _ _)⟩
 refine c_skip (f_block (ftc (lE (olg 1) ?_)))
 refine lcf (cl0 (vs := [.agg #[Ix (au),Ix (nu),sB p2 al c3]]) tt107.ok rfl rfl) rfl fun w β1 sb kn hw1 back => (trecord_ok β1 w hw1 au nu _ al (kn _ (k_flN 2 (F := ActF) (m := al.length) rfl rfl)) hfa (by omega) (by omega) (by omega)).mono ?_
 rintro e w' ⟨p37,c38,rfl,hw'⟩
 refine ⟨_,rfl,_,back _ _ hw',?_⟩
 clear hw1 hw' back kn sb
 refine lE oas (lnf (c_seq ?_))
 have hful : 262144 < i.size + 24 + (dealB au nu al [] 0).length := by rw [hiz]; exact hz hfm
 have hnl : i.next ≤ 4611686018427387904 := hk.so.next_le hN'
 have hsz : i.size ≤ 262144 := hk.so.inv.sm
 have hdo := do_newF hlo hfm (by rw [hc29]; decide) (by rw [hc36]; decide)
 refine c_region (lE omp (lE onp (lE ofp (lE (olp 5) (lE oms ?_)))))
 refine l_call rfl rfl rfl (cl0 (vs := [pp J 0,sB p37 ((dealB au nu al [] 0)) c38]) tt108.ok rfl rfl) ?_
 intro w hw
 replace hw := hw.perm (L' := [jourR J S i false,rB p37 ((dealB au nu al [] 0)) c38,pt b5 (.cells #[Ix (hd.author),Ix (hd.number),.slice hd.p (hd.n) hd.c,.bool (hd.done),Ix (hd.at_),Ix (hd.e),.slice hd.q (hd.m) hd.k] 82),pt b4 (.cells #[Ix (au),Ix (nu),sB p2 al c3] 80),rowF ActF 47 p2 c3 al,pt b1 (.cells #[.bool false,.int .i64 (0),.int .i64 (0),.slice none 0 0] 37),pt H (.cells #[pp J 0,.map (some mp),.map (some mh),Ix (s.last),Ix (s.su.a0),Ix (s.su.a1),Ix (s.su.a2),Ix (s.su.a3),.map (some mm),.bool false] 91),storeR S k,mpR PuM mp s.ps,mpR HoM mh s.hs,mpR MeM mm ms,memR zs]) (by exact (perm_ix [6,0,1,2,3,4,5,7,8,9,10,11] 12 rfl (by kernel_rfl) (by kernel_rfl)))
 obtain ⟨β1,sb,kn,hw1,back⟩ := St.frame (L := [_]) (M := _ :: _ :: _ :: _ :: _ :: _ :: _ :: _ :: _ :: _ :: _ :: []) hw
 refine (append_full β1 w J S k i (dealB au nu al [] 0) (by omega) hnl hsz (.inl hful) _ (kU kn 0 rfl) hw1).mono ?_
 rintro e w' ⟨rfl,hw'⟩
 refine ⟨_,rfl,_,back _ _ hw',?_⟩
 clear hw hw1 hw' back kn sb
 refine lE omt (lE oxi (lE oxi (lE oai (lE oai (lnf (cs2 (c_region (lE omi (lE oeq_ (lnf (c_yes rfl (c_seq ?_))))))))))))
 refine c_pi [6,0,7,8,9,10,11,1,2,3,4,5] 12 rfl (by kernel_rfl) ?_
 refine c_closeE (M := [rB p37 ((dealB au nu al [] 0)) c38,pt b5 (.cells #[Ix (hd.author),Ix (hd.number),.slice hd.p (hd.n) hd.c,.bool (hd.done),Ix (hd.at_),Ix (hd.e),.slice hd.q (hd.m) hd.k] 82),pt b4 (.cells #[Ix (au),Ix (nu),sB p2 al c3] 80),rowF ActF 47 p2 c3 al,pt b1 (.cells #[.bool false,.int .i64 (0),.int .i64 (0),.slice none 0 0] 37)]) rfl hk hpw hie hiz ?_
 refine c_region (lE omp (l_call rfl rfl rfl (cl0 (vs := [pp H 0]) tu188.ok rfl rfl) ?_))
 intro w hw
 replace hw := hw.perm (L' := _ :: _ :: _ :: _ :: _ :: _ :: []) (by exact ((((((perm_front 5 rfl).trans (perm_front 5 rfl)).trans (perm_front 5 rfl)).trans (perm_front 5 rfl)).trans (perm_front 5 rfl)).trans (perm_front 5 rfl)))
 obtain ⟨β1,sb,kn,hw1,back⟩ := St.frame (L := [_]) (M := _ :: _ :: _ :: _ :: _ :: []) hw
 refine (compactZ β1 w H S N e z X hw1 hN hWb (by omega)).mono ?_
 rintro e w' ⟨rfl,hw'⟩
 refine ⟨_,rfl,_,back _ _ hw',?_⟩
 clear hw hw1 hw' back kn sb
 refine lE oai (lnc (lE omi (lE oeq_ (lnf (c_yes rfl (c_openZ rfl (fun J2 mp2 mh2 mm2 s2 ms2 zs2 i2 k2 hk2 hpw2 hiz2 => ?_)))))))
 have hr0 : i2.size + 24 + (dealB au nu al [] 0).length ≤ 262144 := by omega
 have hN1 : N + 1 ≤ 1000000 := by omega
 have hroom := hk2.so.room hN1 hlen hr0
 have ha : apOk k2 i2 (dealB au nu al [] 0) := ap_neg1 hpw2
 refine c_region (lE omp (lE onp (lE ofp (lE (olp 0) (lE oms ?_)))))
 refine l_call rfl rfl rfl (cl0 (vs := [pp J2 0,sB p37 ((dealB au nu al [] 0)) c38]) tt108.ok rfl rfl) ?_
 intro w hw
 replace hw := hw.perm (L' := [jourR J2 S i2 false,storeR S k2,pt H (.cells #[pp J2 0,.map (some mp2),.map (some mh2),Ix (s2.last),Ix (s2.su.a0),Ix (s2.su.a1),Ix (s2.su.a2),Ix (s2.su.a3),.map (some mm2),.bool false] 91),mpR PuM mp2 s2.ps,mpR HoM mh2 s2.hs,mpR MeM mm2 ms2,memR zs2,rB p37 ((dealB au nu al [] 0)) c38,pt b5 (.cells #[Ix (hd.author),Ix (hd.number),.slice hd.p (hd.n) hd.c,.bool (hd.done),Ix (hd.at_),Ix (hd.e),.slice hd.q (hd.m) hd.k] 82),pt b4 (.cells #[Ix (au),Ix (nu),sB p2 al c3] 80),rowF ActF 47 p2 c3 al,pt b1 (.cells #[.bool false,.int .i64 (0),.int .i64 (0),.slice none 0 0] 37)]) (by exact (perm_ix [1,2,0,3,4,5,6,7,8,9,10,11] 12 rfl (by kernel_rfl) (by kernel_rfl)))
 obtain ⟨β1,sb,kn,hw1,back⟩ := St.frame (L := [_,_]) (M := _ :: _ :: _ :: _ :: _ :: _ :: _ :: _ :: _ :: _ :: []) hw
 refine (append_ok β1 w J2 S k2 i2 (dealB au nu al [] 0) hroom.1 hroom.2.1 hroom.2.2.1 hroom.2.2.2.1 hroom.2.2.2.2.1 hroom.2.2.2.2.2.1 hroom.2.2.2.2.2.2 ha _ (kU kn 5 rfl) hw1).mono ?_
 rintro e w' ⟨rfl,hw'⟩
 refine ⟨_,rfl,_,back _ _ hw',?_⟩
 clear hw hw1 hw' back kn sb
 refine lE omt (lE oxi (lE oxi (lE oai (lnf (cs2 (c_region (lE omi (lE onq (lnf (c_no rfl (csk (c_seq ?_))))))))))))
 have hgs := hk2.goodS hN1
 have hch : (carryF s2 al).2.holds.length ≤ al.length := carry_holds
 refine cny [sv 118 (pp H 0) [] [] [0],sv 119 (pp H 0) [0] [0] [],sv 120 (pp H 1) [0,1] [1] [],sv 121 (.agg #[.map (some mp2),.map (some mh2),Ix (s2.last),Ix (s2.su.a0),Ix (s2.su.a1),Ix (s2.su.a2),Ix (s2.su.a3),.map (some mm2)]) [0,1,2] [2] [],sv 122 (.agg #[Ix (au),Ix (nu),sB p2 al c3]) [] [] [1],⟨[0,1,2,3,4],[3,4],[],[123],fun f => f 123 = .tuple #[.agg #[.map (some (tmA 0 (f 123))),.map (some (tmA 1 (f 123))),Ix ((carryF s2 al).1.last),Ix ((carryF s2 al).1.su.a0),Ix ((carryF s2 al).1.su.a1),Ix ((carryF s2 al).1.su.a2),Ix ((carryF s2 al).1.su.a3),.map (some (tmA 7 (f 123)))],.agg #[.bool ((carryF s2 al).2.done),Ix ((carryF s2 al).2.at_),Ix ((carryF s2 al).2.e),sB (tsA (f 123)) (carryF s2 al).2.holds (tcA (f 123))]]⟩,⟨(List.range 6),[5],[],[117,123],fun f => f 117 = .tuple #[.agg #[.map (some (tmA 0 (f 123))),.map (some (tmA 1 (f 123))),Ix ((carryF s2 al).1.last),Ix ((carryF s2 al).1.su.a0),Ix ((carryF s2 al).1.su.a1),Ix ((carryF s2 al).1.su.a2),Ix ((carryF s2 al).1.su.a3),.map (some (tmA 7 (f 123)))],.agg #[.bool ((carryF s2 al).2.done),Ix ((carryF s2 al).2.at_),Ix ((carryF s2 al).2.e),sB (tsA (f 123)) (carryF s2 al).2.holds (tcA (f 123))]]⟩,⟨(List.range 7),[6],[],[123,124],fun f => f 124 = .agg #[.map (some (tmA 0 (f 123))),.map (some (tmA 1 (f 123))),Ix ((carryF s2 al).1.last),Ix ((carryF s2 al).1.su.a0),Ix ((carryF s2 al).1.su.a1),Ix ((carryF s2 al).1.su.a2),Ix ((carryF s2 al).1.su.a3),.map (some (tmA 7 (f 123)))]⟩,⟨(List.range 7),[6],[],[123,125],fun f => f 125 = .agg #[.bool ((carryF s2 al).2.done),Ix ((carryF s2 al).2.at_),Ix ((carryF s2 al).2.e),sB (tsA (f 123)) (carryF s2 al).2.holds (tcA (f 123))]⟩,⟨[],[],[],[17],fun f => f 17 = .pointer (some ⟨(blk (f 17)),0,none⟩)⟩,⟨[],[],[],[18],fun f => f 18 = .pointer (some ⟨(blk (f 18)),0,none⟩)⟩,⟨[0,1,2,3,4,5,6,7,9,10],[9,7],[],[],fun _ => True⟩,⟨(List.range 12),[10,8],[],[],fun _ => True⟩] [tk (jourR J2 S (apI i2 (dealB au nu al [] 0)) false) [],tk (storeR S (apS k2 i2 (dealB au nu al [] 0))) [],tk (pt H (.cells #[pp J2 0,.map (some mp2),.map (some mh2),Ix (s2.last),Ix (s2.su.a0),Ix (s2.su.a1),Ix (s2.su.a2),Ix (s2.su.a3),.map (some mm2),.bool false] 91)) [3],⟨none,(some 5),[5],[],fun _ => mpR PuM mp2 s2.ps⟩,⟨none,(some 5),[5],[],fun _ => mpR HoM mh2 s2.hs⟩,⟨none,(some 5),[5],[],fun _ => mpR MeM mm2 ms2⟩,tk (memR zs2) [],tk (rB p37 ((dealB au nu al [] 0)) c38) [],tk (pt b5 (.cells #[Ix (hd.author),Ix (hd.number),.slice hd.p (hd.n) hd.c,.bool (hd.done),Ix (hd.at_),Ix (hd.e),.slice hd.q (hd.m) hd.k] 82)) [],tk (pt b4 (.cells #[Ix (au),Ix (nu),sB p2 al c3] 80)) [4],tk (rowF ActF 47 p2 c3 al) [5],tk (pt b1 (.cells #[.bool false,.int .i64 (0),.int .i64 (0),.slice none 0 0] 37)) [],⟨(some 5),none,[],[123],fun f => mpR PuM (tmA 0 (f 123)) ((carryF s2 al).1.ps)⟩,⟨(some 5),none,[],[123],fun f => mpR HoM (tmA 1 (f 123)) ((carryF s2 al).1.hs)⟩,⟨(some 5),none,[],[123],fun f => mpR MeM (tmA 7 (f 123)) (MeM.put ms2 au (⟨au,nu,p2,al.length,c3,(carryF s2 al).2.done,(carryF s2 al).2.at_,(carryF s2 al).2.e,(tsA (f 123)),(carryF s2 al).2.holds.length,(tcA (f 123))⟩ : KMh))⟩,⟨(some 5),none,[],[123],fun f => rowF IntF 3 (tsA (f 123)) (tcA (f 123)) ((carryF s2 al).2.holds)⟩,⟨(some 9),(some 11),[11],[17],fun f => pt (blk (f 17)) (.cells #[.map none,.map none,.int .i64 (0),.int .i64 (0),.int .i64 (0),.int .i64 (0),.int .i64 (0),.map none] 88)⟩,⟨(some 10),(some 12),[12],[18],fun f => pt (blk (f 18)) (.cells #[.bool false,.int .i64 (0),.int .i64 (0),.slice none 0 0] 37)⟩,⟨(some 11),none,[],[17,123],fun f => pt (blk (f 17)) (.cells #[.map (some (tmA 0 (f 123))),.map (some (tmA 1 (f 123))),Ix ((carryF s2 al).1.last),Ix ((carryF s2 al).1.su.a0),Ix ((carryF s2 al).1.su.a1),Ix ((carryF s2 al).1.su.a2),Ix ((carryF s2 al).1.su.a3),.map (some (tmA 7 (f 123)))] 88)⟩,⟨(some 12),none,[],[18,123],fun f => pt (blk (f 18)) (.cells #[.bool ((carryF s2 al).2.done),Ix ((carryF s2 al).2.at_),Ix ((carryF s2 al).2.e),sB (tsA (f 123)) (carryF s2 al).2.holds (tcA (f 123))] 37)⟩] [(0,pp H 0),(11,pp b4 0),(8,pp b1 0)] [0,2] [] ⟨rfl,rfl,rfl,trivial⟩ ⟨?_,?_,?_,?_,?_,?_,?_,?_,?_,?_,?_,?_,?_,trivial⟩ ?_
 ·rintro f M - ⟨i0,-⟩
  exact obE omp
 ·rintro f M ⟨k0,-⟩ -
  exact obE onp
 ·rintro f M ⟨k0,-⟩ -
  exact obE ofp
 ·rintro f M ⟨k0,-⟩ -
  exact obE (olg 0)
 ·rintro f M - ⟨i0,-⟩
  exact obE (olg 0)
 ·rintro f M ⟨k0,k1,-⟩ -
  refine ob_start (L' := mpR PuM mp2 s2.ps :: mpR HoM mh2 s2.hs :: mpR MeM mm2 ms2 :: rowF ActF 47 p2 c3 al :: M) (by rfl) (up_cons (d := 122) (up_cons (d := 121) rfl k0) k1) ?_
  refine l_call rfl rfl rfl (cl0 (vs := [.agg #[.map (some mp2),.map (some mh2),Ix (s2.last),Ix (s2.su.a0),Ix (s2.su.a1),Ix (s2.su.a2),Ix (s2.su.a3),.map (some mm2)],.agg #[Ix (au),Ix (nu),sB p2 al c3]]) tt109.ok rfl rfl) ?_
  intro w hw
  replace hw := hw.perm (L' := _ :: _ :: _ :: _ :: M) (by exact ((((perm_front 3 rfl).trans (perm_front 3 rfl)).trans (perm_front 3 rfl)).trans (perm_front 3 rfl)))
  obtain ⟨β1,sb,kn,hw1,back⟩ := St.frame (L := [_,_,_]) (M := _ :: M) hw
  refine (carry2_ok β1 w mp2 mh2 mm2 s2 ms2 hw1 au nu _ al (kn _ (k_flN 0 (F := ActF) (m := al.length) rfl rfl)) hfa (by omega) _ (Int.le_refl _) hgs).mono ?_
  rintro e w' ⟨mq44,hq45,mn46,p47,c48,rfl,hw'⟩
  refine ⟨_,rfl,_,back _ _ hw',?_⟩
  clear hw hw1 hw' back kn sb
  refine l_nil ?_
  exact f_owes_d (up_cons (d := 122) (up_cons (d := 121) rfl k0) k1) rfl (((((perm_front 3 rfl).trans (perm_front 3 rfl)).trans (perm_front 3 rfl)).trans (perm_front 3 rfl)).trans (perm_front 4 rfl))
 ·rintro f M ⟨k0,-⟩ -
  have hs123 : f 123 = .tuple #[.agg #[.map (some (tmA 0 (f 123))),.map (some (tmA 1 (f 123))),Ix ((carryF s2 al).1.last),Ix ((carryF s2 al).1.su.a0),Ix ((carryF s2 al).1.su.a1),Ix ((carryF s2 al).1.su.a2),Ix ((carryF s2 al).1.su.a3),.map (some (tmA 7 (f 123)))],.agg #[.bool ((carryF s2 al).2.done),Ix ((carryF s2 al).2.at_),Ix ((carryF s2 al).2.e),sB (tsA (f 123)) (carryF s2 al).2.holds (tcA (f 123))]] := k0
  exact obE omt
 ·rintro f M ⟨k0,-⟩ -
  have hs117 : f 117 = .tuple #[.agg #[.map (some (tmA 0 (f 123))),.map (some (tmA 1 (f 123))),Ix ((carryF s2 al).1.last),Ix ((carryF s2 al).1.su.a0),Ix ((carryF s2 al).1.su.a1),Ix ((carryF s2 al).1.su.a2),Ix ((carryF s2 al).1.su.a3),.map (some (tmA 7 (f 123)))],.agg #[.bool ((carryF s2 al).2.done),Ix ((carryF s2 al).2.at_),Ix ((carryF s2 al).2.e),sB (tsA (f 123)) (carryF s2 al).2.holds (tcA (f 123))]] := k0
  exact obE oxa
 ·rintro f M ⟨k0,-⟩ -
  have hs117 : f 117 = .tuple #[.agg #[.map (some (tmA 0 (f 123))),.map (some (tmA 1 (f 123))),Ix ((carryF s2 al).1.last),Ix ((carryF s2 al).1.su.a0),Ix ((carryF s2 al).1.su.a1),Ix ((carryF s2 al).1.su.a2),Ix ((carryF s2 al).1.su.a3),.map (some (tmA 7 (f 123)))],.agg #[.bool ((carryF s2 al).2.done),Ix ((carryF s2 al).2.at_),Ix ((carryF s2 al).2.e),sB (tsA (f 123)) (carryF s2 al).2.holds (tcA (f 123))]] := k0
  exact obE oxa
 ·rintro f M - -
  refine ob_start (L' := M) (by rfl) rfl (alE fun b50 => l_nil ?_)
  exact f_owes_d rfl rfl (perm_front 0 rfl)
 ·rintro f M - -
  refine ob_start (L' := M) (by rfl) rfl (alE fun b52 => l_nil ?_)
  exact f_owes_d rfl rfl (perm_front 0 rfl)
 ·rintro f M ⟨k0,k1,-⟩ -
  have hs17 : f 17 = .pointer (some ⟨(blk (f 17)),0,none⟩) := k0
  have hs124 : f 124 = .agg #[.map (some (tmA 0 (f 123))),.map (some (tmA 1 (f 123))),Ix ((carryF s2 al).1.last),Ix ((carryF s2 al).1.su.a0),Ix ((carryF s2 al).1.su.a1),Ix ((carryF s2 al).1.su.a2),Ix ((carryF s2 al).1.su.a3),.map (some (tmA 7 (f 123)))] := k1
  refine ob_start (L' := pt (blk (f 17)) (.cells #[.map none,.map none,.int .i64 (0),.int .i64 (0),.int .i64 (0),.int .i64 (0),.int .i64 (0),.map none] 88) :: M) (by rfl) (up_cons (up_cons rfl hs17) hs124) ?_
  refine lu (mS 0 (#[.map (some (tmA 0 (f 123))),.map (some (tmA 1 (f 123))),Ix ((carryF s2 al).1.last),Ix ((carryF s2 al).1.su.a0),Ix ((carryF s2 al).1.su.a1),Ix ((carryF s2 al).1.su.a2),Ix ((carryF s2 al).1.su.a3),.map (some (tmA 7 (f 123)))])) ?_
  refine l_nil ?_
  exact f_owes_n (up_cons (up_cons rfl hs17) hs124) trivial (perm_front 0 rfl)
 ·rintro f M ⟨k0,k1,-⟩ -
  have hs18 : f 18 = .pointer (some ⟨(blk (f 18)),0,none⟩) := k0
  have hs125 : f 125 = .agg #[.bool ((carryF s2 al).2.done),Ix ((carryF s2 al).2.at_),Ix ((carryF s2 al).2.e),sB (tsA (f 123)) (carryF s2 al).2.holds (tcA (f 123))] := k1
  refine ob_start (L' := pt (blk (f 18)) (.cells #[.bool false,.int .i64 (0),.int .i64 (0),.slice none 0 0] 37) :: M) (by rfl) (up_cons (up_cons rfl hs18) hs125) ?_
  refine lu (mS 0 (#[.bool ((carryF s2 al).2.done),Ix ((carryF s2 al).2.at_),Ix ((carryF s2 al).2.e),sB (tsA (f 123)) (carryF s2 al).2.holds (tcA (f 123))])) ?_
  refine l_nil ?_
  exact f_owes_n (up_cons (up_cons rfl hs18) hs125) trivial (perm_front 0 rfl)
 rintro fa53 ⟨-,-,-,-,-,-,-,-,-,k9,k10,-,-,-⟩ ⟨j0,j1,-⟩
 refine f_re (L' := [jourR J2 S (apI i2 (dealB au nu al [] 0)) false,storeR S (apS k2 i2 (dealB au nu al [] 0)),pt H (.cells #[pp J2 0,.map (some mp2),.map (some mh2),Ix (s2.last),Ix (s2.su.a0),Ix (s2.su.a1),Ix (s2.su.a2),Ix (s2.su.a3),.map (some mm2),.bool false] 91),memR zs2,rB p37 ((dealB au nu al [] 0)) c38,pt b5 (.cells #[Ix (hd.author),Ix (hd.number),.slice hd.p (hd.n) hd.c,.bool (hd.done),Ix (hd.at_),Ix (hd.e),.slice hd.q (hd.m) hd.k] 82),pt b4 (.cells #[Ix (au),Ix (nu),sB p2 al c3] 80),rowF ActF 47 p2 c3 al,pt b1 (.cells #[.bool false,.int .i64 (0),.int .i64 (0),.slice none 0 0] 37),mpR PuM (tmA 0 (fa53 123)) ((carryF s2 al).1.ps),mpR HoM (tmA 1 (fa53 123)) ((carryF s2 al).1.hs),mpR MeM (tmA 7 (fa53 123)) (MeM.put ms2 au (⟨au,nu,p2,al.length,c3,(carryF s2 al).2.done,(carryF s2 al).2.at_,(carryF s2 al).2.e,(tsA (fa53 123)),(carryF s2 al).2.holds.length,(tcA (fa53 123))⟩ : KMh)),rowF IntF 3 (tsA (fa53 123)) (tcA (fa53 123)) ((carryF s2 al).2.holds),pt (blk (fa53 17)) (.cells #[.map (some (tmA 0 (fa53 123))),.map (some (tmA 1 (fa53 123))),Ix ((carryF s2 al).1.last),Ix ((carryF s2 al).1.su.a0),Ix ((carryF s2 al).1.su.a1),Ix ((carryF s2 al).1.su.a2),Ix ((carryF s2 al).1.su.a3),.map (some (tmA 7 (fa53 123)))] 88),pt (blk (fa53 18)) (.cells #[.bool ((carryF s2 al).2.done),Ix ((carryF s2 al).2.at_),Ix ((carryF s2 al).2.e),sB (tsA (fa53 123)) (carryF s2 al).2.holds (tcA (fa53 123))] 37)]) (by rfl) ?_
 refine f_rebase (d := 0) j0 (f_rebase (d := 8) j1 (f_rebase (d := 17) k9 (f_rebase (d := 18) k10 (ftc (lE omp (lE (olg 13) (lE onp (lE ofp ?_))))))))
 refine lu (mS 2 (#[pp J2 0,.map (some (tmA 0 (fa53 123))),.map (some (tmA 1 (fa53 123))),Ix ((carryF s2 al).1.last),Ix ((carryF s2 al).1.su.a0),Ix ((carryF s2 al).1.su.a1),Ix ((carryF s2 al).1.su.a2),Ix ((carryF s2 al).1.su.a3),.map (some (tmA 7 (fa53 123))),.bool false])) ?_
 refine lnc (lE (olg 14) ?_)
 refine lcf (cl0 (vs := [.agg #[.bool ((carryF s2 al).2.done),Ix ((carryF s2 al).2.at_),Ix ((carryF s2 al).2.e),sB (tsA (fa53 123)) (carryF s2 al).2.holds (tcA (fa53 123))]]) tt106.ok rfl rfl) rfl fun w β1 sb kn hw1 back => (own_ok β1 w hw1 ((carryF s2 al).2.done) ((carryF s2 al).2.at_) ((carryF s2 al).2.e) _ ((carryF s2 al).2.holds) (kn _ (k_flN 12 (F := IntF) (m := (carryF s2 al).2.holds.length) rfl rfl)) (by omega)).mono ?_
 rintro e w' ⟨p54,c55,rfl,hw'⟩
 refine ⟨_,rfl,_,back _ _ hw',?_⟩
 clear hw1 hw' back kn sb
 refine lu (mS 9 (#[.bool ((carryF s2 al).2.done),Ix ((carryF s2 al).2.at_),Ix ((carryF s2 al).2.e),sB p54 ((carryF s2 al).2.holds) c55])) (lE oai ?_)
 refine lnf (c_ret ?_)
 refine retG (m := [.agg #[.bool ((carryF s2 al).2.done),Ix ((carryF s2 al).2.at_),Ix ((carryF s2 al).2.e),sB p54 ((carryF s2 al).2.holds) c55],.int .i64 (0)]) Tryz.results12 ⟨rd_cell tt61.ok rfl (k_pt 9 rfl rfl) rfl,rd_tmp (v := .int .i64 (0)) rfl,trivial⟩ rfl ?_
 intro w hw
 replace hw := hw.perm (L' := [rowF ActF 47 p2 c3 al,rowF IntF 3 (tsA (fa53 123)) (tcA (fa53 123)) ((carryF s2 al).2.holds),memR zs2,pt H (.cells #[pp J2 0,.map (some (tmA 0 (fa53 123))),.map (some (tmA 1 (fa53 123))),Ix ((carryF s2 al).1.last),Ix ((carryF s2 al).1.su.a0),Ix ((carryF s2 al).1.su.a1),Ix ((carryF s2 al).1.su.a2),Ix ((carryF s2 al).1.su.a3),.map (some (tmA 7 (fa53 123))),.bool false] 91),jourR J2 S (apI i2 (dealB au nu al [] 0)) false,storeR S (apS k2 i2 (dealB au nu al [] 0)),mpR PuM (tmA 0 (fa53 123)) ((carryF s2 al).1.ps),mpR HoM (tmA 1 (fa53 123)) ((carryF s2 al).1.hs),mpR MeM (tmA 7 (fa53 123)) (MeM.put ms2 au (⟨au,nu,p2,al.length,c3,(carryF s2 al).2.done,(carryF s2 al).2.at_,(carryF s2 al).2.e,(tsA (fa53 123)),(carryF s2 al).2.holds.length,(tcA (fa53 123))⟩ : KMh)),rowF IntF 3 p54 c55 ((carryF s2 al).2.holds),rB p37 ((dealB au nu al [] 0)) c38,pt b5 (.cells #[Ix (hd.author),Ix (hd.number),.slice hd.p (hd.n) hd.c,.bool (hd.done),Ix (hd.at_),Ix (hd.e),.slice hd.q (hd.m) hd.k] 82),pt b4 (.cells #[Ix (au),Ix (nu),sB p2 al c3] 80),pt b1 (.cells #[.bool ((carryF s2 al).2.done),Ix ((carryF s2 al).2.at_),Ix ((carryF s2 al).2.e),sB p54 ((carryF s2 al).2.holds) c55] 37),pt (blk (fa53 17)) (.cells #[.map (some (tmA 0 (fa53 123))),.map (some (tmA 1 (fa53 123))),Ix ((carryF s2 al).1.last),Ix ((carryF s2 al).1.su.a0),Ix ((carryF s2 al).1.su.a1),Ix ((carryF s2 al).1.su.a2),Ix ((carryF s2 al).1.su.a3),.map (some (tmA 7 (fa53 123)))] 88),pt (blk (fa53 18)) (.cells #[.bool ((carryF s2 al).2.done),Ix ((carryF s2 al).2.at_),Ix ((carryF s2 al).2.e),sB (tsA (fa53 123)) (carryF s2 al).2.holds (tcA (fa53 123))] 37)]) (by exact (perm_ix [8,13,4,3,1,2,10,11,12,0,5,6,7,9,14,15] 16 rfl (by kernel_rfl) (by kernel_rfl)))
 replace hw := st_mask (L' := [rowF ActF 47 p2 c3 al,rowF IntF 3 (tsA (fa53 123)) (tcA (fa53 123)) ((carryF s2 al).2.holds),memR zs2,pt H (.cells #[pp J2 0,.map (some (tmA 0 (fa53 123))),.map (some (tmA 1 (fa53 123))),Ix ((carryF s2 al).1.last),Ix ((carryF s2 al).1.su.a0),Ix ((carryF s2 al).1.su.a1),Ix ((carryF s2 al).1.su.a2),Ix ((carryF s2 al).1.su.a3),.map (some (tmA 7 (fa53 123))),.bool false] 91),jourR J2 S (apI i2 (dealB au nu al [] 0)) false,storeR S (apS k2 i2 (dealB au nu al [] 0)),mpR PuM (tmA 0 (fa53 123)) ((carryF s2 al).1.ps),mpR HoM (tmA 1 (fa53 123)) ((carryF s2 al).1.hs),mpR MeM (tmA 7 (fa53 123)) (MeM.put ms2 au (⟨au,nu,p2,al.length,c3,(carryF s2 al).2.done,(carryF s2 al).2.at_,(carryF s2 al).2.e,(tsA (fa53 123)),(carryF s2 al).2.holds.length,(tcA (fa53 123))⟩ : KMh)),rowF IntF 3 p54 c55 ((carryF s2 al).2.holds)]) [true,true,true,true,true,true,true,true,true,true,false,false,false,false,false,false] rfl hw
 have hw2 := St.merge (L := [rowF ActF 47 p2 c3 al,rowF IntF 3 (tsA (fa53 123)) (tcA (fa53 123)) ((carryF s2 al).2.holds),memR zs2]) (M := [pt H (.cells #[pp J2 0,.map (some (tmA 0 (fa53 123))),.map (some (tmA 1 (fa53 123))),Ix ((carryF s2 al).1.last),Ix ((carryF s2 al).1.su.a0),Ix ((carryF s2 al).1.su.a1),Ix ((carryF s2 al).1.su.a2),Ix ((carryF s2 al).1.su.a3),.map (some (tmA 7 (fa53 123))),.bool false] 91),jourR J2 S (apI i2 (dealB au nu al [] 0)) false,storeR S (apS k2 i2 (dealB au nu al [] 0)),mpR PuM (tmA 0 (fa53 123)) ((carryF s2 al).1.ps),mpR HoM (tmA 1 (fa53 123)) ((carryF s2 al).1.hs),mpR MeM (tmA 7 (fa53 123)) (MeM.put ms2 au (⟨au,nu,p2,al.length,c3,(carryF s2 al).2.done,(carryF s2 al).2.at_,(carryF s2 al).2.e,(tsA (fa53 123)),(carryF s2 al).2.holds.length,(tcA (fa53 123))⟩ : KMh)),rowF IntF 3 p54 c55 ((carryF s2 al).2.holds)]) (r := memR (zs2 ++ [((⟨au,nu,p2,al.length,c3,(carryF s2 al).2.done,(carryF s2 al).2.at_,(carryF s2 al).2.e,(tsA (fa53 123)),(carryF s2 al).2.holds.length,(tcA (fa53 123))⟩ : KMh),⟨⟨au,nu,al⟩,(carryF s2 al).2⟩)])) hw (fun a ha => memR_add a ha)
 replace hw := hw2
 replace hw := hw.perm (L' := [pt H (.cells #[pp J2 0,.map (some (tmA 0 (fa53 123))),.map (some (tmA 1 (fa53 123))),Ix ((carryF s2 al).1.last),Ix ((carryF s2 al).1.su.a0),Ix ((carryF s2 al).1.su.a1),Ix ((carryF s2 al).1.su.a2),Ix ((carryF s2 al).1.su.a3),.map (some (tmA 7 (fa53 123))),.bool false] 91),jourR J2 S (apI i2 (dealB au nu al [] 0)) false,storeR S (apS k2 i2 (dealB au nu al [] 0)),mpR PuM (tmA 0 (fa53 123)) ((carryF s2 al).1.ps),mpR HoM (tmA 1 (fa53 123)) ((carryF s2 al).1.hs),mpR MeM (tmA 7 (fa53 123)) (MeM.put ms2 au (⟨au,nu,p2,al.length,c3,(carryF s2 al).2.done,(carryF s2 al).2.at_,(carryF s2 al).2.e,(tsA (fa53 123)),(carryF s2 al).2.holds.length,(tcA (fa53 123))⟩ : KMh)),memR (zs2 ++ [((⟨au,nu,p2,al.length,c3,(carryF s2 al).2.done,(carryF s2 al).2.at_,(carryF s2 al).2.e,(tsA (fa53 123)),(carryF s2 al).2.holds.length,(tcA (fa53 123))⟩ : KMh),⟨⟨au,nu,al⟩,(carryF s2 al).2⟩)]),rowF IntF 3 p54 c55 ((carryF s2 al).2.holds)]) (by exact (perm_ix [1,2,3,4,5,6,0,7] 8 rfl (by kernel_rfl) (by kernel_rfl)))
 obtain ⟨hk3,hro⟩ := hk2.ap (z := (carryF s2 al).1) (ro := (carryF s2 al).2) rfl (hk2.so.ap hN1 hfm hh63 hr0 ha) (hd := (⟨au,nu,p2,al.length,c3,(carryF s2 al).2.done,(carryF s2 al).2.at_,(carryF s2 al).2.e,(tsA (fa53 123)),(carryF s2 al).2.holds.length,(tcA (fa53 123))⟩ : KMh)) ⟨rfl,rfl,rfl,rfl,rfl,rfl,rfl⟩
 have hw2 := St.closeHouse (M := [rowF IntF 3 p54 c55 ((carryF s2 al).2.holds)]) hk3 rfl hw
 exact ⟨_,_,_,hdo,p54,c55,by rw [hro] <;> rfl,by rw [← (apS_neg1 hpw2 : (apS k2 i2 (dealB au nu al [] 0)).power = -1)]; exact hw2.perm (L' := [_,_]) (by rw [hro]; exact List.Perm.swap _ _ _)⟩
end Go.Proofs

namespace Go.Td
open Go Go.Sl Go.Proofs Go.Jn
theorem nd_len : ∀ (n : Nat) {l : List Int}, l.Nodup → (∀ x ∈ l, 1 ≤ x ∧ x ≤ (n : Int)) → l.length ≤ n
 | 0, [], _, _ => Nat.le_refl _
 | 0, x :: l, _, h => by have := h x (by simp); omega
 | n + 1, l, hl, h => by
  by_cases e : ((n + 1 : Nat) : Int) ∈ l
  ·have h1 := nd_len n (l := l.erase ((n + 1 : Nat) : Int)) (hl.erase _) (fun x hx => by
    obtain ⟨h2, h3⟩ := (hl.mem_erase_iff).1 hx
    have := h x h3
    push_cast at h2 this ⊢
    omega)
   rw [List.length_erase_of_mem e] at h1
   omega
  ·exact Nat.le_succ_of_le (nd_len n hl (fun x hx => by
    have := h x hx
    have e2 : x ≠ ((n + 1 : Nat) : Int) := fun q => e (q ▸ hx)
    push_cast at e2 this ⊢
    omega))
/-- a state whose supply is gold that 40 owners have -/
structure LOk (s : KSt) (t : Int) : Prop where
 g : Good2 s
 k : ∀ p ∈ s.ps, 1 ≤ p.1 ∧ p.1 ≤ 40
 su : s.su = ⟨t, 0, 0, 0⟩
theorem LOk.few {s : KSt} {t : Int} (h : LOk s t) : s.ps.length ≤ 40 := by
 have := nd_len 40 h.g.p.np (fun x hx => by obtain ⟨p, hp, rfl⟩ := List.mem_map.1 hx; exact h.k p hp)
 rwa [List.length_map] at this
theorem LOk.pu {s : KSt} {t : Int} (h : LOk s t) (n : Int) : (0 ≤ (puA s.ps n).a0 ∧ (puA s.ps n).a0 ≤ t) ∧ (puA s.ps n).a1 = 0 ∧ (puA s.ps n).a2 = 0 ∧ (puA s.ps n).a3 = 0 := by
 have h1 := h.g.su
 rw [h.su, sum_puA h.g.p.np n] at h1
 have w := win_iff.1 (h.g.p.at n)
 have b1 := (sum_bd (l := (PuM.del s.ps n).map fun p => id p.2) (fun a ha => by obtain ⟨p, hp, rfl⟩ := List.mem_map.1 ha; exact (h.g.p.pk p (List.mem_filter.1 hp).1).2.1)).2
 have b2 := (sum_bd (l := s.hs.map fun p => p.2.a) (fun a ha => by obtain ⟨p, hp, rfl⟩ := List.mem_map.1 ha; exact (h.g.h.hk p hp).2.2.2.2)).2
 unfold sumM at h1
 have e0 := congrArg KAm.a0 h1; have e1 := congrArg KAm.a1 h1; have e2 := congrArg KAm.a2 h1; have e3 := congrArg KAm.a3 h1
 simp only [KAm.add] at e0 e1 e2 e3
 generalize sumA ((PuM.del s.ps n).map fun p => id p.2) = x at *
 generalize sumA (s.hs.map fun p => p.2.a) = y at *
 omega
theorem mint_formed {o g : Int} (ho : 1 ≤ o ∧ o ≤ 40) (hg : 1 ≤ g ∧ g ≤ 3) : (⟨1, o, 0, 0, ⟨g, 0, 0, 0⟩⟩ : KAct).formed = true := by
 have h1 : ownB o = true := by unfold ownB; rw [decide_eq_true ho.1, decide_eq_true (by omega : o ≤ 65536)]; rfl
 have h2 : (⟨g, 0, 0, 0⟩ : KAm).within = true := win_iff.2 (by simp only; omega)
 have hp : (⟨1, o, 0, 0, ⟨g, 0, 0, 0⟩⟩ : KAct).plain = true := rfl
 unfold KAct.formed
 rw [if_pos hp]
 show (ownB o && decide ((0 : Int) = 0) && decide ((0 : Int) = 0) && KAm.within _) = true
 rw [h1, h2]; rfl
theorem mint_step {s : KSt} {t : Int} (h : LOk s t) (ht : t ≤ 1000000) {o g : Int} (ho : 1 ≤ o ∧ o ≤ 40) (hg : 1 ≤ g ∧ g ≤ 3) : (actS s ⟨1, o, 0, 0, ⟨g, 0, 0, 0⟩⟩).2.2 = 0 ∧ (actS s ⟨1, o, 0, 0, ⟨g, 0, 0, 0⟩⟩).2.1 = 0 ∧ LOk (actS s ⟨1, o, 0, 0, ⟨g, 0, 0, 0⟩⟩).1 (t + g) := by
 obtain ⟨p0, p1, p2, p3⟩ := h.pu o
 have hf := h.few
 have hx : addX s.ps o ⟨g, 0, 0, 0⟩ = false := by
  unfold addX
  have hw : ((puA s.ps o).plus ⟨g, 0, 0, 0⟩ 1).within = true := win_iff.2 (by simp only [KAm.plus]; omega)
  rw [hw]
  have : decide ((256 : Int) ≤ (s.ps.length : Int)) = false := decide_eq_false (by omega)
  rw [this]; simp
 have he : addE s.ps o ⟨g, 0, 0, 0⟩ = 0 := by unfold addE; rw [hx]; rfl
 have hm : actS s ⟨1, o, 0, 0, ⟨g, 0, 0, 0⟩⟩ = mintS s ⟨1, o, 0, 0, ⟨g, 0, 0, 0⟩⟩ := if_pos rfl
 have h0 : (actS s ⟨1, o, 0, 0, ⟨g, 0, 0, 0⟩⟩).2.2 = 0 := by rw [hm]; exact he
 have hfo := mint_formed ho hg
 have hg2 := actS_good2 h.g hfo h0
 refine ⟨h0, by rw [hm]; rfl, hg2.1, ?_, ?_⟩
 ·rw [hm]
  show ∀ p ∈ addP s.ps o _, _
  intro p hp
  unfold addP at hp
  rw [hx, if_neg (by decide)] at hp
  split at hp
  ·exact h.k p hp
  ·rcases List.mem_cons.1 ((put_perm_cons h.g.p.np o _).mem_iff.1 hp) with e | hp
   ·rw [e]; exact ho
   ·exact h.k p (List.mem_filter.1 hp).1
 ·rw [hg2.2.2.2.1]
  show (if ((1 : UInt8).toNat : Int) = 1 then s.su.plus ⟨g, 0, 0, 0⟩ 1 else _) = _
  rw [if_pos (by decide), h.su]
  simp only [KAm.plus, KAm.mk.injEq]
  omega
/-- a transaction of the law -/
def mkA (i k : Nat) : KAct := ⟨1, 1 + (((i + k) % 40 : Nat) : Int), 0, 0, ⟨1 + ((i % 3 : Nat) : Int), 0, 0, 0⟩⟩
def longA (i : Nat) : List KAct := (List.range 16).map (mkA i)
theorem run_mint (s0 : KSt) (i : Nat) : ∀ (l : List Nat) {s : KSt} {t : Int} {k : Nat}, LOk s t → t + 3 * (l.length : Int) ≤ 1000000 → ∃ s', runA s0 s [] k (l.map (mkA i)) = (s', ⟨true, 0, 0, []⟩) ∧ LOk s' (t + (l.length : Int) * (1 + ((i % 3 : Nat) : Int)))
 | [], s, t, k, h, _ => ⟨s, rfl, by simpa using h⟩
 | x :: l, s, t, k, h, ht => by
  rw [List.length_cons] at ht ⊢
  push_cast at ht
  have hi : i % 3 < 3 := Nat.mod_lt _ (by decide)
  have hx : (i + x) % 40 < 40 := Nat.mod_lt _ (by decide)
  obtain ⟨h1, h2, h3⟩ := mint_step h (by omega) (o := 1 + (((i + x) % 40 : Nat) : Int)) (g := 1 + ((i % 3 : Nat) : Int)) (by omega) (by omega)
  obtain ⟨s', h4, h5⟩ := run_mint s0 i l (k := k + 1) h3 (by omega)
  refine ⟨s', ?_, ?_⟩
  ·show runA s0 s [] k (mkA i x :: l.map (mkA i)) = _
   unfold runA
   rw [if_pos (show (actS s (mkA i x)).2.2 = 0 from h1), show (actS s (mkA i x)).2.1 = 0 from h2]
   exact h4
  ·have e : t + (1 + ((i % 3 : Nat) : Int)) + (l.length : Int) * (1 + ((i % 3 : Nat) : Int)) = t + ((l.length + 1 : Nat) : Int) * (1 + ((i % 3 : Nat) : Int)) := by
    push_cast
    rw [Int.add_mul, Int.one_mul]
    omega
   rw [← e]; exact h5
theorem longA_len (i : Nat) : (longA i).length = 16 := by unfold longA; rw [List.length_map, List.length_range]
theorem longA_next (i k : Nat) : (List.range k).map (mkA i) ++ [mkA i k] = (List.range (k + 1)).map (mkA i) := by rw [List.range_succ, List.map_append]; rfl
theorem longA_formed {i : Nat} (hi : i < 1500) : dformed (1 + ((i % 7 : Nat) : Int)) (1 + (i : Int)) (longA i) = true := by
 have h7 : i % 7 < 7 := Nat.mod_lt _ (by decide)
 refine dformed_iff.2 ⟨by omega, by omega, by rw [longA_len]; omega, fun x hx => ?_⟩
 obtain ⟨k, _, rfl⟩ := List.mem_map.1 hx
 have h3 : i % 3 < 3 := Nat.mod_lt _ (by decide)
 have h4 : (i + k) % 40 < 40 := Nat.mod_lt _ (by decide)
 exact mint_formed (by omega) (by omega)
theorem longA_hb (i : Nat) : hb63 (longA i) := fun x hx => by obtain ⟨k, _, rfl⟩ := List.mem_map.1 hx; show (0 : Int) ≤ _; decide
noncomputable def longX : Nat → KHs
 | 0 => freshX
 | i + 1 => carryX (longX i) (1 + ((i % 7 : Nat) : Int)) (1 + (i : Int)) (longA i)
def longT : Nat → Nat
 | 0 => 0
 | i + 1 => longT i + 16 * (1 + i % 3)
theorem longT_le : ∀ i, longT i ≤ 48 * i
 | 0 => Nat.le_refl _
 | i + 1 => by have := longT_le i; have : i % 3 < 3 := Nat.mod_lt _ (by decide); unfold longT; omega
theorem longT_end : longT 1500 = 48000 := by decide +kernel
structure LnOk (i : Nat) : Prop where
 s : LOk (longX i).s (longT i)
 n : NumOk (longX i) (1 + (i : Int))
theorem long_ok : ∀ i, i ≤ 1500 → LnOk i
 | 0, _ => ⟨⟨freshX_ok.g, fun p hp => (by cases hp), rfl⟩, NumOk.fresh _⟩
 | i + 1, hi => by
  have h := long_ok i (by omega)
  have ht := longT_le i
  obtain ⟨s', h1, h2⟩ := run_mint (longX i).s i (List.range 16) (k := 0) h.s (by rw [List.length_range]; omega)
  refine ⟨?_, ?_⟩
  ·show LOk (carryF (longX i).s (longA i)).1 _
   have e : (carryF (longX i).s (longA i)).1 = s' := by unfold carryF longA; rw [h1]
   rw [e]
   rw [List.length_range] at h2
   have e2 : ((longT (i + 1) : Nat) : Int) = (longT i : Int) + (16 : Nat) * (1 + ((i % 3 : Nat) : Int)) := by show ((longT i + 16 * (1 + i % 3) : Nat) : Int) = _; push_cast; omega
   rw [e2]; exact h2
  ·exact h.n.next (by omega) (by omega) _ _
theorem long_do {i : Nat} (hi : i < 1500) : doF (longX i) (1 + ((i % 7 : Nat) : Int)) (1 + (i : Int)) (longA i) = (longX (i + 1), ⟨true, 0, 0, []⟩, 0) := by
 have h := long_ok i (by omega)
 have ht := longT_le i
 obtain ⟨s', h1, h2⟩ := run_mint (longX i).s i (List.range 16) (k := 0) h.s (by rw [List.length_range]; omega)
 rw [doF_new (longA_formed hi) (fun m hm => (h.n _ m hm).2)]
 have e : (carryF (longX i).s (longA i)).2 = ⟨true, 0, 0, []⟩ := by unfold carryF longA; rw [h1]
 rw [e]; rfl
theorem long_su : (longX 1500).s.su = ⟨48000, 0, 0, 0⟩ := by have h := (long_ok 1500 (Nat.le_refl _)).s.su; rw [longT_end] at h; exact h
end Go.Td
