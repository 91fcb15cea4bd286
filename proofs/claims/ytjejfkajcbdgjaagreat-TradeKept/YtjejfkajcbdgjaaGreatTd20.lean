/-
 Compact: walked. Printed by a program of my own.
-/
import Derived.Test.YtjejfkajcbdgjaaGreatTd19
import Derived.Test.YtjejfkajcbdgjaaGreatTdHouE
import Derived.Test.YtjejfkajcbdgjaaGreatSlA
import Derived.Test.YtjejfkajcbdgjaaGreatSlN
namespace Go.Proofs
open Go Go.Sl Go.Td Go.Jn
theorem sb_pick {X : KHs} {s : KSt} {ms : List (Int × KMh)} {zs : List (KMh × KMem)} (he : EqS s X.s) (hmm : MmOk X ms zs) (hxo : XOk X) (hla : X.s.last ≤ 16000000) (hkn : (ms.map (·.1)).Nodup) :
  ∃ bs,StB X bs ∧ bs.length ≤ 43300 ∧ bs ≠ [] ∧ Wr bs (stBits s.su s.last (plO s) (glO s) (mlO X ms)).length (stBits s.su s.last (plO s) (glO s) (mlO X ms)) := by
 have h := pack_wr (stBits s.su s.last (plO s) (glO s) (mlO X ms)) wr_nil
 rw [List.nil_append,Nat.zero_add] at h
 have hms := mlO_of hmm hkn
 have hsf := st_fit hxo hla (he.p.symm.trans (plO_perm he.np)) (he.h.symm.trans (glO_perm he.nh)) hms
 have hl := stBits_len (su := s.su) (last := s.last) hsf.pn hsf.hn (ms := mlO X ms) (Nat.le_trans (msL_len _ fun p hp => mem_fit (hsf.mm p hp) hla) (Nat.mul_le_mul_left _ hsf.mn))
 exact ⟨_,⟨plO s,glO s,mlO X ms,he.p.symm.trans (plO_perm he.np),he.h.symm.trans (glO_perm he.nh),hms,_,by rw [← he.l,← he.u]; exact h⟩,by rw [h.len]; omega,wr_pos h,h⟩
theorem sb2_ok (β : Base) (w : World) (mp mh mm : Nat) (s : KSt) (ms : List (Int × KMh)) (zs : List (KMh × KMem)) (hw : St β [mpR PuM mp s.ps, mpR HoM mh s.hs, mpR MeM mm ms, memR zs] w) (X : KHs) (he : EqS s X.s) (hmm : MmOk X ms zs) (hxo : XOk X) (hla : X.s.last ≤ 16000000) (bs : List UInt8) (hbs : Wr bs (stBits s.su s.last (plO s) (glO s) (mlO X ms)).length (stBits s.su s.last (plO s) (glO s) (mlO X ms))) :
  Calls Tryz.prog 49 #[.agg (stC mp mh mm s.last s.su)] w fun r w' => ∃ p c,r = .returned (sB p bs c) ∧ St β [rB p bs c,mpR PuM mp s.ps,mpR HoM mh s.hs,mpR MeM mm ms,memR zs] w' := by
 refine (sbytes_ok β w mp mh mm s ms zs hw X he hmm hxo hla).mono ?_
 rintro r w' ⟨p,c,bs',h1,_,h2,h3⟩
 have := wr_unique h1 hbs
 subst this
 exact ⟨p,c,h2,h3⟩
instance tt186 : CfC Tryz.prog 49 := ⟨by kernel_rfl⟩
instance tt187 : CfC Tryz.prog 48 := ⟨by kernel_rfl⟩
set_option maxHeartbeats 4000000 in
theorem compactE_ok (β : Base) (w : World) (H S N e z : Nat) (pw : Int) (X : KHs) (hw : St β [houseE H S X N pw e z] w) (hN : N ≤ 1000000) (hW : e * 218000 + z ≤ 54000000) : Calls Tryz.prog 22 #[pp H 0] w fun r w' => (r = .returned (Ix 0) ∧ ∃ z2 q e2, (-1 ≤ q ∧ q ≤ 1000) ∧ (pw = -1 → q = -1) ∧ z2 ≤ 43324 ∧ e2 = e + 1 ∧ St β [houseE H S X (N + 1) q e2 z2] w') ∨ (pw ≠ -1 ∧ r = .returned (Ix 310) ∧ ∃ q, St β [shelfR S X (N + 1) (e * 218000 + z + 262144) q] w') := by
 obtain ⟨J,mp,mh,mm,s,ms,zs,i,k,hk,hpw,hie,hiz,hw⟩ := St.openE hw
 have hla := hk.so.last16 hN
 obtain ⟨bs,hsb,hbl,hbn,hbs⟩ := sb_pick hk.eq hk.mm hk.so.ok hla (St.nodupMe hw 5 rfl).1
 refine enter (n := 26) Tryz.func22 rfl Tryz.ntmps22 rfl ?_ hw
 refine csr (lE oai (lnf (cs2 (c_region (lE omp (lcR clA (fun w β1 sb kn hw1 => hready_ok β1 w hw1 _ _ _ _ _ s (kn _ (k_pt 0 rfl rfl))) (lE oai ?_)))))))
 refine lnc (lE omi (lE onq (lnf (c_no rfl (csk (c_seq ?_))))))
 have hfit := hk.so.fit hN
 have hep := hk.so.epoch hW
 by_cases hc : ckOk k (i.epoch + 1) i.next bs
 ·refine cnz [sv 10 (pp H 0) [] [] [0],sv 11 (pp H 0) [0] [0] [],sv 12 (pp H 0) [0,1] [1] [],sv 13 (pp J 0) [0,1,2] [2] [],sv 14 (pp H 0) [] [] [0],sv 15 (pp H 0) [4] [4] [],sv 16 (pp H 1) [4,5] [5] [],sv 17 (.agg #[.map (some mp),.map (some mh),Ix (s.last),Ix (s.su.a0),Ix (s.su.a1),Ix (s.su.a2),Ix (s.su.a3),.map (some mm)]) [4,5,6] [6] [],⟨[4,5,6,7],[7],[],[18],fun f => f 18 = sB (sla (f 18)) bs (slc (f 18))⟩,sv 19 (.int .i64 (0)) (List.range 9) [3,8] [],sv 4 (.int .i64 (0)) (List.range 10) [9] []] [u1 [3,7],(some 9,[9]),(some 9,[9]),u1 [8],u1 [8],u1 [8],u1 [8]] [⟨(some 8),none,[9],[18],fun f => rB (sla (f 18)) bs (slc (f 18))⟩,⟨(some 9),none,[],[],fun _ => jourR J S (ckI i bs) false⟩,⟨(some 9),none,[],[],fun _ => storeR S (ckS k (i.epoch + 1) i.next bs)⟩] [(0,pp H 0)] [0] ⟨rfl,trivial⟩ ⟨?_,?_,?_,?_,?_,?_,?_,?_,?_,?_,?_,trivial⟩ ?_
  ·rintro f M - ⟨i0,-⟩
   exact obE omp
  ·rintro f M ⟨k0,-⟩ -
   exact obE onp
  ·rintro f M ⟨k0,-⟩ -
   exact obE ofp
  ·rintro f M ⟨k0,-⟩ -
   exact obE (olp 0)
  ·rintro f M - ⟨i0,-⟩
   exact obE omp
  ·rintro f M ⟨k0,-⟩ -
   exact obE onp
  ·rintro f M ⟨k0,-⟩ -
   exact obE ofp
  ·rintro f M ⟨k0,-⟩ -
   exact obE (olg 0)
  ·rintro f M ⟨k0,-⟩ -
   refine obS (up_cons (d := 17) rfl k0) ?_
   refine l_call rfl rfl rfl (cl0 (vs := [.agg #[.map (some mp),.map (some mh),Ix (s.last),Ix (s.su.a0),Ix (s.su.a1),Ix (s.su.a2),Ix (s.su.a3),.map (some mm)]]) tt186.ok rfl rfl) ?_
   intro w hw
   replace hw := hw.perm (L' := _ :: _ :: _ :: _ :: M) (by exact ((((perm_front 3 rfl).trans (perm_front 3 rfl)).trans (perm_front 3 rfl)).trans (perm_front 3 rfl)))
   obtain ⟨β1,sb,kn,hw1,back⟩ := St.frame (L := [_,_,_,_]) (M := M) hw
   refine (sb2_ok β1 w mp mh mm s ms zs hw1 X hk.eq hk.mm hk.so.ok hla bs hbs).mono ?_
   rintro e w' ⟨p3,c4,rfl,hw'⟩
   refine ⟨_,rfl,_,back _ _ hw',?_⟩
   clear hw hw1 hw' back kn sb
   refine l_nil ?_
   exact f_owes_d (up_cons (d := 17) rfl k0) rfl (((((perm_front 0 rfl).trans (perm_front 4 rfl)).trans (perm_front 4 rfl)).trans (perm_front 4 rfl)).trans (perm_front 4 rfl))
  ·rintro f M ⟨k0,k1,-⟩ -
   have hs18 : f 18 = sB (sla (f 18)) bs (slc (f 18)) := k1
   refine obS (up_cons (up_cons (d := 13) rfl k0) hs18) ?_
   refine l_call rfl rfl rfl (cl0 (vs := [pp J 0,sB (sla (f 18)) bs (slc (f 18))]) tt187.ok rfl rfl) ?_
   intro w hw
   replace hw := hw.perm (L' := _ :: _ :: _ :: M) (by exact (((perm_front 2 rfl).trans (perm_front 2 rfl)).trans (perm_front 2 rfl)))
   obtain ⟨β1,sb,kn,hw1,back⟩ := St.frame (L := [_,_]) (M := _ :: M) hw
   refine (checkp_ok β1 w J S k i bs (by omega) hfit hep hc _ (kU kn 0 rfl) hw1).mono ?_
   rintro e w' ⟨rfl,hw'⟩
   refine ⟨_,rfl,_,back _ _ hw',?_⟩
   clear hw hw1 hw' back kn sb
   refine l_nil ?_
   exact f_owes_d (up_cons (up_cons (d := 13) rfl k0) hs18) rfl (((perm_front 1 rfl).trans (perm_front 1 rfl)).trans (perm_front 2 rfl))
  ·rintro f M ⟨k0,-⟩ -
   exact obE oai
  rintro fa5 ⟨-,-,-,-,-,-,-,-,-,-,k10,-⟩ ⟨j0,-⟩
  refine fre ?_
  refine f_rebase (d := 0) j0 (f_rebase (d := 4) k10 (fts (csr (lE omi (lE onq (lnf (c_no rfl (csk (csr (lE omi (lE oai (lnf (c_ret ?_)))))))))))))
  refine ret1 Tryz.results22 rfl ?_
  intro w hw
  replace hw := hw.perm (L' := [pt H (.cells #[pp J 0,.map (some mp),.map (some mh),Ix (s.last),Ix (s.su.a0),Ix (s.su.a1),Ix (s.su.a2),Ix (s.su.a3),.map (some mm),.bool false] 91),jourR J S (ckI i bs) false,storeR S (ckS k (i.epoch + 1) i.next bs),mpR PuM mp s.ps,mpR HoM mh s.hs,mpR MeM mm ms,memR zs,rB (sla (fa5 18)) bs (slc (fa5 18))]) (by exact (perm_ix [0,6,7,1,2,3,4,5] 8 rfl (by kernel_rfl) (by kernel_rfl)))
  replace hw := st_mask (L' := [pt H (.cells #[pp J 0,.map (some mp),.map (some mh),Ix (s.last),Ix (s.su.a0),Ix (s.su.a1),Ix (s.su.a2),Ix (s.su.a3),.map (some mm),.bool false] 91),jourR J S (ckI i bs) false,storeR S (ckS k (i.epoch + 1) i.next bs),mpR PuM mp s.ps,mpR HoM mh s.hs,mpR MeM mm ms,memR zs]) [true,true,true,true,true,true,true,false] rfl hw
  exact .inl ⟨rfl,_,_,_,(hk.ck hN hW hbl hsb hbn hc).so.inv.pw,fun q => (ck_neg1 (hpw.trans q)).2,ckI_size hbl,hie ▸ rfl,St.closeE (M := []) (hk.ck hN hW hbl hsb hbn hc) rfl hw⟩
 refine cnz [sv 10 (pp H 0) [] [] [0],sv 11 (pp H 0) [0] [0] [],sv 12 (pp H 0) [0,1] [1] [],sv 13 (pp J 0) [0,1,2] [2] [],sv 14 (pp H 0) [] [] [0],sv 15 (pp H 0) [4] [4] [],sv 16 (pp H 1) [4,5] [5] [],sv 17 (.agg #[.map (some mp),.map (some mh),Ix (s.last),Ix (s.su.a0),Ix (s.su.a1),Ix (s.su.a2),Ix (s.su.a3),.map (some mm)]) [4,5,6] [6] [],⟨[4,5,6,7],[7],[],[18],fun f => f 18 = sB (sla (f 18)) bs (slc (f 18))⟩,sv 19 (.int .i64 (310)) (List.range 9) [3,8] [],sv 4 (.int .i64 (310)) (List.range 10) [9] []] [u1 [3,7],(some 9,[9]),(some 9,[9]),u1 [8],u1 [8],u1 [8],u1 [8]] [⟨(some 8),none,[9],[18],fun f => rB (sla (f 18)) bs (slc (f 18))⟩,⟨(some 9),none,[],[],fun _ => jourR J S i true⟩,⟨(some 9),none,[],[],fun _ => storeR S (ckS k (i.epoch + 1) i.next bs)⟩] [(0,pp H 0)] [0] ⟨rfl,trivial⟩ ⟨?_,?_,?_,?_,?_,?_,?_,?_,?_,?_,?_,trivial⟩ ?_
 ·rintro f M - ⟨i0,-⟩
  exact obE omp
 ·rintro f M ⟨k0,-⟩ -
  exact obE onp
 ·rintro f M ⟨k0,-⟩ -
  exact obE ofp
 ·rintro f M ⟨k0,-⟩ -
  exact obE (olp 0)
 ·rintro f M - ⟨i0,-⟩
  exact obE omp
 ·rintro f M ⟨k0,-⟩ -
  exact obE onp
 ·rintro f M ⟨k0,-⟩ -
  exact obE ofp
 ·rintro f M ⟨k0,-⟩ -
  exact obE (olg 0)
 ·rintro f M ⟨k0,-⟩ -
  refine obS (up_cons (d := 17) rfl k0) ?_
  refine l_call rfl rfl rfl (cl0 (vs := [.agg #[.map (some mp),.map (some mh),Ix (s.last),Ix (s.su.a0),Ix (s.su.a1),Ix (s.su.a2),Ix (s.su.a3),.map (some mm)]]) tt186.ok rfl rfl) ?_
  intro w hw
  replace hw := hw.perm (L' := _ :: _ :: _ :: _ :: M) (by exact ((((perm_front 3 rfl).trans (perm_front 3 rfl)).trans (perm_front 3 rfl)).trans (perm_front 3 rfl)))
  obtain ⟨β1,sb,kn,hw1,back⟩ := St.frame (L := [_,_,_,_]) (M := M) hw
  refine (sb2_ok β1 w mp mh mm s ms zs hw1 X hk.eq hk.mm hk.so.ok hla bs hbs).mono ?_
  rintro e w' ⟨p8,c9,rfl,hw'⟩
  refine ⟨_,rfl,_,back _ _ hw',?_⟩
  clear hw hw1 hw' back kn sb
  refine l_nil ?_
  exact f_owes_d (up_cons (d := 17) rfl k0) rfl (((((perm_front 0 rfl).trans (perm_front 4 rfl)).trans (perm_front 4 rfl)).trans (perm_front 4 rfl)).trans (perm_front 4 rfl))
 ·rintro f M ⟨k0,k1,-⟩ -
  have hs18 : f 18 = sB (sla (f 18)) bs (slc (f 18)) := k1
  refine obS (up_cons (up_cons (d := 13) rfl k0) hs18) ?_
  refine l_call rfl rfl rfl (cl0 (vs := [pp J 0,sB (sla (f 18)) bs (slc (f 18))]) tt187.ok rfl rfl) ?_
  intro w hw
  replace hw := hw.perm (L' := _ :: _ :: _ :: M) (by exact (((perm_front 2 rfl).trans (perm_front 2 rfl)).trans (perm_front 2 rfl)))
  obtain ⟨β1,sb,kn,hw1,back⟩ := St.frame (L := [_,_]) (M := _ :: M) hw
  refine (checkp_fail β1 w J S k i bs (by omega) hfit hep hc _ (kU kn 0 rfl) hw1).mono ?_
  rintro e w' ⟨rfl,hw'⟩
  refine ⟨_,rfl,_,back _ _ hw',?_⟩
  clear hw hw1 hw' back kn sb
  refine l_nil ?_
  exact f_owes_d (up_cons (up_cons (d := 13) rfl k0) hs18) rfl (((perm_front 1 rfl).trans (perm_front 1 rfl)).trans (perm_front 2 rfl))
 ·rintro f M ⟨k0,-⟩ -
  exact obE oai
 rintro fa10 ⟨-,-,-,-,-,-,-,-,-,-,k10,-⟩ ⟨j0,-⟩
 refine fre ?_
 refine f_rebase (d := 0) j0 (f_rebase (d := 4) k10 (fts (csr (lE omi (lE onq (lnf (c_yes rfl (c_region (lE omp (lE onp (lE ofp ?_)))))))))))
 refine lu (mS 0 (#[pp J 0,.map (some mp),.map (some mh),Ix (s.last),Ix (s.su.a0),Ix (s.su.a1),Ix (s.su.a2),Ix (s.su.a3),.map (some mm),.bool true])) ?_
 refine lnc (lE omi (lE oai (lnf (c_ret (ret1 Tryz.results22 rfl ?_)))))
 intro w hw
 replace hw := hw.perm (L' := [storeR S (ckS k (i.epoch + 1) i.next bs),pt H (.cells #[pp J 0,.map (some mp),.map (some mh),Ix (s.last),Ix (s.su.a0),Ix (s.su.a1),Ix (s.su.a2),Ix (s.su.a3),.map (some mm),.bool true] 91),mpR PuM mp s.ps,mpR HoM mh s.hs,mpR MeM mm ms,memR zs,rB (sla (fa10 18)) bs (slc (fa10 18)),jourR J S i true]) (by exact (perm_ix [7,0,1,2,3,4,5,6] 8 rfl (by kernel_rfl) (by kernel_rfl)))
 replace hw := st_mask (L' := [storeR S (ckS k (i.epoch + 1) i.next bs)]) [true,false,false,false,false,false,false,false] rfl hw
 obtain ⟨j,hj⟩ := hk.so.ck_no hN hW hbl hsb hbn hc
 exact .inr ⟨fun q => hc (ck_neg1 (hpw.trans q)).1,rfl,_,St.closeShelf (M := []) hj rfl hw⟩
end Go.Proofs
