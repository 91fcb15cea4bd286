/-
 What a house shows: walked. Printed by a program of my own.
-/
import Derived.Test.YtjejfkajcbdgjaaGreatTd8
import Derived.Test.YtjejfkajcbdgjaaGreatTd7
import Derived.Test.YtjejfkajcbdgjaaGreatTdHouE
import Derived.Test.YtjejfkajcbdgjaaGreatSlA
import Derived.Test.YtjejfkajcbdgjaaGreatSlN
namespace Go.Proofs
open Go Go.Sl Go.Td Go.Jn
theorem sortedM_ok (β : Base) (w : World) (fn : Value) (E : List Int) (K : List Res) (hs : SeqK Tryz.prog β fn (fun z : Int => [Ix z]) (fun l => l.Perm E) K) (hn : E.length ≤ 1048576) (hw : St β K w) : Calls Tryz.prog 41 #[fn] w fun r w' => ∃ p c, r = .returned (sB p (sortI E) c) ∧ St β [rowF IntF 3 p c (sortI E)] w' := by
 refine (sortedI_ok β w fn _ K hs (fun l hl => by rw [hl.length_eq]; exact hn) hw).mono ?_
 rintro r w' ⟨p,c,xs,hS,rfl,hw'⟩
 rw [sortI_same hS] at hw' ⊢
 exact ⟨p,c,rfl,hw'⟩
theorem holds_next {hs : List (Int × KHo)} {ns : List Int} {k : Nat} {n : Int} (h : ns[k]? = some n) : (ns.take k).map (hoA hs) ++ [hoA hs n] = (ns.take (k + 1)).map (hoA hs) := by
 rw [List.take_add_one,h,List.map_append]; rfl
instance tt113 : CfC Tryz.prog 43 := ⟨by kernel_rfl⟩
instance tt114 : CfC Tryz.prog 41 := ⟨by kernel_rfl⟩
instance tt115 : CfC Tryz.prog 42 := ⟨by kernel_rfl⟩
theorem tt116 : slB Tryz.prog 40 104 6 = true := by kernel_rfl
theorem tt117 : elB Tryz.prog 104 6 48 = true := by kernel_rfl
set_option maxHeartbeats 4000000 in
theorem lastV_ok (β : Base) (w : World) (H J : Nat) (X : KHs) (dn : Bool) (hw : St β [viewR H J X dn] w) (au : Int) : Calls Tryz.prog 18 #[pp H 0, Ix au] w fun r w' => ∃ nu R so, lastX X au = (nu, R, so) ∧ ∃ p c, r = .returned (.tuple #[Ix nu, .agg #[.bool R.done, Ix R.at_, Ix R.e, sB p R.holds c], .bool so]) ∧ St β [rowF IntF 3 p c R.holds, viewR H J X dn] w' := by
 obtain ⟨mp,mh,mm,s,ms,zs,hk,hw⟩ := St.openView hw
 obtain ⟨hd,mal,mhl,hlk,hlo,hnl,hml⟩ := hk.mm.lk au
 have hmb : mhl.length ≤ 1048576 := hlo.few hk.ok
 refine enter (n := 29) Tryz.func18 rfl Tryz.ntmps18 rfl ?_ hw
 refine csr (lE oai (alE fun b1 => lE oab (lnf (cs2 (c_region (lE omp ?_))))))
 refine lcR clA (fun w β1 sb kn hw1 => hthere_ok β1 w hw1 _ _ _ _ _ s _ (kn _ (k_pt 1 rfl rfl))) (lE ont (lnf (c_no rfl (csk (csr (lE omp (lE onp ?_)))))))
 refine lE ofp (lE ofp (lv (v := .map (some mm)) (e_load1 tt58.ok rfl (k_pt 1 rfl rfl)) (lE omi ?_)))
 refine lv (v := .tuple #[.agg #[Ix (hd.author),Ix (hd.number),.slice hd.p (hd.n) hd.c,.bool (hd.done),Ix (hd.at_),Ix (hd.e),.slice hd.q (hd.m) hd.k],.bool ((MeM.look ms au).isSome)]) (ev_eq (congrArg (fun z => Value.tuple #[MeM.encv z,.bool (MeM.look ms au).isSome]) hlk) (e_look2 (K := MeM) (b := mm) (ks := ms) (k := au) rfl rfl rfl (Knows.of_res 4 rfl (mpR.mono _ _ _) fun _ h => h))) ?_
 refine lE omt (lE oxa (lE oxb (alE fun b2 => ?_)))
 refine lu (mS 0 (#[Ix (hd.author),Ix (hd.number),.slice hd.p (hd.n) hd.c,.bool (hd.done),Ix (hd.at_),Ix (hd.e),.slice hd.q (hd.m) hd.k])) (lE oab ?_)
 refine lnf (c_seq ?_)
 refine cnz [sv 22 (pp b2 0) [] [] [0],sv 23 (pp b2 1) [0] [0] [],sv 24 (Ix (hd.number)) [0,1] [1] [],sv 25 (pp b2 3) [] [] [0],sv 26 (.agg #[.bool (hd.done),Ix (hd.at_),Ix (hd.e),.slice hd.q (hd.m) hd.k]) [3] [3] [],⟨[3,4],[4],[],[27],fun f => f 27 = .agg #[.bool (hd.done),Ix (hd.at_),Ix (hd.e),sB (agA (f 27)) mhl (agC (f 27))]⟩,sv 28 (.bool ((MeM.look ms au).isSome)) [] [] [1],sv 4 (Ix (hd.number)) (List.range 6) [2] [],⟨[0,1,2,3,4,5,7],[5],[2],[],fun _ => True⟩,sv 6 (.bool ((MeM.look ms au).isSome)) (List.range 9) [6] []] [u1 [2,4],(some 8,[8]),u0,u0,u0,u0,u1 [5]] [⟨(some 5),none,[],[27],fun f => rowF IntF 3 (agA (f 27)) (agC (f 27)) mhl⟩,⟨(some 8),none,[],[27],fun f => pt b1 (.cells #[.bool (hd.done),Ix (hd.at_),Ix (hd.e),sB (agA (f 27)) mhl (agC (f 27))] 37)⟩] [(7,pp b2 0),(6,.bool ((MeM.look ms au).isSome)),(5,pp b1 0)] [2] ⟨rfl,rfl,rfl,trivial⟩ ⟨?_,?_,?_,?_,?_,?_,?_,?_,?_,?_,trivial⟩ ?_
 ·rintro f M - ⟨i0,-⟩
  exact obE ofp
 ·rintro f M ⟨k0,-⟩ -
  exact obE ofp
 ·rintro f M ⟨k0,-⟩ -
  exact obE (oli 0)
 ·rintro f M - ⟨i0,-⟩
  exact obE ofp
 ·rintro f M ⟨k0,-⟩ -
  exact obE (olg 0)
 ·rintro f M ⟨k0,-⟩ -
  refine obS (up_cons (d := 26) rfl k0) ?_
  refine lcf (cl0 (vs := [.agg #[.bool (hd.done),Ix (hd.at_),Ix (hd.e),.slice hd.q (hd.m) hd.k]]) tt106.ok rfl rfl) rfl fun w β1 sb kn hw1 back => (own_ok β1 w hw1 hd.done hd.at_ hd.e _ mhl (kn _ (k_lkH 0 rfl hlo)) (by omega)).mono ?_
  rintro e w' ⟨p5,c6,rfl,hw'⟩
  refine ⟨_,rfl,_,back _ _ hw',?_⟩
  clear hw1 hw' back kn sb
  refine l_nil ?_
  exact f_owes_d (up_cons (d := 26) rfl k0) rfl ((perm_front 0 rfl).trans (perm_front 1 rfl))
 ·rintro f M - ⟨i0,-⟩
  exact obE omb
 ·rintro f M ⟨k0,-⟩ -
  exact obE oai
 ·rintro f M ⟨k0,-⟩ ⟨i0,-⟩
  have hs27 : f 27 = .agg #[.bool (hd.done),Ix (hd.at_),Ix (hd.e),sB (agA (f 27)) mhl (agC (f 27))] := k0
  refine obS (up_cons (up_cons (d := 5) rfl i0) hs27) ?_
  refine lu (mS 0 (#[.bool (hd.done),Ix (hd.at_),Ix (hd.e),sB (agA (f 27)) mhl (agC (f 27))])) (l_nil ?_)
  exact f_owes_n (up_cons (up_cons (d := 5) rfl i0) hs27) trivial (perm_front 0 rfl)
 ·rintro f M ⟨k0,-⟩ -
  exact obE oab
 rintro fa7 ⟨-,-,-,-,-,-,-,k7,-,k9,-⟩ ⟨j0,-⟩
 refine fre ?_
 refine f_rebase (d := 4) k7 (f_rebase (d := 5) j0 (f_rebase (d := 6) k9 (ftr ?_)))
 refine retG (m := [Ix (hd.number),.agg #[.bool (hd.done),Ix (hd.at_),Ix (hd.e),sB (agA (fa7 27)) mhl (agC (fa7 27))],.bool ((MeM.look ms au).isSome)]) Tryz.results18 ⟨rd_tmp (v := Ix (hd.number)) rfl,rd_cell tt61.ok rfl (k_pt 7 rfl rfl) rfl,rd_tmp (v := .bool ((MeM.look ms au).isSome)) rfl,trivial⟩ rfl ?_
 intro w hw
 replace hw := hw.perm (L' := [pt H (.cells #[pp J 0,.map (some mp),.map (some mh),Ix (s.last),Ix (s.su.a0),Ix (s.su.a1),Ix (s.su.a2),Ix (s.su.a3),.map (some mm),.bool (dn)] 91),mpR PuM mp s.ps,mpR HoM mh s.hs,mpR MeM mm ms,memR zs,rowF IntF 3 (agA (fa7 27)) (agC (fa7 27)) mhl,pt b2 (.cells #[Ix (hd.author),Ix (hd.number),.slice hd.p (hd.n) hd.c,.bool (hd.done),Ix (hd.at_),Ix (hd.e),.slice hd.q (hd.m) hd.k] 82),pt b1 (.cells #[.bool (hd.done),Ix (hd.at_),Ix (hd.e),sB (agA (fa7 27)) mhl (agC (fa7 27))] 37)]) (by exact (perm_ix [1,2,3,4,5,6,0,7] 8 rfl (by kernel_rfl) (by kernel_rfl)))
 replace hw := st_mask (L' := [pt H (.cells #[pp J 0,.map (some mp),.map (some mh),Ix (s.last),Ix (s.su.a0),Ix (s.su.a1),Ix (s.su.a2),Ix (s.su.a3),.map (some mm),.bool (dn)] 91),mpR PuM mp s.ps,mpR HoM mh s.hs,mpR MeM mm ms,memR zs,rowF IntF 3 (agA (fa7 27)) (agC (fa7 27)) mhl]) [true,true,true,true,true,true,false,false] rfl hw
 have hw2 := St.closeView (M := [rowF IntF 3 (agA (fa7 27)) (agC (fa7 27)) mhl]) hk hw
 exact ⟨_,_,_,hlo.last,(agA (fa7 27)),(agC (fa7 27)),rfl,hw2.perm (List.Perm.swap _ _ _)⟩
theorem purseV_ok (β : Base) (w : World) (H J : Nat) (X : KHs) (dn : Bool) (hw : St β [viewR H J X dn] w) (n : Int) : Calls Tryz.prog 44 #[pp H 0, Ix n] w fun r w' => r = .returned (.agg (amC (puA X.s.ps n))) ∧ St β [viewR H J X dn] w' := by
 obtain ⟨mp,mh,mm,s,ms,zs,hk,hw⟩ := St.openView hw
 refine enter (n := 16) Tryz.func44 rfl Tryz.ntmps44 rfl ?_ hw
 refine csr (alE fun b1 => lnf (cs2 (c_region (lE omp (lcR clA (fun w β1 sb kn hw1 => hthere_ok β1 w hw1 _ _ _ _ _ s _ (kn _ (k_pt 1 rfl rfl))) ?_)))))
 refine lE ont (lnf (c_no rfl (csk (csr (lE omp (lE onp (lE ofp (lE ofp (lv (v := .map (some mp)) (e_load1 tt33.ok rfl (k_pt 1 rfl rfl)) (lE omi ?_))))))))))
 refine lv (v := .agg (amC ((PuM.look s.ps (n)).getD zeroA))) (e_look1 (K := PuM) (b := mp) (ks := s.ps) (k := (n)) rfl rfl rfl (Knows.of_res 2 rfl (mpR.mono _ _ _) fun _ h => h)) ?_
 refine lu (mS 0 (amC ((PuM.look s.ps (n)).getD zeroA))) (lnf (c_ret ?_))
 refine retG (m := [.agg (amC ((PuM.look s.ps (n)).getD zeroA))]) Tryz.results44 ⟨rd_cell tt0.ok rfl (k_pt 0 rfl rfl) rfl,trivial⟩ rfl ?_
 intro w hw
 replace hw := hw.perm (L' := [pt H (.cells #[pp J 0,.map (some mp),.map (some mh),Ix (s.last),Ix (s.su.a0),Ix (s.su.a1),Ix (s.su.a2),Ix (s.su.a3),.map (some mm),.bool (dn)] 91),mpR PuM mp s.ps,mpR HoM mh s.hs,mpR MeM mm ms,memR zs,pt b1 (.cells (amC ((PuM.look s.ps (n)).getD zeroA)) 44)]) (by exact (perm_ix [1,2,3,4,5,0] 6 rfl (by kernel_rfl) (by kernel_rfl)))
 replace hw := st_mask (L' := [pt H (.cells #[pp J 0,.map (some mp),.map (some mh),Ix (s.last),Ix (s.su.a0),Ix (s.su.a1),Ix (s.su.a2),Ix (s.su.a3),.map (some mm),.bool (dn)] 91),mpR PuM mp s.ps,mpR HoM mh s.hs,mpR MeM mm ms,memR zs]) [true,true,true,true,true,false] rfl hw
 have hw2 := St.closeView (M := []) hk hw
 exact ⟨by rw [← hk.purse] <;> rfl,hw2⟩
theorem supplyV_ok (β : Base) (w : World) (H J : Nat) (X : KHs) (dn : Bool) (hw : St β [viewR H J X dn] w) : Calls Tryz.prog 15 #[pp H 0] w fun r w' => r = .returned (.agg (amC X.s.su)) ∧ St β [viewR H J X dn] w' := by
 obtain ⟨mp,mh,mm,s,ms,zs,hk,hw⟩ := St.openView hw
 refine enter (n := 12) Tryz.func15 rfl Tryz.ntmps15 rfl ?_ hw
 refine csr (alE fun b1 => lnf (cs2 (c_region (lE omp (lcR clA (fun w β1 sb kn hw1 => hthere_ok β1 w hw1 _ _ _ _ _ s _ (kn _ (k_pt 1 rfl rfl))) ?_)))))
 refine lE ont (lnf (c_no rfl (csk (csr (lE omp (lE onp (lE ofp (lE ofp (lE (olg 1) (lu (mS 0 (amC s.su)) (lnf (c_ret ?_))))))))))))
 refine retG (m := [.agg (amC s.su)]) Tryz.results15 ⟨rd_cell tt0.ok rfl (k_pt 0 rfl rfl) rfl,trivial⟩ rfl ?_
 intro w hw
 replace hw := hw.perm (L' := [pt H (.cells #[pp J 0,.map (some mp),.map (some mh),Ix (s.last),Ix (s.su.a0),Ix (s.su.a1),Ix (s.su.a2),Ix (s.su.a3),.map (some mm),.bool (dn)] 91),mpR PuM mp s.ps,mpR HoM mh s.hs,mpR MeM mm ms,memR zs,pt b1 (.cells (amC s.su) 44)]) (by exact (perm_ix [1,2,3,4,5,0] 6 rfl (by kernel_rfl) (by kernel_rfl)))
 replace hw := st_mask (L' := [pt H (.cells #[pp J 0,.map (some mp),.map (some mh),Ix (s.last),Ix (s.su.a0),Ix (s.su.a1),Ix (s.su.a2),Ix (s.su.a3),.map (some mm),.bool (dn)] 91),mpR PuM mp s.ps,mpR HoM mh s.hs,mpR MeM mm ms,memR zs]) [true,true,true,true,true,false] rfl hw
 have hw2 := St.closeView (M := []) hk hw
 exact ⟨by rw [← hk.supply] <;> rfl,hw2⟩
theorem ownersV_ok (β : Base) (w : World) (H J : Nat) (X : KHs) (dn : Bool) (hw : St β [viewR H J X dn] w) : Calls Tryz.prog 14 #[pp H 0] w fun r w' => ∃ p c, r = .returned (sB p (ownersX X) c) ∧ St β [rowF IntF 3 p c (ownersX X), viewR H J X dn] w' := by
 obtain ⟨mp,mh,mm,s,ms,zs,hk,hw⟩ := St.openView hw
 refine enter (n := 13) Tryz.func14 rfl Tryz.ntmps14 rfl ?_ hw
 refine csr (lE oas (lnf (cs2 (c_region (lE omp (lcR clA (fun w β1 sb kn hw1 => hthere_ok β1 w hw1 _ _ _ _ _ s _ (kn _ (k_pt 0 rfl rfl))) (lE ont ?_)))))))
 refine lnf (c_no rfl (csk (csr (lE omp (lE onp (lE ofp (lE ofp (lv (v := .map (some mp)) (e_load1 tt33.ok rfl (k_pt 0 rfl rfl)) ?_))))))))
 refine lcf (cl0 (vs := [.map (some mp)]) tt113.ok rfl rfl) rfl fun w β1 sb kn hw1 back => (keysP_ok β1 w hw1 mp).mono ?_
 rintro e w' ⟨b1,rfl,hw'⟩
 refine ⟨_,rfl,_,back _ _ hw',?_⟩
 clear hw1 hw' back kn sb
 refine l_call rfl rfl rfl (cl0 (vs := [.func (.func 80) #[] #[pp b1 0]]) tt114.ok rfl rfl) ?_
 intro w hw
 replace hw := hw.perm (L' := _ :: _ :: _ :: _ :: _ :: _ :: []) (by exact ((((((perm_front 5 rfl).trans (perm_front 5 rfl)).trans (perm_front 5 rfl)).trans (perm_front 5 rfl)).trans (perm_front 5 rfl)).trans (perm_front 5 rfl)))
 obtain ⟨β1,sb,kn,hw1,back⟩ := St.frame (L := [_]) (M := _ :: _ :: _ :: _ :: _ :: []) hw
 refine (sortedM_ok β1 w _ _ _ (keysP_seq β1 b1 mp s.ps (kn _ (Knows.of_res 1 rfl (mpR.mono _ _ _) fun _ h => h))) (Nat.le_trans hk.pfew (by decide)) hw1).mono ?_
 rintro e w' ⟨p2,c3,rfl,hw'⟩
 refine ⟨_,rfl,_,back _ _ hw',?_⟩
 clear hw hw1 hw' back kn sb
 refine lE oas (lnf (c_ret (ret1 Tryz.results14 (v := sB p2 (sortI (s.ps.map (·.1))) c3) rfl ?_)))
 intro w hw
 replace hw := hw.perm (L' := [pt H (.cells #[pp J 0,.map (some mp),.map (some mh),Ix (s.last),Ix (s.su.a0),Ix (s.su.a1),Ix (s.su.a2),Ix (s.su.a3),.map (some mm),.bool (dn)] 91),mpR PuM mp s.ps,mpR HoM mh s.hs,mpR MeM mm ms,memR zs,rowF IntF 3 p2 c3 (sortI (s.ps.map (·.1)))]) (by exact (perm_ix [1,2,3,4,5,0] 6 rfl (by kernel_rfl) (by kernel_rfl)))
 have hw2 := St.closeView (M := [rowF IntF 3 p2 c3 (sortI (s.ps.map (·.1)))]) hk hw
 rw [hk.owners] at hw2; exact ⟨p2,c3,by rw [hk.owners],hw2.perm (List.Perm.swap _ _ _)⟩
set_option maxHeartbeats 4000000 in
theorem holdsV_ok (β : Base) (w : World) (H J : Nat) (X : KHs) (dn : Bool) (hw : St β [viewR H J X dn] w) : Calls Tryz.prog 13 #[pp H 0] w fun r w' => ∃ p c, r = .returned (sB p (holdsX X) c) ∧ St β [rowF HoF 104 p c (holdsX X), viewR H J X dn] w' := by
 obtain ⟨mp,mh,mm,s,ms,zs,hk,hw⟩ := St.openView hw
 refine enter (n := 33) Tryz.func13 rfl Tryz.ntmps13 rfl ?_ hw
 refine csr (lE oas (lnf (cs2 (c_region (lE omp (lcR clA (fun w β1 sb kn hw1 => hthere_ok β1 w hw1 _ _ _ _ _ s _ (kn _ (k_pt 0 rfl rfl))) (lE ont ?_)))))))
 refine lnf (c_no rfl (csk (csr (lE oas (lnf (cs2 (c_emp (r := rowF HoF 104 none 0 []) (row_nil _ _ _) (c_region (lE omp (lE onp (lE ofp (lE ofp ?_))))))))))))
 refine lv (v := .map (some mh)) (e_load1 tt39.ok rfl (k_pt 1 rfl rfl)) ?_
 refine lcf (cl0 (vs := [.map (some mh)]) tt115.ok rfl rfl) rfl fun w β1 sb kn hw1 back => (keysH_ok β1 w hw1 mh).mono ?_
 rintro e w' ⟨b1,rfl,hw'⟩
 refine ⟨_,rfl,_,back _ _ hw',?_⟩
 clear hw1 hw' back kn sb
 refine l_call rfl rfl rfl (cl0 (vs := [.func (.func 79) #[] #[pp b1 0]]) tt114.ok rfl rfl) ?_
 intro w hw
 replace hw := hw.perm (L' := _ :: _ :: _ :: _ :: _ :: _ :: _ :: []) (by exact (((((((perm_front 6 rfl).trans (perm_front 6 rfl)).trans (perm_front 6 rfl)).trans (perm_front 6 rfl)).trans (perm_front 6 rfl)).trans (perm_front 6 rfl)).trans (perm_front 6 rfl)))
 obtain ⟨β1,sb,kn,hw1,back⟩ := St.frame (L := [_]) (M := _ :: _ :: _ :: _ :: _ :: _ :: []) hw
 refine (sortedM_ok β1 w _ _ _ (keysH_seq β1 b1 mh s.hs (kn _ (Knows.of_res 3 rfl (mpR.mono _ _ _) fun _ h => h))) (Nat.le_trans hk.hfew (by decide)) hw1).mono ?_
 rintro e w' ⟨p2,c3,rfl,hw'⟩
 refine ⟨_,rfl,_,back _ _ hw',?_⟩
 clear hw hw1 hw' back kn sb
 refine lE oln (lE omi (lnf (c_block ?_)))
 refine c_loop (fun (x_ : Nat × List KHo × Option Addr × Nat) f L => match x_ with | (kk,hol,p,c) => (f 0 = pp H 0 ∧ f 3 = sB p hol c ∧ f 15 = sB p2 (sortI (s.hs.map (·.1))) c3 ∧ f 16 = Nx ((sortI (s.hs.map (·.1))).length) ∧ f 17 = Nx (kk)) ∧ L = [rowF IntF 3 p2 c3 (sortI (s.hs.map (·.1))),rowF HoF 104 p c hol,pt H (.cells #[pp J 0,.map (some mp),.map (some mh),Ix (s.last),Ix (s.su.a0),Ix (s.su.a1),Ix (s.su.a2),Ix (s.su.a3),.map (some mm),.bool (dn)] 91),mpR PuM mp s.ps,mpR HoM mh s.hs,mpR MeM mm ms,memR zs] ∧ (kk ≤ (sortI (s.hs.map (·.1))).length ∧ hol = ((sortI (s.hs.map (·.1))).take kk).map (hoA s.hs))) (fun (kk,hol,p,c) => (sortI (s.hs.map (·.1))).length - kk) (0,[],none,0) ?_ ?_
 ·exact ⟨⟨rfl,rfl,rfl,rfl,rfl⟩,rfl,⟨Nat.zero_le _,rfl⟩⟩
 rintro ⟨kk,hol,p,c⟩ f0 L0 ⟨⟨hs0,hs3,hs15,hs16,hs17⟩,hL,⟨hkl,hhs⟩⟩
 subst L0
 refine rbs 0 hs0 (rbs 3 hs3 (rbs 15 hs15 (rbs 16 hs16 (rbs 17 hs17 ?_))))
 have hsl : (sortI (s.hs.map (·.1))).length ≤ 128 := by rw [sortI_len]; exact hk.hfew
 have hhl : hol.length ≤ 256 := by rw [hhs,List.length_map,List.length_take,sortI_len]; have := hk.hfew; omega
 refine csr (lE olt (lnf (c_seq (c_if _ rfl (fun hc4 => ?_) (fun hc4 => ?_)))))
 ·refine csk (c_seq (c_block (csr (lv (v := .pointer (some ((ba p2).add (kk * 1)))) (e_indexFlN 0 (F := IntF) rfl rfl rfl tt29 (by omega) rfl) ?_))))
  obtain ⟨x5,hx6⟩ : ∃ x_,(sortI (s.hs.map (·.1)))[kk]? = some x_ := ⟨_,List.getElem?_eq_getElem (by first | omega | decide)⟩
  refine lv (v := Ix (x5)) (e_load1 tt2.ok rfl (k_flAt 0 (F := IntF) rfl hx6)) (lE oai (lnr (lE oms (lE omp (lE onp (lE ofp (lE ofp ?_)))))))
  refine lv (v := .map (some mh)) (e_load1 tt39.ok rfl (k_pt 2 rfl rfl)) (lE omi ?_)
  refine lv (v := .agg #[Ix (((HoM.look s.hs (x5)).getD zeroH).number),Ix (((HoM.look s.hs (x5)).getD zeroH).owner),Ix (((HoM.look s.hs (x5)).getD zeroH).a.a0),Ix (((HoM.look s.hs (x5)).getD zeroH).a.a1),Ix (((HoM.look s.hs (x5)).getD zeroH).a.a2),Ix (((HoM.look s.hs (x5)).getD zeroH).a.a3)]) (e_look1 (K := HoM) (b := mh) (ks := s.hs) (k := (x5)) rfl rfl rfl (Knows.of_res 4 rfl (mpR.mono _ _ _) fun _ h => h)) ?_
  refine l_mv rfl rfl rfl (m_slices tt116 tt42.ok (cells := #[Ix (((HoM.look s.hs (x5)).getD zeroH).number),Ix (((HoM.look s.hs (x5)).getD zeroH).owner),Ix (((HoM.look s.hs (x5)).getD zeroH).a.a0),Ix (((HoM.look s.hs (x5)).getD zeroH).a.a1),Ix (((HoM.look s.hs (x5)).getD zeroH).a.a2),Ix (((HoM.look s.hs (x5)).getD zeroH).a.a3)]) rfl rfl rfl rfl) ?_
  rintro _ _ ⟨b7,rfl,rfl⟩
  refine l_mv rfl rfl rfl (m_appendFlN (F := HoF) 2 tt116 tt117 (p := p) (m := hol.length) (xs := hol) (ys := [((HoM.look s.hs (x5)).getD zeroH)]) (ao := (some ⟨b7,0,none⟩)) (k := 1) (c := 1) rfl rfl rfl rfl rfl (k_ptFl (z := ((HoM.look s.hs (x5)).getD zeroH)) 0 rfl rfl) (by first | omega | simp only [List.length_nil,List.length_cons,List.length_append,List.length_set]; omega) (by first | omega | simp only [List.length_nil,List.length_cons,List.length_append,List.length_set]; omega)) ?_
  rintro _ _ ⟨rp8,rc9,rfl,rfl⟩
  refine lE oas (l_nil (f_block (f_then (c_region (lv (v := Nx (kk + 1)) (e_add rfl rfl (i64n (by omega) (by omega))) (lE omi (l_nil ?_)))))))
  refine f_mask [false,true,true,true,true,true,true,true] rfl ?_
  exact f_cut ⟨(kk + 1,(hol ++ [((HoM.look s.hs (x5)).getD zeroH)]),rp8,rc9),⟨⟨rfl,rfl,rfl,rfl,rfl⟩,rfl,⟨by omega,by rw [hhs]; exact holds_next hx6⟩⟩,(show (sortI (s.hs.map (·.1))).length - (kk + 1) < (sortI (s.hs.map (·.1))).length - kk from by omega)⟩
 refine c_exit (f_then_exit (f_then_exit (f_exit (ftc (lE oms (lE oas (lnf (c_ret (ret1 Tryz.results13 rfl ?_)))))))))
 intro w hw
 have hhe : hol = holdsX X := by rw [← hk.holds,hhs,List.take_of_length_le (by omega)]
 subst hhe
 replace hw := hw.perm (L' := [pt H (.cells #[pp J 0,.map (some mp),.map (some mh),Ix (s.last),Ix (s.su.a0),Ix (s.su.a1),Ix (s.su.a2),Ix (s.su.a3),.map (some mm),.bool (dn)] 91),mpR PuM mp s.ps,mpR HoM mh s.hs,mpR MeM mm ms,memR zs,rowF HoF 104 p c (holdsX X),rowF IntF 3 p2 c3 (sortI (s.hs.map (·.1)))]) (by exact (perm_ix [2,3,4,5,6,1,0] 7 rfl (by kernel_rfl) (by kernel_rfl)))
 replace hw := st_mask (L' := [pt H (.cells #[pp J 0,.map (some mp),.map (some mh),Ix (s.last),Ix (s.su.a0),Ix (s.su.a1),Ix (s.su.a2),Ix (s.su.a3),.map (some mm),.bool (dn)] 91),mpR PuM mp s.ps,mpR HoM mh s.hs,mpR MeM mm ms,memR zs,rowF HoF 104 p c (holdsX X)]) [true,true,true,true,true,true,false] rfl hw
 have hw2 := St.closeView (M := [rowF HoF 104 p c (holdsX X)]) hk hw
 exact ⟨p,c,rfl,hw2.perm (List.Perm.swap _ _ _)⟩
theorem purse_ok (β : Base) (w : World) (H S N W : Nat) (pw : Int) (X : KHs) (hw : St β [houseR H S X N W pw] w) (n : Int) : Calls Tryz.prog 44 #[pp H 0, Ix n] w fun r w' => r = .returned (.agg (amC (puA X.s.ps n))) ∧ St β [houseR H S X N W pw] w' := by
 refine (hou_calls (Φ := fun r L => r = .returned (.agg (amC (puA X.s.ps n))) ∧ L = []) hw (fun β w J hw => (purseV_ok β w H J X false hw n).mono ?_)).mono ?_
 ·rintro r w' ⟨rfl,hw'⟩; exact ⟨[],⟨rfl,rfl⟩,hw'⟩
 rintro r w' ⟨L,⟨rfl,rfl⟩,hw'⟩; exact ⟨rfl,hw'⟩
theorem supply_ok (β : Base) (w : World) (H S N W : Nat) (pw : Int) (X : KHs) (hw : St β [houseR H S X N W pw] w) : Calls Tryz.prog 15 #[pp H 0] w fun r w' => r = .returned (.agg (amC X.s.su)) ∧ St β [houseR H S X N W pw] w' := by
 refine (hou_calls (Φ := fun r L => r = .returned (.agg (amC X.s.su)) ∧ L = []) hw (fun β w J hw => (supplyV_ok β w H J X false hw).mono ?_)).mono ?_
 ·rintro r w' ⟨rfl,hw'⟩; exact ⟨[],⟨rfl,rfl⟩,hw'⟩
 rintro r w' ⟨L,⟨rfl,rfl⟩,hw'⟩; exact ⟨rfl,hw'⟩
theorem holds_ok (β : Base) (w : World) (H S N W : Nat) (pw : Int) (X : KHs) (hw : St β [houseR H S X N W pw] w) : Calls Tryz.prog 13 #[pp H 0] w fun r w' => ∃ p c, r = .returned (sB p (holdsX X) c) ∧ St β [rowF HoF 104 p c (holdsX X), houseR H S X N W pw] w' := by
 refine (hou_calls (Φ := fun r L => ∃ p c,r = .returned (sB p (holdsX X) c) ∧ L = [rowF HoF 104 p c (holdsX X)]) hw (fun β w J hw => (holdsV_ok β w H J X false hw).mono ?_)).mono ?_
 ·rintro r w' ⟨p,c,rfl,hw'⟩; exact ⟨_,⟨p,c,rfl,rfl⟩,hw'⟩
 rintro r w' ⟨L,⟨p,c,rfl,rfl⟩,hw'⟩; exact ⟨p,c,rfl,hw'⟩
theorem last_ok (β : Base) (w : World) (H S N W : Nat) (pw : Int) (X : KHs) (hw : St β [houseR H S X N W pw] w) (au : Int) : Calls Tryz.prog 18 #[pp H 0, Ix au] w fun r w' => ∃ nu R so, lastX X au = (nu, R, so) ∧ ∃ p c, r = .returned (.tuple #[Ix nu, .agg #[.bool R.done, Ix R.at_, Ix R.e, sB p R.holds c], .bool so]) ∧ St β [rowF IntF 3 p c R.holds, houseR H S X N W pw] w' := by
 refine (hou_calls (Φ := fun r L => ∃ nu R so,lastX X au = (nu,R,so) ∧ ∃ p c,r = .returned (.tuple #[Ix nu,.agg #[.bool R.done,Ix R.at_,Ix R.e,sB p R.holds c],.bool so]) ∧ L = [rowF IntF 3 p c R.holds]) hw (fun β w J hw => (lastV_ok β w H J X false hw au).mono ?_)).mono ?_
 ·rintro r w' ⟨nu,R,so,hl,p,c,rfl,hw'⟩; exact ⟨_,⟨nu,R,so,hl,p,c,rfl,rfl⟩,hw'⟩
 rintro r w' ⟨L,⟨nu,R,so,hl,p,c,rfl,rfl⟩,hw'⟩; exact ⟨nu,R,so,hl,p,c,rfl,hw'⟩
end Go.Proofs
