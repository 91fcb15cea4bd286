/-
 Copies of stores,houses that show the same: walked. Printed by a program of my own.
-/
import Derived.Test.YtjejfkajcbdgjaaGreatTd20
import Derived.Test.YtjejfkajcbdgjaaGreatTdKept
import Derived.Test.YtjejfkajcbdgjaaGreatSlA
import Derived.Test.YtjejfkajcbdgjaaGreatSlB
namespace Go.Proofs
open Go Go.Sl Go.Td Go.Jn
theorem St.fewVw {β : Base} {H J : Nat} {X : KHs} {dn : Bool} {M : List Res} {w : World} (h : St β (viewR H J X dn :: M) w) : (ownersX X).length ≤ 256 ∧ (holdsX X).length ≤ 128 ∧ St β (viewR H J X dn :: M) w := by
 obtain ⟨mp,mh,mm,s,ms,zs,h1,h2⟩ := St.openView h
 exact ⟨own_few h1.ok,hold_few h1.ok,h⟩
theorem lastV_eq (β : Base) (w : World) (H J : Nat) (X : KHs) (dn : Bool) (hw : St β [viewR H J X dn] w) (au : Int) {nu : Int} {R : KRes} {so : Bool} (h : lastX X au = (nu, R, so)) : Calls Tryz.prog 18 #[pp H 0, Ix au] w fun r w' => ∃ p c, r = .returned (.tuple #[Ix nu, .agg #[.bool R.done, Ix R.at_, Ix R.e, sB p R.holds c], .bool so]) ∧ St β [rowF IntF 3 p c R.holds, viewR H J X dn] w' := by
 refine (lastV_ok β w H J X dn hw au).mono ?_
 rintro r w' ⟨nu',R',so',h1,h2⟩
 rw [h] at h1
 injection h1 with h1 h3; injection h3 with h3 h4
 subst h1 h3 h4
 exact h2
instance tt188 : FldC Tryz.prog 29 0 0 1 false := ⟨by kernel_rfl⟩
instance tt189 : CfC Tryz.prog 53 := ⟨by kernel_rfl⟩
instance tt190 : FldC Tryz.prog 29 1 1 1 false := ⟨by kernel_rfl⟩
instance tt191 : FldC Tryz.prog 29 2 2 1 false := ⟨by kernel_rfl⟩
instance tt192 : CfC Tryz.prog 14 := ⟨by kernel_rfl⟩
instance tt193 : CfC Tryz.prog 18 := ⟨by kernel_rfl⟩
instance tt194 : CfC Tryz.prog 19 := ⟨by kernel_rfl⟩
set_option maxHeartbeats 4000000 in
theorem equalV_ok (β : Base) (w : World) (Ha Ja Hb Jb : Nat) (X : KHs) (dna dnb : Bool) (hw : St β [viewR Ha Ja X dna, viewR Hb Jb X dnb] w) : Calls Tryz.prog 31 #[pp Ha 0, pp Hb 0] w fun r w' => r = .returned (.bool true) ∧ St β [viewR Ha Ja X dna, viewR Hb Jb X dnb] w' := by
 obtain ⟨hof,hhf,hw⟩ := St.fewVw hw
 refine enter (n := 103) Tryz.func31 rfl Tryz.ntmps31 rfl ?_ hw
 refine csr (lE oab (lnc (lE omp (l_call rfl rfl rfl (cl0 (vs := [pp Ha 0]) tt180.ok rfl rfl) ?_))))
 intro w hw
 replace hw := hw.perm (L' := _ :: _ :: []) (by exact ((perm_front 1 rfl).trans (perm_front 1 rfl)))
 obtain ⟨β1,sb,kn,hw1,back⟩ := St.frame (L := [_]) (M := _ :: []) hw
 refine (holdsV_ok β1 w Ha Ja X dna hw1).mono ?_
 rintro e w' ⟨p1,c2,rfl,hw'⟩
 refine ⟨_,rfl,_,back _ _ hw',?_⟩
 clear hw hw1 hw' back kn sb
 refine lE omp (l_call rfl rfl rfl (cl0 (vs := [pp Hb 0]) tt180.ok rfl rfl) ?_)
 intro w hw
 replace hw := hw.perm (L' := _ :: _ :: _ :: []) (by exact (((perm_front 1 rfl).trans (perm_front 1 rfl)).trans (perm_front 2 rfl)))
 obtain ⟨β1,sb,kn,hw1,back⟩ := St.frame (L := [_]) (M := _ :: _ :: []) hw
 refine (holdsV_ok β1 w Hb Jb X dnb hw1).mono ?_
 rintro e w' ⟨p3,c4,rfl,hw'⟩
 refine ⟨_,rfl,_,back _ _ hw',?_⟩
 clear hw hw1 hw' back kn sb
 refine lE oas (lE oas (lnf (cs2 (c_region (lE omp (l_call rfl rfl rfl (cl0 (vs := [pp Ha 0]) tt192.ok rfl rfl) ?_))))))
 intro w hw
 replace hw := hw.perm (L' := _ :: _ :: _ :: _ :: []) (by exact ((((perm_front 2 rfl).trans (perm_front 2 rfl)).trans (perm_front 2 rfl)).trans (perm_front 3 rfl)))
 obtain ⟨β1,sb,kn,hw1,back⟩ := St.frame (L := [_]) (M := _ :: _ :: _ :: []) hw
 refine (ownersV_ok β1 w Ha Ja X dna hw1).mono ?_
 rintro e w' ⟨p5,c6,rfl,hw'⟩
 refine ⟨_,rfl,_,back _ _ hw',?_⟩
 clear hw hw1 hw' back kn sb
 refine lE omp (l_call rfl rfl rfl (cl0 (vs := [pp Hb 0]) tt192.ok rfl rfl) ?_)
 intro w hw
 replace hw := hw.perm (L' := _ :: _ :: _ :: _ :: _ :: []) (by exact (((((perm_front 4 rfl).trans (perm_front 3 rfl)).trans (perm_front 3 rfl)).trans (perm_front 3 rfl)).trans (perm_front 4 rfl)))
 obtain ⟨β1,sb,kn,hw1,back⟩ := St.frame (L := [_]) (M := _ :: _ :: _ :: _ :: []) hw
 refine (ownersV_ok β1 w Hb Jb X dnb hw1).mono ?_
 rintro e w' ⟨p7,c8,rfl,hw'⟩
 refine ⟨_,rfl,_,back _ _ hw',?_⟩
 clear hw hw1 hw' back kn sb
 refine lcR clA (fun w β1 sb kn hw1 => sameI_ok β1 w hw1 _ _ (ownersX X) (ownersX X) (kn _ (k_flN 2 (F := IntF) (m := (ownersX X).length) rfl rfl)) (kn _ (k_flN 0 (F := IntF) (m := (ownersX X).length) rfl rfl))) ?_
 refine lv (v := .bool false) (ev_f (fun q => q rfl) (e_not_p (p := (ownersX X) = (ownersX X)) rfl)) (lE omb (gE oms (gE oln (gE oms (gE oln ?_)))))
 refine g_val (v := .bool false) rfl rfl rfl rfl rfl (ev_f (fun q => q rfl) (e_neq (a := (((holdsX X).length : Nat) : Int)) (b := (((holdsX X).length : Nat) : Int)) rfl rfl)) ?_
 refine lE okfb (lE omb (gE omp (g_call rfl rfl rfl rfl rfl (cl0 (vs := [pp Ha 0]) tt179.ok rfl rfl) ?_)))
 intro w hw
 replace hw := hw.perm (L' := _ :: _ :: _ :: _ :: _ :: _ :: []) (by exact ((((((perm_front 5 rfl).trans (perm_front 5 rfl)).trans (perm_front 4 rfl)).trans (perm_front 4 rfl)).trans (perm_front 4 rfl)).trans (perm_front 5 rfl)))
 obtain ⟨β1,sb,kn,hw1,back⟩ := St.frame (L := [_]) (M := _ :: _ :: _ :: _ :: _ :: []) hw
 refine (supplyV_ok β1 w Ha Ja X dna hw1).mono ?_
 rintro e w' ⟨rfl,hw'⟩
 refine ⟨_,rfl,_,back _ _ hw',?_⟩
 clear hw hw1 hw' back kn sb
 refine gE omp (g_call rfl rfl rfl rfl rfl (cl0 (vs := [pp Hb 0]) tt179.ok rfl rfl) ?_)
 intro w hw
 replace hw := hw.perm (L' := _ :: _ :: _ :: _ :: _ :: _ :: []) (by exact ((((((perm_front 5 rfl).trans (perm_front 5 rfl)).trans (perm_front 5 rfl)).trans (perm_front 4 rfl)).trans (perm_front 4 rfl)).trans (perm_front 5 rfl)))
 obtain ⟨β1,sb,kn,hw1,back⟩ := St.frame (L := [_]) (M := _ :: _ :: _ :: _ :: _ :: []) hw
 refine (supplyV_ok β1 w Hb Jb X dnb hw1).mono ?_
 rintro e w' ⟨rfl,hw'⟩
 refine ⟨_,rfl,_,back _ _ hw',?_⟩
 clear hw hw1 hw' back kn sb
 refine g_val (v := .bool false) rfl rfl rfl rfl rfl (ev_f (fun q => q rfl) (e_neq_t (xs := amE X.s.su) (ys := amE X.s.su) tt12 tt13 tt14 rfl rfl rfl rfl (not_congr (am_eq (x := X.s.su) (y := X.s.su))))) ?_
 refine lE okfb (lnf (c_no rfl (csk (cs2 (c_region (lE oms (lE oln (lE omi (lnf (c_block (c_mask [true,true,false,false,true,true] rfl ?_)))))))))))
 refine c_loop (fun (k : Nat) f L => (f 0 = pp Ha 0 ∧ f 1 = pp Hb 0 ∧ f 5 = sB p1 (holdsX X) c2 ∧ f 6 = sB p3 (holdsX X) c4 ∧ f 42 = Nx ((holdsX X).length) ∧ f 43 = Nx (k)) ∧ L = [viewR Hb Jb X dnb,viewR Ha Ja X dna,rowF HoF 104 p3 c4 (holdsX X),rowF HoF 104 p1 c2 (holdsX X)] ∧ (k ≤ (holdsX X).length)) (fun k => (holdsX X).length - k) 0 ?_ ?_
 ·exact ⟨⟨rfl,rfl,rfl,rfl,rfl,rfl⟩,rfl,Nat.zero_le _⟩
 rintro k f0 L0 ⟨⟨hs0,hs1,hs5,hs6,hs42,hs43⟩,hL,hk⟩
 subst L0
 refine rbs 0 hs0 (rbs 1 hs1 (rbs 5 hs5 (rbs 6 hs6 (rbs 42 hs42 (rbs 43 hs43 (csr (lE olt (lnf (c_seq (c_if _ rfl (fun hc9 => ?_) (fun hc9 => ?_)))))))))))
 ·refine csk (c_seq (c_block (csr (lE omi (lE oai (lnf (c_seq (c_quiet (by kernel_rfl) (by kernel_rfl) (qE oms (qE omi ?_))))))))))
  refine q_val (v := .pointer (some ((ba p1).add (k * 6)))) rfl rfl rfl (e_indexFlN 3 (F := HoF) rfl rfl rfl tt116 (by omega) rfl) ?_
  obtain ⟨x10,hx11⟩ : ∃ x_,(holdsX X)[k]? = some x_ := ⟨_,List.getElem?_eq_getElem (by first | omega | decide)⟩
  refine q_val (v := .agg #[Ix (x10.number),Ix (x10.owner),Ix (x10.a.a0),Ix (x10.a.a1),Ix (x10.a.a2),Ix (x10.a.a3)]) rfl rfl rfl (e_load tt43.ok rfl (k_flAt 3 (F := HoF) rfl hx11) rfl) ?_
  refine qE oms (qE omi (q_val (v := .pointer (some ((ba p3).add (k * 6)))) rfl rfl rfl (e_indexFlN 2 (F := HoF) rfl rfl rfl tt116 (by omega) rfl) ?_))
  obtain ⟨x12,hx13⟩ : ∃ x_,(holdsX X)[k]? = some x_ := ⟨_,List.getElem?_eq_getElem (by first | omega | decide)⟩
  refine q_val (v := .agg #[Ix (x12.number),Ix (x12.owner),Ix (x12.a.a0),Ix (x12.a.a1),Ix (x12.a.a2),Ix (x12.a.a3)]) rfl rfl rfl (e_load tt43.ok rfl (k_flAt 2 (F := HoF) rfl hx13) rfl) ?_
  refine q_val (v := .bool false) rfl rfl rfl (ev_f (fun q => q (by have h1 := hx11; rw [hx13] at h1; injection h1 with h1; exact h1.symm)) (e_neq_t (xs := hoE x10) (ys := hoE x12) tt182 tt183 tt184 rfl rfl rfl rfl (not_congr (ho_eq (x := x10) (y := x12))))) ?_
  refine q_nil (f_then (c_no rfl (c_skip (f_block (f_then (c_region (lv (v := Nx (k + 1)) (e_add rfl rfl (i64n (by omega) (by omega))) (lE omi ?_))))))))
  refine l_nil ?_
  exact f_cut ⟨k + 1,⟨⟨rfl,rfl,rfl,rfl,rfl,rfl⟩,rfl,(by omega)⟩,(show (holdsX X).length - (k + 1) < (holdsX X).length - k from by omega)⟩
 refine c_exit (f_then_exit (f_then_exit (f_exit (fts (csr (lE omp (l_call rfl rfl rfl (cl0 (vs := [pp Ha 0]) tt192.ok rfl rfl) ?_)))))))
 intro w hw
 replace hw := hw.perm (L' := _ :: _ :: _ :: _ :: []) (by exact ((((perm_front 3 rfl).trans (perm_front 3 rfl)).trans (perm_front 2 rfl)).trans (perm_front 3 rfl)))
 obtain ⟨β1,sb,kn,hw1,back⟩ := St.frame (L := [_]) (M := _ :: _ :: _ :: []) hw
 refine (ownersV_ok β1 w Ha Ja X dna hw1).mono ?_
 rintro e w' ⟨p14,c15,rfl,hw'⟩
 refine ⟨_,rfl,_,back _ _ hw',?_⟩
 clear hw hw1 hw' back kn sb
 refine lE oln (lE omi (lnf (c_block (c_mask [true,true,true,false,false] rfl ?_))))
 refine c_loop (fun (k : Nat) f L => (f 0 = pp Ha 0 ∧ f 1 = pp Hb 0 ∧ f 57 = sB p14 (ownersX X) c15 ∧ f 58 = Nx ((ownersX X).length) ∧ f 59 = Nx (k)) ∧ L = [rowF IntF 3 p14 c15 (ownersX X),viewR Ha Ja X dna,viewR Hb Jb X dnb] ∧ (k ≤ (ownersX X).length)) (fun k => (ownersX X).length - k) 0 ?_ ?_
 ·exact ⟨⟨rfl,rfl,rfl,rfl,rfl⟩,rfl,Nat.zero_le _⟩
 rintro k f0 L0 ⟨⟨hs0,hs1,hs57,hs58,hs59⟩,hL,hk⟩
 subst L0
 refine rbs 0 hs0 (rbs 1 hs1 (rbs 57 hs57 (rbs 58 hs58 (rbs 59 hs59 (csr (lE olt (lnf (c_seq (c_if _ rfl (fun hc16 => ?_) (fun hc16 => ?_))))))))))
 ·refine csk (c_seq (c_block (csr (lv (v := .pointer (some ((ba p14).add (k * 1)))) (e_indexFlN 0 (F := IntF) rfl rfl rfl tt29 (by omega) rfl) ?_))))
  obtain ⟨x17,hx18⟩ : ∃ x_,(ownersX X)[k]? = some x_ := ⟨_,List.getElem?_eq_getElem (by first | omega | decide)⟩
  refine lv (v := Ix (x17)) (e_load1 tt2.ok rfl (k_flAt 0 (F := IntF) rfl hx18)) (lE oai (lnc (lE omp (lE omi ?_))))
  refine l_call rfl rfl rfl (cl0 (vs := [pp Ha 0,Ix (x17)]) tt178.ok rfl rfl) ?_
  intro w hw
  replace hw := hw.perm (L' := _ :: _ :: _ :: []) (by exact (((perm_front 2 rfl).trans (perm_front 1 rfl)).trans (perm_front 2 rfl)))
  obtain ⟨β1,sb,kn,hw1,back⟩ := St.frame (L := [_]) (M := _ :: _ :: []) hw
  refine (purseV_ok β1 w Ha Ja X dna hw1 x17).mono ?_
  rintro e w' ⟨rfl,hw'⟩
  refine ⟨_,rfl,_,back _ _ hw',?_⟩
  clear hw hw1 hw' back kn sb
  refine lE omp (lE omi (l_call rfl rfl rfl (cl0 (vs := [pp Hb 0,Ix (x17)]) tt178.ok rfl rfl) ?_))
  intro w hw
  replace hw := hw.perm (L' := _ :: _ :: _ :: []) (by exact (((perm_front 1 rfl).trans (perm_front 1 rfl)).trans (perm_front 2 rfl)))
  obtain ⟨β1,sb,kn,hw1,back⟩ := St.frame (L := [_]) (M := _ :: _ :: []) hw
  refine (purseV_ok β1 w Hb Jb X dnb hw1 x17).mono ?_
  rintro e w' ⟨rfl,hw'⟩
  refine ⟨_,rfl,_,back _ _ hw',?_⟩
  clear hw hw1 hw' back kn sb
  refine lv (v := .bool false) (ev_f (fun q => q rfl) (e_neq_t (xs := amE (puA X.s.ps x17)) (ys := amE (puA X.s.ps x17)) tt12 tt13 tt14 rfl rfl rfl rfl (not_congr (am_eq (x := (puA X.s.ps x17)) (y := (puA X.s.ps x17)))))) ?_
  refine lnf (c_no rfl (c_skip (f_block (f_then (c_region (lv (v := Nx (k + 1)) (e_add rfl rfl (i64n (by omega) (by omega))) (lE omi (l_nil ?_))))))))
  refine f_perm (L' := [rowF IntF 3 p14 c15 (ownersX X),viewR Ha Ja X dna,viewR Hb Jb X dnb]) (perm_ix [2,1,0] 3 rfl (by kernel_rfl) (by kernel_rfl)) ?_
  exact f_cut ⟨k + 1,⟨⟨rfl,rfl,rfl,rfl,rfl⟩,rfl,(by omega)⟩,(show (ownersX X).length - (k + 1) < (ownersX X).length - k from by omega)⟩
 refine c_exit (f_then_exit (f_then_exit (f_exit (fts (csr (lE oai (lnf (c_block (c_mask [false,true,true] rfl ?_)))))))))
 refine c_loop (fun (au : Int) f L => (f 0 = pp Ha 0 ∧ f 1 = pp Hb 0 ∧ f 10 = Ix (au)) ∧ L = [viewR Ha Ja X dna,viewR Hb Jb X dnb] ∧ ((1 : Int) ≤ au ∧ au ≤ 6)) (fun au => (6 - au).toNat) 1 ?_ ?_
 ·exact ⟨⟨rfl,rfl,rfl⟩,rfl,⟨by decide,by decide⟩⟩
 rintro au f0 L0 ⟨⟨hs0,hs1,hs10⟩,hL,hau⟩
 subst L0
 refine rbs 0 hs0 (rbs 1 hs1 (rbs 10 hs10 (cs2 (c_region (lE omi (lE ole (lnf (c_if _ rfl (fun hc19 => ?_) (fun hc19 => ?_)))))))))
 ·refine csk (c_seq (c_block (csr (lE omp (lE omi (l_call rfl rfl rfl (cl0 (vs := [pp Ha 0,Ix (au)]) tt193.ok rfl rfl) ?_))))))
  intro w hw
  replace hw := hw.perm (L' := _ :: _ :: []) (by exact ((perm_front 1 rfl).trans (perm_front 1 rfl)))
  obtain ⟨β1,sb,kn,hw1,back⟩ := St.frame (L := [_]) (M := _ :: []) hw
  refine (lastV_eq β1 w Ha Ja X dna hw1 au rfl).mono ?_
  rintro e w' ⟨p20,c21,rfl,hw'⟩
  refine ⟨_,rfl,_,back _ _ hw',?_⟩
  clear hw hw1 hw' back kn sb
  refine lE omt (lE oxi (lE oxa (lE oxb (alE fun b22 => lE oai ?_))))
  refine lu (mS 0 (#[.bool ((lastX X au).2.1.done),Ix ((lastX X au).2.1.at_),Ix ((lastX X au).2.1.e),sB p20 ((lastX X au).2.1.holds) c21])) (lE oab ?_)
  refine lnc (lE omp (lE omi (l_call rfl rfl rfl (cl0 (vs := [pp Hb 0,Ix (au)]) tt193.ok rfl rfl) ?_)))
  intro w hw
  replace hw := hw.perm (L' := _ :: _ :: _ :: _ :: []) (by exact ((((perm_front 2 rfl).trans (perm_front 2 rfl)).trans (perm_front 2 rfl)).trans (perm_front 3 rfl)))
  obtain ⟨β1,sb,kn,hw1,back⟩ := St.frame (L := [_]) (M := _ :: _ :: _ :: []) hw
  refine (lastV_eq β1 w Hb Jb X dnb hw1 au rfl).mono ?_
  rintro e w' ⟨p23,c24,rfl,hw'⟩
  refine ⟨_,rfl,_,back _ _ hw',?_⟩
  clear hw hw1 hw' back kn sb
  refine lE omt (lE oxi (lE oxa (lE oxb (alE fun b25 => lE oai ?_))))
  refine lu (mS 0 (#[.bool ((lastX X au).2.1.done),Ix ((lastX X au).2.1.at_),Ix ((lastX X au).2.1.e),sB p23 ((lastX X au).2.1.holds) c24])) (lE oab ?_)
  refine lnc (lE omi (lE omi (lv (v := .bool false) (ev_f (fun q => q rfl) (e_neq (a := ((lastX X au).1)) (b := ((lastX X au).1)) rfl rfl)) (lE omb ?_))))
  refine gE omb (gE omb ?_)
  refine g_val (v := .bool false) rfl rfl rfl rfl rfl (ev_b (c := false) (show (!(((lastX X au).2.2) == ((lastX X au).2.2))) = false by simp) (e_neq_b (a := (lastX X au).2.2) (b := (lastX X au).2.2) rfl rfl tt173)) ?_
  refine lE okfb (lE omb (gE (olg 3) (gE (olg 0) ?_)))
  refine g_call rfl rfl rfl rfl rfl (cl0 (vs := [.agg #[.bool ((lastX X au).2.1.done),Ix ((lastX X au).2.1.at_),Ix ((lastX X au).2.1.e),sB p20 ((lastX X au).2.1.holds) c21],.agg #[.bool ((lastX X au).2.1.done),Ix ((lastX X au).2.1.at_),Ix ((lastX X au).2.1.e),sB p23 ((lastX X au).2.1.holds) c24]]) tt194.ok rfl rfl) ?_
  intro w hw
  obtain ⟨β1,sb,kn,hw1,back⟩ := St.frame_all hw
  refine (samer_ok β1 w hw1 (lastX X au).2.1.done (lastX X au).2.1.done ((lastX X au).2.1.at_) ((lastX X au).2.1.at_) ((lastX X au).2.1.e) ((lastX X au).2.1.e) _ _ ((lastX X au).2.1.holds) ((lastX X au).2.1.holds) (kn _ (k_flN 4 (F := IntF) (m := ((lastX X au).2.1.holds).length) rfl rfl)) (kn _ (k_flN 1 (F := IntF) (m := ((lastX X au).2.1.holds).length) rfl rfl)) ⟨rfl,rfl,rfl,rfl⟩).mono ?_
  rintro e w' ⟨rfl,hw'⟩
  refine ⟨_,rfl,_,back _ _ hw',?_⟩
  clear hw hw1 hw' back kn sb
  refine gE ont (lE okfb (lnf (c_no rfl (c_skip (f_block (f_then (c_region (lE omi (lE opl (lE oai (l_nil ?_)))))))))))
  refine f_perm (L' := [viewR Ha Ja X dna,viewR Hb Jb X dnb,pt b25 (.cells #[.bool ((lastX X au).2.1.done),Ix ((lastX X au).2.1.at_),Ix ((lastX X au).2.1.e),sB p23 ((lastX X au).2.1.holds) c24] 37),rowF IntF 3 p23 c24 ((lastX X au).2.1.holds),pt b22 (.cells #[.bool ((lastX X au).2.1.done),Ix ((lastX X au).2.1.at_),Ix ((lastX X au).2.1.e),sB p20 ((lastX X au).2.1.holds) c21] 37),rowF IntF 3 p20 c21 ((lastX X au).2.1.holds)]) (perm_ix [5,2,0,1,3,4] 6 rfl (by kernel_rfl) (by kernel_rfl)) ?_
  refine f_mask [true,true,false,false,false,false] rfl ?_
  exact f_cut ⟨au + 1,⟨⟨rfl,rfl,rfl⟩,rfl,(by omega)⟩,(show (6 - (au + 1)).toNat < (6 - au).toNat from by omega)⟩
 refine c_exit (f_then_exit (f_then_exit (f_exit (ftc (lE oab (lnf (c_ret (ret1 Tryz.results31 rfl ?_))))))))
 intro w hw
 exact ⟨rfl,hw⟩
end Go.Proofs
