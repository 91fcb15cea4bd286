/-
 TradeKept: walked. Printed by a program of my own.
-/
import Derived.Test.YtjejfkajcbdgjaaGreatTdPow
import Derived.Test.YtjejfkajcbdgjaaGreatSlA
import Derived.Test.YtjejfkajcbdgjaaGreatSlN
namespace Go.Proofs
open Go Go.Sl Go.Td Go.Jn
instance tv207 : CfC Tryz.prog 29 := ⟨by kernel_rfl⟩
set_option maxHeartbeats 4000000 in
theorem keptL_ok (β : Base) (w : World) (hw : St β [] w) (v : Value) (l : List TOp) (hs : Sl TOpR β.heap v l) : Ret Tryz.prog 7 #[v] β w (.bool true) := by
 obtain ⟨va,vc,rfl,vl,vm,ve⟩ := hs.get
 refine enter (n := 203) Tryz.func7 rfl Tryz.ntmps7 rfl ?_ hw
 refine csr (lE oab (lnc ?_))
 refine lv (v := .agg #[.slice none 0 0,.slice none 0 0,.slice none 0 0,.int .i64 (-1)]) (e_build tt176.ok tt175 (vs := [(3,.int .i64 (-1))]) (cells := #[.slice none 0 0,.slice none 0 0,.slice none 0 0,.int .i64 (-1)]) rfl rfl) ?_
 refine bxa fun b1 => ?_
 refine lE oap (lnc (lE omp (l_call rfl rfl rfl (cl0 (vs := [pp b1 0]) tt195.ok rfl rfl) ?_)))
 intro w hw
 replace hw := hw.perm (L' := _ :: []) (by exact (perm_front 0 rfl))
 obtain ⟨β1,sb,kn,hw1,back⟩ := St.frame (L := [_]) (M := []) hw
 refine (opened_new β1 w b1 (-1) hw1 (by decide)).mono ?_
 rintro e w' ⟨H2,rfl,hw'⟩
 refine ⟨_,rfl,_,back _ _ hw',?_⟩
 clear hw hw1 hw' back kn sb
 refine lE omt (lE oxp (lE oxb (lE oap (lE oab (lnf (cs2 (c_region (lE omb (lE ont (lnf (c_no rfl (csk (csr (alE fun b3 => lnf (cs2 ?_)))))))))))))))
 refine c_pi [1,0] 2 rfl (by kernel_rfl) (c_closeP rfl (c_region (lE oms (lE oms (lE oln ?_)))))
 refine lv (v := Nx (min l.length 60)) (ev_eq (congrArg (Value.int .i64) (by omega)) (e_min (a := ((l.length : Nat) : Int)) (b := (60 : Int)) rfl rfl)) ?_
 obtain ⟨zs4,hz5⟩ : ∃ zs,zs = (l.take (min l.length 60)) := ⟨_,rfl⟩
 have zl6 : zs4.length = min (min l.length 60) (l).length - 0 := by rw [hz5]; simp; try omega
 have ze7 := (Elems.take (min l.length 60) ve)
 rw [← hz5] at ze7
 refine lv (v := .slice va (zs4.length) (vc)) (ev_eq (by rw [show zs4.length = min l.length 60 by omega]) (e_slice_hi (a := va) (len := l.length) (cap := vc) (h := min l.length 60) tt197 rfl rfl (by omega))) ?_
 refine lE oln (lE omi (lnf (c_block (c_mask [true,true] rfl ?_))))
 refine c_loop (fun (x_ : Nat × KHs × Nat) f L => match x_ with | (i,X,H) => (f 3 = pp b1 0 ∧ f 4 = pp H 0 ∧ f 5 = .bool true ∧ f 6 = pp b3 0 ∧ f 31 = sB va zs4 (vc) ∧ f 32 = Nx (zs4.length) ∧ f 33 = Nx (i)) ∧ L = [houseP H b1 X i (262638 * i),pt b3 (.cells (amC X.s.su) 44)] ∧ (i ≤ zs4.length ∧ NumOk X ((1 + i : Nat) : Int))) (fun (i,X,H) => zs4.length - i) (0,freshX,H2) ?_ ?_
 ·exact ⟨⟨rfl,rfl,rfl,rfl,rfl,rfl,rfl⟩,rfl,⟨Nat.zero_le _,NumOk.fresh _⟩⟩
 rintro ⟨i,X,H⟩ f0 L0 ⟨⟨hs3,hs4,hs5,hs6,hs31,hs32,hs33⟩,hL,⟨hi,hno⟩⟩
 subst L0
 refine rbs 3 hs3 (rbs 4 hs4 (rbs 5 hs5 (rbs 6 hs6 (rbs 31 hs31 (rbs 32 hs32 (rbs 33 hs33 (csr (lE olt (lnf (c_seq ?_))))))))))
 refine c_if _ rfl (fun hc8 => ?_) (fun hc8 => ?_)
 ·refine csk (c_seq (c_block (csr (lE omi ?_))))
  obtain ⟨x9,hx10⟩ := getx zs4 i (by omega)
  obtain ⟨ha11,cs12,hc13,hr14⟩ := ze7 _ _ hx10
  obtain ⟨ho17,v15,rfl,hv16⟩ := hr14
  obtain ⟨a18,c19,rfl,hl20,hm21,he22⟩ := (hv16).get
  refine lE (oia tt197 ha11) (lv (v := .agg #[Bx (x9.kind),Ix (x9.author),Ix (x9.number),sB a18 x9.acts (c19)]) (e_load tt170.ok rfl (kB hc13) rfl) ?_)
  refine alE fun b23 => lE oai (lu (mS 0 (#[Bx (x9.kind),Ix (x9.author),Ix (x9.number),sB a18 x9.acts (c19)])) (lnf (cs2 (c_region (lE ofp ?_)))))
  refine lE (oli 0) ?_
  refine lv (v := Bx (x9.kind % 8)) (e_rem (a := ((x9.kind).toNat : Int)) (b := (((8 : UInt8)).toNat : Int)) rfl rfl (by decide) (bx_rem _ _)) ?_
  refine lE oeq_ ?_
  refine l_and4 (decide (((x9.kind % 8).toNat : Int) = (7 : Int))) (decide ((Int.tmod (x9.number) 2) ≠ (0 : Int))) rfl (fun hb24 hk24 => ?_) (fun z26 z27 z28 z29 => ?_)
  ·have hb24p := of_decide_eq_true hb24
   refine gE ofp (gE (oli 0) ?_)
   have htm24 := tmod_bd (x9.number) (n := 2) (by decide)
   refine g_val (v := Ix (Int.tmod (x9.number) 2)) rfl rfl rfl rfl rfl (e_rem (a := (x9.number)) (b := (2 : Int)) rfl rfl (by omega) rfl) (gE onq ?_)
   refine lE oktb ?_
   exact hk24 _ _ _ _
  refine lnf ?_
  refine c_ifb (((decide (((x9.kind % 8).toNat : Int) = (7 : Int))) && (decide ((Int.tmod (x9.number) 2) ≠ (0 : Int))))) rfl (fun hc30 => ?_) (fun hc30 => ?_)
  ·refine c_seq (c_pi [1,0,2] 3 rfl (by kernel_rfl) (c_openP rfl (fun q => ?_)))
   refine c_openHouse rfl (fun J mp mh mm s ms zs i2 k hk hpw => ?_)
   refine c_pi [2,0,1,3,4,5,6,7,8] 9 rfl (by kernel_rfl) (c_openStore rfl (fun pH31 pA32 pB33 cH34 cA35 cB36 => ?_))
   have hpk := pickN_bd x9.number (n := 400) (by decide)
   refine c_region (lE omp (lE ofp (lE (oli 10) ?_)))
   have hpk36 := pickN_bd (x9.number) (n := 400) (by decide)
   refine lcR clA (fun w β1 sb kn hw1 => pick_ok β1 w hw1 (x9.number) 400 (by decide)) (lE onp (lE ofp ?_))
   refine lu (mS 0 (#[sB pH31 k.head cH34,sB pA32 k.a cA35,sB pB33 k.b cB36,Ix (pickN (x9.number) 400)])) (lnf ?_)
   refine c_closeStore (S := b1) (k := { k with power := pickN (x9.number) 400 }) (pH := pH31) (pA := pA32) (pB := pB33) (cH := cH34) (cA := cA35) (cB := cB36) (M := [pt H (.cells #[pp J 0,.map (some mp),.map (some mh),Ix (s.last),Ix (s.su.a0),Ix (s.su.a1),Ix (s.su.a2),Ix (s.su.a3),.map (some mm),.bool false] 91),jourR J b1 i2 false,mpR PuM mp s.ps,mpR HoM mh s.hs,mpR MeM mm ms,memR zs,pt b23 (.cells #[Bx (x9.kind),Ix (x9.author),Ix (x9.number),sB a18 x9.acts (c19)] 32),pt b3 (.cells (amC X.s.su) 44)]) rfl ?_
   refine c_pi [1,2,0,3,4,5,6,7,8] 9 rfl (by kernel_rfl) ?_
   refine c_closeHouse (M := [pt b23 (.cells #[Bx (x9.kind),Ix (x9.author),Ix (x9.number),sB a18 x9.acts (c19)] 32),pt b3 (.cells (amC X.s.su) 44)]) rfl ⟨hk.eq,hk.so.pow (p := pickN (x9.number) 400) (by omega) (by omega),hk.mm⟩ (p := pickN (x9.number) 400) rfl ?_
   refine c_closeP rfl (c_exit (f_then_exit (f_exit (f_then (c_region (lv (v := Nx (i + 1)) (e_add rfl rfl (i64n (by omega) (by omega))) (lE omi ?_)))))))
   refine l_nil (f_houPLe (M := i + 1) (V := 262638 * (i + 1)) 0 rfl (by omega) (by omega) (f_mask [true,false,true] rfl ?_))
   exact f_cut ⟨(i + 1,X,H),⟨⟨rfl,rfl,rfl,rfl,rfl,rfl,rfl⟩,rfl,⟨by omega,hno.le (by omega)⟩⟩,(show zs4.length - (i + 1) < zs4.length - i from by omega)⟩
  refine csk (cs2 (c_region (lE ofp (lE (oli 0) ?_))))
  refine lv (v := Bx (x9.kind % 8)) (e_rem (a := ((x9.kind).toNat : Int)) (b := (((8 : UInt8)).toNat : Int)) rfl rfl (by decide) (bx_rem _ _)) ?_
  refine lE oeq_ (lnf (c_if _ rfl (fun hc38 => ?_) (fun hc38 => ?_)))
  ·refine cs2 (c_pi [1,0,2] 3 rfl (by kernel_rfl) (c_leaveP rfl (c_region (lE omp (l_call rfl rfl rfl (cl0 (vs := [pp b1 0]) tt195.ok rfl rfl) ?_)))))
   intro w hw
   replace hw := hw.perm (L' := _ :: _ :: _ :: []) (by exact (((perm_front 2 rfl).trans (perm_front 2 rfl)).trans (perm_front 2 rfl)))
   obtain ⟨β1,sb,kn,hw1,back⟩ := St.frame (L := [_]) (M := _ :: _ :: []) hw
   refine (openedS_ok β1 w b1 i (262638 * i) X hw1 (by omega)).mono ?_
   rintro e w' ⟨H39,rfl,hw'⟩
   refine ⟨_,rfl,_,back _ _ hw',?_⟩
   clear hw hw1 hw' back kn sb
   refine lE omt (lE oxp (lE oxb (lE oap (lE oab (lnf (c_seq ?_))))))
   refine cnz [sv 63 (.bool true) [] [] [0],sv 64 (.bool false) [0] [0] [],sv 65 (.bool false) [0,1] [1] [],sv 66 (pp H39 0) [0,1,2] [2] [1],sv 67 (.bool true) [0,1,2,3] [3,2] [],sv 68 (.bool false) [0,1,2,3,4] [4,2] [],sv 69 (.bool false) (List.range 6) [2,5] [],sv 70 (.bool false) (List.range 7) [6] [],sv 71 (pp H39 0) (List.range 8) [7] [1],sv 72 (.agg (amC X.s.su)) (List.range 9) [8,7] [],sv 73 (.agg (amC X.s.su)) (List.range 8) [7] [2],sv 74 (.bool false) (List.range 11) [9,10,7] [],sv 75 (.bool false) (List.range 12) [7,11] []] [u1 [4,9],u0,u1 [10]] [] [(5,.bool true),(4,pp H39 0),(6,pp b3 0),(3,pp b1 0),(31,sB va zs4 (vc)),(32,Nx (zs4.length)),(33,Nx (i))] [3,1,0,2,4,5,6] ⟨rfl,rfl,rfl,rfl,rfl,rfl,rfl,trivial⟩ ⟨?_,?_,?_,?_,?_,?_,?_,?_,?_,?_,?_,?_,?_,trivial⟩ ?_
   ·rintro f M - ⟨i0,-⟩
    exact obE omb
   ·rintro f M ⟨k0,-⟩ -
    exact obE ont
   ·rintro f M ⟨k0,-⟩ -
    exact obE omb
   ·rintro f M ⟨k0,-⟩ ⟨i0,-⟩
    exact obG omp
   ·rintro f M ⟨k0,k1,-⟩ -
    refine obS (up_cons (d := 65) (up_cons (d := 66) rfl k0) k1) ?_
    refine g_call rfl rfl rfl rfl rfl (cl0 (vs := [pp H39 0]) tv207.ok rfl rfl) ?_
    intro w hw
    replace hw := hw.perm (L' := _ :: M) (by exact (perm_front 0 rfl))
    obtain ⟨β1,sb,kn,hw1,back⟩ := St.frame (L := [_]) (M := M) hw
    refine (keptP_ok β1 w H39 b1 i (262638 * i) X hw1).mono ?_
    rintro e w' ⟨rfl,hw'⟩
    refine ⟨_,rfl,_,back _ _ hw',?_⟩
    clear hw hw1 hw' back kn sb
    refine l_nil ?_
    exact f_owes_d (up_cons (d := 65) (up_cons (d := 66) rfl k0) k1) rfl (perm_front 0 rfl)
   ·rintro f M ⟨k0,k1,-⟩ -
    exact obG ont
   ·rintro f M ⟨k0,k1,-⟩ -
    exact obE okfb
   ·rintro f M ⟨k0,-⟩ -
    exact obE omb
   ·rintro f M ⟨k0,-⟩ ⟨i0,-⟩
    exact obG omp
   ·rintro f M ⟨k0,k1,-⟩ -
    refine obS (up_cons (d := 70) (up_cons (d := 71) rfl k0) k1) ?_
    refine g_call rfl rfl rfl rfl rfl (cl0 (vs := [pp H39 0]) tt179.ok rfl rfl) ?_
    intro w hw
    replace hw := hw.perm (L' := _ :: M) (by exact (perm_front 0 rfl))
    obtain ⟨β1,sb,kn,hw1,back⟩ := St.frame (L := [_]) (M := M) hw
    refine (supplyP_ok β1 w H39 b1 i (262638 * i) X hw1).mono ?_
    rintro e w' ⟨rfl,hw'⟩
    refine ⟨_,rfl,_,back _ _ hw',?_⟩
    clear hw hw1 hw' back kn sb
    refine l_nil ?_
    exact f_owes_d (up_cons (d := 70) (up_cons (d := 71) rfl k0) k1) rfl (perm_front 0 rfl)
   ·rintro f M ⟨k0,-⟩ ⟨i0,-⟩
    exact obG (olg 0)
   ·rintro f M ⟨k0,k1,k2,-⟩ -
    exact obg (L' := M) (v := .bool false) (up_cons (d := 70) (up_cons (d := 73) (up_cons (d := 72) rfl k0) k1) k2) (ev_f (fun q => q rfl) (e_neq_t (xs := amE X.s.su) (ys := amE X.s.su) tt12 tt13 tt14 rfl rfl rfl rfl (not_congr (am_eq (x := X.s.su) (y := X.s.su))))) rfl rfl rfl rfl (.refl _) (by rfl)
   ·rintro f M ⟨k0,k1,-⟩ -
    exact obE okfb
   rintro fa40 ⟨-,-,-,-,-,-,-,-,-,-,-,-,k12,-⟩ ⟨j0,j1,j2,j3,j4,j5,j6,-⟩
   refine fre ?_
   refine f_rebase (d := 3) j0 (f_rebase (d := 4) j1 (f_rebase (d := 5) j2 (f_rebase (d := 6) j3 (f_rebase (d := 31) j4 (f_rebase (d := 32) j5 ?_)))))
   refine f_rebase (d := 33) j6 (f_rebase (d := 75) k12 (f_then (c_no rfl (csk (c_exit (f_then_exit (f_exit (f_then (c_region ?_)))))))))
   refine lv (v := Nx (i + 1)) (e_add rfl rfl (i64n (by omega) (by omega))) (lE omi (l_nil ?_))
   refine f_houPLe (M := i + 1) (V := 262638 * (i + 1)) 0 rfl (by omega) (by omega) (f_mask [true,false,true] rfl ?_)
   exact f_cut ⟨(i + 1,X,H39),⟨⟨rfl,rfl,rfl,rfl,rfl,rfl,rfl⟩,rfl,⟨by omega,hno.le (by omega)⟩⟩,(show zs4.length - (i + 1) < zs4.length - i from by omega)⟩
  refine csk (cs2 (c_region (lE ofp (lE (oli 0) ?_))))
  refine lv (v := Bx (x9.kind % 8)) (e_rem (a := ((x9.kind).toNat : Int)) (b := (((8 : UInt8)).toNat : Int)) rfl rfl (by decide) (bx_rem _ _)) ?_
  refine lE oeq_ (lnf (c_if _ rfl (fun hc41 => ?_) (fun hc41 => ?_)))
  ·refine c_seq_cut (fun (f : Fm) (L : List Res) => ∃ (H2 : Nat),(f 3 = pp b1 0 ∧ f 4 = pp H2 0 ∧ f 5 = .bool true ∧ f 6 = pp b3 0 ∧ f 31 = sB va zs4 (vc) ∧ f 32 = Nx (zs4.length) ∧ f 33 = Nx (i)) ∧ L = [pt b23 (.cells #[Bx (x9.kind),Ix (x9.author),Ix (x9.number),sB a18 x9.acts (c19)] 32),houseP H2 b1 X (i + 1) ((262638 * i) + 262144),pt b3 (.cells (amC X.s.su) 44)] ∧ (True)) ?_ ?_
   ·refine csr (lE omp (l_call rfl rfl rfl (cl0 (vs := [pp H 0]) tt199.ok rfl rfl) ?_))
    intro w hw
    replace hw := hw.perm (L' := _ :: _ :: _ :: []) (by exact (((perm_front 2 rfl).trans (perm_front 1 rfl)).trans (perm_front 2 rfl)))
    obtain ⟨β1,sb,kn,hw1,back⟩ := St.frame (L := [_]) (M := _ :: _ :: []) hw
    refine (compP_ok β1 w H b1 i (262638 * i) X hw1 (by omega) (by omega)).mono ?_
    rintro e w' ⟨ec42,rfl,hw'⟩
    refine ⟨_,rfl,_,back _ _ hw',?_⟩
    clear hw hw1 hw' back kn sb
    refine lE oai (lnc (lE omi (lE onq (lnf (c_if _ rfl (fun hc43 => ?_) (fun hc43 => ?_))))))
    ·refine c_seq ?_
     refine c_endBad (M := [pt b23 (.cells #[Bx (x9.kind),Ix (x9.author),Ix (x9.number),sB a18 x9.acts (c19)] 32),pt b3 (.cells (amC X.s.su) 44)]) hc43 rfl (fun he310 => ?_)
     refine c_region (lE omp (l_call rfl rfl rfl (cl0 (vs := [pp b1 0]) tt195.ok rfl rfl) ?_))
     intro w hw
     replace hw := hw.perm (L' := _ :: _ :: _ :: []) (by exact (((perm_front 2 rfl).trans (perm_front 2 rfl)).trans (perm_front 2 rfl)))
     obtain ⟨β1,sb,kn,hw1,back⟩ := St.frame (L := [_]) (M := _ :: _ :: []) hw
     refine (openedS_ok β1 w b1 (i + 1) ((262638 * i) + 262144) X hw1 (by omega)).mono ?_
     rintro e w' ⟨H44,rfl,hw'⟩
     refine ⟨_,rfl,_,back _ _ hw',?_⟩
     clear hw hw1 hw' back kn sb
     refine lE omt (lE oxp (lE oxb (lE oap (lE oab (lnc (lE omi ?_))))))
     refine lv (v := .bool false) (ev_f (fun q => q he310) (e_neq (a := (ec42)) (b := (310 : Int)) rfl rfl)) (lE omb (gE omb (gE ont (lE okfb (lnf ?_)))))
     refine c_no rfl (c_skip (fpn [1,0,2] 3 ?_))
     exact f_cut ⟨H44,⟨rfl,rfl,rfl,rfl,rfl,rfl,rfl⟩,rfl,trivial⟩
    refine c_endGood (M := [pt b23 (.cells #[Bx (x9.kind),Ix (x9.author),Ix (x9.number),sB a18 x9.acts (c19)] 32),pt b3 (.cells (amC X.s.su) 44)]) (Decidable.not_not.1 hc43) rfl ?_
    refine c_skip (fpn [1,0,2] 3 ?_)
    exact f_cut ⟨H,⟨rfl,rfl,rfl,rfl,rfl,rfl,rfl⟩,rfl,trivial⟩
   rintro f0 L0 ⟨H2,⟨hs3,hs4,hs5,hs6,hs31,hs32,hs33⟩,hL,-⟩
   subst L0
   refine rbs 3 hs3 (rbs 4 hs4 (rbs 5 hs5 (rbs 6 hs6 (rbs 31 hs31 (rbs 32 hs32 (rbs 33 hs33 (cs2 ?_)))))))
   refine cnz [sv 95 (pp H2 0) [] [] [0],sv 96 (.bool true) [0] [0] [],sv 97 (.bool false) [0,1] [1] [],sv 98 (.bool false) [0,1,2] [2] [],sv 99 (pp H2 0) [0,1,2,3] [3] [0],sv 100 (.agg (amC X.s.su)) [0,1,2,3,4] [4,3] [],sv 101 (.agg (amC X.s.su)) [0,1,2,3] [3] [1],sv 102 (.bool false) (List.range 7) [5,6,3] [],sv 103 (.bool false) (List.range 8) [3,7] []] [u0,u1 [1,5],u1 [6]] [] [(4,pp H2 0),(6,pp b3 0),(3,pp b1 0),(5,.bool true),(31,sB va zs4 (vc)),(32,Nx (zs4.length)),(33,Nx (i))] [2,0,3,1,4,5,6] ⟨rfl,rfl,rfl,rfl,rfl,rfl,rfl,trivial⟩ ⟨?_,?_,?_,?_,?_,?_,?_,?_,?_,trivial⟩ ?_
   ·rintro f M - ⟨i0,-⟩
    exact obE omp
   ·rintro f M ⟨k0,-⟩ -
    refine obS (up_cons (d := 95) rfl k0) ?_
    refine l_call rfl rfl rfl (cl0 (vs := [pp H2 0]) tv207.ok rfl rfl) ?_
    intro w hw
    replace hw := hw.perm (L' := _ :: M) (by exact (perm_front 0 rfl))
    obtain ⟨β1,sb,kn,hw1,back⟩ := St.frame (L := [_]) (M := M) hw
    refine (keptP_ok β1 w H2 b1 (i + 1) ((262638 * i) + 262144) X hw1).mono ?_
    rintro e w' ⟨rfl,hw'⟩
    refine ⟨_,rfl,_,back _ _ hw',?_⟩
    clear hw hw1 hw' back kn sb
    refine l_nil ?_
    exact f_owes_d (up_cons (d := 95) rfl k0) rfl (perm_front 0 rfl)
   ·rintro f M ⟨k0,-⟩ -
    exact obE ont
   ·rintro f M ⟨k0,-⟩ -
    exact obE omb
   ·rintro f M ⟨k0,-⟩ ⟨i0,-⟩
    exact obG omp
   ·rintro f M ⟨k0,k1,-⟩ -
    refine obS (up_cons (d := 98) (up_cons (d := 99) rfl k0) k1) ?_
    refine g_call rfl rfl rfl rfl rfl (cl0 (vs := [pp H2 0]) tt179.ok rfl rfl) ?_
    intro w hw
    replace hw := hw.perm (L' := _ :: M) (by exact (perm_front 0 rfl))
    obtain ⟨β1,sb,kn,hw1,back⟩ := St.frame (L := [_]) (M := M) hw
    refine (supplyP_ok β1 w H2 b1 (i + 1) ((262638 * i) + 262144) X hw1).mono ?_
    rintro e w' ⟨rfl,hw'⟩
    refine ⟨_,rfl,_,back _ _ hw',?_⟩
    clear hw hw1 hw' back kn sb
    refine l_nil ?_
    exact f_owes_d (up_cons (d := 98) (up_cons (d := 99) rfl k0) k1) rfl (perm_front 0 rfl)
   ·rintro f M ⟨k0,-⟩ ⟨i0,-⟩
    exact obG (olg 0)
   ·rintro f M ⟨k0,k1,k2,-⟩ -
    exact obg (L' := M) (v := .bool false) (up_cons (d := 98) (up_cons (d := 101) (up_cons (d := 100) rfl k0) k1) k2) (ev_f (fun q => q rfl) (e_neq_t (xs := amE X.s.su) (ys := amE X.s.su) tt12 tt13 tt14 rfl rfl rfl rfl (not_congr (am_eq (x := X.s.su) (y := X.s.su))))) rfl rfl rfl rfl (.refl _) (by rfl)
   ·rintro f M ⟨k0,k1,-⟩ -
    exact obE okfb
   rintro fa45 ⟨-,-,-,-,-,-,-,-,k8,-⟩ ⟨j0,j1,j2,j3,j4,j5,j6,-⟩
   refine fre ?_
   refine f_rebase (d := 3) j0 (f_rebase (d := 4) j1 (f_rebase (d := 5) j2 (f_rebase (d := 6) j3 (f_rebase (d := 31) j4 (f_rebase (d := 32) j5 ?_)))))
   refine f_rebase (d := 33) j6 (f_rebase (d := 103) k8 (f_then (c_no rfl (csk (c_exit (f_then_exit (f_exit (f_then (c_region ?_)))))))))
   refine lv (v := Nx (i + 1)) (e_add rfl rfl (i64n (by omega) (by omega))) (lE omi (l_nil ?_))
   refine f_houPLe (M := i + 1) (V := 262638 * (i + 1)) 1 rfl (by omega) (by omega) (f_mask [false,true,true] rfl ?_)
   exact f_cut ⟨(i + 1,X,H2),⟨⟨rfl,rfl,rfl,rfl,rfl,rfl,rfl⟩,rfl,⟨by omega,hno.le (by omega)⟩⟩,(show zs4.length - (i + 1) < zs4.length - i from by omega)⟩
  refine csk (csr (lE (olg 0) (lE omi (lv (v := Nx (1 + i)) (e_add rfl rfl (i64n (by omega) (by omega))) ?_))))
  refine lcf (cl0 (vs := [.agg #[Bx (x9.kind),Ix (x9.author),Ix (x9.number),sB a18 x9.acts (c19)],Nx (1 + i)]) tt198.ok rfl rfl) rfl fun w β1 sb kn hw1 back => (fit_ok β1 w hw1 x9 _ (Sl.mono _ _ _ _ _ sb (⟨⟨_,_,rfl,by omega,by omega,he22⟩⟩ : Sl ActF.R _ _ x9.acts)) ((1 + i : Nat) : Int)).mono ?_
  rintro e w' ⟨p46,c47,rfl,hw'⟩
  refine ⟨_,rfl,_,back _ _ hw',?_⟩
  clear hw1 hw' back kn sb
  refine lu (mS 1 (#[Bx (x9.kind),Ix (fitAu x9),Nx (1 + i),sB p46 (fitL x9) c47])) (lnf (c_seq (c_pi [2,0,1,3] 4 rfl (by kernel_rfl) ?_)))
  refine c_okP rfl (fun hxo => ?_)
  have hfm := fit_formed x9 (n := ((1 + i : Nat) : Int)) (by omega) (by omega)
  have hfb := fit_hb x9
  have hfl := fitL_len x9
  obtain ⟨X1,R,hd,hst⟩ := step_ok hxo hfm hno
  refine c_region (lE omp (lE ofp (lE (oli 2) (lE ofp (lE (oli 2) (lE ofp (lE (ols 2) ?_)))))))
  refine l_call rfl rfl rfl (cl0 (vs := [pp H 0,Ix (fitAu x9),Nx (1 + i),sB p46 (fitL x9) c47]) tt177.ok rfl rfl) ?_
  intro w hw
  replace hw := hw.perm (L' := _ :: _ :: _ :: _ :: []) (by exact ((((perm_front 3 rfl).trans (perm_front 3 rfl)).trans (perm_front 3 rfl)).trans (perm_front 3 rfl)))
  obtain ⟨β1,sb,kn,hw1,back⟩ := St.frame (L := [_]) (M := _ :: _ :: _ :: []) hw
  refine (doP_ok β1 w H b1 i (262638 * i) X hw1 (fitAu x9) ((1 + i : Nat) : Int) _ (fitL x9) (kn _ (k_flN 0 (F := ActF) (m := (fitL x9).length) rfl rfl)) (by omega) hfb (by omega) hd).mono ?_
  rintro e w' ⟨ec50,p48,c49,rfl,hw'⟩
  refine ⟨_,rfl,_,back _ _ hw',?_⟩
  clear hw hw1 hw' back kn sb
  refine lE omt (lE oxa (lE oxi (alE fun b51 => ?_)))
  refine lu (mS 0 (#[.bool ((roE ec50 R).done),Ix ((roE ec50 R).at_),Ix ((roE ec50 R).e),sB p48 ((roE ec50 R).holds) c49])) (lE oai (lnf ?_))
  refine c_seq_cut (fun (f : Fm) (L : List Res) => ∃ (H2 : Nat) (X2 : KHs) (R2 : KRes) (p2 : Option Addr) (c2 : Nat),(f 3 = pp b1 0 ∧ f 4 = pp H2 0 ∧ f 5 = .bool true ∧ f 6 = pp b3 0 ∧ f 8 = pp b23 0 ∧ f 10 = pp b51 0 ∧ f 31 = sB va zs4 (vc) ∧ f 32 = Nx (zs4.length) ∧ f 33 = Nx (i)) ∧ L = [pt b51 (.cells #[.bool (R2.done),Ix (R2.at_),Ix (R2.e),sB p2 R2.holds c2] 37),houseP H2 b1 X2 (i + 1) ((262638 * i) + 494),rowF ActF 47 p46 c47 (fitL x9),pt b23 (.cells #[Bx (x9.kind),Ix (fitAu x9),Nx (1 + i),sB p46 (fitL x9) c47] 32),pt b3 (.cells (amC X.s.su) 44)] ∧ (StepOk X X2 ((1 + i : Nat) : Int) (fitL x9) R2)) ?_ ?_
  ·refine csr (lE omi (lE onq (lnf (c_if _ rfl (fun hc52 => ?_) (fun hc52 => ?_)))))
   ·refine cs2 (c_pi [2,0,1,3,4,5] 6 rfl (by kernel_rfl) ?_)
    refine c_endBad (M := [pt b51 (.cells #[.bool ((roE ec50 R).done),Ix ((roE ec50 R).at_),Ix ((roE ec50 R).e),sB p48 ((roE ec50 R).holds) c49] 37),rowF IntF 3 p48 c49 ((roE ec50 R).holds),rowF ActF 47 p46 c47 (fitL x9),pt b23 (.cells #[Bx (x9.kind),Ix (fitAu x9),Nx (1 + i),sB p46 (fitL x9) c47] 32),pt b3 (.cells (amC X.s.su) 44)]) hc52 rfl (fun he310 => ?_)
    refine c_region (lE omp (l_call rfl rfl rfl (cl0 (vs := [pp b1 0]) tt195.ok rfl rfl) ?_))
    intro w hw
    replace hw := hw.perm (L' := _ :: _ :: _ :: _ :: _ :: _ :: []) (by exact ((((((perm_front 5 rfl).trans (perm_front 5 rfl)).trans (perm_front 5 rfl)).trans (perm_front 5 rfl)).trans (perm_front 5 rfl)).trans (perm_front 5 rfl)))
    obtain ⟨β1,sb,kn,hw1,back⟩ := St.frame (L := [_]) (M := _ :: _ :: _ :: _ :: _ :: []) hw
    refine (openedS_ok β1 w b1 (i + 1) ((262638 * i) + 494) X hw1 (by omega)).mono ?_
    rintro e w' ⟨H53,rfl,hw'⟩
    refine ⟨_,rfl,_,back _ _ hw',?_⟩
    clear hw hw1 hw' back kn sb
    refine lE omt (lE oxp (lE oxb (lE oap (lE oab (lnc (lE omi ?_))))))
    refine lv (v := .bool false) (ev_f (fun q => q he310) (e_neq (a := (ec50)) (b := (310 : Int)) rfl rfl)) (lE omb (gE omb (gE ont (lE okfb (lnf ?_)))))
    refine c_no rfl (csk (csr (lE omp (lE ofp (lE (oli 4) (l_call rfl rfl rfl (cl0 (vs := [pp H53 0,Ix (fitAu x9)]) tt193.ok rfl rfl) ?_))))))
    intro w hw
    replace hw := hw.perm (L' := _ :: _ :: _ :: _ :: _ :: _ :: []) (by exact ((((((perm_front 5 rfl).trans (perm_front 5 rfl)).trans (perm_front 5 rfl)).trans (perm_front 5 rfl)).trans (perm_front 5 rfl)).trans (perm_front 5 rfl)))
    obtain ⟨β1,sb,kn,hw1,back⟩ := St.frame (L := [_]) (M := _ :: _ :: _ :: _ :: _ :: []) hw
    refine (lastP_eq β1 w H53 b1 (i + 1) ((262638 * i) + 494) X hw1 (fitAu x9) rfl).mono ?_
    rintro e w' ⟨p54,c55,rfl,hw'⟩
    refine ⟨_,rfl,_,back _ _ hw',?_⟩
    clear hw hw1 hw' back kn sb
    refine lE omt (lE oxi (lE oxa (lE oxb (alE fun b56 => lE oai ?_))))
    refine lu (mS 0 (#[.bool ((lastX X (fitAu x9)).2.1.done),Ix ((lastX X (fitAu x9)).2.1.at_),Ix ((lastX X (fitAu x9)).2.1.e),sB p54 ((lastX X (fitAu x9)).2.1.holds) c55])) ?_
    refine lE oab (lnc (lE omb ?_))
    refine l_and4 ((lastX X (fitAu x9)).2.2) (decide (((lastX X (fitAu x9)).1) = ((1 + i : Nat) : Int))) rfl (fun hb57 hk57 => ?_) (fun z58 z59 z60 z61 => ?_)
    ·refine gE omi (gE ofp (gE (oli 6) (gE oeq_ (lE oktb ?_))))
     exact hk57 _ _ _ _
    refine lnf (c_ifb ((((lastX X (fitAu x9)).2.2) && (decide (((lastX X (fitAu x9)).1) = ((1 + i : Nat) : Int))))) rfl (fun hc62 => ?_) (fun hc62 => ?_))
    ·rw [(show ((((lastX X (fitAu x9)).2.2) && (decide (((lastX X (fitAu x9)).1) = ((1 + i : Nat) : Int))))) = false from last_lt hno)] at hc62; cases hc62
    refine c_skip (fpn [3,2,5,6,7,0,1,4] 8 ?_)
    refine f_mask [true,true,true,true,true,false,false,false] rfl ?_
    exact f_cut ⟨H53,X,(roE ec50 R),p48,c49,⟨rfl,rfl,rfl,rfl,rfl,rfl,rfl,rfl,rfl⟩,rfl,(by rw [roE_bad he310]; exact step_no hno _)⟩
   refine c_pi [2,0,1,3,4,5] 6 rfl (by kernel_rfl) ?_
   refine c_endGood (M := [pt b51 (.cells #[.bool ((roE ec50 R).done),Ix ((roE ec50 R).at_),Ix ((roE ec50 R).e),sB p48 ((roE ec50 R).holds) c49] 37),rowF IntF 3 p48 c49 ((roE ec50 R).holds),rowF ActF 47 p46 c47 (fitL x9),pt b23 (.cells #[Bx (x9.kind),Ix (fitAu x9),Nx (1 + i),sB p46 (fitL x9) c47] 32),pt b3 (.cells (amC X.s.su) 44)]) (Decidable.not_not.1 hc52) rfl ?_
   refine c_skip (fpn [1,0,3,4,5,2] 6 ?_)
   refine f_mask [true,true,true,true,true,false] rfl ?_
   exact f_cut ⟨H,X1,(roE ec50 R),p48,c49,⟨rfl,rfl,rfl,rfl,rfl,rfl,rfl,rfl,rfl⟩,rfl,(by rw [roE_good (Decidable.not_not.1 hc52)]; exact hst)⟩
  rintro f0 L0 ⟨H2,X2,R2,p2,c2,⟨hs3,hs4,hs5,hs6,hs8,hs10,hs31,hs32,hs33⟩,hL,hst2⟩
  subst L0
  refine rbs 3 hs3 (rbs 4 hs4 (rbs 5 hs5 (rbs 6 hs6 (rbs 8 hs8 (rbs 10 hs10 (rbs 31 hs31 (rbs 32 hs32 (rbs 33 hs33 (cs2 (c_region (lE ofp ?_)))))))))))
  refine lE (ols 3) (lE oln (lE omi (lnf (c_block (c_mask [true,true,true,true,true] rfl ?_)))))
  refine c_loop (fun (x_ : Nat × KAm) f L => match x_ with | (m,su) => (f 3 = pp b1 0 ∧ f 4 = pp H2 0 ∧ f 5 = .bool true ∧ f 6 = pp b3 0 ∧ f 10 = pp b51 0 ∧ f 31 = sB va zs4 (vc) ∧ f 32 = Nx (zs4.length) ∧ f 33 = Nx (i) ∧ f 149 = sB p46 (fitL x9) c47 ∧ f 150 = Nx ((fitL x9).length) ∧ f 151 = Nx (m)) ∧ L = [pt b51 (.cells #[.bool (R2.done),Ix (R2.at_),Ix (R2.e),sB p2 R2.holds c2] 37),houseP H2 b1 X2 (i + 1) ((262638 * i) + 494),rowF ActF 47 p46 c47 (fitL x9),pt b23 (.cells #[Bx (x9.kind),Ix (fitAu x9),Nx (1 + i),sB p46 (fitL x9) c47] 32),pt b3 (.cells (amC su) 44)] ∧ (m ≤ (fitL x9).length ∧ su = supS R2.done ((fitL x9).take m) X.s.su ∧ su.bd (1099511627776 + ((m : Nat) : Int) * 2147483648))) (fun (m,su) => (fitL x9).length - m) (0,X.s.su) ?_ ?_
  ·exact ⟨⟨rfl,rfl,rfl,rfl,rfl,rfl,rfl,rfl,rfl,rfl,rfl⟩,rfl,⟨Nat.zero_le _,supS_nil,sup_bd0 hxo⟩⟩
  rintro ⟨m,su⟩ f0 L0 ⟨⟨hs3,hs4,hs5,hs6,hs10,hs31,hs32,hs33,hs149,hs150,hs151⟩,hL,⟨hm,hsu,hbd⟩⟩
  subst L0
  refine rbs 3 hs3 (rbs 4 hs4 (rbs 5 hs5 (rbs 6 hs6 (rbs 10 hs10 (rbs 31 hs31 (rbs 32 hs32 (rbs 33 hs33 (rbs 149 hs149 (rbs 150 hs150 (rbs 151 hs151 ?_))))))))))
  unfold KAm.bd at hbd
  refine csr (lE olt (lnf (c_seq (c_if _ rfl (fun hc63 => ?_) (fun hc63 => ?_)))))
  ·refine csk (c_seq (c_block (csr (lv (v := .pointer (some ((ba p46).add (m * 8)))) (e_indexFlN 2 (F := ActF) rfl rfl rfl tt16 (by omega) rfl) ?_))))
   obtain ⟨x64,hx65⟩ : ∃ x_,(fitL x9)[m]? = some x_ := ⟨_,List.getElem?_eq_getElem (by first | omega | decide)⟩
   refine lv (v := .agg #[Bx (x64.kind),Ix (x64.owner),Ix (x64.other),Ix (x64.hold),Ix (x64.a.a0),Ix (x64.a.a1),Ix (x64.a.a2),Ix (x64.a.a3)]) (e_load tt17.ok rfl (k_flAt 2 (F := ActF) rfl hx65) rfl) ?_
   refine alE fun b66 => ?_
   refine lu (mS 0 (#[Bx (x64.kind),Ix (x64.owner),Ix (x64.other),Ix (x64.hold),Ix (x64.a.a0),Ix (x64.a.a1),Ix (x64.a.a2),Ix (x64.a.a3)])) (lnf ?_)
   refine c_seq ?_
   have hxw := win_iff.1 (formed_within ((dformed_iff.1 hfm).2.2.2 _ (List.mem_of_getElem? hx65)))
   rcases (Bool.eq_false_or_eq_true R2.done).symm with hdn | hdn
   ·refine c_region (lE omi (lnf (c_block (c_unroll 5 (un_succ 4 (csr (lE olt (lnf (c_seq (c_yes rfl (csk (c_seq (c_block (csr (lE omi (lE oai (lnf ?_)))))))))))))))))
    refine cs2 (c_region (lE ofp (lE (olb 1) (lE omb (l_splitb (s := 160) (b := R2.done) rfl (fun h => ?_) (fun h => ?_))))))
    (rw [hdn] at h; cases h)
    refine skE (skE (skE (lE okfb (lnf (c_no rfl (csk (csr (lE ofp (lE (olb 1) (lE omb ?_))))))))))
    refine l_splitb (s := 176) (b := R2.done) rfl (fun h => ?_) (fun h => ?_)
    (rw [hdn] at h; cases h)
    refine skE (skE (skE (lE okfb (lnf (c_no rfl (c_skip (f_block (f_then (c_region (lE opl (lE omi (l_nil (f_cut (un_succ 3 (csr (lE olt (lnf (c_seq ?_))))))))))))))))))
    refine c_yes rfl (csk (c_seq (c_block (csr (lE omi (lE oai (lnf (cs2 (c_region (lE ofp (lE (olb 1) (lE omb ?_))))))))))))
    refine l_splitb (s := 160) (b := R2.done) rfl (fun h => ?_) (fun h => ?_)
    (rw [hdn] at h; cases h)
    refine skE (skE (skE (lE okfb (lnf (c_no rfl (csk (csr (lE ofp (lE (olb 1) (lE omb ?_))))))))))
    refine l_splitb (s := 176) (b := R2.done) rfl (fun h => ?_) (fun h => ?_)
    (rw [hdn] at h; cases h)
    refine skE (skE (skE (lE okfb (lnf (c_no rfl (c_skip (f_block (f_then (c_region (lE opl (lE omi (l_nil (f_cut (un_succ 2 (csr (lE olt (lnf (c_seq ?_))))))))))))))))))
    refine c_yes rfl (csk (c_seq (c_block (csr (lE omi (lE oai (lnf (cs2 (c_region (lE ofp (lE (olb 1) (lE omb ?_))))))))))))
    refine l_splitb (s := 160) (b := R2.done) rfl (fun h => ?_) (fun h => ?_)
    (rw [hdn] at h; cases h)
    refine skE (skE (skE (lE okfb (lnf (c_no rfl (csk (csr (lE ofp (lE (olb 1) (lE omb ?_))))))))))
    refine l_splitb (s := 176) (b := R2.done) rfl (fun h => ?_) (fun h => ?_)
    (rw [hdn] at h; cases h)
    refine skE (skE (skE (lE okfb (lnf (c_no rfl (c_skip (f_block (f_then (c_region (lE opl (lE omi (l_nil (f_cut (un_succ 1 (csr (lE olt (lnf (c_seq ?_))))))))))))))))))
    refine c_yes rfl (csk (c_seq (c_block (csr (lE omi (lE oai (lnf (cs2 (c_region (lE ofp (lE (olb 1) (lE omb ?_))))))))))))
    refine l_splitb (s := 160) (b := R2.done) rfl (fun h => ?_) (fun h => ?_)
    (rw [hdn] at h; cases h)
    refine skE (skE (skE (lE okfb (lnf (c_no rfl (csk (csr (lE ofp (lE (olb 1) (lE omb ?_))))))))))
    refine l_splitb (s := 176) (b := R2.done) rfl (fun h => ?_) (fun h => ?_)
    (rw [hdn] at h; cases h)
    refine skE (skE (skE (lE okfb (lnf (c_no rfl (c_skip (f_block (f_then (c_region (lE opl (lE omi (l_nil (f_cut (un_succ 0 (csr (lE olt (lnf (c_seq ?_))))))))))))))))))
    refine c_no rfl (c_exit (f_then_exit (f_then_exit (f_exit (f_block (f_then (c_region ?_)))))))
    refine lv (v := Nx (m + 1)) (e_add rfl rfl (i64n (by omega) (by omega))) (lE omi (l_nil (f_mask [false,true,true,true,true,true] rfl ?_)))
    exact f_cut ⟨(m + 1,su),⟨⟨rfl,rfl,rfl,rfl,rfl,rfl,rfl,rfl,rfl,rfl,rfl⟩,rfl,⟨by omega,sup_off hx65 hsu hdn,by unfold KAm.bd; omega⟩⟩,(show (fitL x9).length - (m + 1) < (fitL x9).length - m from by omega)⟩
   by_cases hk1 : x64.kind = 1
   ·refine c_region (lE omi (lnf (c_block (c_unroll 5 (un_succ 4 (csr (lE olt (lnf (c_seq (c_yes rfl (csk (c_seq (c_block (csr (lE omi (lE oai (lnf ?_)))))))))))))))))
    refine cs2 (c_region (lE ofp (lE (olb 1) (lE omb (l_splitb (s := 160) (b := R2.done) rfl (fun h => ?_) (fun h => ?_))))))
    rotate_left; (rw [hdn] at h; cases h)
    refine gE ofp (gE (oli 0) ?_)
    refine g_val (v := .bool true) rfl rfl rfl rfl rfl (ev_t (by rw [hk1]; rfl) (e_eql (a := ((x64.kind).toNat : Int)) (b := (1 : Int)) rfl rfl)) ?_
    refine lE oktb (lnf (c_yes rfl ?_))
    refine cnz [sv 165 (.int .i64 (0)) [] [] [0],sv 166 (pp b3 0) [0] [0] [1],sv 167 (Ix (su.a0)) [0,1] [1] [],sv 168 (.int .i64 (0)) [] [] [0],sv 169 (pp b66 4) [] [] [2],sv 170 (pp b66 4) [3,4] [4,3] [],sv 171 (Ix (x64.a.a0)) [3,4,5] [5] [],sv 172 (Ix ((su.a0) + (x64.a.a0))) (List.range 7) [2,6] [],sv 173 (pp b3 0) (List.range 8) [0] [1],⟨(List.range 9),[8,7],[],[],fun _ => True⟩] [u1 [6],u0,u0,u0,u0,(some 9,[2,9])] [⟨(some 9),none,[],[],fun _ => pt b3 (.cells #[Ix ((su.a0) + (x64.a.a0)),Ix (su.a1),Ix (su.a2),Ix (su.a3)] 44)⟩] [(17,.int .i64 (0)),(6,pp b3 0),(16,pp b66 0),(3,pp b1 0),(4,pp H2 0),(5,.bool true),(10,pp b51 0),(31,sB va zs4 (vc)),(32,Nx (zs4.length)),(33,Nx (i)),(149,sB p46 (fitL x9) c47),(150,Nx ((fitL x9).length)),(151,Nx (m)),(155,.int .i64 (0))] [3,4,5,1,6,2,0,7,8,9,10,11,12,13] ⟨rfl,rfl,rfl,rfl,rfl,rfl,rfl,rfl,rfl,rfl,rfl,rfl,rfl,rfl,trivial⟩ ⟨?_,?_,?_,?_,?_,?_,?_,?_,?_,?_,trivial⟩ ?_
    ·rintro f M - ⟨i0,-⟩
     exact obE omi
    ·rintro f M ⟨k0,-⟩ ⟨i0,-⟩
     exact ob0 (up_cons (d := 165) (up_cons (d := 6) rfl i0) k0) rfl (e_indexArrK (b := b3) (o := 0) (k := 0) rfl rfl tt1.ok (by decide)) (.refl _)
    ·rintro f M ⟨k0,-⟩ -
     exact obE (oli 0)
    ·rintro f M - ⟨i0,-⟩
     exact obE omi
    ·rintro f M - ⟨i0,-⟩
     exact obE ofp
    ·rintro f M ⟨k0,k1,-⟩ -
     exact ob0 (up_cons (d := 168) (up_cons (d := 169) rfl k0) k1) rfl (e_indexArrK (b := b66) (o := 4) (k := 0) rfl rfl tt1.ok (by decide)) (.refl _)
    ·rintro f M ⟨k0,-⟩ -
     exact obE (oli 0)
    ·rintro f M ⟨k0,k1,-⟩ -
     exact obE opl
    ·rintro f M ⟨k0,-⟩ ⟨i0,-⟩
     exact ob0 (up_cons (d := 165) (up_cons (d := 6) rfl i0) k0) rfl (e_indexArrK (b := b3) (o := 0) (k := 0) rfl rfl tt1.ok (by decide)) (.refl _)
    ·rintro f M ⟨k0,k1,-⟩ -
     refine obS (up_cons (d := 172) (up_cons (d := 173) rfl k0) k1) ?_
     refine lu (mS 0 (#[Ix ((su.a0) + (x64.a.a0)),Ix (su.a1),Ix (su.a2),Ix (su.a3)])) (l_nil ?_)
     exact f_owes_n (up_cons (d := 172) (up_cons (d := 173) rfl k0) k1) trivial (perm_front 0 rfl)
    rintro fa67 ⟨-,-,-,-,-,-,-,-,-,-,-⟩ ⟨j0,j1,j2,j3,j4,j5,j6,j7,j8,j9,j10,j11,j12,j13,-⟩
    refine fre ?_
    refine f_rebase (d := 3) j0 (f_rebase (d := 4) j1 (f_rebase (d := 5) j2 (f_rebase (d := 6) j3 (f_rebase (d := 10) j4 (f_rebase (d := 16) j5 ?_)))))
    refine f_rebase (d := 17) j6 (f_rebase (d := 31) j7 (f_rebase (d := 32) j8 (f_rebase (d := 33) j9 (f_rebase (d := 149) j10 ?_))))
    refine f_rebase (d := 150) j11 (f_rebase (d := 151) j12 (f_rebase (d := 155) j13 (ftc (lE ofp (lE (olb 1) (lE omb ?_))))))
    refine l_splitb (s := 176) (b := R2.done) rfl (fun h => ?_) (fun h => ?_)
    rotate_left; (rw [hdn] at h; cases h)
    refine gE ofp (gE (oli 0) ?_)
    refine g_val (v := .bool false) rfl rfl rfl rfl rfl (ev_f (by rw [hk1]; decide) (e_eql (a := ((x64.kind).toNat : Int)) (b := (2 : Int)) rfl rfl)) ?_
    refine lE oktb (lnf (c_no rfl (c_skip (f_block (f_then (c_region (lE opl (lE omi (l_nil (f_cut (un_succ 3 (csr (lE olt (lnf (c_seq (c_yes rfl (csk ?_)))))))))))))))))
    refine c_seq (c_block (csr (lE omi (lE oai (lnf (cs2 (c_region (lE ofp (lE (olb 1) (lE omb ?_))))))))))
    refine l_splitb (s := 160) (b := R2.done) rfl (fun h => ?_) (fun h => ?_)
    rotate_left; (rw [hdn] at h; cases h)
    refine gE ofp (gE (oli 0) ?_)
    refine g_val (v := .bool true) rfl rfl rfl rfl rfl (ev_t (by rw [hk1]; rfl) (e_eql (a := ((x64.kind).toNat : Int)) (b := (1 : Int)) rfl rfl)) ?_
    refine lE oktb (lnf (c_yes rfl ?_))
    refine cnz [sv 165 (.int .i64 (1)) [] [] [0],sv 166 (pp b3 1) [0] [0] [1],sv 167 (Ix (su.a1)) [0,1] [1] [],sv 168 (.int .i64 (1)) [] [] [0],sv 169 (pp b66 4) [] [] [2],sv 170 (pp b66 5) [3,4] [4,3] [],sv 171 (Ix (x64.a.a1)) [3,4,5] [5] [],sv 172 (Ix ((su.a1) + (x64.a.a1))) (List.range 7) [2,6] [],sv 173 (pp b3 1) (List.range 8) [0] [1],⟨(List.range 9),[8,7],[],[],fun _ => True⟩] [u1 [6],u0,u0,u0,u0,(some 9,[2,9])] [⟨(some 9),none,[],[],fun _ => pt b3 (.cells #[Ix ((su.a0) + (x64.a.a0)),Ix ((su.a1) + (x64.a.a1)),Ix (su.a2),Ix (su.a3)] 44)⟩] [(17,.int .i64 (1)),(6,pp b3 0),(16,pp b66 0),(3,pp b1 0),(4,pp H2 0),(5,.bool true),(10,pp b51 0),(31,sB va zs4 (vc)),(32,Nx (zs4.length)),(33,Nx (i)),(149,sB p46 (fitL x9) c47),(150,Nx ((fitL x9).length)),(151,Nx (m)),(155,.int .i64 (1))] [3,4,5,1,6,2,0,7,8,9,10,11,12,13] ⟨rfl,rfl,rfl,rfl,rfl,rfl,rfl,rfl,rfl,rfl,rfl,rfl,rfl,rfl,trivial⟩ ⟨?_,?_,?_,?_,?_,?_,?_,?_,?_,?_,trivial⟩ ?_
    ·rintro f M - ⟨i0,-⟩
     exact obE omi
    ·rintro f M ⟨k0,-⟩ ⟨i0,-⟩
     exact ob0 (up_cons (d := 165) (up_cons (d := 6) rfl i0) k0) rfl (e_indexArrK (b := b3) (o := 0) (k := 1) rfl rfl tt1.ok (by decide)) (.refl _)
    ·rintro f M ⟨k0,-⟩ -
     exact obE (oli 0)
    ·rintro f M - ⟨i0,-⟩
     exact obE omi
    ·rintro f M - ⟨i0,-⟩
     exact obE ofp
    ·rintro f M ⟨k0,k1,-⟩ -
     exact ob0 (up_cons (d := 168) (up_cons (d := 169) rfl k0) k1) rfl (e_indexArrK (b := b66) (o := 4) (k := 1) rfl rfl tt1.ok (by decide)) (.refl _)
    ·rintro f M ⟨k0,-⟩ -
     exact obE (oli 0)
    ·rintro f M ⟨k0,k1,-⟩ -
     exact obE opl
    ·rintro f M ⟨k0,-⟩ ⟨i0,-⟩
     exact ob0 (up_cons (d := 165) (up_cons (d := 6) rfl i0) k0) rfl (e_indexArrK (b := b3) (o := 0) (k := 1) rfl rfl tt1.ok (by decide)) (.refl _)
    ·rintro f M ⟨k0,k1,-⟩ -
     refine obS (up_cons (d := 172) (up_cons (d := 173) rfl k0) k1) ?_
     refine lu (mS 0 (#[Ix ((su.a0) + (x64.a.a0)),Ix ((su.a1) + (x64.a.a1)),Ix (su.a2),Ix (su.a3)])) (l_nil ?_)
     exact f_owes_n (up_cons (d := 172) (up_cons (d := 173) rfl k0) k1) trivial (perm_front 0 rfl)
    rintro fa68 ⟨-,-,-,-,-,-,-,-,-,-,-⟩ ⟨j0,j1,j2,j3,j4,j5,j6,j7,j8,j9,j10,j11,j12,j13,-⟩
    refine fre ?_
    refine f_rebase (d := 3) j0 (f_rebase (d := 4) j1 (f_rebase (d := 5) j2 (f_rebase (d := 6) j3 (f_rebase (d := 10) j4 (f_rebase (d := 16) j5 ?_)))))
    refine f_rebase (d := 17) j6 (f_rebase (d := 31) j7 (f_rebase (d := 32) j8 (f_rebase (d := 33) j9 (f_rebase (d := 149) j10 ?_))))
    refine f_rebase (d := 150) j11 (f_rebase (d := 151) j12 (f_rebase (d := 155) j13 (ftc (lE ofp (lE (olb 1) (lE omb ?_))))))
    refine l_splitb (s := 176) (b := R2.done) rfl (fun h => ?_) (fun h => ?_)
    rotate_left; (rw [hdn] at h; cases h)
    refine gE ofp (gE (oli 0) ?_)
    refine g_val (v := .bool false) rfl rfl rfl rfl rfl (ev_f (by rw [hk1]; decide) (e_eql (a := ((x64.kind).toNat : Int)) (b := (2 : Int)) rfl rfl)) ?_
    refine lE oktb (lnf (c_no rfl (c_skip (f_block (f_then (c_region (lE opl (lE omi (l_nil (f_cut (un_succ 2 (csr (lE olt (lnf (c_seq (c_yes rfl (csk ?_)))))))))))))))))
    refine c_seq (c_block (csr (lE omi (lE oai (lnf (cs2 (c_region (lE ofp (lE (olb 1) (lE omb ?_))))))))))
    refine l_splitb (s := 160) (b := R2.done) rfl (fun h => ?_) (fun h => ?_)
    rotate_left; (rw [hdn] at h; cases h)
    refine gE ofp (gE (oli 0) ?_)
    refine g_val (v := .bool true) rfl rfl rfl rfl rfl (ev_t (by rw [hk1]; rfl) (e_eql (a := ((x64.kind).toNat : Int)) (b := (1 : Int)) rfl rfl)) ?_
    refine lE oktb (lnf (c_yes rfl ?_))
    refine cnz [sv 165 (.int .i64 (2)) [] [] [0],sv 166 (pp b3 2) [0] [0] [1],sv 167 (Ix (su.a2)) [0,1] [1] [],sv 168 (.int .i64 (2)) [] [] [0],sv 169 (pp b66 4) [] [] [2],sv 170 (pp b66 6) [3,4] [4,3] [],sv 171 (Ix (x64.a.a2)) [3,4,5] [5] [],sv 172 (Ix ((su.a2) + (x64.a.a2))) (List.range 7) [2,6] [],sv 173 (pp b3 2) (List.range 8) [0] [1],⟨(List.range 9),[8,7],[],[],fun _ => True⟩] [u1 [6],u0,u0,u0,u0,(some 9,[2,9])] [⟨(some 9),none,[],[],fun _ => pt b3 (.cells #[Ix ((su.a0) + (x64.a.a0)),Ix ((su.a1) + (x64.a.a1)),Ix ((su.a2) + (x64.a.a2)),Ix (su.a3)] 44)⟩] [(17,.int .i64 (2)),(6,pp b3 0),(16,pp b66 0),(3,pp b1 0),(4,pp H2 0),(5,.bool true),(10,pp b51 0),(31,sB va zs4 (vc)),(32,Nx (zs4.length)),(33,Nx (i)),(149,sB p46 (fitL x9) c47),(150,Nx ((fitL x9).length)),(151,Nx (m)),(155,.int .i64 (2))] [3,4,5,1,6,2,0,7,8,9,10,11,12,13] ⟨rfl,rfl,rfl,rfl,rfl,rfl,rfl,rfl,rfl,rfl,rfl,rfl,rfl,rfl,trivial⟩ ⟨?_,?_,?_,?_,?_,?_,?_,?_,?_,?_,trivial⟩ ?_
    ·rintro f M - ⟨i0,-⟩
     exact obE omi
    ·rintro f M ⟨k0,-⟩ ⟨i0,-⟩
     exact ob0 (up_cons (d := 165) (up_cons (d := 6) rfl i0) k0) rfl (e_indexArrK (b := b3) (o := 0) (k := 2) rfl rfl tt1.ok (by decide)) (.refl _)
    ·rintro f M ⟨k0,-⟩ -
     exact obE (oli 0)
    ·rintro f M - ⟨i0,-⟩
     exact obE omi
    ·rintro f M - ⟨i0,-⟩
     exact obE ofp
    ·rintro f M ⟨k0,k1,-⟩ -
     exact ob0 (up_cons (d := 168) (up_cons (d := 169) rfl k0) k1) rfl (e_indexArrK (b := b66) (o := 4) (k := 2) rfl rfl tt1.ok (by decide)) (.refl _)
    ·rintro f M ⟨k0,-⟩ -
     exact obE (oli 0)
    ·rintro f M ⟨k0,k1,-⟩ -
     exact obE opl
    ·rintro f M ⟨k0,-⟩ ⟨i0,-⟩
     exact ob0 (up_cons (d := 165) (up_cons (d := 6) rfl i0) k0) rfl (e_indexArrK (b := b3) (o := 0) (k := 2) rfl rfl tt1.ok (by decide)) (.refl _)
    ·rintro f M ⟨k0,k1,-⟩ -
     refine obS (up_cons (d := 172) (up_cons (d := 173) rfl k0) k1) ?_
     refine lu (mS 0 (#[Ix ((su.a0) + (x64.a.a0)),Ix ((su.a1) + (x64.a.a1)),Ix ((su.a2) + (x64.a.a2)),Ix (su.a3)])) (l_nil ?_)
     exact f_owes_n (up_cons (d := 172) (up_cons (d := 173) rfl k0) k1) trivial (perm_front 0 rfl)
    rintro fa69 ⟨-,-,-,-,-,-,-,-,-,-,-⟩ ⟨j0,j1,j2,j3,j4,j5,j6,j7,j8,j9,j10,j11,j12,j13,-⟩
    refine fre ?_
    refine f_rebase (d := 3) j0 (f_rebase (d := 4) j1 (f_rebase (d := 5) j2 (f_rebase (d := 6) j3 (f_rebase (d := 10) j4 (f_rebase (d := 16) j5 ?_)))))
    refine f_rebase (d := 17) j6 (f_rebase (d := 31) j7 (f_rebase (d := 32) j8 (f_rebase (d := 33) j9 (f_rebase (d := 149) j10 ?_))))
    refine f_rebase (d := 150) j11 (f_rebase (d := 151) j12 (f_rebase (d := 155) j13 (ftc (lE ofp (lE (olb 1) (lE omb ?_))))))
    refine l_splitb (s := 176) (b := R2.done) rfl (fun h => ?_) (fun h => ?_)
    rotate_left; (rw [hdn] at h; cases h)
    refine gE ofp (gE (oli 0) ?_)
    refine g_val (v := .bool false) rfl rfl rfl rfl rfl (ev_f (by rw [hk1]; decide) (e_eql (a := ((x64.kind).toNat : Int)) (b := (2 : Int)) rfl rfl)) ?_
    refine lE oktb (lnf (c_no rfl (c_skip (f_block (f_then (c_region (lE opl (lE omi (l_nil (f_cut (un_succ 1 (csr (lE olt (lnf (c_seq (c_yes rfl (csk ?_)))))))))))))))))
    refine c_seq (c_block (csr (lE omi (lE oai (lnf (cs2 (c_region (lE ofp (lE (olb 1) (lE omb ?_))))))))))
    refine l_splitb (s := 160) (b := R2.done) rfl (fun h => ?_) (fun h => ?_)
    rotate_left; (rw [hdn] at h; cases h)
    refine gE ofp (gE (oli 0) ?_)
    refine g_val (v := .bool true) rfl rfl rfl rfl rfl (ev_t (by rw [hk1]; rfl) (e_eql (a := ((x64.kind).toNat : Int)) (b := (1 : Int)) rfl rfl)) ?_
    refine lE oktb (lnf (c_yes rfl ?_))
    refine cnz [sv 165 (.int .i64 (3)) [] [] [0],sv 166 (pp b3 3) [0] [0] [1],sv 167 (Ix (su.a3)) [0,1] [1] [],sv 168 (.int .i64 (3)) [] [] [0],sv 169 (pp b66 4) [] [] [2],sv 170 (pp b66 7) [3,4] [4,3] [],sv 171 (Ix (x64.a.a3)) [3,4,5] [5] [],sv 172 (Ix ((su.a3) + (x64.a.a3))) (List.range 7) [2,6] [],sv 173 (pp b3 3) (List.range 8) [0] [1],⟨(List.range 9),[8,7],[],[],fun _ => True⟩] [u1 [6],u0,u0,u0,u0,(some 9,[2,9])] [⟨(some 9),none,[],[],fun _ => pt b3 (.cells #[Ix ((su.a0) + (x64.a.a0)),Ix ((su.a1) + (x64.a.a1)),Ix ((su.a2) + (x64.a.a2)),Ix ((su.a3) + (x64.a.a3))] 44)⟩] [(17,.int .i64 (3)),(6,pp b3 0),(16,pp b66 0),(3,pp b1 0),(4,pp H2 0),(5,.bool true),(10,pp b51 0),(31,sB va zs4 (vc)),(32,Nx (zs4.length)),(33,Nx (i)),(149,sB p46 (fitL x9) c47),(150,Nx ((fitL x9).length)),(151,Nx (m)),(155,.int .i64 (3))] [3,4,5,1,6,2,0,7,8,9,10,11,12,13] ⟨rfl,rfl,rfl,rfl,rfl,rfl,rfl,rfl,rfl,rfl,rfl,rfl,rfl,rfl,trivial⟩ ⟨?_,?_,?_,?_,?_,?_,?_,?_,?_,?_,trivial⟩ ?_
    ·rintro f M - ⟨i0,-⟩
     exact obE omi
    ·rintro f M ⟨k0,-⟩ ⟨i0,-⟩
     exact ob0 (up_cons (d := 165) (up_cons (d := 6) rfl i0) k0) rfl (e_indexArrK (b := b3) (o := 0) (k := 3) rfl rfl tt1.ok (by decide)) (.refl _)
    ·rintro f M ⟨k0,-⟩ -
     exact obE (oli 0)
    ·rintro f M - ⟨i0,-⟩
     exact obE omi
    ·rintro f M - ⟨i0,-⟩
     exact obE ofp
    ·rintro f M ⟨k0,k1,-⟩ -
     exact ob0 (up_cons (d := 168) (up_cons (d := 169) rfl k0) k1) rfl (e_indexArrK (b := b66) (o := 4) (k := 3) rfl rfl tt1.ok (by decide)) (.refl _)
    ·rintro f M ⟨k0,-⟩ -
     exact obE (oli 0)
    ·rintro f M ⟨k0,k1,-⟩ -
     exact obE opl
    ·rintro f M ⟨k0,-⟩ ⟨i0,-⟩
     exact ob0 (up_cons (d := 165) (up_cons (d := 6) rfl i0) k0) rfl (e_indexArrK (b := b3) (o := 0) (k := 3) rfl rfl tt1.ok (by decide)) (.refl _)
    ·rintro f M ⟨k0,k1,-⟩ -
     refine obS (up_cons (d := 172) (up_cons (d := 173) rfl k0) k1) ?_
     refine lu (mS 0 (#[Ix ((su.a0) + (x64.a.a0)),Ix ((su.a1) + (x64.a.a1)),Ix ((su.a2) + (x64.a.a2)),Ix ((su.a3) + (x64.a.a3))])) (l_nil ?_)
     exact f_owes_n (up_cons (d := 172) (up_cons (d := 173) rfl k0) k1) trivial (perm_front 0 rfl)
    rintro fa70 ⟨-,-,-,-,-,-,-,-,-,-,-⟩ ⟨j0,j1,j2,j3,j4,j5,j6,j7,j8,j9,j10,j11,j12,j13,-⟩
    refine fre ?_
    refine f_rebase (d := 3) j0 (f_rebase (d := 4) j1 (f_rebase (d := 5) j2 (f_rebase (d := 6) j3 (f_rebase (d := 10) j4 (f_rebase (d := 16) j5 ?_)))))
    refine f_rebase (d := 17) j6 (f_rebase (d := 31) j7 (f_rebase (d := 32) j8 (f_rebase (d := 33) j9 (f_rebase (d := 149) j10 ?_))))
    refine f_rebase (d := 150) j11 (f_rebase (d := 151) j12 (f_rebase (d := 155) j13 (ftc (lE ofp (lE (olb 1) (lE omb ?_))))))
    refine l_splitb (s := 176) (b := R2.done) rfl (fun h => ?_) (fun h => ?_)
    rotate_left; (rw [hdn] at h; cases h)
    refine gE ofp (gE (oli 0) ?_)
    refine g_val (v := .bool false) rfl rfl rfl rfl rfl (ev_f (by rw [hk1]; decide) (e_eql (a := ((x64.kind).toNat : Int)) (b := (2 : Int)) rfl rfl)) ?_
    refine lE oktb (lnf (c_no rfl (c_skip (f_block (f_then (c_region (lE opl (lE omi (l_nil (f_cut (un_succ 0 (csr (lE olt (lnf (c_seq (c_no rfl ?_))))))))))))))))
    refine c_exit (f_then_exit (f_then_exit (f_exit (f_block (f_then (c_region (lv (v := Nx (m + 1)) (e_add rfl rfl (i64n (by omega) (by omega))) ?_)))))))
    refine lE omi (l_nil (f_mask [false,true,true,true,true,true] rfl ?_))
    exact f_cut ⟨(m + 1,(⟨(su.a0) + (x64.a.a0),(su.a1) + (x64.a.a1),(su.a2) + (x64.a.a2),(su.a3) + (x64.a.a3)⟩ : KAm)),⟨⟨rfl,rfl,rfl,rfl,rfl,rfl,rfl,rfl,rfl,rfl,rfl⟩,rfl,⟨by omega,sup_add hx65 hsu hdn hk1,by unfold KAm.bd; simp only; omega⟩⟩,(show (fitL x9).length - (m + 1) < (fitL x9).length - m from by omega)⟩
   by_cases hk2 : x64.kind = 2
   ·refine c_region (lE omi (lnf (c_block (c_unroll 5 (un_succ 4 (csr (lE olt (lnf (c_seq (c_yes rfl (csk (c_seq (c_block (csr (lE omi (lE oai (lnf ?_)))))))))))))))))
    refine cs2 (c_region (lE ofp (lE (olb 1) (lE omb (l_splitb (s := 160) (b := R2.done) rfl (fun h => ?_) (fun h => ?_))))))
    rotate_left; (rw [hdn] at h; cases h)
    refine gE ofp (gE (oli 0) ?_)
    refine g_val (v := .bool false) rfl rfl rfl rfl rfl (ev_f (by rw [hk2]; decide) (e_eql (a := ((x64.kind).toNat : Int)) (b := (1 : Int)) rfl rfl)) ?_
    refine lE oktb (lnf (c_no rfl (csk (csr (lE ofp (lE (olb 1) (lE omb (l_splitb (s := 176) (b := R2.done) rfl (fun h => ?_) (fun h => ?_)))))))))
    rotate_left; (rw [hdn] at h; cases h)
    refine gE ofp (gE (oli 0) ?_)
    refine g_val (v := .bool true) rfl rfl rfl rfl rfl (ev_t (by rw [hk2]; rfl) (e_eql (a := ((x64.kind).toNat : Int)) (b := (2 : Int)) rfl rfl)) ?_
    refine lE oktb (lnf (c_yes rfl ?_))
    refine cnz [sv 181 (.int .i64 (0)) [] [] [0],sv 182 (pp b3 0) [0] [0] [1],sv 183 (Ix (su.a0)) [0,1] [1] [],sv 184 (.int .i64 (0)) [] [] [0],sv 185 (pp b66 4) [] [] [2],sv 186 (pp b66 4) [3,4] [4,3] [],sv 187 (Ix (x64.a.a0)) [3,4,5] [5] [],sv 188 (Ix ((su.a0) - (x64.a.a0))) (List.range 7) [2,6] [],sv 189 (pp b3 0) (List.range 8) [0] [1],⟨(List.range 9),[8,7],[],[],fun _ => True⟩] [u1 [6],u0,u0,u0,u0,(some 9,[2,9])] [⟨(some 9),none,[],[],fun _ => pt b3 (.cells #[Ix ((su.a0) - (x64.a.a0)),Ix (su.a1),Ix (su.a2),Ix (su.a3)] 44)⟩] [(17,.int .i64 (0)),(6,pp b3 0),(16,pp b66 0),(3,pp b1 0),(4,pp H2 0),(5,.bool true),(10,pp b51 0),(31,sB va zs4 (vc)),(32,Nx (zs4.length)),(33,Nx (i)),(149,sB p46 (fitL x9) c47),(150,Nx ((fitL x9).length)),(151,Nx (m)),(155,.int .i64 (0))] [3,4,5,1,6,2,7,8,9,10,11,12,13] ⟨rfl,rfl,rfl,rfl,rfl,rfl,rfl,rfl,rfl,rfl,rfl,rfl,rfl,rfl,trivial⟩ ⟨?_,?_,?_,?_,?_,?_,?_,?_,?_,?_,trivial⟩ ?_
    ·rintro f M - ⟨i0,-⟩
     exact obE omi
    ·rintro f M ⟨k0,-⟩ ⟨i0,-⟩
     exact ob0 (up_cons (d := 181) (up_cons (d := 6) rfl i0) k0) rfl (e_indexArrK (b := b3) (o := 0) (k := 0) rfl rfl tt1.ok (by decide)) (.refl _)
    ·rintro f M ⟨k0,-⟩ -
     exact obE (oli 0)
    ·rintro f M - ⟨i0,-⟩
     exact obE omi
    ·rintro f M - ⟨i0,-⟩
     exact obE ofp
    ·rintro f M ⟨k0,k1,-⟩ -
     exact ob0 (up_cons (d := 184) (up_cons (d := 185) rfl k0) k1) rfl (e_indexArrK (b := b66) (o := 4) (k := 0) rfl rfl tt1.ok (by decide)) (.refl _)
    ·rintro f M ⟨k0,-⟩ -
     exact obE (oli 0)
    ·rintro f M ⟨k0,k1,-⟩ -
     exact obE omn
    ·rintro f M ⟨k0,-⟩ ⟨i0,-⟩
     exact ob0 (up_cons (d := 181) (up_cons (d := 6) rfl i0) k0) rfl (e_indexArrK (b := b3) (o := 0) (k := 0) rfl rfl tt1.ok (by decide)) (.refl _)
    ·rintro f M ⟨k0,k1,-⟩ -
     refine obS (up_cons (d := 188) (up_cons (d := 189) rfl k0) k1) ?_
     refine lu (mS 0 (#[Ix ((su.a0) - (x64.a.a0)),Ix (su.a1),Ix (su.a2),Ix (su.a3)])) (l_nil ?_)
     exact f_owes_n (up_cons (d := 188) (up_cons (d := 189) rfl k0) k1) trivial (perm_front 0 rfl)
    rintro fa71 ⟨-,-,-,-,-,-,-,-,-,-,-⟩ ⟨j0,j1,j2,j3,j4,j5,j6,j7,j8,j9,j10,j11,j12,-⟩
    refine fre ?_
    refine f_rebase (d := 3) j0 (f_rebase (d := 4) j1 (f_rebase (d := 5) j2 (f_rebase (d := 6) j3 (f_rebase (d := 10) j4 (f_rebase (d := 16) j5 ?_)))))
    refine f_rebase (d := 31) j6 (f_rebase (d := 32) j7 (f_rebase (d := 33) j8 (f_rebase (d := 149) j9 (f_rebase (d := 150) j10 ?_))))
    refine f_rebase (d := 151) j11 (f_rebase (d := 155) j12 (f_block (f_then (c_region (lE opl (lE omi (l_nil (f_cut (un_succ 3 (csr (lE olt (lnf ?_))))))))))))
    refine c_seq (c_yes rfl (csk (c_seq (c_block (csr (lE omi (lE oai (lnf (cs2 (c_region (lE ofp (lE (olb 1) (lE omb ?_)))))))))))))
    refine l_splitb (s := 160) (b := R2.done) rfl (fun h => ?_) (fun h => ?_)
    rotate_left; (rw [hdn] at h; cases h)
    refine gE ofp (gE (oli 0) ?_)
    refine g_val (v := .bool false) rfl rfl rfl rfl rfl (ev_f (by rw [hk2]; decide) (e_eql (a := ((x64.kind).toNat : Int)) (b := (1 : Int)) rfl rfl)) ?_
    refine lE oktb (lnf (c_no rfl (csk (csr (lE ofp (lE (olb 1) (lE omb (l_splitb (s := 176) (b := R2.done) rfl (fun h => ?_) (fun h => ?_)))))))))
    rotate_left; (rw [hdn] at h; cases h)
    refine gE ofp (gE (oli 0) ?_)
    refine g_val (v := .bool true) rfl rfl rfl rfl rfl (ev_t (by rw [hk2]; rfl) (e_eql (a := ((x64.kind).toNat : Int)) (b := (2 : Int)) rfl rfl)) ?_
    refine lE oktb (lnf (c_yes rfl ?_))
    refine cnz [sv 181 (.int .i64 (1)) [] [] [0],sv 182 (pp b3 1) [0] [0] [1],sv 183 (Ix (su.a1)) [0,1] [1] [],sv 184 (.int .i64 (1)) [] [] [0],sv 185 (pp b66 4) [] [] [2],sv 186 (pp b66 5) [3,4] [4,3] [],sv 187 (Ix (x64.a.a1)) [3,4,5] [5] [],sv 188 (Ix ((su.a1) - (x64.a.a1))) (List.range 7) [2,6] [],sv 189 (pp b3 1) (List.range 8) [0] [1],⟨(List.range 9),[8,7],[],[],fun _ => True⟩] [u1 [6],u0,u0,u0,u0,(some 9,[2,9])] [⟨(some 9),none,[],[],fun _ => pt b3 (.cells #[Ix ((su.a0) - (x64.a.a0)),Ix ((su.a1) - (x64.a.a1)),Ix (su.a2),Ix (su.a3)] 44)⟩] [(17,.int .i64 (1)),(6,pp b3 0),(16,pp b66 0),(3,pp b1 0),(4,pp H2 0),(5,.bool true),(10,pp b51 0),(31,sB va zs4 (vc)),(32,Nx (zs4.length)),(33,Nx (i)),(149,sB p46 (fitL x9) c47),(150,Nx ((fitL x9).length)),(151,Nx (m)),(155,.int .i64 (1))] [3,4,5,1,6,2,7,8,9,10,11,12,13] ⟨rfl,rfl,rfl,rfl,rfl,rfl,rfl,rfl,rfl,rfl,rfl,rfl,rfl,rfl,trivial⟩ ⟨?_,?_,?_,?_,?_,?_,?_,?_,?_,?_,trivial⟩ ?_
    ·rintro f M - ⟨i0,-⟩
     exact obE omi
    ·rintro f M ⟨k0,-⟩ ⟨i0,-⟩
     exact ob0 (up_cons (d := 181) (up_cons (d := 6) rfl i0) k0) rfl (e_indexArrK (b := b3) (o := 0) (k := 1) rfl rfl tt1.ok (by decide)) (.refl _)
    ·rintro f M ⟨k0,-⟩ -
     exact obE (oli 0)
    ·rintro f M - ⟨i0,-⟩
     exact obE omi
    ·rintro f M - ⟨i0,-⟩
     exact obE ofp
    ·rintro f M ⟨k0,k1,-⟩ -
     exact ob0 (up_cons (d := 184) (up_cons (d := 185) rfl k0) k1) rfl (e_indexArrK (b := b66) (o := 4) (k := 1) rfl rfl tt1.ok (by decide)) (.refl _)
    ·rintro f M ⟨k0,-⟩ -
     exact obE (oli 0)
    ·rintro f M ⟨k0,k1,-⟩ -
     exact obE omn
    ·rintro f M ⟨k0,-⟩ ⟨i0,-⟩
     exact ob0 (up_cons (d := 181) (up_cons (d := 6) rfl i0) k0) rfl (e_indexArrK (b := b3) (o := 0) (k := 1) rfl rfl tt1.ok (by decide)) (.refl _)
    ·rintro f M ⟨k0,k1,-⟩ -
     refine obS (up_cons (d := 188) (up_cons (d := 189) rfl k0) k1) ?_
     refine lu (mS 0 (#[Ix ((su.a0) - (x64.a.a0)),Ix ((su.a1) - (x64.a.a1)),Ix (su.a2),Ix (su.a3)])) (l_nil ?_)
     exact f_owes_n (up_cons (d := 188) (up_cons (d := 189) rfl k0) k1) trivial (perm_front 0 rfl)
    rintro fa72 ⟨-,-,-,-,-,-,-,-,-,-,-⟩ ⟨j0,j1,j2,j3,j4,j5,j6,j7,j8,j9,j10,j11,j12,-⟩
    refine fre ?_
    refine f_rebase (d := 3) j0 (f_rebase (d := 4) j1 (f_rebase (d := 5) j2 (f_rebase (d := 6) j3 (f_rebase (d := 10) j4 (f_rebase (d := 16) j5 ?_)))))
    refine f_rebase (d := 31) j6 (f_rebase (d := 32) j7 (f_rebase (d := 33) j8 (f_rebase (d := 149) j9 (f_rebase (d := 150) j10 ?_))))
    refine f_rebase (d := 151) j11 (f_rebase (d := 155) j12 (f_block (f_then (c_region (lE opl (lE omi (l_nil (f_cut (un_succ 2 (csr (lE olt (lnf ?_))))))))))))
    refine c_seq (c_yes rfl (csk (c_seq (c_block (csr (lE omi (lE oai (lnf (cs2 (c_region (lE ofp (lE (olb 1) (lE omb ?_)))))))))))))
    refine l_splitb (s := 160) (b := R2.done) rfl (fun h => ?_) (fun h => ?_)
    rotate_left; (rw [hdn] at h; cases h)
    refine gE ofp (gE (oli 0) ?_)
    refine g_val (v := .bool false) rfl rfl rfl rfl rfl (ev_f (by rw [hk2]; decide) (e_eql (a := ((x64.kind).toNat : Int)) (b := (1 : Int)) rfl rfl)) ?_
    refine lE oktb (lnf (c_no rfl (csk (csr (lE ofp (lE (olb 1) (lE omb (l_splitb (s := 176) (b := R2.done) rfl (fun h => ?_) (fun h => ?_)))))))))
    rotate_left; (rw [hdn] at h; cases h)
    refine gE ofp (gE (oli 0) ?_)
    refine g_val (v := .bool true) rfl rfl rfl rfl rfl (ev_t (by rw [hk2]; rfl) (e_eql (a := ((x64.kind).toNat : Int)) (b := (2 : Int)) rfl rfl)) ?_
    refine lE oktb (lnf (c_yes rfl ?_))
    refine cnz [sv 181 (.int .i64 (2)) [] [] [0],sv 182 (pp b3 2) [0] [0] [1],sv 183 (Ix (su.a2)) [0,1] [1] [],sv 184 (.int .i64 (2)) [] [] [0],sv 185 (pp b66 4) [] [] [2],sv 186 (pp b66 6) [3,4] [4,3] [],sv 187 (Ix (x64.a.a2)) [3,4,5] [5] [],sv 188 (Ix ((su.a2) - (x64.a.a2))) (List.range 7) [2,6] [],sv 189 (pp b3 2) (List.range 8) [0] [1],⟨(List.range 9),[8,7],[],[],fun _ => True⟩] [u1 [6],u0,u0,u0,u0,(some 9,[2,9])] [⟨(some 9),none,[],[],fun _ => pt b3 (.cells #[Ix ((su.a0) - (x64.a.a0)),Ix ((su.a1) - (x64.a.a1)),Ix ((su.a2) - (x64.a.a2)),Ix (su.a3)] 44)⟩] [(17,.int .i64 (2)),(6,pp b3 0),(16,pp b66 0),(3,pp b1 0),(4,pp H2 0),(5,.bool true),(10,pp b51 0),(31,sB va zs4 (vc)),(32,Nx (zs4.length)),(33,Nx (i)),(149,sB p46 (fitL x9) c47),(150,Nx ((fitL x9).length)),(151,Nx (m)),(155,.int .i64 (2))] [3,4,5,1,6,2,7,8,9,10,11,12,13] ⟨rfl,rfl,rfl,rfl,rfl,rfl,rfl,rfl,rfl,rfl,rfl,rfl,rfl,rfl,trivial⟩ ⟨?_,?_,?_,?_,?_,?_,?_,?_,?_,?_,trivial⟩ ?_
    ·rintro f M - ⟨i0,-⟩
     exact obE omi
    ·rintro f M ⟨k0,-⟩ ⟨i0,-⟩
     exact ob0 (up_cons (d := 181) (up_cons (d := 6) rfl i0) k0) rfl (e_indexArrK (b := b3) (o := 0) (k := 2) rfl rfl tt1.ok (by decide)) (.refl _)
    ·rintro f M ⟨k0,-⟩ -
     exact obE (oli 0)
    ·rintro f M - ⟨i0,-⟩
     exact obE omi
    ·rintro f M - ⟨i0,-⟩
     exact obE ofp
    ·rintro f M ⟨k0,k1,-⟩ -
     exact ob0 (up_cons (d := 184) (up_cons (d := 185) rfl k0) k1) rfl (e_indexArrK (b := b66) (o := 4) (k := 2) rfl rfl tt1.ok (by decide)) (.refl _)
    ·rintro f M ⟨k0,-⟩ -
     exact obE (oli 0)
    ·rintro f M ⟨k0,k1,-⟩ -
     exact obE omn
    ·rintro f M ⟨k0,-⟩ ⟨i0,-⟩
     exact ob0 (up_cons (d := 181) (up_cons (d := 6) rfl i0) k0) rfl (e_indexArrK (b := b3) (o := 0) (k := 2) rfl rfl tt1.ok (by decide)) (.refl _)
    ·rintro f M ⟨k0,k1,-⟩ -
     refine obS (up_cons (d := 188) (up_cons (d := 189) rfl k0) k1) ?_
     refine lu (mS 0 (#[Ix ((su.a0) - (x64.a.a0)),Ix ((su.a1) - (x64.a.a1)),Ix ((su.a2) - (x64.a.a2)),Ix (su.a3)])) (l_nil ?_)
     exact f_owes_n (up_cons (d := 188) (up_cons (d := 189) rfl k0) k1) trivial (perm_front 0 rfl)
    rintro fa73 ⟨-,-,-,-,-,-,-,-,-,-,-⟩ ⟨j0,j1,j2,j3,j4,j5,j6,j7,j8,j9,j10,j11,j12,-⟩
    refine fre ?_
    refine f_rebase (d := 3) j0 (f_rebase (d := 4) j1 (f_rebase (d := 5) j2 (f_rebase (d := 6) j3 (f_rebase (d := 10) j4 (f_rebase (d := 16) j5 ?_)))))
    refine f_rebase (d := 31) j6 (f_rebase (d := 32) j7 (f_rebase (d := 33) j8 (f_rebase (d := 149) j9 (f_rebase (d := 150) j10 ?_))))
    refine f_rebase (d := 151) j11 (f_rebase (d := 155) j12 (f_block (f_then (c_region (lE opl (lE omi (l_nil (f_cut (un_succ 1 (csr (lE olt (lnf ?_))))))))))))
    refine c_seq (c_yes rfl (csk (c_seq (c_block (csr (lE omi (lE oai (lnf (cs2 (c_region (lE ofp (lE (olb 1) (lE omb ?_)))))))))))))
    refine l_splitb (s := 160) (b := R2.done) rfl (fun h => ?_) (fun h => ?_)
    rotate_left; (rw [hdn] at h; cases h)
    refine gE ofp (gE (oli 0) ?_)
    refine g_val (v := .bool false) rfl rfl rfl rfl rfl (ev_f (by rw [hk2]; decide) (e_eql (a := ((x64.kind).toNat : Int)) (b := (1 : Int)) rfl rfl)) ?_
    refine lE oktb (lnf (c_no rfl (csk (csr (lE ofp (lE (olb 1) (lE omb (l_splitb (s := 176) (b := R2.done) rfl (fun h => ?_) (fun h => ?_)))))))))
    rotate_left; (rw [hdn] at h; cases h)
    refine gE ofp (gE (oli 0) ?_)
    refine g_val (v := .bool true) rfl rfl rfl rfl rfl (ev_t (by rw [hk2]; rfl) (e_eql (a := ((x64.kind).toNat : Int)) (b := (2 : Int)) rfl rfl)) ?_
    refine lE oktb (lnf (c_yes rfl ?_))
    refine cnz [sv 181 (.int .i64 (3)) [] [] [0],sv 182 (pp b3 3) [0] [0] [1],sv 183 (Ix (su.a3)) [0,1] [1] [],sv 184 (.int .i64 (3)) [] [] [0],sv 185 (pp b66 4) [] [] [2],sv 186 (pp b66 7) [3,4] [4,3] [],sv 187 (Ix (x64.a.a3)) [3,4,5] [5] [],sv 188 (Ix ((su.a3) - (x64.a.a3))) (List.range 7) [2,6] [],sv 189 (pp b3 3) (List.range 8) [0] [1],⟨(List.range 9),[8,7],[],[],fun _ => True⟩] [u1 [6],u0,u0,u0,u0,(some 9,[2,9])] [⟨(some 9),none,[],[],fun _ => pt b3 (.cells #[Ix ((su.a0) - (x64.a.a0)),Ix ((su.a1) - (x64.a.a1)),Ix ((su.a2) - (x64.a.a2)),Ix ((su.a3) - (x64.a.a3))] 44)⟩] [(17,.int .i64 (3)),(6,pp b3 0),(16,pp b66 0),(3,pp b1 0),(4,pp H2 0),(5,.bool true),(10,pp b51 0),(31,sB va zs4 (vc)),(32,Nx (zs4.length)),(33,Nx (i)),(149,sB p46 (fitL x9) c47),(150,Nx ((fitL x9).length)),(151,Nx (m)),(155,.int .i64 (3))] [3,4,5,1,6,2,7,8,9,10,11,12,13] ⟨rfl,rfl,rfl,rfl,rfl,rfl,rfl,rfl,rfl,rfl,rfl,rfl,rfl,rfl,trivial⟩ ⟨?_,?_,?_,?_,?_,?_,?_,?_,?_,?_,trivial⟩ ?_
    ·rintro f M - ⟨i0,-⟩
     exact obE omi
    ·rintro f M ⟨k0,-⟩ ⟨i0,-⟩
     exact ob0 (up_cons (d := 181) (up_cons (d := 6) rfl i0) k0) rfl (e_indexArrK (b := b3) (o := 0) (k := 3) rfl rfl tt1.ok (by decide)) (.refl _)
    ·rintro f M ⟨k0,-⟩ -
     exact obE (oli 0)
    ·rintro f M - ⟨i0,-⟩
     exact obE omi
    ·rintro f M - ⟨i0,-⟩
     exact obE ofp
    ·rintro f M ⟨k0,k1,-⟩ -
     exact ob0 (up_cons (d := 184) (up_cons (d := 185) rfl k0) k1) rfl (e_indexArrK (b := b66) (o := 4) (k := 3) rfl rfl tt1.ok (by decide)) (.refl _)
    ·rintro f M ⟨k0,-⟩ -
     exact obE (oli 0)
    ·rintro f M ⟨k0,k1,-⟩ -
     exact obE omn
    ·rintro f M ⟨k0,-⟩ ⟨i0,-⟩
     exact ob0 (up_cons (d := 181) (up_cons (d := 6) rfl i0) k0) rfl (e_indexArrK (b := b3) (o := 0) (k := 3) rfl rfl tt1.ok (by decide)) (.refl _)
    ·rintro f M ⟨k0,k1,-⟩ -
     refine obS (up_cons (d := 188) (up_cons (d := 189) rfl k0) k1) ?_
     refine lu (mS 0 (#[Ix ((su.a0) - (x64.a.a0)),Ix ((su.a1) - (x64.a.a1)),Ix ((su.a2) - (x64.a.a2)),Ix ((su.a3) - (x64.a.a3))])) (l_nil ?_)
     exact f_owes_n (up_cons (d := 188) (up_cons (d := 189) rfl k0) k1) trivial (perm_front 0 rfl)
    rintro fa74 ⟨-,-,-,-,-,-,-,-,-,-,-⟩ ⟨j0,j1,j2,j3,j4,j5,j6,j7,j8,j9,j10,j11,j12,-⟩
    refine fre ?_
    refine f_rebase (d := 3) j0 (f_rebase (d := 4) j1 (f_rebase (d := 5) j2 (f_rebase (d := 6) j3 (f_rebase (d := 10) j4 (f_rebase (d := 16) j5 ?_)))))
    refine f_rebase (d := 31) j6 (f_rebase (d := 32) j7 (f_rebase (d := 33) j8 (f_rebase (d := 149) j9 (f_rebase (d := 150) j10 ?_))))
    refine f_rebase (d := 151) j11 (f_rebase (d := 155) j12 (f_block (f_then (c_region (lE opl (lE omi (l_nil (f_cut (un_succ 0 (csr (lE olt (lnf ?_))))))))))))
    refine c_seq (c_no rfl (c_exit (f_then_exit (f_then_exit (f_exit (f_block (f_then (c_region ?_))))))))
    refine lv (v := Nx (m + 1)) (e_add rfl rfl (i64n (by omega) (by omega))) (lE omi (l_nil (f_mask [false,true,true,true,true,true] rfl ?_)))
    exact f_cut ⟨(m + 1,(⟨(su.a0) - (x64.a.a0),(su.a1) - (x64.a.a1),(su.a2) - (x64.a.a2),(su.a3) - (x64.a.a3)⟩ : KAm)),⟨⟨rfl,rfl,rfl,rfl,rfl,rfl,rfl,rfl,rfl,rfl,rfl⟩,rfl,⟨by omega,sup_sub hx65 hsu hdn hk2,by unfold KAm.bd; simp only; omega⟩⟩,(show (fitL x9).length - (m + 1) < (fitL x9).length - m from by omega)⟩
   refine c_region (lE omi (lnf (c_block (c_unroll 5 (un_succ 4 (csr (lE olt (lnf (c_seq (c_yes rfl (csk (c_seq (c_block (csr (lE omi (lE oai (lnf ?_)))))))))))))))))
   refine cs2 (c_region (lE ofp (lE (olb 1) (lE omb (l_splitb (s := 160) (b := R2.done) rfl (fun h => ?_) (fun h => ?_))))))
   rotate_left; (rw [hdn] at h; cases h)
   refine gE ofp (gE (oli 0) ?_)
   refine g_val (v := .bool false) rfl rfl rfl rfl rfl (ev_f (fun h => hk1 (UInt8.toNat_inj.1 (by show x64.kind.toNat = 1; omega))) (e_eql (a := ((x64.kind).toNat : Int)) (b := (1 : Int)) rfl rfl)) ?_
   refine lE oktb (lnf (c_no rfl (csk (csr (lE ofp (lE (olb 1) (lE omb (l_splitb (s := 176) (b := R2.done) rfl (fun h => ?_) (fun h => ?_)))))))))
   rotate_left; (rw [hdn] at h; cases h)
   refine gE ofp (gE (oli 0) ?_)
   refine g_val (v := .bool false) rfl rfl rfl rfl rfl (ev_f (fun h => hk2 (UInt8.toNat_inj.1 (by show x64.kind.toNat = 2; omega))) (e_eql (a := ((x64.kind).toNat : Int)) (b := (2 : Int)) rfl rfl)) ?_
   refine lE oktb (lnf (c_no rfl (c_skip (f_block (f_then (c_region (lE opl (lE omi (l_nil (f_cut (un_succ 3 (csr (lE olt (lnf (c_seq (c_yes rfl (csk ?_)))))))))))))))))
   refine c_seq (c_block (csr (lE omi (lE oai (lnf (cs2 (c_region (lE ofp (lE (olb 1) (lE omb ?_))))))))))
   refine l_splitb (s := 160) (b := R2.done) rfl (fun h => ?_) (fun h => ?_)
   rotate_left; (rw [hdn] at h; cases h)
   refine gE ofp (gE (oli 0) ?_)
   refine g_val (v := .bool false) rfl rfl rfl rfl rfl (ev_f (fun h => hk1 (UInt8.toNat_inj.1 (by show x64.kind.toNat = 1; omega))) (e_eql (a := ((x64.kind).toNat : Int)) (b := (1 : Int)) rfl rfl)) ?_
   refine lE oktb (lnf (c_no rfl (csk (csr (lE ofp (lE (olb 1) (lE omb (l_splitb (s := 176) (b := R2.done) rfl (fun h => ?_) (fun h => ?_)))))))))
   rotate_left; (rw [hdn] at h; cases h)
   refine gE ofp (gE (oli 0) ?_)
   refine g_val (v := .bool false) rfl rfl rfl rfl rfl (ev_f (fun h => hk2 (UInt8.toNat_inj.1 (by show x64.kind.toNat = 2; omega))) (e_eql (a := ((x64.kind).toNat : Int)) (b := (2 : Int)) rfl rfl)) ?_
   refine lE oktb (lnf (c_no rfl (c_skip (f_block (f_then (c_region (lE opl (lE omi (l_nil (f_cut (un_succ 2 (csr (lE olt (lnf (c_seq (c_yes rfl (csk ?_)))))))))))))))))
   refine c_seq (c_block (csr (lE omi (lE oai (lnf (cs2 (c_region (lE ofp (lE (olb 1) (lE omb ?_))))))))))
   refine l_splitb (s := 160) (b := R2.done) rfl (fun h => ?_) (fun h => ?_)
   rotate_left; (rw [hdn] at h; cases h)
   refine gE ofp (gE (oli 0) ?_)
   refine g_val (v := .bool false) rfl rfl rfl rfl rfl (ev_f (fun h => hk1 (UInt8.toNat_inj.1 (by show x64.kind.toNat = 1; omega))) (e_eql (a := ((x64.kind).toNat : Int)) (b := (1 : Int)) rfl rfl)) ?_
   refine lE oktb (lnf (c_no rfl (csk (csr (lE ofp (lE (olb 1) (lE omb (l_splitb (s := 176) (b := R2.done) rfl (fun h => ?_) (fun h => ?_)))))))))
   rotate_left; (rw [hdn] at h; cases h)
   refine gE ofp (gE (oli 0) ?_)
   refine g_val (v := .bool false) rfl rfl rfl rfl rfl (ev_f (fun h => hk2 (UInt8.toNat_inj.1 (by show x64.kind.toNat = 2; omega))) (e_eql (a := ((x64.kind).toNat : Int)) (b := (2 : Int)) rfl rfl)) ?_
   refine lE oktb (lnf (c_no rfl (c_skip (f_block (f_then (c_region (lE opl (lE omi (l_nil (f_cut (un_succ 1 (csr (lE olt (lnf (c_seq (c_yes rfl (csk ?_)))))))))))))))))
   refine c_seq (c_block (csr (lE omi (lE oai (lnf (cs2 (c_region (lE ofp (lE (olb 1) (lE omb ?_))))))))))
   refine l_splitb (s := 160) (b := R2.done) rfl (fun h => ?_) (fun h => ?_)
   rotate_left; (rw [hdn] at h; cases h)
   refine gE ofp (gE (oli 0) ?_)
   refine g_val (v := .bool false) rfl rfl rfl rfl rfl (ev_f (fun h => hk1 (UInt8.toNat_inj.1 (by show x64.kind.toNat = 1; omega))) (e_eql (a := ((x64.kind).toNat : Int)) (b := (1 : Int)) rfl rfl)) ?_
   refine lE oktb (lnf (c_no rfl (csk (csr (lE ofp (lE (olb 1) (lE omb (l_splitb (s := 176) (b := R2.done) rfl (fun h => ?_) (fun h => ?_)))))))))
   rotate_left; (rw [hdn] at h; cases h)
   refine gE ofp (gE (oli 0) ?_)
   refine g_val (v := .bool false) rfl rfl rfl rfl rfl (ev_f (fun h => hk2 (UInt8.toNat_inj.1 (by show x64.kind.toNat = 2; omega))) (e_eql (a := ((x64.kind).toNat : Int)) (b := (2 : Int)) rfl rfl)) ?_
   refine lE oktb (lnf (c_no rfl (c_skip (f_block (f_then (c_region (lE opl (lE omi (l_nil (f_cut (un_succ 0 (csr (lE olt (lnf (c_seq (c_no rfl ?_))))))))))))))))
   refine c_exit (f_then_exit (f_then_exit (f_exit (f_block (f_then (c_region (lv (v := Nx (m + 1)) (e_add rfl rfl (i64n (by omega) (by omega))) ?_)))))))
   refine lE omi (l_nil (f_mask [false,true,true,true,true,true] rfl ?_))
   exact f_cut ⟨(m + 1,su),⟨⟨rfl,rfl,rfl,rfl,rfl,rfl,rfl,rfl,rfl,rfl,rfl⟩,rfl,⟨by omega,sup_none hx65 hsu hk1 hk2,by unfold KAm.bd; omega⟩⟩,(show (fitL x9).length - (m + 1) < (fitL x9).length - m from by omega)⟩
  refine c_exit (f_then_exit (f_then_exit (f_exit (fts ?_))))
  have hse : su = X2.s.su := by rw [hsu,List.take_of_length_le (by omega)]; exact hst2.su
  subst hse
  refine cnz [sv 192 (pp H2 0) [] [] [0],sv 193 (.bool true) [0] [0] [],sv 194 (.bool false) [0,1] [1] [],sv 195 (.bool false) [0,1,2] [2] [],sv 196 (pp H2 0) [0,1,2,3] [3] [0],sv 197 (.agg (amC X2.s.su)) [0,1,2,3,4] [4,3] [],sv 198 (.agg (amC X2.s.su)) [0,1,2,3] [3] [1],sv 199 (.bool false) (List.range 7) [5,6,3] [],sv 200 (.bool false) (List.range 8) [3,7] []] [u0,u1 [1,5],u0,u0,u1 [6]] [] [(4,pp H2 0),(6,pp b3 0),(3,pp b1 0),(5,.bool true),(31,sB va zs4 (vc)),(32,Nx (zs4.length)),(33,Nx (i))] [2,0,3,1,4,5,6] ⟨rfl,rfl,rfl,rfl,rfl,rfl,rfl,trivial⟩ ⟨?_,?_,?_,?_,?_,?_,?_,?_,?_,trivial⟩ ?_
  ·rintro f M - ⟨i0,-⟩
   exact obE omp
  ·rintro f M ⟨k0,-⟩ -
   refine obS (up_cons (d := 192) rfl k0) ?_
   refine l_call rfl rfl rfl (cl0 (vs := [pp H2 0]) tv207.ok rfl rfl) ?_
   intro w hw
   replace hw := hw.perm (L' := _ :: M) (by exact (perm_front 0 rfl))
   obtain ⟨β1,sb,kn,hw1,back⟩ := St.frame (L := [_]) (M := M) hw
   refine (keptP_ok β1 w H2 b1 (i + 1) ((262638 * i) + 494) X2 hw1).mono ?_
   rintro e w' ⟨rfl,hw'⟩
   refine ⟨_,rfl,_,back _ _ hw',?_⟩
   clear hw hw1 hw' back kn sb
   refine l_nil ?_
   exact f_owes_d (up_cons (d := 192) rfl k0) rfl (perm_front 0 rfl)
  ·rintro f M ⟨k0,-⟩ -
   exact obE ont
  ·rintro f M ⟨k0,-⟩ -
   exact obE omb
  ·rintro f M ⟨k0,-⟩ ⟨i0,-⟩
   exact obG omp
  ·rintro f M ⟨k0,k1,-⟩ -
   refine obS (up_cons (d := 195) (up_cons (d := 196) rfl k0) k1) ?_
   refine g_call rfl rfl rfl rfl rfl (cl0 (vs := [pp H2 0]) tt179.ok rfl rfl) ?_
   intro w hw
   replace hw := hw.perm (L' := _ :: M) (by exact (perm_front 0 rfl))
   obtain ⟨β1,sb,kn,hw1,back⟩ := St.frame (L := [_]) (M := M) hw
   refine (supplyP_ok β1 w H2 b1 (i + 1) ((262638 * i) + 494) X2 hw1).mono ?_
   rintro e w' ⟨rfl,hw'⟩
   refine ⟨_,rfl,_,back _ _ hw',?_⟩
   clear hw hw1 hw' back kn sb
   refine l_nil ?_
   exact f_owes_d (up_cons (d := 195) (up_cons (d := 196) rfl k0) k1) rfl (perm_front 0 rfl)
  ·rintro f M ⟨k0,-⟩ ⟨i0,-⟩
   exact obG (olg 0)
  ·rintro f M ⟨k0,k1,k2,-⟩ -
   exact obg (L' := M) (v := .bool false) (up_cons (d := 195) (up_cons (d := 198) (up_cons (d := 197) rfl k0) k1) k2) (ev_f (fun q => q rfl) (e_neq_t (xs := amE X2.s.su) (ys := amE X2.s.su) tt12 tt13 tt14 rfl rfl rfl rfl (not_congr (am_eq (x := X2.s.su) (y := X2.s.su))))) rfl rfl rfl rfl (.refl _) (by rfl)
  ·rintro f M ⟨k0,k1,-⟩ -
   exact obE okfb
  rintro fa75 ⟨-,-,-,-,-,-,-,-,k8,-⟩ ⟨j0,j1,j2,j3,j4,j5,j6,-⟩
  refine fre ?_
  refine f_rebase (d := 3) j0 (f_rebase (d := 4) j1 (f_rebase (d := 5) j2 (f_rebase (d := 6) j3 (f_rebase (d := 31) j4 (f_rebase (d := 32) j5 ?_)))))
  refine f_rebase (d := 33) j6 (f_rebase (d := 200) k8 (f_then (c_no rfl (c_skip (f_block (f_then (c_region ?_)))))))
  refine lv (v := Nx (i + 1)) (e_add rfl rfl (i64n (by omega) (by omega))) (lE omi (l_nil ?_))
  refine f_houPLe (M := i + 1) (V := 262638 * (i + 1)) 1 rfl (by omega) (by omega) (f_mask [false,true,false,false,true] rfl ?_)
  exact f_cut ⟨(i + 1,X2,H2),⟨⟨rfl,rfl,rfl,rfl,rfl,rfl,rfl⟩,rfl,⟨by omega,hst2.n1.le (by omega)⟩⟩,(show zs4.length - (i + 1) < zs4.length - i from by omega)⟩
 refine c_exit (f_then_exit (f_then_exit (f_exit (ftc (lcR clA (fun w β1 sb kn hw1 => awake_ok β1 w hw1) (lE oab (lnf (c_ret ?_))))))))
 refine ret1 Tryz.results7 rfl ?_
 intro w hw
 exact ⟨rfl,st_mask [false,false] rfl hw⟩
end Go.Proofs
