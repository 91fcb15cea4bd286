/-
 TradeOpens: walked. Printed by a program of my own.
-/
import Derived.Test.YtjejfkajcbdgjaaGreatTd21
import Derived.Test.YtjejfkajcbdgjaaGreatTdWh
import Derived.Test.YtjejfkajcbdgjaaGreatSlA
import Derived.Test.YtjejfkajcbdgjaaGreatSlB
namespace Go.Proofs
open Go Go.Sl Go.Td Go.Jn
instance tt195 : CfC Tryz.prog 10 := ⟨by kernel_rfl⟩
instance tt196 : UndC Tryz.prog 22 32 := ⟨by kernel_rfl⟩
theorem tt197 : slB Tryz.prog 22 32 4 = true := by kernel_rfl
instance tt198 : CfC Tryz.prog 11 := ⟨by kernel_rfl⟩
instance tt199 : CfC Tryz.prog 22 := ⟨by kernel_rfl⟩
instance tt200 : CfC Tryz.prog 30 := ⟨by kernel_rfl⟩
instance tt201 : CfC Tryz.prog 31 := ⟨by kernel_rfl⟩
instance tt202 : FldC Tryz.prog 32 2 2 1 false := ⟨by kernel_rfl⟩
instance tt203 : CfC Tryz.prog 17 := ⟨by kernel_rfl⟩
set_option maxHeartbeats 4000000 in
theorem opens_ok (β : Base) (w : World) (hw : St β [] w) (v : Value) (l : List TOp) (hs : Sl TOpR β.heap v l) (at_ : UInt8) : Ret Tryz.prog 8 #[v, Bx at_] β w (.bool true) := by
 obtain ⟨va,vc,rfl,vl,vm,ve⟩ := hs.get
 refine enter (n := 114) Tryz.func8 rfl Tryz.ntmps8 rfl ?_ hw
 refine csr (lE oab (lnc ?_))
 refine lv (v := .agg #[.slice none 0 0,.slice none 0 0,.slice none 0 0,.int .i64 (-1)]) (e_build tt176.ok tt175 (vs := [(3,.int .i64 (-1))]) (cells := #[.slice none 0 0,.slice none 0 0,.slice none 0 0,.int .i64 (-1)]) rfl rfl) ?_
 refine bxa fun b1 => ?_
 refine lE oap (lnc (lE omp (l_call rfl rfl rfl (cl0 (vs := [pp b1 0]) tt195.ok rfl rfl) ?_)))
 intro w hw
 replace hw := hw.perm (L' := _ :: []) (by exact (perm_front 0 rfl))
 obtain ⟨β1,sb,kn,hw1,back⟩ := St.frame (L := [_]) (M := []) hw
 refine (opened_new β1 w b1 (-1) hw1 (by decide)).mono ?_
 rintro e w' ⟨H2,rfl,hw'⟩
 refine ⟨_,rfl,_,back _ _ hw',?_⟩
 clear hw hw1 hw' back kn sb
 refine lE omt (lE oxp (lE oxb (lE oap (lE oab (lnf (cs2 (c_region (lE omb (lE ont (lnf (c_no rfl (csk (cs2 (c_region (lE oms (lE oms (lE oln ?_)))))))))))))))))
 refine lv (v := Nx (min l.length 30)) (ev_eq (congrArg (Value.int .i64) (by omega)) (e_min (a := ((l.length : Nat) : Int)) (b := (30 : Int)) rfl rfl)) ?_
 obtain ⟨zs3,hz4⟩ : ∃ zs,zs = (l.take (min l.length 30)) := ⟨_,rfl⟩
 have zl5 : zs3.length = min (min l.length 30) (l).length - 0 := by rw [hz4]; simp; try omega
 have ze6 := (Elems.take (min l.length 30) ve)
 rw [← hz4] at ze6
 refine lv (v := .slice va (zs3.length) (vc)) (ev_eq (by rw [show zs3.length = min l.length 30 by omega]) (e_slice_hi (a := va) (len := l.length) (cap := vc) (h := min l.length 30) tt197 rfl rfl (by omega))) ?_
 refine lE oln (lE omi (lnf (c_block (c_mask [true] rfl ?_))))
 refine c_loop (fun (i : Nat) f L => (f 1 = Bx (at_) ∧ f 5 = pp b1 0 ∧ f 6 = pp H2 0 ∧ f 30 = sB va zs3 (vc) ∧ f 31 = Nx (zs3.length) ∧ f 32 = Nx (i)) ∧ L = [houseR H2 b1 (seqX l i) (2 * i) (262638 * i) (-1)] ∧ (i ≤ zs3.length)) (fun i => zs3.length - i) 0 ?_ ?_
 ·exact ⟨⟨rfl,rfl,rfl,rfl,rfl,rfl⟩,rfl,Nat.zero_le _⟩
 rintro i f0 L0 ⟨⟨hs1,hs5,hs6,hs30,hs31,hs32⟩,hL,hi⟩
 subst L0
 refine rbs 1 hs1 (rbs 5 hs5 (rbs 6 hs6 (rbs 30 hs30 (rbs 31 hs31 (rbs 32 hs32 (csr (lE olt (lnf (c_seq (c_if _ rfl (fun hc7 => ?_) (fun hc7 => ?_)))))))))))
 ·refine csk (c_seq (c_block (csr (lE omi ?_))))
  obtain ⟨x8,hx9⟩ := getx zs3 i (by omega)
  obtain ⟨ha10,cs11,hc12,hr13⟩ := ze6 _ _ hx9
  obtain ⟨ho16,v14,rfl,hv15⟩ := hr13
  obtain ⟨a17,c18,rfl,hl19,hm20,he21⟩ := (hv15).get
  refine lE (oia tt197 ha10) (lv (v := .agg #[Bx (x8.kind),Ix (x8.author),Ix (x8.number),sB a17 x8.acts (c18)]) (e_load tt170.ok rfl (kB hc12) rfl) ?_)
  refine alE fun b22 => lE oai (lu (mS 0 (#[Bx (x8.kind),Ix (x8.author),Ix (x8.number),sB a17 x8.acts (c18)])) (lnf (c_seq ?_)))
  have hlx : l[i]? = some x8 := at_take (n := min l.length 30) (by rw [← hz4]; exact hx9)
  have hfm := fit_formed x8 (n := ((1 + i : Nat) : Int)) (by omega) (by omega)
  have hfb := fit_hb x8
  have hfl := fitL_len x8
  obtain ⟨X1,R,hr,hX1⟩ := rnd_ok hfm (seqX_num l i)
  have hXs := seqX_next hlx
  refine c_region (lE (olg 0) (lE omi (lv (v := Nx (1 + i)) (e_add rfl rfl (i64n (by omega) (by omega))) ?_)))
  refine lcf (cl0 (vs := [.agg #[Bx (x8.kind),Ix (x8.author),Ix (x8.number),sB a17 x8.acts (c18)],Nx (1 + i)]) tt198.ok rfl rfl) rfl fun w β1 sb kn hw1 back => (fit_ok β1 w hw1 x8 _ (Sl.mono _ _ _ _ _ sb (⟨⟨_,_,rfl,by omega,by omega,he21⟩⟩ : Sl ActF.R _ _ x8.acts)) ((1 + i : Nat) : Int)).mono ?_
  rintro e w' ⟨p23,c24,rfl,hw'⟩
  refine ⟨_,rfl,_,back _ _ hw',?_⟩
  clear hw1 hw' back kn sb
  refine lu (mS 1 (#[Bx (x8.kind),Ix (fitAu x8),Nx (1 + i),sB p23 (fitL x8) c24])) (lnf (c_seq ?_))
  refine c_seq_cut (fun (f : Fm) (L : List Res) => ∃ (zz : Nat),(f 1 = Bx (at_) ∧ f 5 = pp b1 0 ∧ f 6 = pp H2 0 ∧ f 9 = pp b22 0 ∧ f 30 = sB va zs3 (vc) ∧ f 31 = Nx (zs3.length) ∧ f 32 = Nx (i) ∧ f 55 = .bool false) ∧ L = [rowF ActF 47 p23 c24 (fitL x8),pt b22 (.cells #[Bx (x8.kind),Ix (fitAu x8),Nx (1 + i),sB p23 (fitL x8) c24] 32),houseR H2 b1 (seqX l i) (2 * i + 1) (262638 * i + 262144) (-1)] ∧ (True)) ?_ ?_
  ·refine c_region (lE omi (lE omi ?_))
   refine lv (v := Nx (at_.toNat)) (e_conv (a := ((at_).toNat : Int)) rfl ⟨_,tt75⟩ tt80 (i64n rfl (by have := (at_).toNat_lt; omega))) ?_
   refine lv (v := Nx (at_.toNat % 9)) (e_rem (a := ((at_.toNat : Nat) : Int)) (b := (9 : Int)) rfl rfl (by decide) (nat_tmod _ 9)) ?_
   refine lv (v := Nx (1 + (at_.toNat % 9))) (e_add rfl rfl (i64n (by omega) (by omega))) ?_
   refine lv (v := Nx (i % (1 + (at_.toNat % 9)))) (e_rem (a := ((i : Nat) : Int)) (b := ((1 + (at_.toNat % 9) : Nat) : Int)) rfl rfl (by omega) (nat_tmod _ _)) ?_
   refine lE omi (lv (v := Nx (at_.toNat)) (e_conv (a := ((at_).toNat : Int)) rfl ⟨_,tt75⟩ tt80 (i64n rfl (by have := (at_).toNat_lt; omega))) ?_)
   refine lv (v := Nx (at_.toNat % 5)) (e_rem (a := ((at_.toNat : Nat) : Int)) (b := (5 : Int)) rfl rfl (by decide) (nat_tmod _ 5)) (lE oeq_ (lE omb ?_))
   refine l_split (s := 51) rfl (fun hg25 => ?_) (fun hg25 => ?_)
   ·refine gE omp (g_call rfl rfl rfl rfl rfl (cl0 (vs := [pp H2 0]) tt199.ok rfl rfl) ?_)
    intro w hw
    replace hw := hw.perm (L' := _ :: _ :: _ :: []) (by exact (((perm_front 1 rfl).trans (perm_front 1 rfl)).trans (perm_front 2 rfl)))
    obtain ⟨β1,sb,kn,hw1,back⟩ := St.frame (L := [_]) (M := _ :: _ :: []) hw
    refine (compact_eq β1 w H2 b1 (2 * i) (262638 * i) (seqX l i) hw1 (by omega) (by omega)).mono ?_
    rintro e w' ⟨rfl,hw'⟩
    refine ⟨_,rfl,_,back _ _ hw',?_⟩
    clear hw hw1 hw' back kn sb
    refine gE onq (lE oktb (l_nil (f_houLe (M := 2 * i + 1) (V := 262638 * i + 262144) 0 rfl (by omega) (by omega) ?_)))
    refine f_perm (L' := [rowF ActF 47 p23 c24 (fitL x8),pt b22 (.cells #[Bx (x8.kind),Ix (fitAu x8),Nx (1 + i),sB p23 (fitL x8) c24] 32),houseR H2 b1 (seqX l i) (2 * i + 1) (262638 * i + 262144) (-1)]) (perm_ix [1,2,0] 3 rfl (by kernel_rfl) (by kernel_rfl)) ?_
    exact f_cut ⟨0,⟨rfl,rfl,rfl,rfl,rfl,rfl,rfl,rfl⟩,rfl,trivial⟩
   refine skE (skE (skE (lE okfb (l_nil (f_houLe (M := 2 * i + 1) (V := 262638 * i + 262144) 2 rfl (by omega) (by omega) ?_)))))
   exact f_cut ⟨0,⟨rfl,rfl,rfl,rfl,rfl,rfl,rfl,rfl⟩,rfl,trivial⟩
  rintro f0 L0 ⟨zz,⟨hs1,hs5,hs6,hs9,hs30,hs31,hs32,hs55⟩,hL,-⟩
  subst L0
  refine rbs 1 hs1 (rbs 5 hs5 (rbs 6 hs6 (rbs 9 hs9 (rbs 30 hs30 (rbs 31 hs31 (rbs 32 hs32 (rbs 55 hs55 (c_no rfl (csk (c_seq ?_))))))))))
  refine c_pi [2,0,1] 3 rfl (by kernel_rfl) (c_openHouse rfl (fun J mp mh mm s ms zs i2 k hk hpw => ?_))
  refine c_pi [2,0,1,3,4,5,6,7,8] 9 rfl (by kernel_rfl) (c_openStore rfl (fun pH26 pA27 pB28 cH29 cA30 cB31 => ?_))
  obtain ⟨hkl1,hkl2⟩ := hk.so.inv.lens
  have hkl0 := hk.so.inv.head.len
  refine c_region (lE omp (lE onp (lE (olg 0) ?_)))
  refine lcf (cl0 (vs := [.agg #[sB pH26 k.head cH29,sB pA27 k.a cA30,sB pB28 k.b cB31,Ix (k.power)]]) tt200.ok rfl rfl) rfl fun w β1 sb kn hw1 back => (copys_ok β1 w hw1 k _ _ _ (kU kn 1 rfl) (kU kn 2 rfl) (kU kn 3 rfl) (by omega) (by omega) (by omega)).mono ?_
  rintro e w' ⟨pH32,pA33,pB34,cH35,cA36,cB37,rfl,hw'⟩
  refine ⟨_,rfl,_,back _ _ hw',?_⟩
  clear hw1 hw' back kn sb
  refine alE fun b38 => lu (mS 0 (#[sB pH32 k.head cH35,sB pA33 k.a cA36,sB pB34 k.b cB37,Ix (k.power)])) (lnf (c_seq ?_))
  refine c_pi [4,5,6,7,0,1,2,3,8,9,10,11,12,13,14,15] 16 rfl (by kernel_rfl) ?_
  refine c_closeStore (S := b1) (k := k) (pH := pH26) (pA := pA27) (pB := pB28) (cH := cH29) (cA := cA30) (cB := cB31) (M := [pt b38 (.cells #[sB pH32 k.head cH35,sB pA33 k.a cA36,sB pB34 k.b cB37,Ix (k.power)] 29),rB pH32 k.head cH35,rB pA33 k.a cA36,rB pB34 k.b cB37,pt H2 (.cells #[pp J 0,.map (some mp),.map (some mh),Ix (s.last),Ix (s.su.a0),Ix (s.su.a1),Ix (s.su.a2),Ix (s.su.a3),.map (some mm),.bool false] 91),jourR J b1 i2 false,mpR PuM mp s.ps,mpR HoM mh s.hs,mpR MeM mm ms,memR zs,rowF ActF 47 p23 c24 (fitL x8),pt b22 (.cells #[Bx (x8.kind),Ix (fitAu x8),Nx (1 + i),sB p23 (fitL x8) c24] 32)]) rfl ?_
  refine c_pi [5,6,0,7,8,9,10,1,2,3,4,11,12] 13 rfl (by kernel_rfl) ?_
  refine c_closeHouse (M := [pt b38 (.cells #[sB pH32 k.head cH35,sB pA33 k.a cA36,sB pB34 k.b cB37,Ix (k.power)] 29),rB pH32 k.head cH35,rB pA33 k.a cA36,rB pB34 k.b cB37,rowF ActF 47 p23 c24 (fitL x8),pt b22 (.cells #[Bx (x8.kind),Ix (fitAu x8),Nx (1 + i),sB p23 (fitL x8) c24] 32)]) rfl hk hpw ?_
  refine c_pi [1,2,3,4,0,5,6] 7 rfl (by kernel_rfl) ?_
  refine c_closeStore (S := b38) (k := k) (pH := pH32) (pA := pA33) (pB := pB34) (cH := cH35) (cA := cA36) (cB := cB37) (M := [houseR H2 b1 (seqX l i) (2 * i + 1) (262638 * i + 262144) (-1),rowF ActF 47 p23 c24 (fitL x8),pt b22 (.cells #[Bx (x8.kind),Ix (fitAu x8),Nx (1 + i),sB p23 (fitL x8) c24] 32)]) rfl ?_
  refine c_closeShelf (p := -1) (M := [houseR H2 b1 (seqX l i) (2 * i + 1) (262638 * i + 262144) (-1),rowF ActF 47 p23 c24 (fitL x8),pt b22 (.cells #[Bx (x8.kind),Ix (fitAu x8),Nx (1 + i),sB p23 (fitL x8) c24] 32)]) rfl hk.so.weak hpw ?_
  refine c_region (l_call rfl rfl rfl (cl0 (vs := [pp b38 0]) tt195.ok rfl rfl) ?_)
  intro w hw
  replace hw := hw.perm (L' := _ :: _ :: _ :: _ :: []) (by exact ((((perm_front 3 rfl).trans (perm_front 3 rfl)).trans (perm_front 3 rfl)).trans (perm_front 3 rfl)))
  obtain ⟨β1,sb,kn,hw1,back⟩ := St.frame (L := [_]) (M := _ :: _ :: _ :: []) hw
  refine (opened_ok β1 w b38 (2 * i + 1) (262638 * i + 262144) (seqX l i) (-1) hw1 (by omega)).mono ?_
  rintro e w' ⟨H39,rfl,hw'⟩
  refine ⟨_,rfl,_,back _ _ hw',?_⟩
  clear hw hw1 hw' back kn sb
  refine lE omt (lE oxp (lE oxb (lE oap (lE oab (lnf (cs2 (c_region (lE omb (lE ont (lE omb (gE omp (gE omp ?_))))))))))))
  refine g_call rfl rfl rfl rfl rfl (cl0 (vs := [pp H39 0,pp H2 0]) tt201.ok rfl rfl) ?_
  intro w hw
  replace hw := hw.perm (L' := _ :: _ :: _ :: _ :: []) (by exact ((((perm_front 3 rfl).trans (perm_front 3 rfl)).trans (perm_front 3 rfl)).trans (perm_front 3 rfl)))
  obtain ⟨β1,sb,kn,hw1,back⟩ := St.frame (L := [_,_]) (M := _ :: _ :: []) hw
  refine (equal_ok β1 w H39 b38 (2 * i + 1) (262638 * i + 262144) H2 b1 (2 * i + 1) (262638 * i + 262144) (-1) (-1) (seqX l i) hw1).mono ?_
  rintro e w' ⟨rfl,hw'⟩
  refine ⟨_,rfl,_,back _ _ hw',?_⟩
  clear hw hw1 hw' back kn sb
  refine gE ont (lE okfb (lnf (c_no rfl (csk (csr (lE omp (lE ofp (lE (oli 3) (lE ofp (lE (oli 3) (lE ofp (lE (ols 3) ?_))))))))))))
  refine l_call rfl rfl rfl (cl0 (vs := [pp H2 0,Ix (fitAu x8),Nx (1 + i),sB p23 (fitL x8) c24]) tt177.ok rfl rfl) ?_
  intro w hw
  replace hw := hw.perm (L' := _ :: _ :: _ :: _ :: []) (by exact ((((perm_front 3 rfl).trans (perm_front 3 rfl)).trans (perm_front 2 rfl)).trans (perm_front 3 rfl)))
  obtain ⟨β1,sb,kn,hw1,back⟩ := St.frame (L := [_]) (M := _ :: _ :: _ :: []) hw
  refine (do_eq β1 w H2 b1 (2 * i + 1) (262638 * i + 262144) (seqX l i) hw1 (fitAu x8) ((1 + i : Nat) : Int) _ (fitL x8) (kn _ (k_flN 1 (F := ActF) (m := (fitL x8).length) rfl rfl)) (by omega) hfb (by omega) hr.d1).mono ?_
  rintro e w' ⟨p40,c41,rfl,hw'⟩
  refine ⟨_,rfl,_,back _ _ hw',?_⟩
  clear hw hw1 hw' back kn sb
  refine lE omt (lE oxa (lE oxi (alE fun b42 => lu (mS 0 (#[.bool (R.done),Ix (R.at_),Ix (R.e),sB p40 R.holds c41])) (lE oai (lnc (lE omp (lE ofp ?_)))))))
  refine lE (oli 5) (lE ofp (lE (oli 5) (lE ofp (lE (ols 5) ?_))))
  refine l_call rfl rfl rfl (cl0 (vs := [pp H39 0,Ix (fitAu x8),Nx (1 + i),sB p23 (fitL x8) c24]) tt177.ok rfl rfl) ?_
  intro w hw
  replace hw := hw.perm (L' := _ :: _ :: _ :: _ :: _ :: _ :: []) (by exact ((((((perm_front 5 rfl).trans (perm_front 5 rfl)).trans (perm_front 4 rfl)).trans (perm_front 4 rfl)).trans (perm_front 4 rfl)).trans (perm_front 5 rfl)))
  obtain ⟨β1,sb,kn,hw1,back⟩ := St.frame (L := [_]) (M := _ :: _ :: _ :: _ :: _ :: []) hw
  refine (do_eq β1 w H39 b38 (2 * i + 1) (262638 * i + 262144) (seqX l i) hw1 (fitAu x8) ((1 + i : Nat) : Int) _ (fitL x8) (kn _ (k_flN 3 (F := ActF) (m := (fitL x8).length) rfl rfl)) (by omega) hfb (by omega) hr.d1).mono ?_
  rintro e w' ⟨p43,c44,rfl,hw'⟩
  refine ⟨_,rfl,_,back _ _ hw',?_⟩
  clear hw hw1 hw' back kn sb
  refine lE omt (lE oxa (lE oxi (alE fun b45 => lu (mS 0 (#[.bool (R.done),Ix (R.at_),Ix (R.e),sB p43 R.holds c44])) (lE oai (lnc (lE omi (lE onq ?_)))))))
  refine lE omb (gE omi (gE onq (lE okfb (lE omb (gE (olg 0) (gE (olg 3) ?_))))))
  refine g_call rfl rfl rfl rfl rfl (cl0 (vs := [.agg #[.bool (R.done),Ix (R.at_),Ix (R.e),sB p43 R.holds c44],.agg #[.bool (R.done),Ix (R.at_),Ix (R.e),sB p40 R.holds c41]]) tt194.ok rfl rfl) ?_
  intro w hw
  obtain ⟨β1,sb,kn,hw1,back⟩ := St.frame_all hw
  refine (samer_ok β1 w hw1 R.done R.done R.at_ R.at_ R.e R.e _ _ R.holds R.holds (kn _ (k_flN 1 (F := IntF) (m := R.holds.length) rfl rfl)) (kn _ (k_flN 4 (F := IntF) (m := R.holds.length) rfl rfl)) ⟨rfl,rfl,rfl,rfl⟩).mono ?_
  rintro e w' ⟨rfl,hw'⟩
  refine ⟨_,rfl,_,back _ _ hw',?_⟩
  clear hw hw1 hw' back kn sb
  refine gE ont (lE okfb (lE omb (gE omp (gE omp (g_call rfl rfl rfl rfl rfl (cl0 (vs := [pp H39 0,pp H2 0]) tt201.ok rfl rfl) ?_)))))
  intro w hw
  replace hw := hw.perm (L' := _ :: _ :: _ :: _ :: _ :: _ :: _ :: _ :: []) (by exact ((((((((perm_front 7 rfl).trans (perm_front 7 rfl)).trans (perm_front 6 rfl)).trans (perm_front 6 rfl)).trans (perm_front 5 rfl)).trans (perm_front 5 rfl)).trans (perm_front 7 rfl)).trans (perm_front 7 rfl)))
  obtain ⟨β1,sb,kn,hw1,back⟩ := St.frame (L := [_,_]) (M := _ :: _ :: _ :: _ :: _ :: _ :: []) hw
  refine (equal_ok β1 w H39 b38 ((2 * i + 1) + 1) ((262638 * i + 262144) + 494) H2 b1 ((2 * i + 1) + 1) ((262638 * i + 262144) + 494) (-1) (-1) X1 hw1).mono ?_
  rintro e w' ⟨rfl,hw'⟩
  refine ⟨_,rfl,_,back _ _ hw',?_⟩
  clear hw hw1 hw' back kn sb
  refine gE ont (lE okfb (lnf (c_no rfl (c_skip (f_block (f_then (c_region (lv (v := Nx (i + 1)) (e_add rfl rfl (i64n (by omega) (by omega))) ?_))))))))
  refine lE omi (l_nil (f_houLe (M := 2 * (i + 1)) (V := 262638 * (i + 1)) 1 rfl (by omega) (by omega) ?_))
  refine f_re (L' := [houseR H39 b38 X1 ((2 * i + 1) + 1) ((262638 * i + 262144) + 494) (-1),houseR H2 b1 (seqX l (i + 1)) (2 * (i + 1)) (262638 * (i + 1)) (-1),pt b45 (.cells #[.bool (R.done),Ix (R.at_),Ix (R.e),sB p43 R.holds c44] 37),rowF IntF 3 p43 c44 R.holds,pt b42 (.cells #[.bool (R.done),Ix (R.at_),Ix (R.e),sB p40 R.holds c41] 37),rowF IntF 3 p40 c41 R.holds,rowF ActF 47 p23 c24 (fitL x8),pt b22 (.cells #[Bx (x8.kind),Ix (fitAu x8),Nx (1 + i),sB p23 (fitL x8) c24] 32)]) (by rw [hXs,← hX1] <;> rfl) ?_
  refine f_mask [false,true,false,false,false,false,false,false] rfl ?_
  exact f_cut ⟨i + 1,⟨⟨rfl,rfl,rfl,rfl,rfl,rfl⟩,rfl,(by omega)⟩,(show zs3.length - (i + 1) < zs3.length - i from by omega)⟩
 refine c_exit (f_then_exit (f_then_exit (f_exit (ftc (lcR clA (fun w β1 sb kn hw1 => awake_ok β1 w hw1) (lE oab (lnf (c_ret ?_))))))))
 refine ret1 Tryz.results8 rfl ?_
 intro w hw
 exact ⟨rfl,st_mask [false] rfl hw⟩
end Go.Proofs
