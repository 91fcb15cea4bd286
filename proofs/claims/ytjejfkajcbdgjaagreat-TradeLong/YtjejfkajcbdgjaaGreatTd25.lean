/-
 TradeLong: walked. Printed by a program of my own.
-/
import Derived.Test.YtjejfkajcbdgjaaGreatTd23
import Derived.Test.YtjejfkajcbdgjaaGreatTdLong
import Derived.Test.YtjejfkajcbdgjaaGreatSlA
import Derived.Test.YtjejfkajcbdgjaaGreatSlB
namespace Go.Proofs
open Go Go.Sl Go.Td Go.Jn
theorem do_long (β : Base) (w : World) (H S N W : Nat) (X : KHs) (hw : St β [houseR H S X N W (-1)] w) (au nu : Int) (v : Value) (al : List KAct) (hs : Sl ActF.R β.heap v al) (hal : al.length ≤ 1048576) (hh63 : hb63 al) (hN : N < 1000000) (hW : W ≤ 54000000) {X1 : KHs} {R : KRes} {e1 : Int} (h : doF X au nu al = (X1, R, e1)) :
  Calls Tryz.prog 12 #[pp H 0,Ix au,Ix nu,v] w fun r w' => ∃ p c,r = .returned (.tuple #[.agg #[.bool R.done,Ix R.at_,Ix R.e,sB p R.holds c],Ix e1]) ∧ St β [rowF IntF 3 p c R.holds,houseR H S X1 (N + 2) (W + 494) (-1)] w' := by
 obtain ⟨e,z,h1,hw⟩ := St.toE hw
 by_cases hz : z + 24 + (dealB au nu al [] 0).length ≤ 262144
 ·refine (doE_ok β w H S N e z (-1) X hw au nu v al hs hal hh63 (Nat.le_of_lt hN) (fun _ => hz)).mono ?_
  rintro r w' ⟨X2,R2,e2,hd,⟨p,c,q,h3,h4,h5⟩ | ⟨h3,_⟩⟩
  ·rw [h] at hd
   injection hd with d1 d2; injection d2 with d2 d3
   subst d1; subst d2; subst d3
   rw [h3 rfl] at h5
   exact ⟨p,c,h4,h5.conseq_at (r := houseR H S X1 (N + 1) (e * 218000 + z + 494) (-1)) (r' := houseR H S X1 (N + 2) (W + 494) (-1)) 1 rfl (houseR_le (Nat.le_succ _) (Nat.add_le_add_right h1 494))⟩
  ·exact absurd rfl h3
 ·refine (doFull_ok β w H S N e z X hw au nu v al hs hal hh63 hN (Nat.le_trans h1 hW) (fun _ => Nat.lt_of_not_le hz)).mono ?_
  rintro r w' ⟨X2,R2,e2,hd,p,c,h4,h5⟩
  rw [h] at hd
  injection hd with d1 d2; injection d2 with d2 d3
  subst d1; subst d2; subst d3
  exact ⟨p,c,h4,h5.conseq_at (r := houseR H S X1 (N + 2) (e * 218000 + z + 494) (-1)) (r' := houseR H S X1 (N + 2) (W + 494) (-1)) 1 rfl (houseR_le (Nat.le_refl _) (Nat.add_le_add_right h1 494))⟩
instance tt207 : CfC Tryz.prog 29 := ⟨by kernel_rfl⟩
set_option maxHeartbeats 4000000 in
theorem long_ok2 (β : Base) (w : World) (hw : St β [] w) : Ret Tryz.prog 9 #[] β w (.bool true) := by
 refine enter (n := 82) Tryz.func9 rfl Tryz.ntmps9 rfl ?_ hw
 refine csr (lE oab (lnc ?_))
 refine lv (v := .agg #[.slice none 0 0,.slice none 0 0,.slice none 0 0,.int .i64 (-1)]) (e_build tt176.ok tt175 (vs := [(3,.int .i64 (-1))]) (cells := #[.slice none 0 0,.slice none 0 0,.slice none 0 0,.int .i64 (-1)]) rfl rfl) ?_
 refine bxa fun b1 => ?_
 refine lE oap (lnc (lE omp (l_call rfl rfl rfl (cl0 (vs := [pp b1 0]) tt195.ok rfl rfl) ?_)))
 intro w hw
 replace hw := hw.perm (L' := _ :: []) (by exact (perm_front 0 rfl))
 obtain ⟨β1,sb,kn,hw1,back⟩ := St.frame (L := [_]) (M := []) hw
 refine (opened_new β1 w b1 (-1) hw1 (by decide)).mono ?_
 rintro e w' ⟨H2,rfl,hw'⟩
 refine ⟨_,rfl,_,back _ _ hw',?_⟩
 clear hw hw1 hw' back kn sb
 refine lE omt (lE oxp (lE oxb (lE oap (lE oab (lnf (cs2 (c_region (lE omb (lE ont (lnf (c_no rfl (csk (cs2 (c_region (lE omi (lnf (c_block ?_)))))))))))))))))
 refine c_mask [true] rfl ?_
 refine c_loop (fun (i : Nat) f L => (f 1 = pp b1 0 ∧ f 2 = pp H2 0 ∧ f 20 = Nx (i)) ∧ L = [houseR H2 b1 (longX i) (2 * i) (494 * i) (-1)] ∧ (i ≤ 1500)) (fun i => 1500 - i) 0 ?_ ?_
 ·exact ⟨⟨rfl,rfl,rfl⟩,rfl,by decide⟩
 rintro i f0 L0 ⟨⟨hs1,hs2,hs20⟩,hL,hi⟩
 subst L0
 refine rbs 1 hs1 (rbs 2 hs2 (rbs 20 hs20 (csr (lE olt (lnf (c_seq (c_if _ rfl (fun hc3 => ?_) (fun hc3 => ?_))))))))
 ·refine csk (c_seq (c_block (csr (lE omi (lE oai (lnf (c_seq (c_emp (r := rowF ActF 47 none 0 []) (row_nil _ _ _) (c_region (lE oas (lnf (cs2 ?_))))))))))))
  refine c_region (lE omi (lnf (c_block (c_mask [true,true] rfl ?_))))
  refine c_loop (fun (x_ : Nat × List KAct × Option Addr × Nat) f L => match x_ with | (k,al,p,c) => (f 1 = pp b1 0 ∧ f 2 = pp H2 0 ∧ f 4 = Nx (i) ∧ f 5 = sB p al c ∧ f 20 = Nx (i) ∧ f 23 = Nx (k)) ∧ L = [rowF ActF 47 p c al,houseR H2 b1 (longX i) (2 * i) (494 * i) (-1)] ∧ (k ≤ 16 ∧ al = (List.range k).map (mkA i))) (fun (k,al,p,c) => 16 - k) (0,[],none,0) ?_ ?_
  ·exact ⟨⟨rfl,rfl,rfl,rfl,rfl,rfl⟩,rfl,⟨by decide,rfl⟩⟩
  rintro ⟨k,al,p,c⟩ f0 L0 ⟨⟨hs1,hs2,hs4,hs5,hs20,hs23⟩,hL,⟨hk,hal⟩⟩
  subst L0
  refine rbs 1 hs1 (rbs 2 hs2 (rbs 4 hs4 (rbs 5 hs5 (rbs 20 hs20 (rbs 23 hs23 ?_)))))
  have hall : al.length ≤ 16 := by rw [hal,List.length_map,List.length_range]; exact hk
  refine csr (lE olt (lnf (c_seq (c_if _ rfl (fun hc4 => ?_) (fun hc4 => ?_)))))
  ·refine csk (c_seq (c_block (csr (lE omi (lE oai (lnr (lE oms (lE omi (lE omi (lE opn ?_))))))))))
   refine lv (v := Nx ((i + k) % 40)) (e_rem (a := ((i + k : Nat) : Int)) (b := (40 : Int)) rfl rfl (by decide) (nat_tmod _ 40)) ?_
   refine lv (v := Nx (1 + ((i + k) % 40))) (e_add rfl rfl (i64n (by omega) (by omega))) (lE omi ?_)
   refine lv (v := Nx (i % 3)) (e_rem (a := ((i : Nat) : Int)) (b := (3 : Int)) rfl rfl (by decide) (nat_tmod _ 3)) ?_
   refine lv (v := Nx (1 + (i % 3))) (e_add rfl rfl (i64n (by omega) (by omega))) ?_
   refine lcR clA (fun w β1 sb kn hw1 => act_ok β1 w hw1 (1 : UInt8) ((1 + ((i + k) % 40) : Nat) : Int) 0 0 ((1 + (i % 3) : Nat) : Int)) ?_
   refine l_mv rfl rfl rfl (m_slices tt16 tt47.ok (cells := #[.int .u8 (1),Nx (1 + ((i + k) % 40)),.int .i64 (0),.int .i64 (0),Nx (1 + (i % 3)),.int .i64 (0),.int .i64 (0),.int .i64 (0)]) rfl rfl rfl (by kernel_rfl)) ?_
   rintro _ _ ⟨b5,rfl,rfl⟩
   refine l_mv rfl rfl rfl (m_appendFlN (F := ActF) 1 tt16 tt30 (p := p) (m := al.length) (xs := al) (ys := [(⟨1,((1 + ((i + k) % 40) : Nat) : Int),0,0,(⟨((1 + (i % 3) : Nat) : Int),0,0,0⟩ : KAm)⟩ : KAct)]) (ao := (some ⟨b5,0,none⟩)) (k := 1) (c := 1) rfl rfl rfl rfl rfl (k_ptFl (z := (⟨1,((1 + ((i + k) % 40) : Nat) : Int),0,0,(⟨((1 + (i % 3) : Nat) : Int),0,0,0⟩ : KAm)⟩ : KAct)) 0 rfl rfl) (by first | omega | simp only [List.length_nil,List.length_cons,List.length_append,List.length_set]; omega) (by first | omega | simp only [List.length_nil,List.length_cons,List.length_append,List.length_set]; omega)) ?_
   rintro _ _ ⟨rp6,rc7,rfl,rfl⟩
   refine lE oas (l_nil (f_block (f_then (c_region (lv (v := Nx (k + 1)) (e_add rfl rfl (i64n (by omega) (by omega))) (lE omi (l_nil ?_)))))))
   refine f_mask [false,true,true] rfl ?_
   exact f_cut ⟨(k + 1,(al ++ [(⟨1,((1 + ((i + k) % 40) : Nat) : Int),0,0,(⟨((1 + (i % 3) : Nat) : Int),0,0,0⟩ : KAm)⟩ : KAct)]),rp6,rc7),⟨⟨rfl,rfl,rfl,rfl,rfl,rfl⟩,rfl,⟨by omega,by rw [hal]; exact longA_next i k⟩⟩,(show 16 - (k + 1) < 16 - k from by omega)⟩
  refine c_exit (f_then_exit (f_then_exit (f_exit (fts ?_))))
  have hae : al = longA i := by rw [hal,show k = 16 by omega]; rfl
  subst hae
  have hlf : (longA i).length ≤ 1048576 := by rw [longA_len]; decide
  have hi15 : i < 1500 := by omega
  refine c_region (lE omp (lE omi (lv (v := Nx (i % 7)) (e_rem (a := ((i : Nat) : Int)) (b := (7 : Int)) rfl rfl (by decide) (nat_tmod _ 7)) ?_)))
  refine lv (v := Nx (1 + (i % 7))) (e_add rfl rfl (i64n (by omega) (by omega))) (lE omi ?_)
  refine lv (v := Nx (1 + i)) (e_add rfl rfl (i64n (by omega) (by omega))) (lE oms ?_)
  refine l_call rfl rfl rfl (cl0 (vs := [pp H2 0,Nx (1 + (i % 7)),Nx (1 + i),sB p (longA i) c]) tt177.ok rfl rfl) ?_
  intro w hw
  replace hw := hw.perm (L' := _ :: _ :: []) (by exact ((perm_front 0 rfl).trans (perm_front 1 rfl)))
  obtain ⟨β1,sb,kn,hw1,back⟩ := St.frame (L := [_]) (M := _ :: []) hw
  refine (do_long β1 w H2 b1 (2 * i) (494 * i) (longX i) hw1 ((1 + (i % 7) : Nat) : Int) ((1 + i : Nat) : Int) _ (longA i) (kn _ (k_flN 0 (F := ActF) (m := (longA i).length) rfl rfl)) hlf (longA_hb i) (by omega) (by omega) (long_do hi15)).mono ?_
  rintro e w' ⟨p8,c9,rfl,hw'⟩
  refine ⟨_,rfl,_,back _ _ hw',?_⟩
  clear hw hw1 hw' back kn sb
  refine lE omt (lE oxa (lE oxi (alE fun b10 => lu (mS 0 (#[.bool true,.int .i64 (0),.int .i64 (0),.slice p8 (0) c9])) (lE oai (lnc (lE omi (lE onq ?_)))))))
  refine lE omb (gE ofp (gE (olb 0) (gE ont (lE okfb (lnf (c_no rfl (c_skip (f_block (f_then (c_region ?_))))))))))
  refine lv (v := Nx (i + 1)) (e_add rfl rfl (i64n (by omega) (by omega))) (lE omi (l_nil ?_))
  refine f_houLe (M := 2 * (i + 1)) (V := 494 * (i + 1)) 2 rfl (by omega) (by omega) (f_mask [false,false,true,false] rfl ?_)
  exact f_cut ⟨i + 1,⟨⟨rfl,rfl,rfl⟩,rfl,(by omega)⟩,(show 1500 - (i + 1) < 1500 - i from by omega)⟩
 refine c_exit (f_then_exit (f_then_exit (f_exit (fts ?_))))
 have hi5 : i = 1500 := by omega
 subst hi5
 refine c_splitHouse rfl (fun J1 j1 k1 hso1 hpw1 => ?_)
 refine c_pi [2,0,1] 3 rfl (by kernel_rfl) (c_closeShelf (p := -1) (M := [viewR H2 J1 (longX 1500) false,jourR J1 b1 j1 false]) rfl hso1.weak hpw1 ?_)
 refine c_region (lE omp (l_call rfl rfl rfl (cl0 (vs := [pp b1 0]) tt195.ok rfl rfl) ?_))
 intro w hw
 replace hw := hw.perm (L' := _ :: _ :: _ :: []) (by exact (((perm_front 2 rfl).trans (perm_front 2 rfl)).trans (perm_front 2 rfl)))
 obtain ⟨β1,sb,kn,hw1,back⟩ := St.frame (L := [_]) (M := _ :: _ :: []) hw
 refine (opened_ok β1 w b1 (2 * 1500) (494 * 1500) (longX 1500) (-1) hw1 (by omega)).mono ?_
 rintro e w' ⟨H11,rfl,hw'⟩
 refine ⟨_,rfl,_,back _ _ hw',?_⟩
 clear hw hw1 hw' back kn sb
 refine lE omt (lE oxp (lE oxb (lE oap (lE oab (lnf (c_seq (c_splitHouse rfl (fun J2 j2 k2 hso2 hpw2 => ?_))))))))
 refine c_region (lE omb (lE omb (gE omp (g_call rfl rfl rfl rfl rfl (cl0 (vs := [pp H2 0]) tt207.ok rfl rfl) ?_))))
 intro w hw
 replace hw := hw.perm (L' := _ :: _ :: _ :: _ :: _ :: []) (by exact (((((perm_front 4 rfl).trans (perm_front 3 rfl)).trans (perm_front 3 rfl)).trans (perm_front 3 rfl)).trans (perm_front 4 rfl)))
 obtain ⟨β1,sb,kn,hw1,back⟩ := St.frame (L := [_]) (M := _ :: _ :: _ :: _ :: []) hw
 refine (keptV_ok β1 w H2 J1 (longX 1500) false hw1).mono ?_
 rintro e w' ⟨rfl,hw'⟩
 refine ⟨_,rfl,_,back _ _ hw',?_⟩
 clear hw hw1 hw' back kn sb
 refine lE oktb (lE omb (gE omp (gE omp (g_call rfl rfl rfl rfl rfl (cl0 (vs := [pp H11 0,pp H2 0]) tt201.ok rfl rfl) ?_))))
 intro w hw
 replace hw := hw.perm (L' := _ :: _ :: _ :: _ :: _ :: []) (by exact (((((perm_front 4 rfl).trans (perm_front 4 rfl)).trans (perm_front 4 rfl)).trans (perm_front 3 rfl)).trans (perm_front 4 rfl)))
 obtain ⟨β1,sb,kn,hw1,back⟩ := St.frame (L := [_,_]) (M := _ :: _ :: _ :: []) hw
 refine (equalV_ok β1 w H11 J2 H2 J1 (longX 1500) false false hw1).mono ?_
 rintro e w' ⟨rfl,hw'⟩
 refine ⟨_,rfl,_,back _ _ hw',?_⟩
 clear hw hw1 hw' back kn sb
 refine lE oktb (lE omb (gE omp (g_call rfl rfl rfl rfl rfl (cl0 (vs := [pp H2 0]) tt179.ok rfl rfl) ?_)))
 intro w hw
 replace hw := hw.perm (L' := _ :: _ :: _ :: _ :: _ :: []) (by exact (((((perm_front 4 rfl).trans (perm_front 4 rfl)).trans (perm_front 4 rfl)).trans (perm_front 3 rfl)).trans (perm_front 4 rfl)))
 obtain ⟨β1,sb,kn,hw1,back⟩ := St.frame (L := [_]) (M := _ :: _ :: _ :: _ :: []) hw
 refine (supplyV_ok β1 w H2 J1 (longX 1500) false hw1).mono ?_
 rintro e w' ⟨rfl,hw'⟩
 refine ⟨_,rfl,_,back _ _ hw',?_⟩
 clear hw hw1 hw' back kn sb
 refine g_val (v := Ix ((longX 1500).s.su.a0)) rfl rfl rfl rfl rfl (e_index_a (cs := #[Ix ((longX 1500).s.su.a0),Ix ((longX 1500).s.su.a1),Ix ((longX 1500).s.su.a2),Ix ((longX 1500).s.su.a3)]) (k := 0) rfl rfl tt1.ok rfl (by decide) tt2.ok) ?_
 refine g_val (v := .bool true) rfl rfl rfl rfl rfl (ev_t (by rw [long_su]) (e_eql (a := ((longX 1500).s.su.a0)) (b := (48000 : Int)) rfl rfl)) ?_
 refine lE oktb (lE omb (g_call rfl rfl rfl rfl rfl (cl0 (vs := []) tt203.ok rfl rfl) ?_))
 intro w hw
 obtain ⟨β1,sb,kn,hw1,back⟩ := St.frame_all hw
 refine (awake_ok β1 w hw1).mono ?_
 rintro e w' ⟨rfl,hw'⟩
 refine ⟨_,rfl,_,back _ _ hw',?_⟩
 clear hw hw1 hw' back kn sb
 refine lE oktb (lE oab (lnf (c_ret (ret1 Tryz.results9 rfl ?_))))
 intro w hw
 exact ⟨rfl,st_mask [false,false,false,false,false] rfl hw⟩
end Go.Proofs
