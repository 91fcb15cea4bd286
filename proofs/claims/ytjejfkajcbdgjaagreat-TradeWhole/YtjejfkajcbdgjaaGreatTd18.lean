/-
 TradeWhole: walked. Printed by a program of my own.
-/
import Derived.Test.YtjejfkajcbdgjaaGreatTd17
import Derived.Test.YtjejfkajcbdgjaaGreatTdWh
import Derived.Test.YtjejfkajcbdgjaaGreatSlA
import Derived.Test.YtjejfkajcbdgjaaGreatSlB
namespace Go.Proofs
open Go Go.Sl Go.Td Go.Jn
instance tt193 : CfC Tryz.prog 14 := ⟨by kernel_rfl⟩
set_option maxHeartbeats 4000000 in
theorem whole_ok (β : Base) (w : World) (hw : St β [] w) (v : Value) (l : List TOp) (hs : Sl TOpR β.heap v l) : Ret Tryz.prog 3 #[v] β w (.bool true) := by
 obtain ⟨va,vc,rfl,vl,vm,ve⟩ := hs.get
 refine enter (n := 234) Tryz.func3 rfl Tryz.ntmps3 rfl ?_ hw
 refine csr (lE oab (lnc ?_))
 refine lv (v := .agg #[.slice none 0 0,.slice none 0 0,.slice none 0 0,.int .i64 (0)]) (e_build tt176.ok tt175 (vs := []) (cells := #[.slice none 0 0,.slice none 0 0,.slice none 0 0,.int .i64 (0)]) rfl rfl) ?_
 refine bxa fun b1 => ?_
 refine l_call rfl rfl rfl (cl0 (vs := [pp b1 0]) tt185.ok rfl rfl) ?_
 intro w hw
 replace hw := hw.perm (L' := _ :: []) (by exact (perm_front 0 rfl))
 obtain ⟨β1,sb,kn,hw1,back⟩ := St.frame (L := [_]) (M := []) hw
 refine (opened_new β1 w b1 0 hw1 (by decide)).mono ?_
 rintro e w' ⟨H2,rfl,hw'⟩
 refine ⟨_,rfl,_,back _ _ hw',?_⟩
 clear hw hw1 hw' back kn sb
 refine lE omt (lE oxp (lE oxb (lE oap (lE oab (lnf (cs2 (c_region (lE omb (lE ont (lnf (c_no rfl (csk (cs2 (c_region (lE oms (lE oms (lE oln ?_)))))))))))))))))
 refine lv (v := Nx (min l.length 20)) (ev_eq (congrArg (Value.int .i64) (by omega)) (e_min (a := ((l.length : Nat) : Int)) (b := (20 : Int)) rfl rfl)) ?_
 obtain ⟨zs3,hz4⟩ : ∃ zs,zs = (l.take (min l.length 20)) := ⟨_,rfl⟩
 have zl5 : zs3.length = min (min l.length 20) (l).length - 0 := by rw [hz4]; simp; try omega
 have ze6 := (Elems.take (min l.length 20) ve)
 rw [← hz4] at ze6
 refine lv (v := .slice va (zs3.length) (vc)) (ev_eq (by rw [show zs3.length = min l.length 20 by omega]) (e_slice_hi (a := va) (len := l.length) (cap := vc) (h := min l.length 20) tt187 rfl rfl (by omega))) ?_
 refine lE oln (lE omi (lnf (c_block (c_mask [true] rfl ?_))))
 refine c_loop (fun (i : Nat) f L => (f 0 = sB va l (vc) ∧ f 3 = pp H2 0 ∧ f 35 = sB va zs3 (vc) ∧ f 36 = Nx (zs3.length) ∧ f 37 = Nx (i)) ∧ L = [houseR H2 b1 (seqX l i) i (494 * i) (-1)] ∧ (i ≤ zs3.length)) (fun i => zs3.length - i) 0 ?_ ?_
 ·exact ⟨⟨rfl,rfl,rfl,rfl,rfl⟩,rfl,Nat.zero_le _⟩
 rintro i f0 L0 ⟨⟨hs0,hs3,hs35,hs36,hs37⟩,hL,hi⟩
 subst L0
 refine rbs 0 hs0 (rbs 3 hs3 (rbs 35 hs35 (rbs 36 hs36 (rbs 37 hs37 (csr (lE olt (lnf (c_seq (c_if _ rfl (fun hc7 => ?_) (fun hc7 => ?_))))))))))
 ·refine csk (c_seq (c_block (csr (lE omi ?_))))
  obtain ⟨x8,hx9⟩ := getx zs3 i (by omega)
  obtain ⟨ha10,cs11,hc12,hr13⟩ := ze6 _ _ hx9
  obtain ⟨ho16,v14,rfl,hv15⟩ := hr13
  obtain ⟨a17,c18,rfl,hl19,hm20,he21⟩ := (hv15).get
  refine lE (oia tt187 ha10) (lv (v := .agg #[Bx (x8.kind),Ix (x8.author),Ix (x8.number),sB a17 x8.acts (c18)]) (e_load tt170.ok rfl (kB hc12) rfl) ?_)
  refine alE fun b22 => lE oai (lu (mS 0 (#[Bx (x8.kind),Ix (x8.author),Ix (x8.number),sB a17 x8.acts (c18)])) (lnf (c_seq ?_)))
  have hlx : l[i]? = some x8 := at_take (n := min l.length 20) (by rw [← hz4]; exact hx9)
  have hfm := fit_formed x8 (n := ((1 + i : Nat) : Int)) (by omega) (by omega)
  have hfb := fit_hb x8
  have hfl := fitL_len x8
  obtain ⟨X1,R,hr,hX1⟩ := rnd_ok hfm (seqX_num l i)
  have hXs := seqX_next hlx
  refine c_region (lE (olg 0) (lE omi (lv (v := Nx (1 + i)) (e_add rfl rfl (i64n (by omega) (by omega))) ?_)))
  refine lcf (cl0 (vs := [.agg #[Bx (x8.kind),Ix (x8.author),Ix (x8.number),sB a17 x8.acts (c18)],Nx (1 + i)]) tt188.ok rfl rfl) rfl fun w β1 sb kn hw1 back => (fit_ok β1 w hw1 x8 _ (Sl.mono _ _ _ _ _ sb (⟨⟨_,_,rfl,by omega,by omega,he21⟩⟩ : Sl ActF.R _ _ x8.acts)) ((1 + i : Nat) : Int)).mono ?_
  rintro e w' ⟨p23,c24,rfl,hw'⟩
  refine ⟨_,rfl,_,back _ _ hw',?_⟩
  clear hw1 hw' back kn sb
  refine lu (mS 1 (#[Bx (x8.kind),Ix (fitAu x8),Nx (1 + i),sB p23 (fitL x8) c24])) (lnc ?_)
  refine lv (v := .agg #[.slice none 0 0,.slice none 0 0,.slice none 0 0,.int .i64 (0)]) (e_build tt176.ok tt175 (vs := []) (cells := #[.slice none 0 0,.slice none 0 0,.slice none 0 0,.int .i64 (0)]) rfl rfl) ?_
  refine bxa fun b25 => ?_
  refine l_call rfl rfl rfl (cl0 (vs := [pp b25 0]) tt185.ok rfl rfl) ?_
  intro w hw
  replace hw := hw.perm (L' := _ :: _ :: _ :: _ :: []) (by exact ((((perm_front 3 rfl).trans (perm_front 3 rfl)).trans (perm_front 3 rfl)).trans (perm_front 3 rfl)))
  obtain ⟨β1,sb,kn,hw1,back⟩ := St.frame (L := [_]) (M := _ :: _ :: _ :: []) hw
  refine (opened_new β1 w b25 0 hw1 (by decide)).mono ?_
  rintro e w' ⟨H26,rfl,hw'⟩
  refine ⟨_,rfl,_,back _ _ hw',?_⟩
  clear hw hw1 hw' back kn sb
  refine lE omt (lE oxp (lE oxb (lE oap (lE oab (lnf (cs2 (c_region (lE omb (lE ont (lnf (c_no rfl (csk (cs2 (c_region (lE oms (lE omi ?_))))))))))))))))
  obtain ⟨zs27,hz28⟩ : ∃ zs,zs = (l.take i) := ⟨_,rfl⟩
  have zl29 : zs27.length = min i (l).length - 0 := by rw [hz28]; simp; try omega
  have ze30 := (Elems.take i ve)
  rw [← hz28] at ze30
  refine lv (v := .slice va (zs27.length) (vc)) (ev_eq (by rw [show zs27.length = i by omega]) (e_slice_hi (a := va) (len := l.length) (cap := vc) (h := i) tt187 rfl rfl (by omega))) ?_
  refine lE oln (lE omi (lnf (c_block (c_mask [true,true,true,true] rfl ?_))))
  refine c_loop (fun (q : Nat) f L => (f 0 = sB va l (vc) ∧ f 3 = pp H2 0 ∧ f 6 = pp b22 0 ∧ f 7 = pp H26 0 ∧ f 35 = sB va zs3 (vc) ∧ f 36 = Nx (zs3.length) ∧ f 37 = Nx (i) ∧ f 56 = sB va zs27 (vc) ∧ f 57 = Nx (zs27.length) ∧ f 58 = Nx (q)) ∧ L = [houseR H26 b25 (seqX l q) q (494 * q) (-1),rowF ActF 47 p23 c24 (fitL x8),pt b22 (.cells #[Bx (x8.kind),Ix (fitAu x8),Nx (1 + i),sB p23 (fitL x8) c24] 32),houseR H2 b1 (seqX l i) i (494 * i) (-1)] ∧ (q ≤ zs27.length)) (fun q => zs27.length - q) 0 ?_ ?_
  ·exact ⟨⟨rfl,rfl,rfl,rfl,rfl,rfl,rfl,rfl,rfl,rfl⟩,rfl,Nat.zero_le _⟩
  rintro q f0 L0 ⟨⟨hs0,hs3,hs6,hs7,hs35,hs36,hs37,hs56,hs57,hs58⟩,hL,hq⟩
  subst L0
  refine rbs 0 hs0 (rbs 3 hs3 (rbs 6 hs6 (rbs 7 hs7 (rbs 35 hs35 (rbs 36 hs36 (rbs 37 hs37 (rbs 56 hs56 (rbs 57 hs57 (rbs 58 hs58 (csr (lE olt (lnf ?_))))))))))))
  refine c_seq (c_if _ rfl (fun hc31 => ?_) (fun hc31 => ?_))
  ·refine csk (c_seq (c_block (csr (lE omi ?_))))
   obtain ⟨x32,hx33⟩ := getx zs27 q (by omega)
   obtain ⟨ha34,cs35,hc36,hr37⟩ := ze30 _ _ hx33
   obtain ⟨ho40,v38,rfl,hv39⟩ := hr37
   obtain ⟨a41,c42,rfl,hl43,hm44,he45⟩ := (hv39).get
   refine lE (oia tt187 ha34) ?_
   refine lv (v := .agg #[Bx (x32.kind),Ix (x32.author),Ix (x32.number),sB a41 x32.acts (c42)]) (e_load tt170.ok rfl (kB hc36) rfl) (alE fun b46 => ?_)
   refine lE oai (lu (mS 0 (#[Bx (x32.kind),Ix (x32.author),Ix (x32.number),sB a41 x32.acts (c42)])) (lnf (c_seq ?_)))
   have hlq : l[q]? = some x32 := at_take (n := i) (by rw [← hz28]; exact hx33)
   have hqs := seqX_next hlq
   have hfmq := fit_formed x32 (n := ((1 + q : Nat) : Int)) (by omega) (by omega)
   refine c_region (lE (olg 0) (lE omi (lv (v := Nx (1 + q)) (e_add rfl rfl (i64n (by omega) (by omega))) ?_)))
   refine lcf (cl0 (vs := [.agg #[Bx (x32.kind),Ix (x32.author),Ix (x32.number),sB a41 x32.acts (c42)],Nx (1 + q)]) tt188.ok rfl rfl) rfl fun w β1 sb kn hw1 back => (fit_ok β1 w hw1 x32 _ (Sl.mono _ _ _ _ _ sb (⟨⟨_,_,rfl,by omega,by omega,he45⟩⟩ : Sl ActF.R _ _ x32.acts)) ((1 + q : Nat) : Int)).mono ?_
   rintro e w' ⟨p47,c48,rfl,hw'⟩
   refine ⟨_,rfl,_,back _ _ hw',?_⟩
   clear hw1 hw' back kn sb
   refine lu (mS 1 (#[Bx (x32.kind),Ix (fitAu x32),Nx (1 + q),sB p47 (fitL x32) c48])) (lnc (lE omp (lE ofp (lE (oli 1) (lE ofp (lE (oli 1) (lE ofp ?_)))))))
   refine lE (ols 1) (l_call rfl rfl rfl (cl0 (vs := [pp H26 0,Ix (fitAu x32),Nx (1 + q),sB p47 (fitL x32) c48]) tt177.ok rfl rfl) ?_)
   intro w hw
   replace hw := hw.perm (L' := _ :: _ :: _ :: _ :: _ :: _ :: []) (by exact ((((((perm_front 5 rfl).trans (perm_front 5 rfl)).trans (perm_front 5 rfl)).trans (perm_front 4 rfl)).trans (perm_front 4 rfl)).trans (perm_front 5 rfl)))
   obtain ⟨β1,sb,kn,hw1,back⟩ := St.frame (L := [_]) (M := _ :: _ :: _ :: _ :: _ :: []) hw
   refine (do_eq β1 w H26 b25 q (494 * q) (seqX l q) hw1 (fitAu x32) ((1 + q : Nat) : Int) _ (fitL x32) (kn _ (k_flN 0 (F := ActF) (m := (fitL x32).length) rfl rfl)) (by have := fitL_len x32; omega) (fit_hb x32) (by omega) (doF_new hfmq (fun m hm => (seqX_num l q _ m hm).2))).mono ?_
   rintro e w' ⟨p49,c50,rfl,hw'⟩
   refine ⟨_,rfl,_,back _ _ hw',?_⟩
   clear hw hw1 hw' back kn sb
   refine lE omt (lE oxa (lE oxi (alE fun b51 => ?_)))
   refine lu (mS 0 (#[.bool ((carryF (seqX l q).s (fitL x32)).2.done),Ix ((carryF (seqX l q).s (fitL x32)).2.at_),Ix ((carryF (seqX l q).s (fitL x32)).2.e),sB p49 ((carryF (seqX l q).s (fitL x32)).2.holds) c50])) ?_
   refine lE oai (lnc (lE omi (lE onq (lnf (c_no rfl (c_skip (f_block (f_then (c_region ?_)))))))))
   refine lv (v := Nx (q + 1)) (e_add rfl rfl (i64n (by omega) (by omega))) (lE omi (l_nil ?_))
   refine f_houLe (M := q + 1) (V := 494 * (q + 1)) 2 rfl (by omega) (by omega) ?_
   refine f_re (L' := [pt b51 (.cells #[.bool ((carryF (seqX l q).s (fitL x32)).2.done),Ix ((carryF (seqX l q).s (fitL x32)).2.at_),Ix ((carryF (seqX l q).s (fitL x32)).2.e),sB p49 ((carryF (seqX l q).s (fitL x32)).2.holds) c50] 37),rowF IntF 3 p49 c50 ((carryF (seqX l q).s (fitL x32)).2.holds),houseR H26 b25 (seqX l (q + 1)) (q + 1) (494 * (q + 1)) (-1),rowF ActF 47 p47 c48 (fitL x32),pt b46 (.cells #[Bx (x32.kind),Ix (fitAu x32),Nx (1 + q),sB p47 (fitL x32) c48] 32),rowF ActF 47 p23 c24 (fitL x8),pt b22 (.cells #[Bx (x8.kind),Ix (fitAu x8),Nx (1 + i),sB p23 (fitL x8) c24] 32),houseR H2 b1 (seqX l i) i (494 * i) (-1)]) (by rw [hqs] <;> rfl) ?_
   refine f_mask [false,false,true,false,false,true,true,true] rfl ?_
   exact f_cut ⟨q + 1,⟨⟨rfl,rfl,rfl,rfl,rfl,rfl,rfl,rfl,rfl,rfl⟩,rfl,(by omega)⟩,(show zs27.length - (q + 1) < zs27.length - q from by omega)⟩
  refine c_exit (f_then_exit (f_then_exit (f_exit (fts ?_))))
  have hqi : q = i := by omega
  refine c_re (L' := [houseR H26 b25 (seqX l i) i (494 * i) (-1),rowF ActF 47 p23 c24 (fitL x8),pt b22 (.cells #[Bx (x8.kind),Ix (fitAu x8),Nx (1 + i),sB p23 (fitL x8) c24] 32),houseR H2 b1 (seqX l i) i (494 * i) (-1)]) (by rw [hqi]) ?_
  refine c_region (lE omp (l_call rfl rfl rfl (cl0 (vs := [pp H2 0]) tt180.ok rfl rfl) ?_))
  intro w hw
  replace hw := hw.perm (L' := _ :: _ :: _ :: _ :: []) (by exact ((((perm_front 2 rfl).trans (perm_front 2 rfl)).trans (perm_front 2 rfl)).trans (perm_front 3 rfl)))
  obtain ⟨β1,sb,kn,hw1,back⟩ := St.frame (L := [_]) (M := _ :: _ :: _ :: []) hw
  refine (holds_ok β1 w H2 b1 i (494 * i) (-1) (seqX l i) hw1).mono ?_
  rintro e w' ⟨p52,c53,rfl,hw'⟩
  refine ⟨_,rfl,_,back _ _ hw',?_⟩
  clear hw hw1 hw' back kn sb
  refine lE oln (lE omp (l_call rfl rfl rfl (cl0 (vs := [pp H2 0]) tt193.ok rfl rfl) ?_))
  intro w hw
  replace hw := hw.perm (L' := _ :: _ :: _ :: _ :: _ :: []) (by exact (((((perm_front 4 rfl).trans (perm_front 4 rfl)).trans (perm_front 4 rfl)).trans (perm_front 3 rfl)).trans (perm_front 4 rfl)))
  obtain ⟨β1,sb,kn,hw1,back⟩ := St.frame (L := [_]) (M := _ :: _ :: _ :: _ :: []) hw
  refine (owners_ok β1 w H2 b1 i (494 * i) (-1) (seqX l i) hw1).mono ?_
  rintro e w' ⟨p54,c55,rfl,hw'⟩
  refine ⟨_,rfl,_,back _ _ hw',?_⟩
  clear hw hw1 hw' back kn sb
  refine lE omp (l_call rfl rfl rfl (cl0 (vs := [pp H2 0]) tt179.ok rfl rfl) ?_)
  intro w hw
  replace hw := hw.perm (L' := _ :: _ :: _ :: _ :: _ :: _ :: []) (by exact ((((((perm_front 5 rfl).trans (perm_front 5 rfl)).trans (perm_front 5 rfl)).trans (perm_front 5 rfl)).trans (perm_front 4 rfl)).trans (perm_front 5 rfl)))
  obtain ⟨β1,sb,kn,hw1,back⟩ := St.frame (L := [_]) (M := _ :: _ :: _ :: _ :: _ :: []) hw
  refine (supply_ok β1 w H2 b1 i (494 * i) (-1) (seqX l i) hw1).mono ?_
  rintro e w' ⟨rfl,hw'⟩
  refine ⟨_,rfl,_,back _ _ hw',?_⟩
  clear hw hw1 hw' back kn sb
  refine alE fun b56 => lE oai (lE oas ?_)
  refine lu (mS 0 (#[Ix ((seqX l i).s.su.a0),Ix ((seqX l i).s.su.a1),Ix ((seqX l i).s.su.a2),Ix ((seqX l i).s.su.a3)])) (lnc (lE omp (lE ofp ?_)))
  refine lE (oli 6) (lE ofp (lE (oli 6) (lE ofp (lE (ols 6) ?_))))
  refine l_call rfl rfl rfl (cl0 (vs := [pp H2 0,Ix (fitAu x8),Nx (1 + i),sB p23 (fitL x8) c24]) tt177.ok rfl rfl) ?_
  intro w hw
  replace hw := hw.perm (L' := _ :: _ :: _ :: _ :: _ :: _ :: _ :: []) (by exact (((((((perm_front 6 rfl).trans (perm_front 6 rfl)).trans (perm_front 6 rfl)).trans (perm_front 6 rfl)).trans (perm_front 6 rfl)).trans (perm_front 5 rfl)).trans (perm_front 6 rfl)))
  obtain ⟨β1,sb,kn,hw1,back⟩ := St.frame (L := [_]) (M := _ :: _ :: _ :: _ :: _ :: _ :: []) hw
  refine (do_eq β1 w H2 b1 i (494 * i) (seqX l i) hw1 (fitAu x8) ((1 + i : Nat) : Int) _ (fitL x8) (kn _ (k_flN 4 (F := ActF) (m := (fitL x8).length) rfl rfl)) (by omega) hfb (by omega) hr.d1).mono ?_
  rintro e w' ⟨p57,c58,rfl,hw'⟩
  refine ⟨_,rfl,_,back _ _ hw',?_⟩
  clear hw hw1 hw' back kn sb
  refine lE omt (lE oxa (lE oxi (alE fun b59 => lu (mS 0 (#[.bool (R.done),Ix (R.at_),Ix (R.e),sB p57 R.holds c58])) (lE oai (lnf (cs2 (c_region ?_)))))))
  refine lE omi (lE onq (lnf (c_no rfl (csk (c_seq ?_)))))
  have hR : R = (carryF (seqX l i).s (fitL x8)).2 := (congrArg (·.2.1) (hr.d1.symm.trans (doF_new hfm (fun m hm => (seqX_num l i _ m hm).2))))
  refine c_region (lE oas (lnf ?_))
  refine c_seq_cut (fun (f : Fm) (L : List Res) => ∃ (Y : KHs) (made : List Int) (p : Option Addr) (c : Nat) (N2 : Nat) (W2 : Nat),(f 0 = sB va l (vc) ∧ f 3 = pp H2 0 ∧ f 7 = pp H26 0 ∧ f 13 = Nx ((holdsX (seqX l i)).length) ∧ f 14 = sB p54 (ownersX (seqX l i)) c55 ∧ f 15 = pp b56 0 ∧ f 16 = pp b59 0 ∧ f 18 = sB p made c ∧ f 35 = sB va zs3 (vc) ∧ f 36 = Nx (zs3.length) ∧ f 37 = Nx (i)) ∧ L = [pt b59 (.cells #[.bool (R.done),Ix (R.at_),Ix (R.e),sB p57 R.holds c58] 37),rowF IntF 3 p57 c58 R.holds,houseR H2 b1 X1 (i + 1) ((494 * i) + 494) (-1),pt b56 (.cells #[Ix ((seqX l i).s.su.a0),Ix ((seqX l i).s.su.a1),Ix ((seqX l i).s.su.a2),Ix ((seqX l i).s.su.a3)] 44),rowF IntF 3 p54 c55 (ownersX (seqX l i)),rowF HoF 104 p52 c53 (holdsX (seqX l i)),rowF ActF 47 p23 c24 (fitL x8),pt b22 (.cells #[Bx (x8.kind),Ix (fitAu x8),Nx (1 + i),sB p23 (fitL x8) c24] 32),houseR H26 b25 Y N2 W2 (-1),rowF IntF 3 p c made] ∧ (WhOk (seqX l i) X1 Y R made)) ?_ ?_
  ·refine c_seq (c_emp (r := rowF IntF 3 none 0 []) (row_nil _ _ _) (c_region (lE ofp (lE (ols 9) (lE oln (lE omi (lnf (c_block ?_))))))))
   refine c_mask [true,true,true,true,true,true,true,true,true,true] rfl ?_
   refine c_loop (fun (x_ : Nat × KHs × List Int × Option Addr × Nat) f L => match x_ with | (j,Y,made,p,c) => (f 0 = sB va l (vc) ∧ f 3 = pp H2 0 ∧ f 7 = pp H26 0 ∧ f 13 = Nx ((holdsX (seqX l i)).length) ∧ f 14 = sB p54 (ownersX (seqX l i)) c55 ∧ f 15 = pp b56 0 ∧ f 16 = pp b59 0 ∧ f 18 = sB p made c ∧ f 35 = sB va zs3 (vc) ∧ f 36 = Nx (zs3.length) ∧ f 37 = Nx (i) ∧ f 102 = sB p23 (fitL x8) c24 ∧ f 103 = Nx ((fitL x8).length) ∧ f 104 = Nx (j)) ∧ L = [rowF IntF 3 p c made,pt b59 (.cells #[.bool (R.done),Ix (R.at_),Ix (R.e),sB p57 R.holds c58] 37),rowF IntF 3 p57 c58 R.holds,houseR H2 b1 X1 (i + 1) ((494 * i) + 494) (-1),pt b56 (.cells #[Ix ((seqX l i).s.su.a0),Ix ((seqX l i).s.su.a1),Ix ((seqX l i).s.su.a2),Ix ((seqX l i).s.su.a3)] 44),rowF IntF 3 p54 c55 (ownersX (seqX l i)),rowF HoF 104 p52 c53 (holdsX (seqX l i)),houseR H26 b25 Y (i + j) (494 * i + 494 * j) (-1),rowF ActF 47 p23 c24 (fitL x8),pt b22 (.cells #[Bx (x8.kind),Ix (fitAu x8),Nx (1 + i),sB p23 (fitL x8) c24] 32)] ∧ (j ≤ (fitL x8).length ∧ made.length ≤ j ∧ InnOk (seqX l i).s (seqX l i).s (fitL x8) j made Y)) (fun (j,Y,made,p,c) => (fitL x8).length - j) (0,(seqX l i),[],none,0) ?_ ?_
   ·exact ⟨⟨rfl,rfl,rfl,rfl,rfl,rfl,rfl,rfl,rfl,rfl,rfl,rfl,rfl,rfl⟩,by rw [Nat.add_zero,Nat.mul_zero,Nat.add_zero]; rfl,⟨Nat.zero_le _,Nat.le_refl _,⟨rfl,N50.zero l i⟩⟩⟩
   rintro ⟨j,Y,made,p,c⟩ f0 L0 ⟨⟨hs0,hs3,hs7,hs13,hs14,hs15,hs16,hs18,hs35,hs36,hs37,hs102,hs103,hs104⟩,hL,⟨hj,hml,hin⟩⟩
   subst L0
   refine rbs 0 hs0 (rbs 3 hs3 (rbs 7 hs7 (rbs 13 hs13 (rbs 14 hs14 (rbs 15 hs15 (rbs 16 hs16 (rbs 18 hs18 (rbs 35 hs35 (rbs 36 hs36 (rbs 37 hs37 ?_))))))))))
   refine rbs 102 hs102 (rbs 103 hs103 (rbs 104 hs104 (csr (lE olt (lnf (c_seq (c_if _ rfl (fun hc60 => ?_) (fun hc60 => ?_))))))))
   ·refine csk (c_seq (c_block (csr (lE omi ?_))))
    refine lv (v := .pointer (some ((ba p23).add (j * 8)))) (e_indexFlN 8 (F := ActF) rfl rfl rfl tt16 (by omega) rfl) ?_
    obtain ⟨x61,hx62⟩ : ∃ x_,(fitL x8)[j]? = some x_ := ⟨_,List.getElem?_eq_getElem (by first | omega | decide)⟩
    refine lv (v := .agg #[Bx (x61.kind),Ix (x61.owner),Ix (x61.other),Ix (x61.hold),Ix (x61.a.a0),Ix (x61.a.a1),Ix (x61.a.a2),Ix (x61.a.a3)]) (e_load tt17.ok rfl (k_flAt 8 (F := ActF) rfl hx62) rfl) ?_
    refine alE fun b63 => lE oai ?_
    refine lu (mS 0 (#[Bx (x61.kind),Ix (x61.owner),Ix (x61.other),Ix (x61.hold),Ix (x61.a.a0),Ix (x61.a.a1),Ix (x61.a.a2),Ix (x61.a.a3)])) (lnf ?_)
    refine c_seq ?_
    have hy := hx62
    have hym := List.mem_of_getElem? hy
    have hyf := (fitL_all _ _ hym).1
    by_cases hae : (actS Y.s x61).2.2 = 0
    ·have hdo0 := hin.do_ok hy hyf (by omega) hae
     obtain ⟨Y1,hY1⟩ : ∃ Y1,Y1 = carryX Y 50 ((1 + j : Nat) : Int) [x61] := ⟨_,rfl⟩
     obtain ⟨mk,hmk⟩ : ∃ mk,mk = mkL (actS Y.s x61).2.1 := ⟨_,rfl⟩
     have hmkl : mk.length ≤ 1 := by rw [hmk]; exact mkL_len _
     have hdo := hdo0
     rw [← hY1,← hmk] at hdo
     have hgd := hin.good hy hae
     rw [← hR] at hgd
     refine c_region (lE omp (lE omi (lv (v := Nx (1 + j)) (e_add rfl rfl (i64n (by omega) (by omega))) (lE (olg 0) ?_))))
     refine l_mv rfl rfl rfl (m_slices tt16 tt47.ok (cells := #[Bx (x61.kind),Ix (x61.owner),Ix (x61.other),Ix (x61.hold),Ix (x61.a.a0),Ix (x61.a.a1),Ix (x61.a.a2),Ix (x61.a.a3)]) rfl rfl rfl (by kernel_rfl)) ?_
     rintro _ _ ⟨b64,rfl,rfl⟩
     refine l_call rfl rfl rfl (cl0 (vs := [pp H26 0,.int .i64 (50),Nx (1 + j),.slice (some ⟨b64,0,none⟩) 1 1]) tt177.ok rfl rfl) ?_
     intro w hw
     replace hw := hw.perm (L' := [houseR H26 b25 Y (i + j) (494 * i + 494 * j) (-1),pt b64 (.cells #[Bx (x61.kind),Ix (x61.owner),Ix (x61.other),Ix (x61.hold),Ix (x61.a.a0),Ix (x61.a.a1),Ix (x61.a.a2),Ix (x61.a.a3)] 47),pt b63 (.cells #[Bx (x61.kind),Ix (x61.owner),Ix (x61.other),Ix (x61.hold),Ix (x61.a.a0),Ix (x61.a.a1),Ix (x61.a.a2),Ix (x61.a.a3)] 47),rowF IntF 3 p c made,pt b59 (.cells #[.bool (R.done),Ix (R.at_),Ix (R.e),sB p57 R.holds c58] 37),rowF IntF 3 p57 c58 R.holds,houseR H2 b1 X1 (i + 1) ((494 * i) + 494) (-1),pt b56 (.cells #[Ix ((seqX l i).s.su.a0),Ix ((seqX l i).s.su.a1),Ix ((seqX l i).s.su.a2),Ix ((seqX l i).s.su.a3)] 44),rowF IntF 3 p54 c55 (ownersX (seqX l i)),rowF HoF 104 p52 c53 (holdsX (seqX l i)),rowF ActF 47 p23 c24 (fitL x8),pt b22 (.cells #[Bx (x8.kind),Ix (fitAu x8),Nx (1 + i),sB p23 (fitL x8) c24] 32)]) (by exact (perm_ix [9,0,1,2,3,4,5,6,7,8,10,11] 12 rfl (by kernel_rfl) (by kernel_rfl)))
     obtain ⟨β1,sb,kn,hw1,back⟩ := St.frame (L := [_]) (M := _ :: _ :: _ :: _ :: _ :: _ :: _ :: _ :: _ :: _ :: _ :: []) hw
     refine (do_eq β1 w H26 b25 (i + j) (494 * i + 494 * j) Y hw1 50 ((1 + j : Nat) : Int) _ [x61] (kn _ (Knows.of_res 0 rfl (Sl.mono _ _ _) fun a h => rowF_sl (pt_rowF (F := ActF) (xs := [x61]) rfl (by first | decide | simp) a h))) (by simp) (one_hb hfb hym) (by omega) hdo).mono ?_
     rintro e w' ⟨p65,c66,rfl,hw'⟩
     refine ⟨_,rfl,_,back _ _ hw',?_⟩
     clear hw hw1 hw' back kn sb
     refine lE omt (lE oxa (lE oxi (alE fun b67 => lu (mS 0 (#[.bool true,.int .i64 (0),.int .i64 (0),sB p65 mk c66])) (lE oai (lnf (cs2 (c_region ?_)))))))
     refine lE omi (lE onq (lE omb (gE ofp (gE (oli 0) (gE onq (lE okfb (lE omb (gE ofp (gE (olb 0) (gE ofp (gE (olb 6) (gE omb ?_))))))))))))
     refine l_splitb (s := 130) (b := R.done) rfl (fun hg68 => ?_) (fun hg68 => ?_)
     ·refine skE (skE (skE (skE (gE oktb (g_val (v := .bool false) rfl rfl rfl rfl rfl (e_neq_b (a := true) (b := true) rfl rfl tt173) (lE okfb (lE omb ?_)))))))
      refine gE ofp (gE (olb 6) (gE ont (gE omb (l_splitb (s := 142) (b := !R.done) rfl (fun h => ?_) (fun h => ?_)))))
      (rw [(show (!R.done) = false from (by rw [hg68]; rfl))] at h; cases h)
      refine skE (skE (skE (skE (gE okfb (gE omb ?_)))))
      iterate 5 refine skE ?_
      refine gE okfb (lE okfb (lnf (c_no rfl (csk (csr (lE oms (lE ofp (lE (ols 0) ?_))))))))
      refine l_mv rfl rfl rfl (m_appendFlN (F := IntF) 5 tt29 tt31 (p := p) (m := made.length) (xs := made) (ys := mk) (ao := p65) (k := mk.length) (c := c66) rfl rfl rfl rfl rfl (Knows.imp (k_flN 1 (F := IntF) (m := mk.length) rfl rfl) fun _ h => (Sl.parts h).2.2.2) (by first | omega | simp only [List.length_nil,List.length_cons,List.length_append,List.length_set]; omega) (by first | omega | simp only [List.length_nil,List.length_cons,List.length_append,List.length_set]; omega)) ?_
      rintro _ _ ⟨rp69,rc70,rfl,rfl⟩
      refine lE oas (lnc (lE ofp (lE (olb 0) (lE ont (lnf (c_no rfl (c_skip (f_block (f_then (c_region ?_))))))))))
      refine lv (v := Nx (j + 1)) (e_add rfl rfl (i64n (by omega) (by omega))) (lE omi (l_nil ?_))
      refine f_houLe (M := i + (j + 1)) (V := 494 * i + 494 * (j + 1)) 2 rfl (by omega) (by omega) ?_
      refine f_perm (L' := [rowF IntF 3 rp69 rc70 (made ++ mk),pt b59 (.cells #[.bool (R.done),Ix (R.at_),Ix (R.e),sB p57 R.holds c58] 37),rowF IntF 3 p57 c58 R.holds,houseR H2 b1 X1 (i + 1) ((494 * i) + 494) (-1),pt b56 (.cells #[Ix ((seqX l i).s.su.a0),Ix ((seqX l i).s.su.a1),Ix ((seqX l i).s.su.a2),Ix ((seqX l i).s.su.a3)] 44),rowF IntF 3 p54 c55 (ownersX (seqX l i)),rowF HoF 104 p52 c53 (holdsX (seqX l i)),houseR H26 b25 Y1 (i + (j + 1)) (494 * i + 494 * (j + 1)) (-1),rowF ActF 47 p23 c24 (fitL x8),pt b22 (.cells #[Bx (x8.kind),Ix (fitAu x8),Nx (1 + i),sB p23 (fitL x8) c24] 32),pt b67 (.cells #[.bool true,.int .i64 (0),.int .i64 (0),sB p65 mk c66] 37),rowF IntF 3 p65 c66 mk,pt b64 (.cells #[Bx (x61.kind),Ix (x61.owner),Ix (x61.other),Ix (x61.hold),Ix (x61.a.a0),Ix (x61.a.a1),Ix (x61.a.a2),Ix (x61.a.a3)] 47),pt b63 (.cells #[Bx (x61.kind),Ix (x61.owner),Ix (x61.other),Ix (x61.hold),Ix (x61.a.a0),Ix (x61.a.a1),Ix (x61.a.a2),Ix (x61.a.a3)] 47)]) (perm_ix [5,6,7,8,9,10,11,2,12,13,0,1,3,4] 14 rfl (by kernel_rfl) (by kernel_rfl)) ?_
      refine f_mask [true,true,true,true,true,true,true,true,true,true,false,false,false,false] rfl ?_
      exact f_cut ⟨(j + 1,Y1,(made ++ mk),rp69,rc70),⟨⟨rfl,rfl,rfl,rfl,rfl,rfl,rfl,rfl,rfl,rfl,rfl,rfl,rfl,rfl⟩,rfl,⟨by omega,by rw [List.length_append]; omega,by rw [hY1,hmk]; exact hin.next hy hae⟩⟩,(show (fitL x8).length - (j + 1) < (fitL x8).length - j from by omega)⟩
     refine gE omi (gE ofp (gE (oli 6) ?_))
     refine g_val (v := .bool true) rfl rfl rfl rfl rfl (ev_t (hgd.resolve_left (by rw [hg68]; decide)) (e_lss (a := ((j : Nat) : Int)) (b := (R.at_)) rfl rfl)) ?_
     refine gE okfb (g_val (v := .bool false) rfl rfl rfl rfl rfl (e_neq_b (a := true) (b := true) rfl rfl tt173) (lE okfb (lE omb (gE ofp (gE (olb 6) ?_)))))
     refine gE ont (gE omb (l_splitb (s := 142) (b := !R.done) rfl (fun h => ?_) (fun h => ?_)))
     rotate_left; (rw [(show (!R.done) = true from (by rw [hg68]; rfl))] at h; cases h)
     refine gE omi (gE ofp (gE (oli 6) ?_))
     refine g_val (v := .bool false) rfl rfl rfl rfl rfl (ev_f (by have := hgd.resolve_left (by rw [hg68]; decide); omega) (e_eql (a := ((j : Nat) : Int)) (b := (R.at_)) rfl rfl)) ?_
     refine gE oktb (gE omb ?_)
     iterate 5 refine skE ?_
     refine gE okfb (lE okfb (lnf (c_no rfl (csk (csr (lE oms (lE ofp (lE (ols 0) ?_))))))))
     refine l_mv rfl rfl rfl (m_appendFlN (F := IntF) 5 tt29 tt31 (p := p) (m := made.length) (xs := made) (ys := mk) (ao := p65) (k := mk.length) (c := c66) rfl rfl rfl rfl rfl (Knows.imp (k_flN 1 (F := IntF) (m := mk.length) rfl rfl) fun _ h => (Sl.parts h).2.2.2) (by first | omega | simp only [List.length_nil,List.length_cons,List.length_append,List.length_set]; omega) (by first | omega | simp only [List.length_nil,List.length_cons,List.length_append,List.length_set]; omega)) ?_
     rintro _ _ ⟨rp71,rc72,rfl,rfl⟩
     refine lE oas (lnc (lE ofp (lE (olb 0) (lE ont (lnf (c_no rfl (c_skip (f_block (f_then (c_region ?_))))))))))
     refine lv (v := Nx (j + 1)) (e_add rfl rfl (i64n (by omega) (by omega))) (lE omi (l_nil ?_))
     refine f_houLe (M := i + (j + 1)) (V := 494 * i + 494 * (j + 1)) 2 rfl (by omega) (by omega) ?_
     refine f_perm (L' := [rowF IntF 3 rp71 rc72 (made ++ mk),pt b59 (.cells #[.bool (R.done),Ix (R.at_),Ix (R.e),sB p57 R.holds c58] 37),rowF IntF 3 p57 c58 R.holds,houseR H2 b1 X1 (i + 1) ((494 * i) + 494) (-1),pt b56 (.cells #[Ix ((seqX l i).s.su.a0),Ix ((seqX l i).s.su.a1),Ix ((seqX l i).s.su.a2),Ix ((seqX l i).s.su.a3)] 44),rowF IntF 3 p54 c55 (ownersX (seqX l i)),rowF HoF 104 p52 c53 (holdsX (seqX l i)),houseR H26 b25 Y1 (i + (j + 1)) (494 * i + 494 * (j + 1)) (-1),rowF ActF 47 p23 c24 (fitL x8),pt b22 (.cells #[Bx (x8.kind),Ix (fitAu x8),Nx (1 + i),sB p23 (fitL x8) c24] 32),pt b67 (.cells #[.bool true,.int .i64 (0),.int .i64 (0),sB p65 mk c66] 37),rowF IntF 3 p65 c66 mk,pt b64 (.cells #[Bx (x61.kind),Ix (x61.owner),Ix (x61.other),Ix (x61.hold),Ix (x61.a.a0),Ix (x61.a.a1),Ix (x61.a.a2),Ix (x61.a.a3)] 47),pt b63 (.cells #[Bx (x61.kind),Ix (x61.owner),Ix (x61.other),Ix (x61.hold),Ix (x61.a.a0),Ix (x61.a.a1),Ix (x61.a.a2),Ix (x61.a.a3)] 47)]) (perm_ix [5,6,7,8,9,10,11,2,12,13,0,1,3,4] 14 rfl (by kernel_rfl) (by kernel_rfl)) ?_
     refine f_mask [true,true,true,true,true,true,true,true,true,true,false,false,false,false] rfl ?_
     exact f_cut ⟨(j + 1,Y1,(made ++ mk),rp71,rc72),⟨⟨rfl,rfl,rfl,rfl,rfl,rfl,rfl,rfl,rfl,rfl,rfl,rfl,rfl,rfl⟩,rfl,⟨by omega,by rw [List.length_append]; omega,by rw [hY1,hmk]; exact hin.next hy hae⟩⟩,(show (fitL x8).length - (j + 1) < (fitL x8).length - j from by omega)⟩
    have hdo0 := hin.do_no hy hyf (by omega) hae
    obtain ⟨Y1,hY1⟩ : ∃ Y1,Y1 = carryX Y 50 ((1 + j : Nat) : Int) [x61] := ⟨_,rfl⟩
    have hdo := hdo0
    rw [← hY1] at hdo
    have hbd := hin.bad hy hae
    rw [← hR] at hbd
    refine c_region (lE omp (lE omi (lv (v := Nx (1 + j)) (e_add rfl rfl (i64n (by omega) (by omega))) (lE (olg 0) ?_))))
    refine l_mv rfl rfl rfl (m_slices tt16 tt47.ok (cells := #[Bx (x61.kind),Ix (x61.owner),Ix (x61.other),Ix (x61.hold),Ix (x61.a.a0),Ix (x61.a.a1),Ix (x61.a.a2),Ix (x61.a.a3)]) rfl rfl rfl (by kernel_rfl)) ?_
    rintro _ _ ⟨b73,rfl,rfl⟩
    refine l_call rfl rfl rfl (cl0 (vs := [pp H26 0,.int .i64 (50),Nx (1 + j),.slice (some ⟨b73,0,none⟩) 1 1]) tt177.ok rfl rfl) ?_
    intro w hw
    replace hw := hw.perm (L' := [houseR H26 b25 Y (i + j) (494 * i + 494 * j) (-1),pt b73 (.cells #[Bx (x61.kind),Ix (x61.owner),Ix (x61.other),Ix (x61.hold),Ix (x61.a.a0),Ix (x61.a.a1),Ix (x61.a.a2),Ix (x61.a.a3)] 47),pt b63 (.cells #[Bx (x61.kind),Ix (x61.owner),Ix (x61.other),Ix (x61.hold),Ix (x61.a.a0),Ix (x61.a.a1),Ix (x61.a.a2),Ix (x61.a.a3)] 47),rowF IntF 3 p c made,pt b59 (.cells #[.bool (R.done),Ix (R.at_),Ix (R.e),sB p57 R.holds c58] 37),rowF IntF 3 p57 c58 R.holds,houseR H2 b1 X1 (i + 1) ((494 * i) + 494) (-1),pt b56 (.cells #[Ix ((seqX l i).s.su.a0),Ix ((seqX l i).s.su.a1),Ix ((seqX l i).s.su.a2),Ix ((seqX l i).s.su.a3)] 44),rowF IntF 3 p54 c55 (ownersX (seqX l i)),rowF HoF 104 p52 c53 (holdsX (seqX l i)),rowF ActF 47 p23 c24 (fitL x8),pt b22 (.cells #[Bx (x8.kind),Ix (fitAu x8),Nx (1 + i),sB p23 (fitL x8) c24] 32)]) (by exact (perm_ix [9,0,1,2,3,4,5,6,7,8,10,11] 12 rfl (by kernel_rfl) (by kernel_rfl)))
    obtain ⟨β1,sb,kn,hw1,back⟩ := St.frame (L := [_]) (M := _ :: _ :: _ :: _ :: _ :: _ :: _ :: _ :: _ :: _ :: _ :: []) hw
    refine (do_eq β1 w H26 b25 (i + j) (494 * i + 494 * j) Y hw1 50 ((1 + j : Nat) : Int) _ [x61] (kn _ (Knows.of_res 0 rfl (Sl.mono _ _ _) fun a h => rowF_sl (pt_rowF (F := ActF) (xs := [x61]) rfl (by first | decide | simp) a h))) (by simp) (one_hb hfb hym) (by omega) hdo).mono ?_
    rintro e w' ⟨p74,c75,rfl,hw'⟩
    refine ⟨_,rfl,_,back _ _ hw',?_⟩
    clear hw hw1 hw' back kn sb
    refine lE omt (lE oxa (lE oxi (alE fun b76 => lu (mS 0 (#[.bool false,.int .i64 (0),Ix ((actS Y.s x61).2.2),.slice p74 (0) c75])) (lE oai (lnf ?_)))))
    refine cs2 (c_region (lE omi (lE onq (lE omb (gE ofp (gE (oli 0) (gE onq (lE okfb (lE omb (gE ofp (gE (olb 0) (gE ofp (gE (olb 6) (gE omb ?_))))))))))))))
    refine l_splitb (s := 130) (b := R.done) rfl (fun h => ?_) (fun h => ?_)
    (rw [(show (R.done) = false from (by rw [hbd]))] at h; cases h)
    refine gE omi (gE ofp (gE (oli 6) ?_))
    refine g_val (v := .bool false) rfl rfl rfl rfl rfl (ev_f (by rw [hbd]; exact Int.lt_irrefl _) (e_lss (a := ((j : Nat) : Int)) (b := (R.at_)) rfl rfl)) ?_
    refine gE okfb (g_val (v := .bool false) rfl rfl rfl rfl rfl (e_neq_b (a := false) (b := false) rfl rfl tt173) (lE okfb (lE omb (gE ofp ?_))))
    refine gE (olb 6) (gE ont (gE omb (l_splitb (s := 142) (b := !R.done) rfl (fun hg77 => ?_) (fun hg77 => ?_))))
    ·refine gE omi (gE ofp (gE (oli 6) ?_))
     refine g_val (v := .bool true) rfl rfl rfl rfl rfl (ev_t (by rw [hbd]) (e_eql (a := ((j : Nat) : Int)) (b := (R.at_)) rfl rfl)) (gE oktb (gE omb ?_))
     refine gE ofp (gE (oli 0) (gE ofp (gE (oli 6) ?_)))
     refine g_val (v := .bool false) rfl rfl rfl rfl rfl (ev_f (by rw [hbd]; exact fun q => q rfl) (e_neq (a := ((actS Y.s x61).2.2)) (b := (R.e)) rfl rfl)) ?_
     refine gE oktb (lE okfb (lnf (c_no rfl (csk (csr (lE oms (lE ofp (lE (ols 0) ?_))))))))
     refine l_mv rfl rfl rfl (m_appendFlN (F := IntF) 5 tt29 tt31 (p := p) (m := made.length) (xs := made) (ys := []) (ao := p74) (k := 0) (c := c75) rfl rfl rfl rfl rfl (Knows.imp (k_flN 1 (F := IntF) (m := 0) rfl rfl) fun _ h => (Sl.parts h).2.2.2) (by first | omega | simp only [List.length_nil,List.length_cons,List.length_append,List.length_set]; omega) (by first | omega | simp only [List.length_nil,List.length_cons,List.length_append,List.length_set]; omega)) ?_
     rintro _ _ ⟨rp78,rc79,rfl,rfl⟩
     refine lE oas (lnc (lE ofp (lE (olb 0) (lE ont (lnf (c_yes rfl (c_exit (f_exit_other rfl (f_then_exit (f_then_exit (f_exit ?_)))))))))))
     refine f_perm (L' := [pt b59 (.cells #[.bool (R.done),Ix (R.at_),Ix (R.e),sB p57 R.holds c58] 37),rowF IntF 3 p57 c58 R.holds,houseR H2 b1 X1 (i + 1) ((494 * i) + 494) (-1),pt b56 (.cells #[Ix ((seqX l i).s.su.a0),Ix ((seqX l i).s.su.a1),Ix ((seqX l i).s.su.a2),Ix ((seqX l i).s.su.a3)] 44),rowF IntF 3 p54 c55 (ownersX (seqX l i)),rowF HoF 104 p52 c53 (holdsX (seqX l i)),rowF ActF 47 p23 c24 (fitL x8),pt b22 (.cells #[Bx (x8.kind),Ix (fitAu x8),Nx (1 + i),sB p23 (fitL x8) c24] 32),houseR H26 b25 Y1 ((i + j) + 1) ((494 * i + 494 * j) + 494) (-1),rowF IntF 3 rp78 rc79 (made ++ []),pt b76 (.cells #[.bool false,.int .i64 (0),Ix ((actS Y.s x61).2.2),.slice p74 (0) c75] 37),rowF IntF 3 p74 c75 [],pt b73 (.cells #[Bx (x61.kind),Ix (x61.owner),Ix (x61.other),Ix (x61.hold),Ix (x61.a.a0),Ix (x61.a.a1),Ix (x61.a.a2),Ix (x61.a.a3)] 47),pt b63 (.cells #[Bx (x61.kind),Ix (x61.owner),Ix (x61.other),Ix (x61.hold),Ix (x61.a.a0),Ix (x61.a.a1),Ix (x61.a.a2),Ix (x61.a.a3)] 47)]) (perm_ix [6,7,8,9,10,11,12,13,2,5,0,1,3,4] 14 rfl (by kernel_rfl) (by kernel_rfl)) ?_
     refine f_mask [true,true,true,true,true,true,true,true,true,true,false,false,false,false] rfl ?_
     exact f_cut ⟨Y1,(made ++ []),rp78,rc79,((i + j) + 1),((494 * i + 494 * j) + 494),⟨rfl,rfl,rfl,rfl,rfl,rfl,rfl,rfl,rfl,rfl,rfl⟩,rfl,⟨fun q => by rw [hbd] at q; cases q⟩⟩
    refine skE (skE (skE (skE (gE okfb (gE omb ?_)))))
    iterate 5 refine skE ?_
    refine gE okfb (lE okfb (lnf (c_no rfl (csk (csr (lE oms (lE ofp (lE (ols 0) ?_))))))))
    refine l_mv rfl rfl rfl (m_appendFlN (F := IntF) 5 tt29 tt31 (p := p) (m := made.length) (xs := made) (ys := []) (ao := p74) (k := 0) (c := c75) rfl rfl rfl rfl rfl (Knows.imp (k_flN 1 (F := IntF) (m := 0) rfl rfl) fun _ h => (Sl.parts h).2.2.2) (by first | omega | simp only [List.length_nil,List.length_cons,List.length_append,List.length_set]; omega) (by first | omega | simp only [List.length_nil,List.length_cons,List.length_append,List.length_set]; omega)) ?_
    rintro _ _ ⟨rp80,rc81,rfl,rfl⟩
    refine lE oas (lnc (lE ofp (lE (olb 0) (lE ont (lnf (c_yes rfl (c_exit (f_exit_other rfl (f_then_exit (f_then_exit (f_exit ?_)))))))))))
    refine f_perm (L' := [pt b59 (.cells #[.bool (R.done),Ix (R.at_),Ix (R.e),sB p57 R.holds c58] 37),rowF IntF 3 p57 c58 R.holds,houseR H2 b1 X1 (i + 1) ((494 * i) + 494) (-1),pt b56 (.cells #[Ix ((seqX l i).s.su.a0),Ix ((seqX l i).s.su.a1),Ix ((seqX l i).s.su.a2),Ix ((seqX l i).s.su.a3)] 44),rowF IntF 3 p54 c55 (ownersX (seqX l i)),rowF HoF 104 p52 c53 (holdsX (seqX l i)),rowF ActF 47 p23 c24 (fitL x8),pt b22 (.cells #[Bx (x8.kind),Ix (fitAu x8),Nx (1 + i),sB p23 (fitL x8) c24] 32),houseR H26 b25 Y1 ((i + j) + 1) ((494 * i + 494 * j) + 494) (-1),rowF IntF 3 rp80 rc81 (made ++ []),pt b76 (.cells #[.bool false,.int .i64 (0),Ix ((actS Y.s x61).2.2),.slice p74 (0) c75] 37),rowF IntF 3 p74 c75 [],pt b73 (.cells #[Bx (x61.kind),Ix (x61.owner),Ix (x61.other),Ix (x61.hold),Ix (x61.a.a0),Ix (x61.a.a1),Ix (x61.a.a2),Ix (x61.a.a3)] 47),pt b63 (.cells #[Bx (x61.kind),Ix (x61.owner),Ix (x61.other),Ix (x61.hold),Ix (x61.a.a0),Ix (x61.a.a1),Ix (x61.a.a2),Ix (x61.a.a3)] 47)]) (perm_ix [6,7,8,9,10,11,12,13,2,5,0,1,3,4] 14 rfl (by kernel_rfl) (by kernel_rfl)) ?_
    refine f_mask [true,true,true,true,true,true,true,true,true,true,false,false,false,false] rfl ?_
    exact f_cut ⟨Y1,(made ++ []),rp80,rc81,((i + j) + 1),((494 * i + 494 * j) + 494),⟨rfl,rfl,rfl,rfl,rfl,rfl,rfl,rfl,rfl,rfl,rfl⟩,rfl,⟨fun q => by rw [hbd] at q; cases q⟩⟩
   refine c_exit (f_then_exit (f_then_exit (f_exit ?_)))
   refine f_perm (L' := [pt b59 (.cells #[.bool (R.done),Ix (R.at_),Ix (R.e),sB p57 R.holds c58] 37),rowF IntF 3 p57 c58 R.holds,houseR H2 b1 X1 (i + 1) ((494 * i) + 494) (-1),pt b56 (.cells #[Ix ((seqX l i).s.su.a0),Ix ((seqX l i).s.su.a1),Ix ((seqX l i).s.su.a2),Ix ((seqX l i).s.su.a3)] 44),rowF IntF 3 p54 c55 (ownersX (seqX l i)),rowF HoF 104 p52 c53 (holdsX (seqX l i)),rowF ActF 47 p23 c24 (fitL x8),pt b22 (.cells #[Bx (x8.kind),Ix (fitAu x8),Nx (1 + i),sB p23 (fitL x8) c24] 32),houseR H26 b25 Y (i + j) (494 * i + 494 * j) (-1),rowF IntF 3 p c made]) (perm_ix [1,2,3,4,5,6,8,9,7,0] 10 rfl (by kernel_rfl) (by kernel_rfl)) ?_
   exact f_cut ⟨Y,made,p,c,(i + j),(494 * i + 494 * j),⟨rfl,rfl,rfl,rfl,rfl,rfl,rfl,rfl,rfl,rfl,rfl⟩,rfl,⟨fun _ => by have hov := hin.over (by omega); have hx : X1.s = Y.s := (by rw [hX1]; show (carryF _ _).1 = _; rw [hov]); exact ⟨hx.symm,by rw [hR,hov]⟩⟩⟩
  rintro f0 L0 ⟨Y,made,p,c,N2,W2,⟨hs0,hs3,hs7,hs13,hs14,hs15,hs16,hs18,hs35,hs36,hs37⟩,hL,hwd⟩
  subst L0
  refine rbs 0 hs0 (rbs 3 hs3 (rbs 7 hs7 (rbs 13 hs13 (rbs 14 hs14 (rbs 15 hs15 (rbs 16 hs16 (rbs 18 hs18 (rbs 35 hs35 (rbs 36 hs36 (rbs 37 hs37 ?_))))))))))
  have hg := fun q : R.done = true => carryX_good (s := (seqX l i).s) (al := fitL x8) (by rw [← hR]; exact q)
  rw [← hR] at hg
  have hb := fun q : R.done = false => carryX_fail (X := (seqX l i)) (au := fitAu x8) (nu := ((1 + i : Nat) : Int)) (al := fitL x8) (by rw [← hR]; exact q)
  rw [← hR,← hX1] at hb
  refine cs2 (c_region (lE ofp (lE (olb 0) (lE omb (l_splitb (s := 166) (b := R.done) rfl (fun hg82 => ?_) (fun hg82 => ?_))))))
  ·refine gE oms (gE ofp (gE (ols 0) (g_call rfl rfl rfl rfl rfl (cl0 (vs := [sB p made c,sB p57 R.holds c58]) tt174.ok rfl rfl) ?_)))
   intro w hw
   obtain ⟨β1,sb,kn,hw1,back⟩ := St.frame_all hw
   refine (sameI_ok β1 w hw1 _ _ made R.holds (kn _ (k_flN 9 (F := IntF) (m := made.length) rfl rfl)) (kn _ (k_flN 1 (F := IntF) (m := R.holds.length) rfl rfl))).mono ?_
   rintro e w' ⟨rfl,hw'⟩
   refine ⟨_,rfl,_,back _ _ hw',?_⟩
   clear hw hw1 hw' back kn sb
   refine gE ond (gE omb (l_split (s := 172) rfl (fun h => ?_) (fun h => ?_)))
   exact absurd h (fun q => q (hwd.done hg82).2)
   refine gE ofp (gE (oli 0) ?_)
   refine g_val (v := .bool false) rfl rfl rfl rfl rfl (ev_f (fun q => q (hg hg82).1) (e_neq (a := (R.at_)) (b := (0 : Int)) rfl rfl)) (gE okfb ?_)
   refine gE omb (gE ofp (gE (oli 0) ?_))
   refine g_val (v := .bool false) rfl rfl rfl rfl rfl (ev_f (fun q => q (hg hg82).2) (e_neq (a := (R.e)) (b := (0 : Int)) rfl rfl)) (gE okfb (gE omb ?_))
   refine gE omp (g_call rfl rfl rfl rfl rfl (cl0 (vs := [pp H26 0]) tt193.ok rfl rfl) ?_)
   intro w hw
   replace hw := hw.perm (L' := [houseR H26 b25 Y N2 W2 (-1),pt b59 (.cells #[.bool (R.done),Ix (R.at_),Ix (R.e),sB p57 R.holds c58] 37),rowF IntF 3 p57 c58 R.holds,houseR H2 b1 X1 (i + 1) ((494 * i) + 494) (-1),pt b56 (.cells #[Ix ((seqX l i).s.su.a0),Ix ((seqX l i).s.su.a1),Ix ((seqX l i).s.su.a2),Ix ((seqX l i).s.su.a3)] 44),rowF IntF 3 p54 c55 (ownersX (seqX l i)),rowF HoF 104 p52 c53 (holdsX (seqX l i)),rowF ActF 47 p23 c24 (fitL x8),pt b22 (.cells #[Bx (x8.kind),Ix (fitAu x8),Nx (1 + i),sB p23 (fitL x8) c24] 32),rowF IntF 3 p c made]) (by exact (perm_ix [8,0,1,2,3,4,5,6,7,9] 10 rfl (by kernel_rfl) (by kernel_rfl)))
   obtain ⟨β1,sb,kn,hw1,back⟩ := St.frame (L := [_]) (M := _ :: _ :: _ :: _ :: _ :: _ :: _ :: _ :: _ :: []) hw
   refine (owners_ok β1 w H26 b25 N2 W2 (-1) Y hw1).mono ?_
   rintro e w' ⟨p83,c84,rfl,hw'⟩
   refine ⟨_,rfl,_,back _ _ hw',?_⟩
   clear hw hw1 hw' back kn sb
   refine gE omp (g_call rfl rfl rfl rfl rfl (cl0 (vs := [pp H2 0]) tt193.ok rfl rfl) ?_)
   intro w hw
   replace hw := hw.perm (L' := [houseR H2 b1 X1 (i + 1) ((494 * i) + 494) (-1),rowF IntF 3 p83 c84 (ownersX Y),houseR H26 b25 Y N2 W2 (-1),pt b59 (.cells #[.bool (R.done),Ix (R.at_),Ix (R.e),sB p57 R.holds c58] 37),rowF IntF 3 p57 c58 R.holds,pt b56 (.cells #[Ix ((seqX l i).s.su.a0),Ix ((seqX l i).s.su.a1),Ix ((seqX l i).s.su.a2),Ix ((seqX l i).s.su.a3)] 44),rowF IntF 3 p54 c55 (ownersX (seqX l i)),rowF HoF 104 p52 c53 (holdsX (seqX l i)),rowF ActF 47 p23 c24 (fitL x8),pt b22 (.cells #[Bx (x8.kind),Ix (fitAu x8),Nx (1 + i),sB p23 (fitL x8) c24] 32),rowF IntF 3 p c made]) (by exact (perm_ix [4,0,1,2,3,5,6,7,8,9,10] 11 rfl (by kernel_rfl) (by kernel_rfl)))
   obtain ⟨β1,sb,kn,hw1,back⟩ := St.frame (L := [_]) (M := _ :: _ :: _ :: _ :: _ :: _ :: _ :: _ :: _ :: _ :: []) hw
   refine (owners_ok β1 w H2 b1 (i + 1) ((494 * i) + 494) (-1) X1 hw1).mono ?_
   rintro e w' ⟨p85,c86,rfl,hw'⟩
   refine ⟨_,rfl,_,back _ _ hw',?_⟩
   clear hw hw1 hw' back kn sb
   refine g_call rfl rfl rfl rfl rfl (cl0 (vs := [sB p83 (ownersX Y) c84,sB p85 (ownersX X1) c86]) tt174.ok rfl rfl) ?_
   intro w hw
   obtain ⟨β1,sb,kn,hw1,back⟩ := St.frame_all hw
   refine (sameI_ok β1 w hw1 _ _ (ownersX Y) (ownersX X1) (kn _ (k_flN 2 (F := IntF) (m := (ownersX Y).length) rfl rfl)) (kn _ (k_flN 0 (F := IntF) (m := (ownersX X1).length) rfl rfl))).mono ?_
   rintro e w' ⟨rfl,hw'⟩
   refine ⟨_,rfl,_,back _ _ hw',?_⟩
   clear hw hw1 hw' back kn sb
   refine gE ond (gE okfb (gE omb (l_split (s := 190) rfl (fun h => ?_) (fun h => ?_))))
   exact absurd h (fun q => q (ownersX_s (hwd.done hg82).1))
   refine gE omp (g_call rfl rfl rfl rfl rfl (cl0 (vs := [pp H26 0]) tt179.ok rfl rfl) ?_)
   intro w hw
   replace hw := hw.perm (L' := [houseR H26 b25 Y N2 W2 (-1),rowF IntF 3 p85 c86 (ownersX X1),houseR H2 b1 X1 (i + 1) ((494 * i) + 494) (-1),rowF IntF 3 p83 c84 (ownersX Y),pt b59 (.cells #[.bool (R.done),Ix (R.at_),Ix (R.e),sB p57 R.holds c58] 37),rowF IntF 3 p57 c58 R.holds,pt b56 (.cells #[Ix ((seqX l i).s.su.a0),Ix ((seqX l i).s.su.a1),Ix ((seqX l i).s.su.a2),Ix ((seqX l i).s.su.a3)] 44),rowF IntF 3 p54 c55 (ownersX (seqX l i)),rowF HoF 104 p52 c53 (holdsX (seqX l i)),rowF ActF 47 p23 c24 (fitL x8),pt b22 (.cells #[Bx (x8.kind),Ix (fitAu x8),Nx (1 + i),sB p23 (fitL x8) c24] 32),rowF IntF 3 p c made]) (by exact (perm_ix [3,0,1,2,4,5,6,7,8,9,10,11] 12 rfl (by kernel_rfl) (by kernel_rfl)))
   obtain ⟨β1,sb,kn,hw1,back⟩ := St.frame (L := [_]) (M := _ :: _ :: _ :: _ :: _ :: _ :: _ :: _ :: _ :: _ :: _ :: []) hw
   refine (supply_ok β1 w H26 b25 N2 W2 (-1) Y hw1).mono ?_
   rintro e w' ⟨rfl,hw'⟩
   refine ⟨_,rfl,_,back _ _ hw',?_⟩
   clear hw hw1 hw' back kn sb
   refine gE omp (g_call rfl rfl rfl rfl rfl (cl0 (vs := [pp H2 0]) tt179.ok rfl rfl) ?_)
   intro w hw
   replace hw := hw.perm (L' := [houseR H2 b1 X1 (i + 1) ((494 * i) + 494) (-1),houseR H26 b25 Y N2 W2 (-1),rowF IntF 3 p85 c86 (ownersX X1),rowF IntF 3 p83 c84 (ownersX Y),pt b59 (.cells #[.bool (R.done),Ix (R.at_),Ix (R.e),sB p57 R.holds c58] 37),rowF IntF 3 p57 c58 R.holds,pt b56 (.cells #[Ix ((seqX l i).s.su.a0),Ix ((seqX l i).s.su.a1),Ix ((seqX l i).s.su.a2),Ix ((seqX l i).s.su.a3)] 44),rowF IntF 3 p54 c55 (ownersX (seqX l i)),rowF HoF 104 p52 c53 (holdsX (seqX l i)),rowF ActF 47 p23 c24 (fitL x8),pt b22 (.cells #[Bx (x8.kind),Ix (fitAu x8),Nx (1 + i),sB p23 (fitL x8) c24] 32),rowF IntF 3 p c made]) (by exact (perm_ix [2,0,1,3,4,5,6,7,8,9,10,11] 12 rfl (by kernel_rfl) (by kernel_rfl)))
   obtain ⟨β1,sb,kn,hw1,back⟩ := St.frame (L := [_]) (M := _ :: _ :: _ :: _ :: _ :: _ :: _ :: _ :: _ :: _ :: _ :: []) hw
   refine (supply_ok β1 w H2 b1 (i + 1) ((494 * i) + 494) (-1) X1 hw1).mono ?_
   rintro e w' ⟨rfl,hw'⟩
   refine ⟨_,rfl,_,back _ _ hw',?_⟩
   clear hw hw1 hw' back kn sb
   refine g_val (v := .bool false) rfl rfl rfl rfl rfl (ev_f (fun q => q (by rw [(hwd.done hg82).1])) (e_neq_t (xs := amE Y.s.su) (ys := amE X1.s.su) tt12 tt13 tt14 rfl rfl rfl rfl (not_congr (am_eq (x := Y.s.su) (y := X1.s.su))))) ?_
   refine gE okfb (lE oktb (lnf (c_no rfl (csk (c_seq ?_)))))
   refine cny [sv 198 (pp b59 0) [] [] [0],sv 199 (.bool true) [0] [0] [],sv 200 (.bool false) [0,1] [1] [],sv 201 (.bool false) [0,1,2] [2] [],sv 202 undef [0,1,2,3] [3] [1],sv 203 undef [0,1,2,3,4] [4,3] [],sv 204 undef (List.range 6) [5,3] [],sv 205 undef [0,1,2,3] [3] [2],sv 206 undef (List.range 8) [6,7,3] [],sv 207 undef (List.range 9) [8,3] [],sv 208 undef (List.range 10) [9] [0],sv 209 undef (List.range 11) [10,9] [],sv 210 undef (List.range 12) [11,9] [],sv 211 undef (List.range 13) [12,9] [],sv 212 undef (List.range 14) [9,13,3] [],sv 213 undef (List.range 15) [14,3] [],sv 214 undef (List.range 16) [15] [1],sv 215 undef (List.range 17) [16,15] [],sv 216 undef (List.range 16) [15] [3],sv 217 undef (List.range 19) [17,18,15] [],sv 218 undef (List.range 20) [19,15] [],sv 219 undef (List.range 21) [15,20,3] [],sv 220 undef (List.range 22) [21,3] [],sv 221 undef (List.range 23) [22] [1],sv 222 undef (List.range 24) [23,22] [],sv 223 undef (List.range 23) [22] [4],sv 224 undef (List.range 26) [24,25,22] [],sv 225 undef (List.range 27) [22,26,3] [],sv 226 undef (List.range 28) [27,3] [],sv 227 undef (List.range 29) [28] [0],sv 228 undef (List.range 30) [29,28] [],sv 229 undef (List.range 31) [30,28] [],sv 230 undef (List.range 32) [28,31,3] [],sv 231 (.bool false) (List.range 33) [3,32] []] [tk (houseR H2 b1 X1 (i + 1) ((494 * i) + 494) (-1)) [],tk (houseR H26 b25 Y N2 W2 (-1)) [],tk (rowF IntF 3 p85 c86 (ownersX X1)) [],tk (rowF IntF 3 p83 c84 (ownersX Y)) [],tk (pt b59 (.cells #[.bool (R.done),Ix (R.at_),Ix (R.e),sB p57 R.holds c58] 37)) [1],tk (rowF IntF 3 p57 c58 R.holds) [],tk (pt b56 (.cells #[Ix ((seqX l i).s.su.a0),Ix ((seqX l i).s.su.a1),Ix ((seqX l i).s.su.a2),Ix ((seqX l i).s.su.a3)] 44)) [],tk (rowF IntF 3 p54 c55 (ownersX (seqX l i))) [],tk (rowF HoF 104 p52 c53 (holdsX (seqX l i))) [],tk (rowF ActF 47 p23 c24 (fitL x8)) [],tk (pt b22 (.cells #[Bx (x8.kind),Ix (fitAu x8),Nx (1 + i),sB p23 (fitL x8) c24] 32)) [],tk (rowF IntF 3 p c made) []] [(16,pp b59 0),(3,pp H2 0),(13,Nx ((holdsX (seqX l i)).length)),(14,sB p54 (ownersX (seqX l i)) c55),(15,pp b56 0),(0,sB va l (vc)),(35,sB va zs3 (vc)),(36,Nx (zs3.length)),(37,Nx (i))] [5,1,6,7,8] [] ⟨rfl,rfl,rfl,rfl,rfl,rfl,rfl,rfl,rfl,trivial⟩ ⟨?_,?_,?_,?_,?_,?_,?_,?_,?_,?_,?_,?_,?_,?_,?_,?_,?_,?_,?_,?_,?_,?_,?_,?_,?_,?_,?_,?_,?_,?_,?_,?_,?_,?_,trivial⟩ ?_
   ·rintro f M - ⟨i0,-⟩
    exact obE ofp
   ·rintro f M ⟨k0,-⟩ -
    exact obv (L' := pt b59 (.cells #[.bool (R.done),Ix (R.at_),Ix (R.e),sB p57 R.holds c58] 37) :: M) (up_cons (d := 198) rfl k0) rfl ((ev_b (c := true) (show (R.done) = true from hg82) (e_load1 tt95.ok rfl (k_pt 0 rfl rfl)))) (perm_front 0 rfl) (by rfl)
   ·rintro f M ⟨k0,-⟩ -
    exact obE ont
   ·rintro f M ⟨k0,-⟩ -
    exact obE omb
   ·rintro f M ⟨k0,-⟩ ⟨i0,-⟩
    refine ob_start (L' := M) (by rfl) (up_cons (d := 201) (up_cons (d := 3) rfl i0) k0) (skE (l_nil ?_))
    exact f_owes_d (up_cons (d := 201) (up_cons (d := 3) rfl i0) k0) rfl (List.Perm.refl _)
   ·rintro f M ⟨k0,k1,-⟩ -
    refine ob_start (L' := M) (by rfl) (up_cons (d := 201) (up_cons (d := 202) rfl k0) k1) (skE (l_nil ?_))
    exact f_owes_d (up_cons (d := 201) (up_cons (d := 202) rfl k0) k1) rfl (List.Perm.refl _)
   ·rintro f M ⟨k0,k1,-⟩ -
    refine ob_start (L' := M) (by rfl) (up_cons (d := 201) (up_cons (d := 203) rfl k0) k1) (skE (l_nil ?_))
    exact f_owes_d (up_cons (d := 201) (up_cons (d := 203) rfl k0) k1) rfl (List.Perm.refl _)
   ·rintro f M ⟨k0,-⟩ ⟨i0,-⟩
    refine ob_start (L' := M) (by rfl) (up_cons (d := 201) (up_cons (d := 13) rfl i0) k0) (skE (l_nil ?_))
    exact f_owes_d (up_cons (d := 201) (up_cons (d := 13) rfl i0) k0) rfl (List.Perm.refl _)
   ·rintro f M ⟨k0,k1,k2,-⟩ -
    refine ob_start (L' := M) (by rfl) (up_cons (d := 201) (up_cons (d := 205) (up_cons (d := 204) rfl k0) k1) k2) (skE (l_nil ?_))
    exact f_owes_d (up_cons (d := 201) (up_cons (d := 205) (up_cons (d := 204) rfl k0) k1) k2) rfl (List.Perm.refl _)
   ·rintro f M ⟨k0,k1,-⟩ -
    refine ob_start (L' := M) (by rfl) (up_cons (d := 201) (up_cons (d := 206) rfl k0) k1) (skE (l_nil ?_))
    exact f_owes_d (up_cons (d := 201) (up_cons (d := 206) rfl k0) k1) rfl (List.Perm.refl _)
   ·rintro f M ⟨k0,-⟩ ⟨i0,-⟩
    exact obu (up_cons (d := 207) (up_cons (d := 16) rfl i0) k0) rfl rfl rfl (.refl _)
   ·rintro f M ⟨k0,k1,-⟩ -
    exact obu (up_cons (d := 207) (up_cons (d := 208) rfl k0) k1) rfl rfl rfl (.refl _)
   ·rintro f M ⟨k0,k1,-⟩ -
    exact obu (up_cons (d := 207) (up_cons (d := 209) rfl k0) k1) rfl rfl rfl (.refl _)
   ·rintro f M ⟨k0,k1,-⟩ -
    exact obu (up_cons (d := 207) (up_cons (d := 210) rfl k0) k1) rfl rfl rfl (.refl _)
   ·rintro f M ⟨k0,k1,k2,-⟩ -
    refine ob_start (L' := M) (by rfl) (up_cons (d := 201) (up_cons (d := 211) (up_cons (d := 207) rfl k0) k1) k2) (skE (l_nil ?_))
    exact f_owes_d (up_cons (d := 201) (up_cons (d := 211) (up_cons (d := 207) rfl k0) k1) k2) rfl (List.Perm.refl _)
   ·rintro f M ⟨k0,k1,-⟩ -
    refine ob_start (L' := M) (by rfl) (up_cons (d := 201) (up_cons (d := 212) rfl k0) k1) (skE (l_nil ?_))
    exact f_owes_d (up_cons (d := 201) (up_cons (d := 212) rfl k0) k1) rfl (List.Perm.refl _)
   ·rintro f M ⟨k0,-⟩ ⟨i0,-⟩
    exact obu (up_cons (d := 213) (up_cons (d := 3) rfl i0) k0) rfl rfl rfl (.refl _)
   ·rintro f M ⟨k0,k1,-⟩ -
    exact obu (up_cons (d := 213) (up_cons (d := 214) rfl k0) k1) rfl rfl rfl (.refl _)
   ·rintro f M ⟨k0,-⟩ ⟨i0,-⟩
    exact obu (up_cons (d := 213) (up_cons (d := 14) rfl i0) k0) rfl rfl rfl (.refl _)
   ·rintro f M ⟨k0,k1,k2,-⟩ -
    exact obu (up_cons (d := 213) (up_cons (d := 216) (up_cons (d := 215) rfl k0) k1) k2) rfl rfl rfl (.refl _)
   ·rintro f M ⟨k0,k1,-⟩ -
    exact obu (up_cons (d := 213) (up_cons (d := 217) rfl k0) k1) rfl rfl rfl (.refl _)
   ·rintro f M ⟨k0,k1,k2,-⟩ -
    refine ob_start (L' := M) (by rfl) (up_cons (d := 201) (up_cons (d := 218) (up_cons (d := 213) rfl k0) k1) k2) (skE (l_nil ?_))
    exact f_owes_d (up_cons (d := 201) (up_cons (d := 218) (up_cons (d := 213) rfl k0) k1) k2) rfl (List.Perm.refl _)
   ·rintro f M ⟨k0,k1,-⟩ -
    refine ob_start (L' := M) (by rfl) (up_cons (d := 201) (up_cons (d := 219) rfl k0) k1) (skE (l_nil ?_))
    exact f_owes_d (up_cons (d := 201) (up_cons (d := 219) rfl k0) k1) rfl (List.Perm.refl _)
   ·rintro f M ⟨k0,-⟩ ⟨i0,-⟩
    exact obu (up_cons (d := 220) (up_cons (d := 3) rfl i0) k0) rfl rfl rfl (.refl _)
   ·rintro f M ⟨k0,k1,-⟩ -
    exact obu (up_cons (d := 220) (up_cons (d := 221) rfl k0) k1) rfl rfl rfl (.refl _)
   ·rintro f M ⟨k0,-⟩ ⟨i0,-⟩
    exact obu (up_cons (d := 220) (up_cons (d := 15) rfl i0) k0) rfl rfl rfl (.refl _)
   ·rintro f M ⟨k0,k1,k2,-⟩ -
    exact obu (up_cons (d := 220) (up_cons (d := 223) (up_cons (d := 222) rfl k0) k1) k2) rfl rfl rfl (.refl _)
   ·rintro f M ⟨k0,k1,k2,-⟩ -
    refine ob_start (L' := M) (by rfl) (up_cons (d := 201) (up_cons (d := 224) (up_cons (d := 220) rfl k0) k1) k2) (skE (l_nil ?_))
    exact f_owes_d (up_cons (d := 201) (up_cons (d := 224) (up_cons (d := 220) rfl k0) k1) k2) rfl (List.Perm.refl _)
   ·rintro f M ⟨k0,k1,-⟩ -
    refine ob_start (L' := M) (by rfl) (up_cons (d := 201) (up_cons (d := 225) rfl k0) k1) (skE (l_nil ?_))
    exact f_owes_d (up_cons (d := 201) (up_cons (d := 225) rfl k0) k1) rfl (List.Perm.refl _)
   ·rintro f M ⟨k0,-⟩ ⟨i0,-⟩
    exact obu (up_cons (d := 226) (up_cons (d := 16) rfl i0) k0) rfl rfl rfl (.refl _)
   ·rintro f M ⟨k0,k1,-⟩ -
    exact obu (up_cons (d := 226) (up_cons (d := 227) rfl k0) k1) rfl rfl rfl (.refl _)
   ·rintro f M ⟨k0,k1,-⟩ -
    exact obu (up_cons (d := 226) (up_cons (d := 228) rfl k0) k1) rfl rfl rfl (.refl _)
   ·rintro f M ⟨k0,k1,k2,-⟩ -
    refine ob_start (L' := M) (by rfl) (up_cons (d := 201) (up_cons (d := 229) (up_cons (d := 226) rfl k0) k1) k2) (skE (l_nil ?_))
    exact f_owes_d (up_cons (d := 201) (up_cons (d := 229) (up_cons (d := 226) rfl k0) k1) k2) rfl (List.Perm.refl _)
   ·rintro f M ⟨k0,k1,-⟩ -
    exact obE okfb
   rintro fa87 ⟨-,-,-,-,-,-,-,-,-,-,-,-,-,-,-,-,-,-,-,-,-,-,-,-,-,-,-,-,-,-,-,-,-,k33,-⟩ ⟨j0,j1,j2,j3,j4,-⟩
   refine f_re (L' := [houseR H2 b1 X1 (i + 1) ((494 * i) + 494) (-1),houseR H26 b25 Y N2 W2 (-1),rowF IntF 3 p85 c86 (ownersX X1),rowF IntF 3 p83 c84 (ownersX Y),pt b59 (.cells #[.bool (R.done),Ix (R.at_),Ix (R.e),sB p57 R.holds c58] 37),rowF IntF 3 p57 c58 R.holds,pt b56 (.cells #[Ix ((seqX l i).s.su.a0),Ix ((seqX l i).s.su.a1),Ix ((seqX l i).s.su.a2),Ix ((seqX l i).s.su.a3)] 44),rowF IntF 3 p54 c55 (ownersX (seqX l i)),rowF HoF 104 p52 c53 (holdsX (seqX l i)),rowF ActF 47 p23 c24 (fitL x8),pt b22 (.cells #[Bx (x8.kind),Ix (fitAu x8),Nx (1 + i),sB p23 (fitL x8) c24] 32),rowF IntF 3 p c made]) (by rfl) ?_
   refine f_rebase (d := 0) j0 (f_rebase (d := 3) j1 (f_rebase (d := 35) j2 (f_rebase (d := 36) j3 (f_rebase (d := 37) j4 (f_rebase (d := 231) k33 ?_)))))
   refine f_then (c_no rfl (c_skip (f_block (f_then (c_region (lv (v := Nx (i + 1)) (e_add rfl rfl (i64n (by omega) (by omega))) (lE omi (l_nil ?_))))))))
   refine f_houLe (M := i + 1) (V := 494 * (i + 1)) 0 rfl (by omega) (by omega) ?_
   refine f_re (L' := [houseR H2 b1 (seqX l (i + 1)) (i + 1) (494 * (i + 1)) (-1),houseR H26 b25 Y N2 W2 (-1),rowF IntF 3 p85 c86 (ownersX X1),rowF IntF 3 p83 c84 (ownersX Y),pt b59 (.cells #[.bool (R.done),Ix (R.at_),Ix (R.e),sB p57 R.holds c58] 37),rowF IntF 3 p57 c58 R.holds,pt b56 (.cells #[Ix ((seqX l i).s.su.a0),Ix ((seqX l i).s.su.a1),Ix ((seqX l i).s.su.a2),Ix ((seqX l i).s.su.a3)] 44),rowF IntF 3 p54 c55 (ownersX (seqX l i)),rowF HoF 104 p52 c53 (holdsX (seqX l i)),rowF ActF 47 p23 c24 (fitL x8),pt b22 (.cells #[Bx (x8.kind),Ix (fitAu x8),Nx (1 + i),sB p23 (fitL x8) c24] 32),rowF IntF 3 p c made]) (by rw [hXs,← hX1] <;> rfl) ?_
   refine f_mask [true,false,false,false,false,false,false,false,false,false,false,false] rfl ?_
   exact f_cut ⟨i + 1,⟨⟨rfl,rfl,rfl,rfl,rfl⟩,rfl,(by omega)⟩,(show zs3.length - (i + 1) < zs3.length - i from by omega)⟩
  iterate 6 refine skE ?_
  refine l_skip_u rfl rfl rfl rfl rfl (l_skip_u rfl rfl rfl rfl rfl (l_skip_u rfl rfl rfl rfl rfl (skE (skE (l_skip_u rfl rfl rfl rfl rfl ?_)))))
  refine l_skip_u rfl rfl rfl rfl rfl (l_skip_u rfl rfl rfl rfl rfl (skE (skE (l_skip_u rfl rfl rfl rfl rfl (l_skip_u rfl rfl rfl rfl rfl ?_)))))
  refine l_skip_u rfl rfl rfl rfl rfl (l_skip_u rfl rfl rfl rfl rfl (l_skip_u rfl rfl rfl rfl rfl (l_skip_u rfl rfl rfl rfl rfl (skE (skE ?_)))))
  refine l_skip_u rfl rfl rfl rfl rfl (l_skip_u rfl rfl rfl rfl rfl (l_skip_u rfl rfl rfl rfl rfl (l_skip_u rfl rfl rfl rfl rfl ?_)))
  refine l_skip_u rfl rfl rfl rfl rfl (skE (lE okfb (lnf (c_no rfl (csk (c_seq ?_))))))
  refine cny [sv 198 (pp b59 0) [] [] [0],sv 199 (.bool false) [0] [0] [],sv 200 (.bool true) [0,1] [1] [],sv 201 (.bool true) [0,1,2] [2] [],sv 202 (pp H2 0) [0,1,2,3] [3] [1],⟨[0,1,2,3,4],[4,3],[],[203],fun f => f 203 = sB (sla (f 203)) (holdsX X1) (slc (f 203))⟩,sv 204 (Nx ((holdsX X1).length)) (List.range 6) [5,3] [],sv 205 (Nx ((holdsX (seqX l i)).length)) [0,1,2,3] [3] [2],sv 206 (.bool false) (List.range 8) [6,7,3] [],sv 207 (.bool false) (List.range 9) [8,3] [],sv 208 (pp b59 3) (List.range 10) [9] [0],sv 209 (sB p57 R.holds c58) (List.range 11) [10,9] [],sv 210 (Nx (R.holds.length)) (List.range 12) [11,9] [],sv 211 (.bool false) (List.range 13) [12,9] [],sv 212 (.bool false) (List.range 14) [9,13,3] [],sv 213 (.bool false) (List.range 15) [14,3] [],sv 214 (pp H2 0) (List.range 16) [15] [1],⟨(List.range 17),[16,15],[],[215],fun f => f 215 = sB (sla (f 215)) (ownersX X1) (slc (f 215))⟩,sv 216 (sB p54 (ownersX (seqX l i)) c55) (List.range 16) [15] [3],sv 217 (.bool true) (List.range 19) [17,18,15] [],sv 218 (.bool false) (List.range 20) [19,15] [],sv 219 (.bool false) (List.range 21) [15,20,3] [],sv 220 (.bool false) (List.range 22) [21,3] [],sv 221 (pp H2 0) (List.range 23) [22] [1],sv 222 (.agg (amC X1.s.su)) (List.range 24) [23,22] [],sv 223 (.agg #[Ix ((seqX l i).s.su.a0),Ix ((seqX l i).s.su.a1),Ix ((seqX l i).s.su.a2),Ix ((seqX l i).s.su.a3)]) (List.range 23) [22] [4],sv 224 (.bool false) (List.range 26) [24,25,22] [],sv 225 (.bool false) (List.range 27) [22,26,3] [],sv 226 (.bool false) (List.range 28) [27,3] [],sv 227 (pp b59 2) (List.range 29) [28] [0],sv 228 (Ix (R.e)) (List.range 30) [29,28] [],sv 229 (.bool false) (List.range 31) [30,28] [],sv 230 (.bool false) (List.range 32) [28,31,3] [],sv 231 (.bool false) (List.range 33) [3,32] []] [tk (pt b59 (.cells #[.bool (R.done),Ix (R.at_),Ix (R.e),sB p57 R.holds c58] 37)) [1,11,30],tk (rowF IntF 3 p57 c58 R.holds) [],tk (houseR H2 b1 X1 (i + 1) ((494 * i) + 494) (-1)) [5,17,24],tk (pt b56 (.cells #[Ix ((seqX l i).s.su.a0),Ix ((seqX l i).s.su.a1),Ix ((seqX l i).s.su.a2),Ix ((seqX l i).s.su.a3)] 44)) [25],tk (rowF IntF 3 p54 c55 (ownersX (seqX l i))) [19],tk (rowF HoF 104 p52 c53 (holdsX (seqX l i))) [],tk (rowF ActF 47 p23 c24 (fitL x8)) [],tk (pt b22 (.cells #[Bx (x8.kind),Ix (fitAu x8),Nx (1 + i),sB p23 (fitL x8) c24] 32)) [],tk (houseR H26 b25 Y N2 W2 (-1)) [],tk (rowF IntF 3 p c made) [],⟨(some 5),none,[],[203],fun f => rowF HoF 104 (sla (f 203)) (slc (f 203)) (holdsX X1)⟩,⟨(some 17),none,[19],[215],fun f => rowF IntF 3 (sla (f 215)) (slc (f 215)) (ownersX X1)⟩] [(16,pp b59 0),(3,pp H2 0),(13,Nx ((holdsX (seqX l i)).length)),(14,sB p54 (ownersX (seqX l i)) c55),(15,pp b56 0),(0,sB va l (vc)),(35,sB va zs3 (vc)),(36,Nx (zs3.length)),(37,Nx (i))] [5,1,6,7,8] [] ⟨rfl,rfl,rfl,rfl,rfl,rfl,rfl,rfl,rfl,trivial⟩ ⟨?_,?_,?_,?_,?_,?_,?_,?_,?_,?_,?_,?_,?_,?_,?_,?_,?_,?_,?_,?_,?_,?_,?_,?_,?_,?_,?_,?_,?_,?_,?_,?_,?_,?_,trivial⟩ ?_
  ·rintro f M - ⟨i0,-⟩
   exact obE ofp
  ·rintro f M ⟨k0,-⟩ -
   exact obv (L' := pt b59 (.cells #[.bool (R.done),Ix (R.at_),Ix (R.e),sB p57 R.holds c58] 37) :: M) (up_cons (d := 198) rfl k0) rfl ((ev_b (c := false) (show (R.done) = false from hg82) (e_load1 tt95.ok rfl (k_pt 0 rfl rfl)))) (perm_front 0 rfl) (by rfl)
  ·rintro f M ⟨k0,-⟩ -
   exact obE ont
  ·rintro f M ⟨k0,-⟩ -
   exact obE omb
  ·rintro f M ⟨k0,-⟩ ⟨i0,-⟩
   exact obG omp
  ·rintro f M ⟨k0,k1,-⟩ -
   refine ob_start (L' := houseR H2 b1 X1 (i + 1) ((494 * i) + 494) (-1) :: M) (by rfl) (up_cons (d := 201) (up_cons (d := 202) rfl k0) k1) ?_
   refine g_call rfl rfl rfl rfl rfl (cl0 (vs := [pp H2 0]) tt180.ok rfl rfl) ?_
   intro w hw
   replace hw := hw.perm (L' := _ :: M) (by exact (perm_front 0 rfl))
   obtain ⟨β1,sb,kn,hw1,back⟩ := St.frame (L := [_]) (M := M) hw
   refine (holds_ok β1 w H2 b1 (i + 1) ((494 * i) + 494) (-1) X1 hw1).mono ?_
   rintro e w' ⟨p90,c91,rfl,hw'⟩
   refine ⟨_,rfl,_,back _ _ hw',?_⟩
   clear hw hw1 hw' back kn sb
   refine l_nil ?_
   exact f_owes_d (up_cons (d := 201) (up_cons (d := 202) rfl k0) k1) rfl ((perm_front 0 rfl).trans (perm_front 1 rfl))
  ·rintro f M ⟨k0,k1,-⟩ -
   have hs203 : f 203 = sB (sla (f 203)) (holdsX X1) (slc (f 203)) := k0
   exact obG oln
  ·rintro f M ⟨k0,-⟩ ⟨i0,-⟩
   exact obG omi
  ·rintro f M ⟨k0,k1,k2,-⟩ -
   exact obg (L' := M) (v := .bool false) (up_cons (d := 201) (up_cons (d := 205) (up_cons (d := 204) rfl k0) k1) k2) (ev_f (fun q => q (by rw [holdsX_s (hb hg82).1])) (e_neq (a := (((holdsX X1).length : Nat) : Int)) (b := (((holdsX (seqX l i)).length : Nat) : Int)) rfl rfl)) rfl rfl rfl rfl (.refl _) (by rfl)
  ·rintro f M ⟨k0,k1,-⟩ -
   exact obG omb
  ·rintro f M ⟨k0,-⟩ ⟨i0,-⟩
   exact obG ofp
  ·rintro f M ⟨k0,k1,-⟩ -
   exact obG (ols 0)
  ·rintro f M ⟨k0,k1,-⟩ -
   exact obG oln
  ·rintro f M ⟨k0,k1,-⟩ -
   exact obg (L' := M) (v := .bool false) (up_cons (d := 207) (up_cons (d := 210) rfl k0) k1) (ev_f (fun q => q (by rw [(hb hg82).2.1]; rfl)) (e_neq (a := ((R.holds.length : Nat) : Int)) (b := (0 : Int)) rfl rfl)) rfl rfl rfl rfl (.refl _) (by rfl)
  ·rintro f M ⟨k0,k1,k2,-⟩ -
   exact obG okfb
  ·rintro f M ⟨k0,k1,-⟩ -
   exact obG omb
  ·rintro f M ⟨k0,-⟩ ⟨i0,-⟩
   exact obG omp
  ·rintro f M ⟨k0,k1,-⟩ -
   refine ob_start (L' := houseR H2 b1 X1 (i + 1) ((494 * i) + 494) (-1) :: M) (by rfl) (up_cons (d := 213) (up_cons (d := 214) rfl k0) k1) ?_
   refine g_call rfl rfl rfl rfl rfl (cl0 (vs := [pp H2 0]) tt193.ok rfl rfl) ?_
   intro w hw
   replace hw := hw.perm (L' := _ :: M) (by exact (perm_front 0 rfl))
   obtain ⟨β1,sb,kn,hw1,back⟩ := St.frame (L := [_]) (M := M) hw
   refine (owners_ok β1 w H2 b1 (i + 1) ((494 * i) + 494) (-1) X1 hw1).mono ?_
   rintro e w' ⟨p94,c95,rfl,hw'⟩
   refine ⟨_,rfl,_,back _ _ hw',?_⟩
   clear hw hw1 hw' back kn sb
   refine l_nil ?_
   exact f_owes_d (up_cons (d := 213) (up_cons (d := 214) rfl k0) k1) rfl ((perm_front 0 rfl).trans (perm_front 1 rfl))
  ·rintro f M ⟨k0,-⟩ ⟨i0,-⟩
   exact obG oms
  ·rintro f M ⟨k0,k1,k2,-⟩ -
   have hs215 : f 215 = sB (sla (f 215)) (ownersX X1) (slc (f 215)) := k0
   refine ob_start (L' := rowF IntF 3 p54 c55 (ownersX (seqX l i)) :: rowF IntF 3 (sla (f 215)) (slc (f 215)) (ownersX X1) :: M) (by rfl) (up_cons (d := 213) (up_cons (d := 216) (up_cons rfl hs215) k1) k2) ?_
   refine g_call rfl rfl rfl rfl rfl (cl0 (vs := [sB (sla (f 215)) (ownersX X1) (slc (f 215)),sB p54 (ownersX (seqX l i)) c55]) tt174.ok rfl rfl) ?_
   intro w hw
   obtain ⟨β1,sb,kn,hw1,back⟩ := St.frame_all hw
   refine (sameI_ok β1 w hw1 _ _ (ownersX X1) (ownersX (seqX l i)) (kn _ (k_flN 1 (F := IntF) (m := (ownersX X1).length) rfl rfl)) (kn _ (k_flN 0 (F := IntF) (m := (ownersX (seqX l i)).length) rfl rfl))).mono ?_
   rintro e w' ⟨rfl,hw'⟩
   refine ⟨_,rfl,_,back _ _ hw',?_⟩
   clear hw hw1 hw' back kn sb
   refine l_nil ?_
   exact f_owes_d (up_cons (d := 213) (up_cons (d := 216) (up_cons rfl hs215) k1) k2) (congrArg Value.bool (decide_eq_true (ownersX_s (hb hg82).1))) ((perm_front 1 rfl).trans (perm_front 1 rfl))
  ·rintro f M ⟨k0,k1,-⟩ -
   exact obG ont
  ·rintro f M ⟨k0,k1,k2,-⟩ -
   exact obG okfb
  ·rintro f M ⟨k0,k1,-⟩ -
   exact obG omb
  ·rintro f M ⟨k0,-⟩ ⟨i0,-⟩
   exact obG omp
  ·rintro f M ⟨k0,k1,-⟩ -
   refine ob_start (L' := houseR H2 b1 X1 (i + 1) ((494 * i) + 494) (-1) :: M) (by rfl) (up_cons (d := 220) (up_cons (d := 221) rfl k0) k1) ?_
   refine g_call rfl rfl rfl rfl rfl (cl0 (vs := [pp H2 0]) tt179.ok rfl rfl) ?_
   intro w hw
   replace hw := hw.perm (L' := _ :: M) (by exact (perm_front 0 rfl))
   obtain ⟨β1,sb,kn,hw1,back⟩ := St.frame (L := [_]) (M := M) hw
   refine (supply_ok β1 w H2 b1 (i + 1) ((494 * i) + 494) (-1) X1 hw1).mono ?_
   rintro e w' ⟨rfl,hw'⟩
   refine ⟨_,rfl,_,back _ _ hw',?_⟩
   clear hw hw1 hw' back kn sb
   refine l_nil ?_
   exact f_owes_d (up_cons (d := 220) (up_cons (d := 221) rfl k0) k1) rfl (perm_front 0 rfl)
  ·rintro f M ⟨k0,-⟩ ⟨i0,-⟩
   exact obG (olg 0)
  ·rintro f M ⟨k0,k1,k2,-⟩ -
   exact obg (L' := M) (v := .bool false) (up_cons (d := 220) (up_cons (d := 223) (up_cons (d := 222) rfl k0) k1) k2) (ev_f (fun q => q (by rw [(hb hg82).1])) (e_neq_t (xs := amE X1.s.su) (ys := amE ((seqX l i).s.su)) tt12 tt13 tt14 rfl rfl rfl rfl (not_congr (am_eq (x := X1.s.su) (y := (seqX l i).s.su))))) rfl rfl rfl rfl (.refl _) (by rfl)
  ·rintro f M ⟨k0,k1,k2,-⟩ -
   exact obG okfb
  ·rintro f M ⟨k0,k1,-⟩ -
   exact obG omb
  ·rintro f M ⟨k0,-⟩ ⟨i0,-⟩
   exact obG ofp
  ·rintro f M ⟨k0,k1,-⟩ -
   exact obG (oli 0)
  ·rintro f M ⟨k0,k1,-⟩ -
   exact obg (L' := M) (v := .bool false) (up_cons (d := 226) (up_cons (d := 228) rfl k0) k1) (ev_f (hb hg82).2.2 (e_eql (a := (R.e)) (b := (0 : Int)) rfl rfl)) rfl rfl rfl rfl (.refl _) (by rfl)
  ·rintro f M ⟨k0,k1,k2,-⟩ -
   exact obG okfb
  ·rintro f M ⟨k0,k1,-⟩ -
   exact obE oktb
  rintro fa96 ⟨-,-,-,-,-,-,-,-,-,-,-,-,-,-,-,-,-,-,-,-,-,-,-,-,-,-,-,-,-,-,-,-,-,k33,-⟩ ⟨j0,j1,j2,j3,j4,-⟩
  refine f_re (L' := [pt b59 (.cells #[.bool (R.done),Ix (R.at_),Ix (R.e),sB p57 R.holds c58] 37),rowF IntF 3 p57 c58 R.holds,houseR H2 b1 X1 (i + 1) ((494 * i) + 494) (-1),pt b56 (.cells #[Ix ((seqX l i).s.su.a0),Ix ((seqX l i).s.su.a1),Ix ((seqX l i).s.su.a2),Ix ((seqX l i).s.su.a3)] 44),rowF IntF 3 p54 c55 (ownersX (seqX l i)),rowF HoF 104 p52 c53 (holdsX (seqX l i)),rowF ActF 47 p23 c24 (fitL x8),pt b22 (.cells #[Bx (x8.kind),Ix (fitAu x8),Nx (1 + i),sB p23 (fitL x8) c24] 32),houseR H26 b25 Y N2 W2 (-1),rowF IntF 3 p c made,rowF HoF 104 (sla (fa96 203)) (slc (fa96 203)) (holdsX X1),rowF IntF 3 (sla (fa96 215)) (slc (fa96 215)) (ownersX X1)]) (by rfl) ?_
  refine f_rebase (d := 0) j0 (f_rebase (d := 3) j1 (f_rebase (d := 35) j2 (f_rebase (d := 36) j3 (f_rebase (d := 37) j4 (f_rebase (d := 231) k33 ?_)))))
  refine f_then (c_no rfl (c_skip (f_block (f_then (c_region (lv (v := Nx (i + 1)) (e_add rfl rfl (i64n (by omega) (by omega))) (lE omi (l_nil ?_))))))))
  refine f_houLe (M := i + 1) (V := 494 * (i + 1)) 2 rfl (by omega) (by omega) ?_
  refine f_re (L' := [pt b59 (.cells #[.bool (R.done),Ix (R.at_),Ix (R.e),sB p57 R.holds c58] 37),rowF IntF 3 p57 c58 R.holds,houseR H2 b1 (seqX l (i + 1)) (i + 1) (494 * (i + 1)) (-1),pt b56 (.cells #[Ix ((seqX l i).s.su.a0),Ix ((seqX l i).s.su.a1),Ix ((seqX l i).s.su.a2),Ix ((seqX l i).s.su.a3)] 44),rowF IntF 3 p54 c55 (ownersX (seqX l i)),rowF HoF 104 p52 c53 (holdsX (seqX l i)),rowF ActF 47 p23 c24 (fitL x8),pt b22 (.cells #[Bx (x8.kind),Ix (fitAu x8),Nx (1 + i),sB p23 (fitL x8) c24] 32),houseR H26 b25 Y N2 W2 (-1),rowF IntF 3 p c made,rowF HoF 104 (sla (fa96 203)) (slc (fa96 203)) (holdsX X1),rowF IntF 3 (sla (fa96 215)) (slc (fa96 215)) (ownersX X1)]) (by rw [hXs,← hX1] <;> rfl) ?_
  refine f_mask [false,false,true,false,false,false,false,false,false,false,false,false] rfl ?_
  exact f_cut ⟨i + 1,⟨⟨rfl,rfl,rfl,rfl,rfl⟩,rfl,(by omega)⟩,(show zs3.length - (i + 1) < zs3.length - i from by omega)⟩
 refine c_exit (f_then_exit (f_then_exit (f_exit (ftc (lcR clA (fun w β1 sb kn hw1 => awake_ok β1 w hw1) (lE oab (lnf (c_ret ?_))))))))
 refine ret1 Tryz.results3 rfl ?_
 intro w hw
 exact ⟨rfl,st_mask [false] rfl hw⟩
end Go.Proofs
