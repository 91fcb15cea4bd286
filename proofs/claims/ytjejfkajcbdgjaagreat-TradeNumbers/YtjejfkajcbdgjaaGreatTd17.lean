/-
 TradeNumbers: walked. Printed by a program of my own.
-/
import Derived.Test.YtjejfkajcbdgjaaGreatTd16
import Derived.Test.YtjejfkajcbdgjaaGreatTdHouE
import Derived.Test.YtjejfkajcbdgjaaGreatSlA
import Derived.Test.YtjejfkajcbdgjaaGreatSlB
namespace Go.Proofs
open Go Go.Sl Go.Td Go.Jn
instance tt185 : CfC Tryz.prog 10 := ⟨by kernel_rfl⟩
instance tt186 : UndC Tryz.prog 22 32 := ⟨by kernel_rfl⟩
theorem tt187 : slB Tryz.prog 22 32 4 = true := by kernel_rfl
instance tt188 : CfC Tryz.prog 11 := ⟨by kernel_rfl⟩
instance tt189 : CfC Tryz.prog 18 := ⟨by kernel_rfl⟩
instance tt190 : FldC Tryz.prog 32 2 2 1 false := ⟨by kernel_rfl⟩
instance tt191 : CfC Tryz.prog 19 := ⟨by kernel_rfl⟩
instance tt192 : CfC Tryz.prog 17 := ⟨by kernel_rfl⟩
set_option maxHeartbeats 4000000 in
theorem numbers_ok (β : Base) (w : World) (hw : St β [] w) (v : Value) (l : List TOp) (hs : Sl TOpR β.heap v l) (sk : UInt8) : Ret Tryz.prog 4 #[v, Bx sk] β w (.bool true) := by
 obtain ⟨va,vc,rfl,vl,vm,ve⟩ := hs.get
 refine enter (n := 205) Tryz.func4 rfl Tryz.ntmps4 rfl ?_ hw
 refine csr (lE oab (lnc ?_))
 refine lv (v := .agg #[.slice none 0 0,.slice none 0 0,.slice none 0 0,.int .i64 (-1)]) (e_build tt176.ok tt175 (vs := [(3,.int .i64 (-1))]) (cells := #[.slice none 0 0,.slice none 0 0,.slice none 0 0,.int .i64 (-1)]) rfl rfl) ?_
 refine bxa fun b1 => ?_
 refine lE oap (lnc (lE omp (l_call rfl rfl rfl (cl0 (vs := [pp b1 0]) tt185.ok rfl rfl) ?_)))
 intro w hw
 replace hw := hw.perm (L' := _ :: []) (by exact (perm_front 0 rfl))
 obtain ⟨β1,sb,kn,hw1,back⟩ := St.frame (L := [_]) (M := []) hw
 refine (opened_new β1 w b1 (-1) hw1 (by decide)).mono ?_
 rintro e w' ⟨H2,rfl,hw'⟩
 refine ⟨_,rfl,_,back _ _ hw',?_⟩
 clear hw hw1 hw' back kn sb
 refine lE omt (lE oxp (lE oxb (lE oap (lE oab (lnf (cs2 (c_region (lE omb (lE ont (lnf (c_no rfl (csk (cs2 (c_region (lE oms (lE oms (lE oln ?_)))))))))))))))))
 refine lv (v := Nx (min l.length 30)) (ev_eq (congrArg (Value.int .i64) (by omega)) (e_min (a := ((l.length : Nat) : Int)) (b := (30 : Int)) rfl rfl)) ?_
 obtain ⟨zs3,hz4⟩ : ∃ zs,zs = (l.take (min l.length 30)) := ⟨_,rfl⟩
 have zl5 : zs3.length = min (min l.length 30) (l).length - 0 := by rw [hz4]; simp; try omega
 have ze6 := (Elems.take (min l.length 30) ve)
 rw [← hz4] at ze6
 refine lv (v := .slice va (zs3.length) (vc)) (ev_eq (by rw [show zs3.length = min l.length 30 by omega]) (e_slice_hi (a := va) (len := l.length) (cap := vc) (h := min l.length 30) tt187 rfl rfl (by omega))) ?_
 refine lE oln (lE omi (lnf (c_block (c_mask [true] rfl ?_))))
 refine c_loop (fun (x_ : Nat × KHs) f L => match x_ with | (k,X) => (f 1 = Bx (sk) ∧ f 6 = pp H2 0 ∧ f 44 = sB va zs3 (vc) ∧ f 45 = Nx (zs3.length) ∧ f 46 = Nx (k)) ∧ L = [houseR H2 b1 X (6 * k) (3000 * k) (-1)] ∧ (k ≤ zs3.length ∧ NumOk X ((2 + (k * (1 + (sk.toNat % 4))) : Nat) : Int))) (fun (k,X) => zs3.length - k) (0,freshX) ?_ ?_
 ·exact ⟨⟨rfl,rfl,rfl,rfl,rfl⟩,rfl,⟨Nat.zero_le _,NumOk.fresh _⟩⟩
 rintro ⟨k,X⟩ f0 L0 ⟨⟨hs1,hs6,hs44,hs45,hs46⟩,hL,⟨hk,hno⟩⟩
 subst L0
 refine rbs 1 hs1 (rbs 6 hs6 (rbs 44 hs44 (rbs 45 hs45 (rbs 46 hs46 ?_))))
 have hq : k * (1 + (sk.toNat % 4)) ≤ 30 * 4 := Nat.mul_le_mul (by omega) (by omega)
 refine csr (lE olt (lnf (c_seq (c_if _ rfl (fun hc7 => ?_) (fun hc7 => ?_)))))
 ·refine csk (c_seq (c_block (csr (lE omi ?_))))
  obtain ⟨x8,hx9⟩ := getx zs3 k (by omega)
  obtain ⟨ha10,cs11,hc12,hr13⟩ := ze6 _ _ hx9
  obtain ⟨ho16,v14,rfl,hv15⟩ := hr13
  obtain ⟨a17,c18,rfl,hl19,hm20,he21⟩ := (hv15).get
  refine lE (oia tt187 ha10) (lv (v := .agg #[Bx (x8.kind),Ix (x8.author),Ix (x8.number),sB a17 x8.acts (c18)]) (e_load tt170.ok rfl (kB hc12) rfl) ?_)
  refine alE fun b22 => lE oai (lu (mS 0 (#[Bx (x8.kind),Ix (x8.author),Ix (x8.number),sB a17 x8.acts (c18)])) (lnc (lE (olg 0) (lE omi (lE omi ?_)))))
  refine lv (v := Nx (sk.toNat)) (e_conv (a := ((sk).toNat : Int)) rfl ⟨_,tt75⟩ tt80 (i64n rfl (by have := (sk).toNat_lt; omega))) ?_
  refine lv (v := Nx (sk.toNat % 4)) (e_rem (a := ((sk.toNat : Nat) : Int)) (b := (4 : Int)) rfl rfl (by decide) (nat_tmod _ 4)) ?_
  refine lv (v := Nx (1 + (sk.toNat % 4))) (e_add rfl rfl (i64n (by omega) (by omega))) ?_
  refine lv (v := Nx (k * (1 + (sk.toNat % 4)))) (e_mul (a := ((k : Nat) : Int)) (b := ((1 + (sk.toNat % 4) : Nat) : Int)) rfl rfl (i64n (by simp) (by omega))) ?_
  refine lv (v := Nx (2 + (k * (1 + (sk.toNat % 4))))) (e_add rfl rfl (i64n (by omega) (by omega))) ?_
  refine lcf (cl0 (vs := [.agg #[Bx (x8.kind),Ix (x8.author),Ix (x8.number),sB a17 x8.acts (c18)],Nx (2 + (k * (1 + (sk.toNat % 4))))]) tt188.ok rfl rfl) rfl fun w β1 sb kn hw1 back => (fit_ok β1 w hw1 x8 _ (Sl.mono _ _ _ _ _ sb (⟨⟨_,_,rfl,by omega,by omega,he21⟩⟩ : Sl ActF.R _ _ x8.acts)) ((2 + (k * (1 + (sk.toNat % 4))) : Nat) : Int)).mono ?_
  rintro e w' ⟨p23,c24,rfl,hw'⟩
  refine ⟨_,rfl,_,back _ _ hw',?_⟩
  clear hw1 hw' back kn sb
  refine lu (mS 1 (#[Bx (x8.kind),Ix (fitAu x8),Nx (2 + (k * (1 + (sk.toNat % 4)))),sB p23 (fitL x8) c24])) (lnf (c_seq ?_))
  have hnn : 1 ≤ ((2 + (k * (1 + (sk.toNat % 4))) : Nat) : Int) ∧ ((2 + (k * (1 + (sk.toNat % 4))) : Nat) : Int) ≤ 1000 := by omega
  have hfm := fit_formed x8 hnn.1 (by omega)
  have hfb := fit_hb x8
  have hfl := fitL_len x8
  have hfu := fitAu_bd x8
  generalize hnk : 2 + (k * (1 + (sk.toNat % 4))) = nk
  rw [hnk] at hfm hnn hno
  generalize hau : fitAu x8 = au at hfm hfu ⊢
  generalize hal : fitL x8 = al at hfm hfb hfl ⊢
  obtain ⟨X1,R,hr,hX1⟩ := rnd_ok (X := X) hfm hno
  obtain ⟨was,rwas,so,hla⟩ : ∃ a b c,lastX X au = (a,b,c) := ⟨_,_,_,rfl⟩
  have hfm3 := snoc_formed hfm (by omega)
  have hfm4 := other_number hfm (n := ((nk : Nat) : Int) - 1) (by omega) (by omega)
  refine c_region (lE omp (lE ofp (lE (oli 1) (l_call rfl rfl rfl (cl0 (vs := [pp H2 0,Ix (au)]) tt189.ok rfl rfl) ?_))))
  intro w hw
  replace hw := hw.perm (L' := _ :: _ :: _ :: []) (by exact (((perm_front 1 rfl).trans (perm_front 1 rfl)).trans (perm_front 2 rfl)))
  obtain ⟨β1,sb,kn,hw1,back⟩ := St.frame (L := [_]) (M := _ :: _ :: []) hw
  refine (last_eq β1 w H2 b1 (6 * k) (3000 * k) (-1) X hw1 au hla).mono ?_
  rintro e w' ⟨p25,c26,rfl,hw'⟩
  refine ⟨_,rfl,_,back _ _ hw',?_⟩
  clear hw hw1 hw' back kn sb
  refine lE omt (lE oxi (lE oxa (lE oxb (alE fun b27 => lE oai (lu (mS 0 (#[.bool (rwas.done),Ix (rwas.at_),Ix (rwas.e),sB p25 rwas.holds c26])) ?_)))))
  refine lE oab (lnc (lE omp (lE ofp (lE (oli 4) (lE ofp (lE (oli 4) (lE ofp (lE (ols 4) ?_))))))))
  refine l_call rfl rfl rfl (cl0 (vs := [pp H2 0,Ix (au),Nx (nk),sB p23 al c24]) tt177.ok rfl rfl) ?_
  intro w hw
  replace hw := hw.perm (L' := _ :: _ :: _ :: _ :: _ :: []) (by exact (((((perm_front 4 rfl).trans (perm_front 4 rfl)).trans (perm_front 3 rfl)).trans (perm_front 3 rfl)).trans (perm_front 4 rfl)))
  obtain ⟨β1,sb,kn,hw1,back⟩ := St.frame (L := [_]) (M := _ :: _ :: _ :: _ :: []) hw
  refine (do_eq β1 w H2 b1 (6 * k) (3000 * k) X hw1 au ((nk : Nat) : Int) _ al (kn _ (k_flN 2 (F := ActF) (m := al.length) rfl rfl)) (by omega) hfb (by omega) hr.d1).mono ?_
  rintro e w' ⟨p28,c29,rfl,hw'⟩
  refine ⟨_,rfl,_,back _ _ hw',?_⟩
  clear hw hw1 hw' back kn sb
  refine lE omt (lE oxa (lE oxi (alE fun b30 => lu (mS 0 (#[.bool (R.done),Ix (R.at_),Ix (R.e),sB p28 R.holds c29])) (lE oai (lnc (lE omp (lE ofp ?_)))))))
  refine lE (oli 6) (l_call rfl rfl rfl (cl0 (vs := [pp H2 0,Ix (au)]) tt189.ok rfl rfl) ?_)
  intro w hw
  replace hw := hw.perm (L' := _ :: _ :: _ :: _ :: _ :: _ :: _ :: []) (by exact (((((((perm_front 6 rfl).trans (perm_front 6 rfl)).trans (perm_front 6 rfl)).trans (perm_front 6 rfl)).trans (perm_front 5 rfl)).trans (perm_front 5 rfl)).trans (perm_front 6 rfl)))
  obtain ⟨β1,sb,kn,hw1,back⟩ := St.frame (L := [_]) (M := _ :: _ :: _ :: _ :: _ :: _ :: []) hw
  refine (last_eq β1 w H2 b1 ((6 * k) + 1) ((3000 * k) + 494) (-1) X1 hw1 au hr.la).mono ?_
  rintro e w' ⟨p31,c32,rfl,hw'⟩
  refine ⟨_,rfl,_,back _ _ hw',?_⟩
  clear hw hw1 hw' back kn sb
  refine lE omt (lE oxi (lE oxa (lE oxb (alE fun b33 => lE oai (lu (mS 0 (#[.bool (R.done),Ix (R.at_),Ix (R.e),sB p31 R.holds c32])) (lE oab (lnf ?_)))))))
  refine cs2 (c_region (lE omi (lE onq (lE omb (gE omb (gE ont (lE okfb (lE omb (gE omi (gE ofp (gE (oli 8) (gE onq (lE okfb (lE omb ?_))))))))))))))
  refine l_split (s := 99) rfl (fun h => ?_) (fun h => ?_)
  exact absurd h (fun q => q rfl)
  refine gE (olg 0) (gE (olg 3) ?_)
  refine g_call rfl rfl rfl rfl rfl (cl0 (vs := [.agg #[.bool (R.done),Ix (R.at_),Ix (R.e),sB p31 R.holds c32],.agg #[.bool (R.done),Ix (R.at_),Ix (R.e),sB p28 R.holds c29]]) tt191.ok rfl rfl) ?_
  intro w hw
  obtain ⟨β1,sb,kn,hw1,back⟩ := St.frame_all hw
  refine (samer_ok β1 w hw1 R.done R.done R.at_ R.at_ R.e R.e _ _ R.holds R.holds (kn _ (k_flN 1 (F := IntF) (m := R.holds.length) rfl rfl)) (kn _ (k_flN 4 (F := IntF) (m := R.holds.length) rfl rfl)) ⟨rfl,rfl,rfl,rfl⟩).mono ?_
  rintro e w' ⟨rfl,hw'⟩
  refine ⟨_,rfl,_,back _ _ hw',?_⟩
  clear hw hw1 hw' back kn sb
  refine gE ont (lE okfb (lnf (c_no rfl (csk (csr (lE omp (l_call rfl rfl rfl (cl0 (vs := [pp H2 0]) tt179.ok rfl rfl) ?_)))))))
  intro w hw
  replace hw := hw.perm (L' := _ :: _ :: _ :: _ :: _ :: _ :: _ :: _ :: _ :: []) (by exact (((((((((perm_front 8 rfl).trans (perm_front 8 rfl)).trans (perm_front 8 rfl)).trans (perm_front 8 rfl)).trans (perm_front 8 rfl)).trans (perm_front 8 rfl)).trans (perm_front 7 rfl)).trans (perm_front 7 rfl)).trans (perm_front 8 rfl)))
  obtain ⟨β1,sb,kn,hw1,back⟩ := St.frame (L := [_]) (M := _ :: _ :: _ :: _ :: _ :: _ :: _ :: _ :: []) hw
  refine (supply_ok β1 w H2 b1 ((6 * k) + 1) ((3000 * k) + 494) (-1) X1 hw1).mono ?_
  rintro e w' ⟨rfl,hw'⟩
  refine ⟨_,rfl,_,back _ _ hw',?_⟩
  clear hw hw1 hw' back kn sb
  refine lE omp (l_call rfl rfl rfl (cl0 (vs := [pp H2 0]) tt180.ok rfl rfl) ?_)
  intro w hw
  replace hw := hw.perm (L' := _ :: _ :: _ :: _ :: _ :: _ :: _ :: _ :: _ :: []) (by exact (((((((((perm_front 8 rfl).trans (perm_front 8 rfl)).trans (perm_front 8 rfl)).trans (perm_front 8 rfl)).trans (perm_front 8 rfl)).trans (perm_front 8 rfl)).trans (perm_front 8 rfl)).trans (perm_front 8 rfl)).trans (perm_front 8 rfl)))
  obtain ⟨β1,sb,kn,hw1,back⟩ := St.frame (L := [_]) (M := _ :: _ :: _ :: _ :: _ :: _ :: _ :: _ :: []) hw
  refine (holds_ok β1 w H2 b1 ((6 * k) + 1) ((3000 * k) + 494) (-1) X1 hw1).mono ?_
  rintro e w' ⟨p34,c35,rfl,hw'⟩
  refine ⟨_,rfl,_,back _ _ hw',?_⟩
  clear hw hw1 hw' back kn sb
  refine lE oln (alE fun b36 => lu (mS 0 (amC X1.s.su)) (lE oai (lnc (lE omp (lE ofp (lE (oli 10) (lE ofp (lE (oli 10) (lE ofp (lE (ols 10) ?_))))))))))
  refine l_call rfl rfl rfl (cl0 (vs := [pp H2 0,Ix (au),Nx (nk),sB p23 al c24]) tt177.ok rfl rfl) ?_
  intro w hw
  replace hw := hw.perm (L' := [houseR H2 b1 X1 ((6 * k) + 1) ((3000 * k) + 494) (-1),pt b36 (.cells (amC X1.s.su) 44),rowF HoF 104 p34 c35 (holdsX X1),pt b33 (.cells #[.bool (R.done),Ix (R.at_),Ix (R.e),sB p31 R.holds c32] 37),rowF IntF 3 p31 c32 R.holds,pt b30 (.cells #[.bool (R.done),Ix (R.at_),Ix (R.e),sB p28 R.holds c29] 37),rowF IntF 3 p28 c29 R.holds,pt b27 (.cells #[.bool (rwas.done),Ix (rwas.at_),Ix (rwas.e),sB p25 rwas.holds c26] 37),rowF IntF 3 p25 c26 rwas.holds,rowF ActF 47 p23 c24 al,pt b22 (.cells #[Bx (x8.kind),Ix (au),Nx (nk),sB p23 al c24] 32)]) (by exact (perm_ix [2,0,1,3,4,5,6,7,8,9,10] 11 rfl (by kernel_rfl) (by kernel_rfl)))
  obtain ⟨β1,sb,kn,hw1,back⟩ := St.frame (L := [_]) (M := _ :: _ :: _ :: _ :: _ :: _ :: _ :: _ :: _ :: _ :: []) hw
  refine (do_eq β1 w H2 b1 ((6 * k) + 1) ((3000 * k) + 494) X1 hw1 au ((nk : Nat) : Int) _ al (kn _ (k_flN 8 (F := ActF) (m := al.length) rfl rfl)) (by omega) hfb (by omega) hr.d2).mono ?_
  rintro e w' ⟨p37,c38,rfl,hw'⟩
  refine ⟨_,rfl,_,back _ _ hw',?_⟩
  clear hw hw1 hw' back kn sb
  refine lE omt (lE oxa (lE oxi (alE fun b39 => lu (mS 0 (#[.bool (R.done),Ix (R.at_),Ix (R.e),sB p37 R.holds c38])) (lE oai (lnf (c_seq ?_))))))
  refine cny [sv 122 (pp H2 0) [] [] [0],sv 123 (pp b22 1) [] [] [1],sv 124 (Ix (au)) [1] [1] [],sv 125 (pp b22 2) [] [] [1],sv 126 (Nx (nk)) [3] [3] [],⟨[],[],[],[127],fun f => f 127 = .slice (some ⟨(blk (f 127)),0,none⟩) (0) 0⟩,sv 128 (pp b22 3) [] [] [1],sv 129 (sB p23 al c24) [6] [6] [],⟨[5,6,7],[5,7],[],[130],fun f => f 130 = sB (sla (f 130)) al (slc (f 130))⟩,sv 131 (.agg #[.int .u8 (7),.int .i64 (1),.int .i64 (0),.int .i64 (0),.int .i64 (0),.int .i64 (0),.int .i64 (0),.int .i64 (0)]) [5,6,7,8] [] [],⟨[5,6,7,8,9],[9],[],[132],fun f => f 132 = .slice (some ⟨(blk (f 132)),0,none⟩) 1 1⟩,⟨[5,6,7,8,9,10],[8,10],[],[133],fun f => f 133 = sB (sla (f 133)) (al ++ [(⟨7,1,0,0,zeroA⟩ : KAct)]) (slc (f 133))⟩,⟨(List.range 12),[0,2,4,11],[],[134],fun f => f 134 = .tuple #[.agg #[.bool false,.int .i64 (0),.int .i64 (0),.slice (trA (f 134)) (0) (trC (f 134))],.int .i64 (331)]⟩,⟨(List.range 13),[12],[],[121,134],fun f => f 121 = .tuple #[.agg #[.bool false,.int .i64 (0),.int .i64 (0),.slice (trA (f 134)) (0) (trC (f 134))],.int .i64 (331)]⟩,⟨(List.range 14),[13],[],[134,135],fun f => f 135 = .agg #[.bool false,.int .i64 (0),.int .i64 (0),.slice (trA (f 134)) (0) (trC (f 134))]⟩,sv 136 (.int .i64 (331)) (List.range 14) [13] [],⟨[],[],[],[22],fun f => f 22 = .pointer (some ⟨(blk (f 22)),0,none⟩)⟩,⟨[0,1,2,3,4,5,6,7,8,9,10,11,12,13,14,16],[16,14],[],[],fun _ => True⟩,sv 23 (.int .i64 (331)) (List.range 18) [15] []] [tk (pt b39 (.cells #[.bool (R.done),Ix (R.at_),Ix (R.e),sB p37 R.holds c38] 37)) [],tk (rowF IntF 3 p37 c38 R.holds) [],⟨none,(some 12),[12],[],fun _ => houseR H2 b1 X1 (((6 * k) + 1) + 1) (((3000 * k) + 494) + 494) (-1)⟩,tk (pt b36 (.cells (amC X1.s.su) 44)) [],tk (rowF HoF 104 p34 c35 (holdsX X1)) [],tk (pt b33 (.cells #[.bool (R.done),Ix (R.at_),Ix (R.e),sB p31 R.holds c32] 37)) [],tk (rowF IntF 3 p31 c32 R.holds) [],tk (pt b30 (.cells #[.bool (R.done),Ix (R.at_),Ix (R.e),sB p28 R.holds c29] 37)) [],tk (rowF IntF 3 p28 c29 R.holds) [],tk (pt b27 (.cells #[.bool (rwas.done),Ix (rwas.at_),Ix (rwas.e),sB p25 rwas.holds c26] 37)) [],tk (rowF IntF 3 p25 c26 rwas.holds) [],tk (rowF ActF 47 p23 c24 al) [8],tk (pt b22 (.cells #[Bx (x8.kind),Ix (au),Nx (nk),sB p23 al c24] 32)) [2,4,7],⟨(some 5),(some 8),[8],[127],fun f => rowF ActF 47 (some ⟨(blk (f 127)),0,none⟩) 0 []⟩,⟨(some 8),(some 11),[11],[130],fun f => rowF ActF 47 (sla (f 130)) (slc (f 130)) al⟩,⟨(some 10),none,[11],[132],fun f => pt (blk (f 132)) (.cells #[.int .u8 (7),.int .i64 (1),.int .i64 (0),.int .i64 (0),.int .i64 (0),.int .i64 (0),.int .i64 (0),.int .i64 (0)] 47)⟩,⟨(some 11),none,[12],[133],fun f => rowF ActF 47 (sla (f 133)) (slc (f 133)) (al ++ [(⟨7,1,0,0,zeroA⟩ : KAct)])⟩,⟨(some 12),none,[],[134],fun f => rowF IntF 3 (trA (f 134)) (trC (f 134)) []⟩,⟨(some 12),none,[],[],fun _ => houseR H2 b1 X1 ((((6 * k) + 1) + 1) + 1) ((((3000 * k) + 494) + 494) + 494) (-1)⟩,⟨(some 16),(some 17),[17],[22],fun f => pt (blk (f 22)) (.cells #[.bool false,.int .i64 (0),.int .i64 (0),.slice none 0 0] 37)⟩,⟨(some 17),none,[],[22,134],fun f => pt (blk (f 22)) (.cells #[.bool false,.int .i64 (0),.int .i64 (0),.slice (trA (f 134)) (0) (trC (f 134))] 37)⟩] [(6,pp H2 0),(9,pp b22 0),(1,Bx (sk)),(10,Ix (was)),(12,.bool (so)),(13,pp b30 0),(18,pp b36 0),(19,Nx ((holdsX X1).length)),(20,pp b39 0),(21,.int .i64 (0)),(44,sB va zs3 (vc)),(45,Nx (zs3.length)),(46,Nx (k))] [2,0,1,3,4,5,6,7,8,9,10,11,12] [] ⟨rfl,rfl,rfl,rfl,rfl,rfl,rfl,rfl,rfl,rfl,rfl,rfl,rfl,trivial⟩ ⟨?_,?_,?_,?_,?_,?_,?_,?_,?_,?_,?_,?_,?_,?_,?_,?_,?_,?_,?_,trivial⟩ ?_
  ·rintro f M - ⟨i0,-⟩
   exact obE omp
  ·rintro f M - ⟨i0,-⟩
   exact obE ofp
  ·rintro f M ⟨k0,-⟩ -
   exact obE (oli 0)
  ·rintro f M - ⟨i0,-⟩
   exact obE ofp
  ·rintro f M ⟨k0,-⟩ -
   exact obE (oli 0)
  ·rintro f M - -
   refine ob_start (L' := M) (by rfl) rfl (l_mv rfl rfl rfl (m_slice0 tt16) ?_)
   rintro _ _ ⟨b41,rfl,rfl⟩
   refine l_conseq 0 rfl (r' := rowF ActF 47 (some ⟨b41,0,none⟩) 0 []) (fun a h => pt_rowF (F := ActF) (xs := []) rfl (by decide) a h) (l_nil ?_)
   exact f_owes_d rfl rfl (perm_front 0 rfl)
  ·rintro f M - ⟨i0,-⟩
   exact obE ofp
  ·rintro f M ⟨k0,-⟩ -
   exact obE (ols 0)
  ·rintro f M ⟨k0,k1,-⟩ -
   have hs127 : f 127 = .slice (some ⟨(blk (f 127)),0,none⟩) (0) 0 := k0
   refine ob_start (L' := rowF ActF 47 p23 c24 al :: rowF ActF 47 (some ⟨(blk (f 127)),0,none⟩) 0 [] :: M) (by rfl) (up_cons (d := 129) (up_cons rfl hs127) k1) ?_
   refine l_mv rfl rfl rfl (m_appendFlN (F := ActF) 1 tt16 tt30 (p := (some ⟨(blk (f 127)),0,none⟩)) (m := 0) (xs := []) (ys := al) (ao := p23) (k := al.length) (c := c24) rfl rfl rfl rfl rfl (Knows.imp (k_flN 0 (F := ActF) (m := al.length) rfl rfl) fun _ h => (Sl.parts h).2.2.2) (by first | omega | simp only [List.length_nil,List.length_cons,List.length_append,List.length_set]; omega) (by first | omega | simp only [List.length_nil,List.length_cons,List.length_append,List.length_set]; omega)) ?_
   rintro _ _ ⟨rp44,rc45,rfl,rfl⟩
   refine l_nil ?_
   exact f_owes_d (up_cons (d := 129) (up_cons rfl hs127) k1) rfl ((perm_front 1 rfl).trans (perm_front 1 rfl))
  ·rintro f M - -
   refine ob_start (L' := M) (by rfl) rfl (lcR clA (fun w β1 sb kn hw1 => act_ok β1 w hw1 (7 : UInt8) 1 0 0 0) (l_nil ?_))
   exact f_owes_d rfl rfl (List.Perm.refl _)
  ·rintro f M ⟨k0,-⟩ -
   refine ob_start (L' := M) (by rfl) (up_cons (d := 131) rfl k0) ?_
   refine l_mv rfl rfl rfl (m_slices tt16 tt47.ok (cells := #[.int .u8 (7),.int .i64 (1),.int .i64 (0),.int .i64 (0),.int .i64 (0),.int .i64 (0),.int .i64 (0),.int .i64 (0)]) rfl rfl rfl (by kernel_rfl)) ?_
   rintro _ _ ⟨b47,rfl,rfl⟩
   refine l_nil ?_
   exact f_owes_d (up_cons (d := 131) rfl k0) rfl (perm_front 0 rfl)
  ·rintro f M ⟨k0,k1,-⟩ -
   have hs130 : f 130 = sB (sla (f 130)) al (slc (f 130)) := k0
   have hs132 : f 132 = .slice (some ⟨(blk (f 132)),0,none⟩) 1 1 := k1
   refine ob_start (L' := rowF ActF 47 (sla (f 130)) (slc (f 130)) al :: pt (blk (f 132)) (.cells #[.int .u8 (7),.int .i64 (1),.int .i64 (0),.int .i64 (0),.int .i64 (0),.int .i64 (0),.int .i64 (0),.int .i64 (0)] 47) :: M) (by rfl) (up_cons (up_cons rfl hs130) hs132) ?_
   refine l_mv rfl rfl rfl (m_appendFlN (F := ActF) 0 tt16 tt30 (p := (sla (f 130))) (m := al.length) (xs := al) (ys := [(⟨7,1,0,0,zeroA⟩ : KAct)]) (ao := (some ⟨(blk (f 132)),0,none⟩)) (k := 1) (c := 1) rfl rfl rfl rfl rfl (k_ptFl (z := (⟨7,1,0,0,zeroA⟩ : KAct)) 1 rfl rfl) (by first | omega | simp only [List.length_nil,List.length_cons,List.length_append,List.length_set]; omega) (by first | omega | simp only [List.length_nil,List.length_cons,List.length_append,List.length_set]; omega)) ?_
   rintro _ _ ⟨rp50,rc51,rfl,rfl⟩
   refine l_nil ?_
   exact f_owes_d (up_cons (up_cons rfl hs130) hs132) rfl ((perm_front 0 rfl).trans (perm_front 1 rfl))
  ·rintro f M ⟨k0,k1,k2,k3,-⟩ -
   have hs133 : f 133 = sB (sla (f 133)) (al ++ [(⟨7,1,0,0,zeroA⟩ : KAct)]) (slc (f 133)) := k3
   refine ob_start (L' := houseR H2 b1 X1 (((6 * k) + 1) + 1) (((3000 * k) + 494) + 494) (-1) :: rowF ActF 47 (sla (f 133)) (slc (f 133)) (al ++ [(⟨7,1,0,0,zeroA⟩ : KAct)]) :: M) (by rfl) (up_cons (up_cons (d := 126) (up_cons (d := 124) (up_cons (d := 122) rfl k0) k1) k2) hs133) ?_
   refine l_call rfl rfl rfl (cl0 (vs := [pp H2 0,Ix (au),Nx (nk),sB (sla (f 133)) (al ++ [(⟨7,1,0,0,zeroA⟩ : KAct)]) (slc (f 133))]) tt177.ok rfl rfl) ?_
   intro w hw
   replace hw := hw.perm (L' := _ :: _ :: M) (by exact ((perm_front 1 rfl).trans (perm_front 1 rfl)))
   obtain ⟨β1,sb,kn,hw1,back⟩ := St.frame (L := [_]) (M := _ :: M) hw
   refine (do_eq β1 w H2 b1 (((6 * k) + 1) + 1) (((3000 * k) + 494) + 494) X1 hw1 au ((nk : Nat) : Int) _ (al ++ [(⟨7,1,0,0,zeroA⟩ : KAct)]) (kn _ (k_flN 0 (F := ActF) (m := (al ++ [(⟨7,1,0,0,zeroA⟩ : KAct)]).length) rfl rfl)) (by simp; omega) (snoc_hb hfb) (by omega) (doF_other hfm3 hr.m1 (snoc_ne _ _))).mono ?_
   rintro e w' ⟨p54,c55,rfl,hw'⟩
   refine ⟨_,rfl,_,back _ _ hw',?_⟩
   clear hw hw1 hw' back kn sb
   refine l_nil ?_
   exact f_owes_d (up_cons (up_cons (d := 126) (up_cons (d := 124) (up_cons (d := 122) rfl k0) k1) k2) hs133) rfl (((perm_front 1 rfl).trans (perm_front 1 rfl)).trans (perm_front 2 rfl))
  ·rintro f M ⟨k0,-⟩ -
   have hs134 : f 134 = .tuple #[.agg #[.bool false,.int .i64 (0),.int .i64 (0),.slice (trA (f 134)) (0) (trC (f 134))],.int .i64 (331)] := k0
   exact obE omt
  ·rintro f M ⟨k0,-⟩ -
   have hs121 : f 121 = .tuple #[.agg #[.bool false,.int .i64 (0),.int .i64 (0),.slice (trA (f 134)) (0) (trC (f 134))],.int .i64 (331)] := k0
   exact obE oxa
  ·rintro f M ⟨k0,-⟩ -
   have hs121 : f 121 = .tuple #[.agg #[.bool false,.int .i64 (0),.int .i64 (0),.slice (trA (f 134)) (0) (trC (f 134))],.int .i64 (331)] := k0
   exact obE oxi
  ·rintro f M - -
   refine ob_start (L' := M) (by rfl) rfl (alE fun b57 => l_nil ?_)
   exact f_owes_d rfl rfl (perm_front 0 rfl)
  ·rintro f M ⟨k0,k1,-⟩ -
   have hs22 : f 22 = .pointer (some ⟨(blk (f 22)),0,none⟩) := k0
   have hs135 : f 135 = .agg #[.bool false,.int .i64 (0),.int .i64 (0),.slice (trA (f 134)) (0) (trC (f 134))] := k1
   refine ob_start (L' := pt (blk (f 22)) (.cells #[.bool false,.int .i64 (0),.int .i64 (0),.slice none 0 0] 37) :: M) (by rfl) (up_cons (up_cons rfl hs22) hs135) ?_
   refine lu (mS 0 (#[.bool false,.int .i64 (0),.int .i64 (0),.slice (trA (f 134)) (0) (trC (f 134))])) (l_nil ?_)
   exact f_owes_n (up_cons (up_cons rfl hs22) hs135) trivial (perm_front 0 rfl)
  ·rintro f M ⟨k0,-⟩ -
   exact obE oai
  rintro fa58 ⟨-,-,-,-,-,-,-,-,-,-,-,-,-,-,-,-,-,-,k18,-⟩ ⟨j0,j1,j2,j3,j4,j5,j6,j7,j8,j9,j10,j11,j12,-⟩
  refine f_re (L' := [pt b39 (.cells #[.bool (R.done),Ix (R.at_),Ix (R.e),sB p37 R.holds c38] 37),rowF IntF 3 p37 c38 R.holds,pt b36 (.cells (amC X1.s.su) 44),rowF HoF 104 p34 c35 (holdsX X1),pt b33 (.cells #[.bool (R.done),Ix (R.at_),Ix (R.e),sB p31 R.holds c32] 37),rowF IntF 3 p31 c32 R.holds,pt b30 (.cells #[.bool (R.done),Ix (R.at_),Ix (R.e),sB p28 R.holds c29] 37),rowF IntF 3 p28 c29 R.holds,pt b27 (.cells #[.bool (rwas.done),Ix (rwas.at_),Ix (rwas.e),sB p25 rwas.holds c26] 37),rowF IntF 3 p25 c26 rwas.holds,rowF ActF 47 p23 c24 al,pt b22 (.cells #[Bx (x8.kind),Ix (au),Nx (nk),sB p23 al c24] 32),pt (blk (fa58 132)) (.cells #[.int .u8 (7),.int .i64 (1),.int .i64 (0),.int .i64 (0),.int .i64 (0),.int .i64 (0),.int .i64 (0),.int .i64 (0)] 47),rowF ActF 47 (sla (fa58 133)) (slc (fa58 133)) (al ++ [(⟨7,1,0,0,zeroA⟩ : KAct)]),rowF IntF 3 (trA (fa58 134)) (trC (fa58 134)) [],houseR H2 b1 X1 ((((6 * k) + 1) + 1) + 1) ((((3000 * k) + 494) + 494) + 494) (-1),pt (blk (fa58 22)) (.cells #[.bool false,.int .i64 (0),.int .i64 (0),.slice (trA (fa58 134)) (0) (trC (fa58 134))] 37)]) (by rfl) ?_
  refine f_rebase (d := 1) j0 (f_rebase (d := 6) j1 (f_rebase (d := 9) j2 (f_rebase (d := 10) j3 (f_rebase (d := 12) j4 (f_rebase (d := 13) j5 ?_)))))
  refine f_rebase (d := 18) j6 (f_rebase (d := 19) j7 (f_rebase (d := 20) j8 (f_rebase (d := 21) j9 (f_rebase (d := 23) k18 (f_rebase (d := 44) j10 ?_)))))
  refine f_rebase (d := 45) j11 (f_rebase (d := 46) j12 (ftc (lE omp (lE ofp (lE (oli 11) (lE ofp (lE (oli 11) (lE omn (lE ofp (lE (ols 11) ?_))))))))))
  refine l_call rfl rfl rfl (cl0 (vs := [pp H2 0,Ix (au),Ix (((nk : Nat) : Int) - (1 : Int)),sB p23 al c24]) tt177.ok rfl rfl) ?_
  intro w hw
  replace hw := hw.perm (L' := [houseR H2 b1 X1 ((((6 * k) + 1) + 1) + 1) ((((3000 * k) + 494) + 494) + 494) (-1),pt b39 (.cells #[.bool (R.done),Ix (R.at_),Ix (R.e),sB p37 R.holds c38] 37),rowF IntF 3 p37 c38 R.holds,pt b36 (.cells (amC X1.s.su) 44),rowF HoF 104 p34 c35 (holdsX X1),pt b33 (.cells #[.bool (R.done),Ix (R.at_),Ix (R.e),sB p31 R.holds c32] 37),rowF IntF 3 p31 c32 R.holds,pt b30 (.cells #[.bool (R.done),Ix (R.at_),Ix (R.e),sB p28 R.holds c29] 37),rowF IntF 3 p28 c29 R.holds,pt b27 (.cells #[.bool (rwas.done),Ix (rwas.at_),Ix (rwas.e),sB p25 rwas.holds c26] 37),rowF IntF 3 p25 c26 rwas.holds,rowF ActF 47 p23 c24 al,pt b22 (.cells #[Bx (x8.kind),Ix (au),Nx (nk),sB p23 al c24] 32),pt (blk (fa58 132)) (.cells #[.int .u8 (7),.int .i64 (1),.int .i64 (0),.int .i64 (0),.int .i64 (0),.int .i64 (0),.int .i64 (0),.int .i64 (0)] 47),rowF ActF 47 (sla (fa58 133)) (slc (fa58 133)) (al ++ [(⟨7,1,0,0,zeroA⟩ : KAct)]),rowF IntF 3 (trA (fa58 134)) (trC (fa58 134)) [],pt (blk (fa58 22)) (.cells #[.bool false,.int .i64 (0),.int .i64 (0),.slice (trA (fa58 134)) (0) (trC (fa58 134))] 37)]) (by exact (perm_ix [15,0,1,2,3,4,5,6,7,8,9,10,11,12,13,14,16] 17 rfl (by kernel_rfl) (by kernel_rfl)))
  obtain ⟨β1,sb,kn,hw1,back⟩ := St.frame (L := [_]) (M := _ :: _ :: _ :: _ :: _ :: _ :: _ :: _ :: _ :: _ :: _ :: _ :: _ :: _ :: _ :: _ :: []) hw
  refine (do_eq β1 w H2 b1 ((((6 * k) + 1) + 1) + 1) ((((3000 * k) + 494) + 494) + 494) X1 hw1 au (((nk : Nat) : Int) - (1 : Int)) _ al (kn _ (k_flN 10 (F := ActF) (m := al.length) rfl rfl)) (by omega) hfb (by omega) (doF_late hfm4 hr.m1 (by show _ < ((nk : Nat) : Int); omega))).mono ?_
  rintro e w' ⟨p59,c60,rfl,hw'⟩
  refine ⟨_,rfl,_,back _ _ hw',?_⟩
  clear hw hw1 hw' back kn sb
  refine lE omt (lE oxa (lE oxi (alE fun b61 => lu (mS 0 (#[.bool false,.int .i64 (0),.int .i64 (0),.slice p59 (0) c60])) (lE oai (lnf (cs2 ?_))))))
  refine cny [sv 149 (.int .i64 (0)) [] [] [0],sv 150 (.bool false) [0] [0] [],sv 151 (.bool false) [0,1] [1] [],sv 152 (.agg #[.bool (R.done),Ix (R.at_),Ix (R.e),sB p37 R.holds c38]) [0,1,2] [2] [1],sv 153 (.agg #[.bool (R.done),Ix (R.at_),Ix (R.e),sB p28 R.holds c29]) [0,1,2] [2] [2],sv 154 (.bool true) [0,1,2,3,4] [3,4,2] [],sv 155 (.bool false) (List.range 6) [5,2] [],sv 156 (.bool false) (List.range 7) [2,6] [],sv 157 (.bool false) (List.range 8) [7] [],sv 158 (.int .i64 (331)) (List.range 9) [8] [3],sv 159 (.bool false) (List.range 10) [9,8] [],sv 160 (.bool false) (List.range 11) [8,10] [],sv 161 (.bool false) (List.range 12) [11] [],sv 162 (.int .i64 (332)) (List.range 13) [12] [4],sv 163 (.bool false) (List.range 14) [13,12] [],sv 164 (.bool false) (List.range 15) [12,14] [],sv 165 (.bool false) (List.range 16) [15] [],sv 166 (pp H2 0) (List.range 17) [16] [5],sv 167 (.agg (amC X1.s.su)) (List.range 18) [17,16] [],sv 168 (.agg (amC X1.s.su)) (List.range 17) [16] [6],sv 169 (.bool false) (List.range 20) [18,19,16] [],sv 170 (.bool false) (List.range 21) [16,20] [],sv 171 (.bool false) (List.range 22) [21] [],sv 172 (pp H2 0) (List.range 23) [22] [5],⟨(List.range 24),[23,22],[],[173],fun f => f 173 = sB (sla (f 173)) (holdsX X1) (slc (f 173))⟩,sv 174 (Nx ((holdsX X1).length)) (List.range 25) [24,22] [],sv 175 (Nx ((holdsX X1).length)) (List.range 23) [22] [7],sv 176 (.bool false) (List.range 27) [25,26,22] [],sv 177 (.bool false) (List.range 28) [22,27] []] [tk (pt b61 (.cells #[.bool false,.int .i64 (0),.int .i64 (0),.slice p59 (0) c60] 37)) [],tk (rowF IntF 3 p59 c60 []) [],tk (houseR H2 b1 X1 (((((6 * k) + 1) + 1) + 1) + 1) (((((3000 * k) + 494) + 494) + 494) + 494) (-1)) [18,24],tk (pt b39 (.cells #[.bool (R.done),Ix (R.at_),Ix (R.e),sB p37 R.holds c38] 37)) [3],tk (rowF IntF 3 p37 c38 R.holds) [5],tk (pt b36 (.cells (amC X1.s.su) 44)) [19],tk (rowF HoF 104 p34 c35 (holdsX X1)) [],tk (pt b33 (.cells #[.bool (R.done),Ix (R.at_),Ix (R.e),sB p31 R.holds c32] 37)) [],tk (rowF IntF 3 p31 c32 R.holds) [],tk (pt b30 (.cells #[.bool (R.done),Ix (R.at_),Ix (R.e),sB p28 R.holds c29] 37)) [4],tk (rowF IntF 3 p28 c29 R.holds) [5],tk (pt b27 (.cells #[.bool (rwas.done),Ix (rwas.at_),Ix (rwas.e),sB p25 rwas.holds c26] 37)) [],tk (rowF IntF 3 p25 c26 rwas.holds) [],tk (rowF ActF 47 p23 c24 al) [],tk (pt b22 (.cells #[Bx (x8.kind),Ix (au),Nx (nk),sB p23 al c24] 32)) [],tk (pt (blk (fa58 132)) (.cells #[.int .u8 (7),.int .i64 (1),.int .i64 (0),.int .i64 (0),.int .i64 (0),.int .i64 (0),.int .i64 (0),.int .i64 (0)] 47)) [],tk (rowF ActF 47 (sla (fa58 133)) (slc (fa58 133)) (al ++ [(⟨7,1,0,0,zeroA⟩ : KAct)])) [],tk (rowF IntF 3 (trA (fa58 134)) (trC (fa58 134)) []) [],tk (pt (blk (fa58 22)) (.cells #[.bool false,.int .i64 (0),.int .i64 (0),.slice (trA (fa58 134)) (0) (trC (fa58 134))] 37)) [],⟨(some 24),none,[],[173],fun f => rowF HoF 104 (sla (f 173)) (slc (f 173)) (holdsX X1)⟩] [(21,.int .i64 (0)),(20,pp b39 0),(13,pp b30 0),(23,.int .i64 (331)),(25,.int .i64 (332)),(6,pp H2 0),(18,pp b36 0),(19,Nx ((holdsX X1).length)),(1,Bx (sk)),(9,pp b22 0),(10,Ix (was)),(12,.bool (so)),(44,sB va zs3 (vc)),(45,Nx (zs3.length)),(46,Nx (k))] [8,5,9,10,11,12,13,14] [] ⟨rfl,rfl,rfl,rfl,rfl,rfl,rfl,rfl,rfl,rfl,rfl,rfl,rfl,rfl,rfl,trivial⟩ ⟨?_,?_,?_,?_,?_,?_,?_,?_,?_,?_,?_,?_,?_,?_,?_,?_,?_,?_,?_,?_,?_,?_,?_,?_,?_,?_,?_,?_,?_,trivial⟩ ?_
  ·rintro f M - ⟨i0,-⟩
   exact obE omi
  ·rintro f M ⟨k0,-⟩ -
   exact obE onq
  ·rintro f M ⟨k0,-⟩ -
   exact obE omb
  ·rintro f M ⟨k0,-⟩ ⟨i0,-⟩
   exact obG (olg 0)
  ·rintro f M ⟨k0,-⟩ ⟨i0,-⟩
   exact obG (olg 0)
  ·rintro f M ⟨k0,k1,k2,-⟩ -
   refine ob_start (L' := rowF IntF 3 p37 c38 R.holds :: rowF IntF 3 p28 c29 R.holds :: M) (by rfl) (up_cons (d := 151) (up_cons (d := 153) (up_cons (d := 152) rfl k0) k1) k2) ?_
   refine g_call rfl rfl rfl rfl rfl (cl0 (vs := [.agg #[.bool (R.done),Ix (R.at_),Ix (R.e),sB p37 R.holds c38],.agg #[.bool (R.done),Ix (R.at_),Ix (R.e),sB p28 R.holds c29]]) tt191.ok rfl rfl) ?_
   intro w hw
   obtain ⟨β1,sb,kn,hw1,back⟩ := St.frame_all hw
   refine (samer_ok β1 w hw1 R.done R.done R.at_ R.at_ R.e R.e _ _ R.holds R.holds (kn _ (k_flN 0 (F := IntF) (m := R.holds.length) rfl rfl)) (kn _ (k_flN 1 (F := IntF) (m := R.holds.length) rfl rfl)) ⟨rfl,rfl,rfl,rfl⟩).mono ?_
   rintro e w' ⟨rfl,hw'⟩
   refine ⟨_,rfl,_,back _ _ hw',?_⟩
   clear hw hw1 hw' back kn sb
   refine l_nil ?_
   exact f_owes_d (up_cons (d := 151) (up_cons (d := 153) (up_cons (d := 152) rfl k0) k1) k2) rfl ((perm_front 1 rfl).trans (perm_front 1 rfl))
  ·rintro f M ⟨k0,k1,-⟩ -
   exact obG ont
  ·rintro f M ⟨k0,k1,-⟩ -
   exact obE okfb
  ·rintro f M ⟨k0,-⟩ -
   exact obE omb
  ·rintro f M ⟨k0,-⟩ ⟨i0,-⟩
   exact obG omi
  ·rintro f M ⟨k0,k1,-⟩ -
   exact obG onq
  ·rintro f M ⟨k0,k1,-⟩ -
   exact obE okfb
  ·rintro f M ⟨k0,-⟩ -
   exact obE omb
  ·rintro f M ⟨k0,-⟩ ⟨i0,-⟩
   exact obG omi
  ·rintro f M ⟨k0,k1,-⟩ -
   exact obG onq
  ·rintro f M ⟨k0,k1,-⟩ -
   exact obE okfb
  ·rintro f M ⟨k0,-⟩ -
   exact obE omb
  ·rintro f M ⟨k0,-⟩ ⟨i0,-⟩
   exact obG omp
  ·rintro f M ⟨k0,k1,-⟩ -
   refine ob_start (L' := houseR H2 b1 X1 (((((6 * k) + 1) + 1) + 1) + 1) (((((3000 * k) + 494) + 494) + 494) + 494) (-1) :: M) (by rfl) (up_cons (d := 165) (up_cons (d := 166) rfl k0) k1) ?_
   refine g_call rfl rfl rfl rfl rfl (cl0 (vs := [pp H2 0]) tt179.ok rfl rfl) ?_
   intro w hw
   replace hw := hw.perm (L' := _ :: M) (by exact (perm_front 0 rfl))
   obtain ⟨β1,sb,kn,hw1,back⟩ := St.frame (L := [_]) (M := M) hw
   refine (supply_ok β1 w H2 b1 (((((6 * k) + 1) + 1) + 1) + 1) (((((3000 * k) + 494) + 494) + 494) + 494) (-1) X1 hw1).mono ?_
   rintro e w' ⟨rfl,hw'⟩
   refine ⟨_,rfl,_,back _ _ hw',?_⟩
   clear hw hw1 hw' back kn sb
   refine l_nil ?_
   exact f_owes_d (up_cons (d := 165) (up_cons (d := 166) rfl k0) k1) rfl (perm_front 0 rfl)
  ·rintro f M ⟨k0,-⟩ ⟨i0,-⟩
   exact obG (olg 0)
  ·rintro f M ⟨k0,k1,k2,-⟩ -
   exact obg (L' := M) (v := .bool false) (up_cons (d := 165) (up_cons (d := 168) (up_cons (d := 167) rfl k0) k1) k2) ((ev_f (fun q => q rfl) (e_neq_t (xs := amE X1.s.su) (ys := amE X1.s.su) tt12 tt13 tt14 rfl rfl rfl rfl (not_congr (am_eq (x := X1.s.su) (y := X1.s.su)))))) rfl rfl rfl rfl (.refl _) (by rfl)
  ·rintro f M ⟨k0,k1,-⟩ -
   exact obE okfb
  ·rintro f M ⟨k0,-⟩ -
   exact obE omb
  ·rintro f M ⟨k0,-⟩ ⟨i0,-⟩
   exact obG omp
  ·rintro f M ⟨k0,k1,-⟩ -
   refine ob_start (L' := houseR H2 b1 X1 (((((6 * k) + 1) + 1) + 1) + 1) (((((3000 * k) + 494) + 494) + 494) + 494) (-1) :: M) (by rfl) (up_cons (d := 171) (up_cons (d := 172) rfl k0) k1) ?_
   refine g_call rfl rfl rfl rfl rfl (cl0 (vs := [pp H2 0]) tt180.ok rfl rfl) ?_
   intro w hw
   replace hw := hw.perm (L' := _ :: M) (by exact (perm_front 0 rfl))
   obtain ⟨β1,sb,kn,hw1,back⟩ := St.frame (L := [_]) (M := M) hw
   refine (holds_ok β1 w H2 b1 (((((6 * k) + 1) + 1) + 1) + 1) (((((3000 * k) + 494) + 494) + 494) + 494) (-1) X1 hw1).mono ?_
   rintro e w' ⟨p64,c65,rfl,hw'⟩
   refine ⟨_,rfl,_,back _ _ hw',?_⟩
   clear hw hw1 hw' back kn sb
   refine l_nil ?_
   exact f_owes_d (up_cons (d := 171) (up_cons (d := 172) rfl k0) k1) rfl ((perm_front 0 rfl).trans (perm_front 1 rfl))
  ·rintro f M ⟨k0,k1,-⟩ -
   have hs173 : f 173 = sB (sla (f 173)) (holdsX X1) (slc (f 173)) := k0
   exact obG oln
  ·rintro f M ⟨k0,-⟩ ⟨i0,-⟩
   exact obG omi
  ·rintro f M ⟨k0,k1,k2,-⟩ -
   exact obg (L' := M) (v := .bool false) (up_cons (d := 171) (up_cons (d := 175) (up_cons (d := 174) rfl k0) k1) k2) ((ev_f (fun q => q rfl) (e_neq (a := (((holdsX X1).length : Nat) : Int)) (b := (((holdsX X1).length : Nat) : Int)) rfl rfl))) rfl rfl rfl rfl (.refl _) (by rfl)
  ·rintro f M ⟨k0,k1,-⟩ -
   exact obE okfb
  rintro fa66 ⟨-,-,-,-,-,-,-,-,-,-,-,-,-,-,-,-,-,-,-,-,-,-,-,-,-,-,-,-,k28,-⟩ ⟨j0,j1,j2,j3,j4,j5,j6,j7,-⟩
  refine f_re (L' := [pt b61 (.cells #[.bool false,.int .i64 (0),.int .i64 (0),.slice p59 (0) c60] 37),rowF IntF 3 p59 c60 [],houseR H2 b1 X1 (((((6 * k) + 1) + 1) + 1) + 1) (((((3000 * k) + 494) + 494) + 494) + 494) (-1),pt b39 (.cells #[.bool (R.done),Ix (R.at_),Ix (R.e),sB p37 R.holds c38] 37),rowF IntF 3 p37 c38 R.holds,pt b36 (.cells (amC X1.s.su) 44),rowF HoF 104 p34 c35 (holdsX X1),pt b33 (.cells #[.bool (R.done),Ix (R.at_),Ix (R.e),sB p31 R.holds c32] 37),rowF IntF 3 p31 c32 R.holds,pt b30 (.cells #[.bool (R.done),Ix (R.at_),Ix (R.e),sB p28 R.holds c29] 37),rowF IntF 3 p28 c29 R.holds,pt b27 (.cells #[.bool (rwas.done),Ix (rwas.at_),Ix (rwas.e),sB p25 rwas.holds c26] 37),rowF IntF 3 p25 c26 rwas.holds,rowF ActF 47 p23 c24 al,pt b22 (.cells #[Bx (x8.kind),Ix (au),Nx (nk),sB p23 al c24] 32),pt (blk (fa58 132)) (.cells #[.int .u8 (7),.int .i64 (1),.int .i64 (0),.int .i64 (0),.int .i64 (0),.int .i64 (0),.int .i64 (0),.int .i64 (0)] 47),rowF ActF 47 (sla (fa58 133)) (slc (fa58 133)) (al ++ [(⟨7,1,0,0,zeroA⟩ : KAct)]),rowF IntF 3 (trA (fa58 134)) (trC (fa58 134)) [],pt (blk (fa58 22)) (.cells #[.bool false,.int .i64 (0),.int .i64 (0),.slice (trA (fa58 134)) (0) (trC (fa58 134))] 37),rowF HoF 104 (sla (fa66 173)) (slc (fa66 173)) (holdsX X1)]) (by rfl) ?_
  refine f_rebase (d := 1) j0 (f_rebase (d := 6) j1 (f_rebase (d := 9) j2 (f_rebase (d := 10) j3 (f_rebase (d := 12) j4 (f_rebase (d := 44) j5 ?_)))))
  refine f_rebase (d := 45) j6 (f_rebase (d := 46) j7 (f_rebase (d := 177) k28 (f_then (c_no rfl (csk (cs2 (c_region (lE omb (lnf ?_)))))))))
  refine c_ifb (so) rfl (fun hc67 => ?_) (fun hc67 => ?_)
  ·refine c_seq ?_
   obtain ⟨mw,hmw,hmn⟩ := lastX_some hla hc67
   have hwb := hno _ _ hmw
   rw [hmn] at hwb
   have hfm5 := other_number hfm hwb.1 (by omega)
   have hwlt : was < ((nk : Nat) : Int) := hwb.2
   refine c_region (lE omp (lE ofp (lE (oli 14) (lE omi (lE ofp (lE (ols 14) ?_))))))
   refine l_call rfl rfl rfl (cl0 (vs := [pp H2 0,Ix (au),Ix (was),sB p23 al c24]) tt177.ok rfl rfl) ?_
   intro w hw
   replace hw := hw.perm (L' := [houseR H2 b1 X1 (((((6 * k) + 1) + 1) + 1) + 1) (((((3000 * k) + 494) + 494) + 494) + 494) (-1),pt b61 (.cells #[.bool false,.int .i64 (0),.int .i64 (0),.slice p59 (0) c60] 37),rowF IntF 3 p59 c60 [],pt b39 (.cells #[.bool (R.done),Ix (R.at_),Ix (R.e),sB p37 R.holds c38] 37),rowF IntF 3 p37 c38 R.holds,pt b36 (.cells (amC X1.s.su) 44),rowF HoF 104 p34 c35 (holdsX X1),pt b33 (.cells #[.bool (R.done),Ix (R.at_),Ix (R.e),sB p31 R.holds c32] 37),rowF IntF 3 p31 c32 R.holds,pt b30 (.cells #[.bool (R.done),Ix (R.at_),Ix (R.e),sB p28 R.holds c29] 37),rowF IntF 3 p28 c29 R.holds,pt b27 (.cells #[.bool (rwas.done),Ix (rwas.at_),Ix (rwas.e),sB p25 rwas.holds c26] 37),rowF IntF 3 p25 c26 rwas.holds,rowF ActF 47 p23 c24 al,pt b22 (.cells #[Bx (x8.kind),Ix (au),Nx (nk),sB p23 al c24] 32),pt (blk (fa58 132)) (.cells #[.int .u8 (7),.int .i64 (1),.int .i64 (0),.int .i64 (0),.int .i64 (0),.int .i64 (0),.int .i64 (0),.int .i64 (0)] 47),rowF ActF 47 (sla (fa58 133)) (slc (fa58 133)) (al ++ [(⟨7,1,0,0,zeroA⟩ : KAct)]),rowF IntF 3 (trA (fa58 134)) (trC (fa58 134)) [],pt (blk (fa58 22)) (.cells #[.bool false,.int .i64 (0),.int .i64 (0),.slice (trA (fa58 134)) (0) (trC (fa58 134))] 37),rowF HoF 104 (sla (fa66 173)) (slc (fa66 173)) (holdsX X1)]) (by exact (perm_ix [2,0,1,3,4,5,6,7,8,9,10,11,12,13,14,15,16,17,18,19] 20 rfl (by kernel_rfl) (by kernel_rfl)))
   obtain ⟨β1,sb,kn,hw1,back⟩ := St.frame (L := [_]) (M := _ :: _ :: _ :: _ :: _ :: _ :: _ :: _ :: _ :: _ :: _ :: _ :: _ :: _ :: _ :: _ :: _ :: _ :: _ :: []) hw
   refine (do_eq β1 w H2 b1 (((((6 * k) + 1) + 1) + 1) + 1) (((((3000 * k) + 494) + 494) + 494) + 494) X1 hw1 au was _ al (kn _ (k_flN 12 (F := ActF) (m := al.length) rfl rfl)) (by omega) hfb (by omega) (doF_late hfm5 hr.m1 hwlt)).mono ?_
   rintro e w' ⟨p68,c69,rfl,hw'⟩
   refine ⟨_,rfl,_,back _ _ hw',?_⟩
   clear hw hw1 hw' back kn sb
   refine lE omt (lE oxa (lE oxi (alE fun b70 => lu (mS 0 (#[.bool false,.int .i64 (0),.int .i64 (0),.slice p68 (0) c69])) (lE oai (lnc (lE omi ?_))))))
   refine lE onq (lnf (c_no rfl (csk (csr (lE omp (lE ofp (lE (oli 16) (l_call rfl rfl rfl (cl0 (vs := [pp H2 0,Ix (au)]) tt189.ok rfl rfl) ?_))))))))
   intro w hw
   replace hw := hw.perm (L' := [houseR H2 b1 X1 ((((((6 * k) + 1) + 1) + 1) + 1) + 1) ((((((3000 * k) + 494) + 494) + 494) + 494) + 494) (-1),pt b70 (.cells #[.bool false,.int .i64 (0),.int .i64 (0),.slice p68 (0) c69] 37),rowF IntF 3 p68 c69 [],pt b61 (.cells #[.bool false,.int .i64 (0),.int .i64 (0),.slice p59 (0) c60] 37),rowF IntF 3 p59 c60 [],pt b39 (.cells #[.bool (R.done),Ix (R.at_),Ix (R.e),sB p37 R.holds c38] 37),rowF IntF 3 p37 c38 R.holds,pt b36 (.cells (amC X1.s.su) 44),rowF HoF 104 p34 c35 (holdsX X1),pt b33 (.cells #[.bool (R.done),Ix (R.at_),Ix (R.e),sB p31 R.holds c32] 37),rowF IntF 3 p31 c32 R.holds,pt b30 (.cells #[.bool (R.done),Ix (R.at_),Ix (R.e),sB p28 R.holds c29] 37),rowF IntF 3 p28 c29 R.holds,pt b27 (.cells #[.bool (rwas.done),Ix (rwas.at_),Ix (rwas.e),sB p25 rwas.holds c26] 37),rowF IntF 3 p25 c26 rwas.holds,rowF ActF 47 p23 c24 al,pt b22 (.cells #[Bx (x8.kind),Ix (au),Nx (nk),sB p23 al c24] 32),pt (blk (fa58 132)) (.cells #[.int .u8 (7),.int .i64 (1),.int .i64 (0),.int .i64 (0),.int .i64 (0),.int .i64 (0),.int .i64 (0),.int .i64 (0)] 47),rowF ActF 47 (sla (fa58 133)) (slc (fa58 133)) (al ++ [(⟨7,1,0,0,zeroA⟩ : KAct)]),rowF IntF 3 (trA (fa58 134)) (trC (fa58 134)) [],pt (blk (fa58 22)) (.cells #[.bool false,.int .i64 (0),.int .i64 (0),.slice (trA (fa58 134)) (0) (trC (fa58 134))] 37),rowF HoF 104 (sla (fa66 173)) (slc (fa66 173)) (holdsX X1)]) (by exact (perm_ix [2,0,1,3,4,5,6,7,8,9,10,11,12,13,14,15,16,17,18,19,20,21] 22 rfl (by kernel_rfl) (by kernel_rfl)))
   obtain ⟨β1,sb,kn,hw1,back⟩ := St.frame (L := [_]) (M := _ :: _ :: _ :: _ :: _ :: _ :: _ :: _ :: _ :: _ :: _ :: _ :: _ :: _ :: _ :: _ :: _ :: _ :: _ :: _ :: _ :: []) hw
   refine (last_eq β1 w H2 b1 ((((((6 * k) + 1) + 1) + 1) + 1) + 1) ((((((3000 * k) + 494) + 494) + 494) + 494) + 494) (-1) X1 hw1 au hr.la).mono ?_
   rintro e w' ⟨p71,c72,rfl,hw'⟩
   refine ⟨_,rfl,_,back _ _ hw',?_⟩
   clear hw hw1 hw' back kn sb
   refine lE omt (lE oxi (lE oxa (lE oxb (alE fun b73 => lE oai (lu (mS 0 (#[.bool (R.done),Ix (R.at_),Ix (R.e),sB p71 R.holds c72])) (lE oab (lnc ?_)))))))
   refine lE omi (lE ofp (lE (oli 18) (lE onq (lnf (c_if _ rfl (fun hc74 => ?_) (fun hc74 => ?_))))))
   ·exact absurd hc74 (fun q => q rfl)
   refine c_skip (f_block (f_then (c_region (lv (v := Nx (k + 1)) (e_add rfl rfl (i64n (by omega) (by omega))) (lE omi (l_nil ?_))))))
   have hno2 : NumOk X1 ((2 + ((k + 1) * (1 + (sk.toNat % 4))) : Nat) : Int) := by rw [hX1]; exact hno.next hnn.1 (by rw [← hnk,Nat.succ_mul]; omega) _ _
   refine f_houLe (M := 6 * (k + 1)) (V := 3000 * (k + 1)) 2 rfl (by omega) (by omega) ?_
   refine f_mask [false,false,true,false,false,false,false,false,false,false,false,false,false,false,false,false,false,false,false,false,false,false,false,false] rfl ?_
   exact f_cut ⟨(k + 1,X1),⟨⟨rfl,rfl,rfl,rfl,rfl⟩,rfl,⟨by omega,hno2⟩⟩,(show zs3.length - (k + 1) < zs3.length - k from by omega)⟩
  refine csk (csr (lE omp (lE ofp (lE (oli 14) (l_call rfl rfl rfl (cl0 (vs := [pp H2 0,Ix (au)]) tt189.ok rfl rfl) ?_)))))
  intro w hw
  replace hw := hw.perm (L' := [houseR H2 b1 X1 (((((6 * k) + 1) + 1) + 1) + 1) (((((3000 * k) + 494) + 494) + 494) + 494) (-1),pt b61 (.cells #[.bool false,.int .i64 (0),.int .i64 (0),.slice p59 (0) c60] 37),rowF IntF 3 p59 c60 [],pt b39 (.cells #[.bool (R.done),Ix (R.at_),Ix (R.e),sB p37 R.holds c38] 37),rowF IntF 3 p37 c38 R.holds,pt b36 (.cells (amC X1.s.su) 44),rowF HoF 104 p34 c35 (holdsX X1),pt b33 (.cells #[.bool (R.done),Ix (R.at_),Ix (R.e),sB p31 R.holds c32] 37),rowF IntF 3 p31 c32 R.holds,pt b30 (.cells #[.bool (R.done),Ix (R.at_),Ix (R.e),sB p28 R.holds c29] 37),rowF IntF 3 p28 c29 R.holds,pt b27 (.cells #[.bool (rwas.done),Ix (rwas.at_),Ix (rwas.e),sB p25 rwas.holds c26] 37),rowF IntF 3 p25 c26 rwas.holds,rowF ActF 47 p23 c24 al,pt b22 (.cells #[Bx (x8.kind),Ix (au),Nx (nk),sB p23 al c24] 32),pt (blk (fa58 132)) (.cells #[.int .u8 (7),.int .i64 (1),.int .i64 (0),.int .i64 (0),.int .i64 (0),.int .i64 (0),.int .i64 (0),.int .i64 (0)] 47),rowF ActF 47 (sla (fa58 133)) (slc (fa58 133)) (al ++ [(⟨7,1,0,0,zeroA⟩ : KAct)]),rowF IntF 3 (trA (fa58 134)) (trC (fa58 134)) [],pt (blk (fa58 22)) (.cells #[.bool false,.int .i64 (0),.int .i64 (0),.slice (trA (fa58 134)) (0) (trC (fa58 134))] 37),rowF HoF 104 (sla (fa66 173)) (slc (fa66 173)) (holdsX X1)]) (by exact (perm_ix [2,0,1,3,4,5,6,7,8,9,10,11,12,13,14,15,16,17,18,19] 20 rfl (by kernel_rfl) (by kernel_rfl)))
  obtain ⟨β1,sb,kn,hw1,back⟩ := St.frame (L := [_]) (M := _ :: _ :: _ :: _ :: _ :: _ :: _ :: _ :: _ :: _ :: _ :: _ :: _ :: _ :: _ :: _ :: _ :: _ :: _ :: []) hw
  refine (last_eq β1 w H2 b1 (((((6 * k) + 1) + 1) + 1) + 1) (((((3000 * k) + 494) + 494) + 494) + 494) (-1) X1 hw1 au hr.la).mono ?_
  rintro e w' ⟨p75,c76,rfl,hw'⟩
  refine ⟨_,rfl,_,back _ _ hw',?_⟩
  clear hw hw1 hw' back kn sb
  refine lE omt (lE oxi (lE oxa (lE oxb (alE fun b77 => lE oai (lu (mS 0 (#[.bool (R.done),Ix (R.at_),Ix (R.e),sB p75 R.holds c76])) (lE oab (lnc ?_)))))))
  refine lE omi (lE ofp (lE (oli 16) (lE onq (lnf (c_if _ rfl (fun hc78 => ?_) (fun hc78 => ?_))))))
  ·exact absurd hc78 (fun q => q rfl)
  refine c_skip (f_block (f_then (c_region (lv (v := Nx (k + 1)) (e_add rfl rfl (i64n (by omega) (by omega))) (lE omi (l_nil ?_))))))
  have hno2 : NumOk X1 ((2 + ((k + 1) * (1 + (sk.toNat % 4))) : Nat) : Int) := by rw [hX1]; exact hno.next hnn.1 (by rw [← hnk,Nat.succ_mul]; omega) _ _
  refine f_houLe (M := 6 * (k + 1)) (V := 3000 * (k + 1)) 2 rfl (by omega) (by omega) ?_
  refine f_mask [false,false,true,false,false,false,false,false,false,false,false,false,false,false,false,false,false,false,false,false,false,false] rfl ?_
  exact f_cut ⟨(k + 1,X1),⟨⟨rfl,rfl,rfl,rfl,rfl⟩,rfl,⟨by omega,hno2⟩⟩,(show zs3.length - (k + 1) < zs3.length - k from by omega)⟩
 refine c_exit (f_then_exit (f_then_exit (f_exit (ftc (lcR clA (fun w β1 sb kn hw1 => awake_ok β1 w hw1) (lE oab (lnf (c_ret ?_))))))))
 refine ret1 Tryz.results4 rfl ?_
 intro w hw
 exact ⟨rfl,st_mask [false] rfl hw⟩
end Go.Proofs
