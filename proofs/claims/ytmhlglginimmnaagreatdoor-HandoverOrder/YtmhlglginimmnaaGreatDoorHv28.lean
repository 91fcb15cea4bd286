/-
 HandoverOrder: walked. Printed by a program of my own.
-/
import Derived.Test.YtmhlglginimmnaaGreatDoorHvOrd
import Derived.Test.YtmhlglginimmnaaGreatDoorSlA
import Derived.Test.YtmhlglginimmnaaGreatDoorSlSortF
set_option linter.unusedVariables false
set_option linter.unusedSimpArgs false
namespace Go.Proofs
open Go Go.Sl Go.Hv Go.Jn
instance ut0 : CfC Tryz.prog 10 := ⟨by kernel_rfl⟩
instance ut1 : CfC Tryz.prog 9 := ⟨by kernel_rfl⟩
theorem ut2 : Tryz.prog.underlying 5 = some (.int .u8) := by kernel_rfl
theorem ut3 : Tryz.prog.underlying 3 = some (.int .i64) := by kernel_rfl
instance ut4 : CfC Tryz.prog 12 := ⟨by kernel_rfl⟩
instance ut5 : CfC Tryz.prog 11 := ⟨by kernel_rfl⟩
instance ut6 : CfC Tryz.prog 13 := ⟨by kernel_rfl⟩
instance ut7 : CfC Tryz.prog 14 := ⟨by kernel_rfl⟩
instance ut8 : UndC Tryz.prog 35 38 := ⟨by kernel_rfl⟩
instance ut9 : UndC Tryz.prog 22 5 := ⟨by kernel_rfl⟩
theorem ut10 : slB Tryz.prog 22 5 1 = true := by kernel_rfl
instance ut11 : TyC Tryz.prog 5 false 1 := ⟨by kernel_rfl⟩
theorem ut12 : slB Tryz.prog 35 38 6 = true := by kernel_rfl
instance ut13 : TyC Tryz.prog 38 true 6 := ⟨by kernel_rfl⟩
instance ut14 : ZerC Tryz.prog 38 (.agg #[.int .i64 (0), .int .i64 (0), .int .i64 (0), .bool false, .int .i64 (0), .slice none 0 0]) := ⟨by kernel_rfl⟩
instance ut15 : FldC Tryz.prog 38 2 2 1 false := ⟨by kernel_rfl⟩
instance ut16 : TyC Tryz.prog 3 false 1 := ⟨by kernel_rfl⟩
instance ut17 : CfC Tryz.prog 15 := ⟨by kernel_rfl⟩
instance ut18 : CfC Tryz.prog 16 := ⟨by kernel_rfl⟩
instance ut19 : UndC Tryz.prog 40 32 := ⟨by kernel_rfl⟩
instance ut20 : CfC Tryz.prog 17 := ⟨by kernel_rfl⟩
theorem ut21 : slB Tryz.prog 40 32 2 = true := by kernel_rfl
instance ut22 : TyC Tryz.prog 32 true 2 := ⟨by kernel_rfl⟩
instance ut23 : ZerC Tryz.prog 32 (.agg #[.int .i64 (0), .slice none 0 0]) := ⟨by kernel_rfl⟩
instance ut24 : CfC Tryz.prog 18 := ⟨by kernel_rfl⟩
instance ut25 : CfC Tryz.prog 19 := ⟨by kernel_rfl⟩
instance ut26 : FldC Tryz.prog 38 3 3 1 false := ⟨by kernel_rfl⟩
instance ut27 : TyC Tryz.prog 4 false 1 := ⟨by kernel_rfl⟩
instance ut28 : CfC Tryz.prog 20 := ⟨by kernel_rfl⟩
set_option maxHeartbeats 4000000 in
theorem order_ok (β : Base) (w : World) (hw : St β [] w) (hG : GRng β) (n : UInt8) (v : Value) (xs : List UInt8) (hs : Sl U8R β.heap v xs) : Ret Tryz.prog 3 #[Bx n, v] β w (.bool true) := by
 obtain ⟨va,vc,rfl,vl,vm,ve⟩ := hs.get
 refine enter (n := 175) Tryz.func3 rfl Tryz.ntmps3 rfl ?_ hw
 refine csr (lE oab (lnc (lcf (cl0 (vs := []) ut0.ok rfl rfl) rfl fun w β1 sb kn hw1 back => (empty_ok β1 w hw1 1 (by decide)).mono ?_)))
 rintro e w' ⟨S1,rfl,hw'⟩
 refine ⟨_,rfl,_,back _ _ hw',?_⟩
 clear hw1 hw' back kn sb
 refine l_call rfl rfl rfl (cl0 (vs := [.int .i64 (1),pp S1 0]) ut1.ok rfl rfl) ?_
 intro w hw
 replace hw := hw.perm (L' := _ :: []) (by exact (perm_front 0 rfl))
 obtain ⟨β1,sb,kn,hw1,back⟩ := St.frame (L := [_]) (M := []) hw
 refine ((gopen_ok β1 w S1 0 (freshG 1) true hw1 (by decide)).mono fun _ _ z => open_yes z).mono ?_
 rintro e w' ⟨G2,rfl,hw'⟩
 refine ⟨_,rfl,_,back _ _ hw',?_⟩
 clear hw hw1 hw' back kn sb
 refine lE omt (lE oxp (lE oxi (lE oap (lE oai (lnc ?_)))))
 refine lcf (cl0 (vs := []) ut0.ok rfl rfl) rfl fun w β1 sb kn hw1 back => (empty_ok β1 w hw1 2 (by decide)).mono ?_
 rintro e w' ⟨S3,rfl,hw'⟩
 refine ⟨_,rfl,_,back _ _ hw',?_⟩
 clear hw1 hw' back kn sb
 refine l_call rfl rfl rfl (cl0 (vs := [.int .i64 (2),pp S3 0]) ut1.ok rfl rfl) ?_
 intro w hw
 replace hw := hw.perm (L' := _ :: _ :: []) (by exact ((perm_front 1 rfl).trans (perm_front 1 rfl)))
 obtain ⟨β1,sb,kn,hw1,back⟩ := St.frame (L := [_]) (M := _ :: []) hw
 refine ((gopen_ok β1 w S3 0 (freshG 2) true hw1 (by decide)).mono fun _ _ z => open_yes z).mono ?_
 rintro e w' ⟨G4,rfl,hw'⟩
 refine ⟨_,rfl,_,back _ _ hw',?_⟩
 clear hw hw1 hw' back kn sb
 refine lE omt (lE oxp (lE oxi (lE oap (lE oai (lnf (cs2 (c_region (lE omi (lE onq (lE omb (gE omi (gE onq (lE okfb (lnf (c_no rfl (csk (csr ?_)))))))))))))))))
 refine lE omi ?_
 refine lv (v := .int .u8 (((n.toNat % 20 : Nat)) : Int)) (e_rem (a := ((n).toNat : Int)) (b := ((20 : Nat) : Int)) rfl rfl (by decide) (nat_tmod _ _)) ?_
 refine lv (v := Nx (n.toNat % 20)) (e_conv (a := ((n.toNat % 20 : Nat) : Int)) rfl ⟨_,ut2⟩ ut3 (i64n rfl (by omega))) ?_
 refine lv (v := Nx (1 + (n.toNat % 20))) (e_add rfl rfl (i64n (by omega) (by omega))) (lE oai (lnf (cs2 ?_)))
 refine c_re (L' := [gateR G4 S3 (odB 0) 0 true,gateR G2 S1 (odA 0) 0 true]) rfl ?_
 obtain ⟨kk,hkk,hk1,hk2⟩ : ∃ kk : Nat,((kk : Nat) : Int) = ((1 + (n.toNat % 20) : Nat) : Int) ∧ 1 ≤ kk ∧ kk ≤ 20 := ⟨1 + n.toNat % 20,by push_cast; omega,by omega,by have := Nat.mod_lt n.toNat (show 0 < 20 by decide); omega⟩
 refine rbs 9 (v := Nx kk) (show (Nx (1 + (n.toNat % 20)) : Value) = Nx kk from congrArg (Value.int .i64) hkk.symm) (c_region (lE oai (lnf (c_block ?_))))
 refine c_mask [true,true] rfl ?_
 refine c_loop (fun (x_ : Nat × Nat) f L => match x_ with | (j,n1) => (f 1 = sB va xs (vc) ∧ f 5 = pp G2 0 ∧ f 7 = pp G4 0 ∧ f 9 = Nx (kk) ∧ f 10 = Nx (j + 1)) ∧ L = [gateR G4 S3 (odB 0) 0 true,gateR G2 S1 (odA j) n1 true] ∧ (j ≤ kk ∧ n1 ≤ 600 * j)) (fun (j,n1) => kk - j) (0,0) ?_ ?_
 ·exact ⟨⟨rfl,rfl,rfl,rfl,rfl⟩,rfl,⟨Nat.zero_le _,Nat.le_refl _⟩⟩
 rintro ⟨j,n1⟩ f0 L0 ⟨⟨hs1,hs5,hs7,hs9,hs10⟩,hL,⟨hj,hn1⟩⟩
 subst L0
 refine rbs 1 hs1 (rbs 5 hs5 (rbs 7 hs7 (rbs 9 hs9 (rbs 10 hs10 (cs2 (c_region (lE omi (lE omi (lE ole (lnf ?_))))))))))
 refine c_if _ rfl (fun hc5 => ?_) (fun hc5 => ?_)
 ·refine csk (c_seq (c_block (csr (lE omp (lE omi ?_)))))
  refine lv (v := Nx (10 * (j + 1))) (e_mul (a := (10 : Int)) (b := ((j + 1 : Nat) : Int)) rfl rfl (i64n (by omega) (by omega))) (lE omi ?_)
  refine lcf (cl0 (vs := [Nx (10 * (j + 1)),Nx (j + 1)]) ut4.ok rfl rfl) rfl fun w β1 sb kn hw1 back => (thing_ok β1 w hw1 ((10 * (j + 1) : Nat) : Int) ((j + 1 : Nat) : Int)).mono ?_
  rintro e w' ⟨p6,c7,rfl,hw'⟩
  refine ⟨_,rfl,_,back _ _ hw',?_⟩
  clear hw1 hw' back kn sb
  refine l_call rfl rfl rfl (cl0 (vs := [pp G2 0,.agg #[Nx (10 * (j + 1)),.slice p6 (1) c7]]) ut5.ok rfl rfl) ?_
  intro w hw
  replace hw := hw.perm (L' := _ :: _ :: _ :: []) (by exact (((perm_front 1 rfl).trans (perm_front 1 rfl)).trans (perm_front 2 rfl)))
  obtain ⟨β1,sb,kn,hw1,back⟩ := St.frame (L := [_]) (M := _ :: _ :: []) hw
  refine ((gput_ok β1 w (Cs.mono _ _ _ _ sb hG) G2 S1 n1 (odA j) true hw1 (by omega) (odE (j + 1)) _ (kn _ (k_flN 0 (F := CpF) (m := 1) rfl rfl))).mono fun _ _ z => act_yes (N' := (n1 + 300)) (Y := (odA1 j)) (odA_put (by omega)) (odA_put2 _) (Nat.le_refl _) z).mono ?_
  rintro e w' ⟨rfl,hw'⟩
  refine ⟨_,rfl,_,back _ _ hw',?_⟩
  clear hw hw1 hw' back kn sb
  refine lE onq (lE omb (gE omp (gE omi ?_)))
  refine g_val (v := Nx (10 * (j + 1))) rfl rfl rfl rfl rfl (e_mul (a := (10 : Int)) (b := ((j + 1 : Nat) : Int)) rfl rfl (i64n (by omega) (by omega))) ?_
  refine g_call rfl rfl rfl rfl rfl (cl0 (vs := [pp G2 0,Nx (10 * (j + 1)),.int .i64 (2)]) ut6.ok rfl rfl) ?_
  intro w hw
  replace hw := hw.perm (L' := _ :: _ :: _ :: []) (by exact (((perm_front 2 rfl).trans (perm_front 2 rfl)).trans (perm_front 2 rfl)))
  obtain ⟨β1,sb,kn,hw1,back⟩ := St.frame (L := [_]) (M := _ :: _ :: []) hw
  refine ((ggive_ok β1 w (Cs.mono _ _ _ _ sb hG) G2 S1 (n1 + 300) (odA1 j) true hw1 (by omega) ((10 * (j + 1) : Nat) : Int) 2 ⟨by omega,by omega⟩ (by decide)).mono fun _ _ z => act_yes (N' := ((n1 + 300) + 300)) (Y := (odA (j + 1))) (odA_give (by omega)) odA_give2 (Nat.le_refl _) z).mono ?_
  rintro e w' ⟨rfl,hw'⟩
  refine ⟨_,rfl,_,back _ _ hw',?_⟩
  clear hw hw1 hw' back kn sb
  refine gE onq (lE okfb (lnf (c_no rfl (c_skip (f_block (f_then (c_region (lE omi ?_))))))))
  refine lv (v := Nx ((j + 1) + 1)) (e_add rfl rfl (i64n (by omega) (by omega))) (lE oai (l_nil (fpn [2,0,1] 3 ?_)))
  refine f_mask [true,true,false] rfl ?_
  exact f_cut ⟨(j + 1,((n1 + 300) + 300)),⟨⟨rfl,rfl,rfl,rfl,rfl⟩,rfl,⟨by omega,by omega⟩⟩,(show kk - (j + 1) < kk - j from by omega)⟩
 refine c_exit (f_then_exit (f_then_exit (f_exit (ftc (lE omp (l_call rfl rfl rfl (cl0 (vs := [pp G2 0]) ut7.ok rfl rfl) ?_))))))
 intro w hw
 replace hw := hw.perm (L' := _ :: _ :: []) (by exact ((perm_front 0 rfl).trans (perm_front 1 rfl)))
 obtain ⟨β1,sb,kn,hw1,back⟩ := St.frame (L := [_]) (M := _ :: []) hw
 refine ((msgsG_ok β1 w G2 S1 n1 (odA j) true hw1).mono fun _ _ z => shownM (L' := (odL j)) (odA_msgs _) z).mono ?_
 rintro e w' ⟨p8,c9,rfl,hw'⟩
 refine ⟨_,rfl,_,back _ _ hw',?_⟩
 clear hw hw1 hw' back kn sb
 refine lE oas (lnf (cs2 (c_openMsgs rfl fun oz10 hoz11 hoh12 => ?_)))
 have hoz11l : oz10.length = (odL j).length := by rw [← hoz11,List.length_map]
 have hoz11k : (oz10.map Prod.fst).length = oz10.length := List.length_map _
 refine rbs 11 (v := sB p8 oz10 c9) (show (sB p8 (odL j) c9 : Value) = sB p8 oz10 c9 from congrArg (fun z => Value.slice p8 z c9) hoz11l.symm) ?_
 have hoz11n : oz10.length = j := by rw [hoz11l,odL_len]
 have hjk : j = kk := by omega
 subst hjk
 refine c_region (lE oms (lE oln (lE omi (lE onq (lnf (c_if _ rfl (fun hc13 => ?_) (fun hc13 => ?_)))))))
 ·exact absurd hc13 (fun q => q (by first | omega | decide))
 refine csk (csr (lE oai (lnf (cs2 (c_region (lE oms (lE oms (lE oln ?_))))))))
 refine lv (v := Nx (min xs.length 100)) (ev_eq (congrArg (Value.int .i64) (by omega)) (e_min (a := ((xs.length : Nat) : Int)) (b := (100 : Int)) rfl rfl)) ?_
 obtain ⟨zs14,hz15⟩ : ∃ zs,zs = (xs.take (min xs.length 100)) := ⟨_,rfl⟩
 have zl16 : zs14.length = min (min xs.length 100) (xs).length - 0 := by rw [hz15]; simp; try omega
 have ze17 := (Elems.take (min xs.length 100) ve)
 rw [← hz15] at ze17
 refine lv (v := .slice va (zs14.length) (vc)) (ev_eq (by rw [show zs14.length = min xs.length 100 by omega]) (e_slice_hi (a := va) (len := xs.length) (cap := vc) (h := min xs.length 100) ut10 rfl rfl (by omega))) ?_
 refine lE oln (lE omi (lnf (c_block ?_)))
 refine c_loop (fun (x_ : Nat × Nat × Nat) f L => match x_ with | (i,t,n2) => (f 5 = pp G2 0 ∧ f 7 = pp G4 0 ∧ f 9 = Nx (j) ∧ f 11 = sB p8 oz10 c9 ∧ f 12 = Nx (t) ∧ f 69 = sB va zs14 (vc) ∧ f 70 = Nx (zs14.length) ∧ f 71 = Nx (i)) ∧ L = [rowF MgF 38 p8 c9 (oz10.map Prod.fst),poolR (MPool.e oz10),gateR G2 S1 (odA j) n1 true,gateR G4 S3 (odB t) n2 true] ∧ (i ≤ 100 ∧ t ≤ j ∧ n2 ≤ 300 * i)) (fun (i,t,n2) => 100 - i) (0,0,0) ?_ ?_
 ·exact ⟨⟨rfl,rfl,rfl,rfl,rfl,rfl,rfl,rfl⟩,rfl,⟨Nat.zero_le _,Nat.zero_le _,Nat.le_refl _⟩⟩
 rintro ⟨i,t,n2⟩ f0 L0 ⟨⟨hs5,hs7,hs9,hs11,hs12,hs69,hs70,hs71⟩,hL,⟨hi,htk,hn2⟩⟩
 subst L0
 refine rbs 5 hs5 (rbs 7 hs7 (rbs 9 hs9 (rbs 11 hs11 (rbs 12 hs12 (rbs 69 hs69 (rbs 70 hs70 (rbs 71 hs71 (csr (lE olt (lnf (c_seq ?_)))))))))))
 refine c_if _ rfl (fun hc18 => ?_) (fun hc18 => ?_)
 ·refine csk (c_seq (c_block (csr ?_)))
  obtain ⟨x19,hx20⟩ := getx zs14 i (by omega)
  obtain ⟨ha21,cs22,hc23,rfl⟩ := ze17 _ _ hx20
  refine lE (oia ut10 ha21) (lv (v := Bx (x19)) (e_load1 ut11.ok rfl (kB hc23)) (lE oai (lnf (c_seq ?_))))
  have hKj : (x19.toNat % j) < j := Nat.mod_lt _ (by omega)
  obtain ⟨x25,hx26⟩ : ∃ x_,(oz10.map Prod.fst)[x19.toNat % j]? = some x_ := ⟨_,List.getElem?_eq_getElem (by first | omega | decide)⟩
  obtain ⟨s27,hs28,hm29,hp30⟩ := msg_at hoz11 hoh12 hx26
  obtain ⟨hse,-⟩ := odL_get hs28
  subst hse
  have hyn : x25.number = (((x19.toNat % j) + 1 : Nat) : Int) := hm29.number
  refine c_region (lE oms (lE omi ?_))
  refine lv (v := Nx (x19.toNat)) (e_conv (a := ((x19).toNat : Int)) rfl ⟨_,ut2⟩ ut3 (i64n rfl (by have := (x19).toNat_lt; omega))) (lE omi ?_)
  refine lv (v := Nx (x19.toNat % j)) (e_rem (a := ((x19.toNat : Nat) : Int)) (b := ((j : Nat) : Int)) rfl rfl (by omega) (nat_tmod _ _)) ?_
  refine lv (v := .pointer (some ((ba p8).add ((x19.toNat % j) * 6)))) (e_indexFlN 0 (F := MgF) rfl (List.length_map _).symm rfl ut12 (by omega) rfl) ?_
  refine lv (v := .agg #[Ix (x25.src),Ix (x25.to),Ix (x25.number),.bool (x25.ack),Ix (x25.id),.slice x25.p (x25.n) x25.c]) (e_load ut13.ok rfl (k_flAt 0 (F := MgF) rfl hx26) rfl) ?_
  refine alE fun b31 => lu (mS 0 (#[Ix (x25.src),Ix (x25.to),Ix (x25.number),.bool (x25.ack),Ix (x25.id),.slice x25.p (x25.n) x25.c])) (lnc (lE oai ?_))
  refine lnf (cs2 ?_)
  rcases Nat.lt_trichotomy (x19.toNat % j) t with hlt | heq | hgt
  ·have hlen1 := odH_len t
   refine c_region (lE ofp (lE (oli 0) (lE omi (lv (v := Nx (t + 1)) (e_add rfl rfl (i64n (by omega) (by omega))) (lE ogt (lnf ?_))))))
   refine c_if _ rfl (fun hc32 => ?_) (fun hc32 => ?_)
   ·exact absurd hc32 (by omega)
   refine csk (cs2 (c_region (lE omp (lE (olg 0) ?_))))
   refine l_call rfl rfl rfl (cl0 (vs := [pp G4 0,.agg #[Ix (x25.src),Ix (x25.to),Ix (x25.number),.bool (x25.ack),Ix (x25.id),.slice x25.p (x25.n) x25.c]]) ut17.ok rfl rfl) ?_
   intro w hw
   replace hw := hw.perm (L' := _ :: _ :: _ :: _ :: _ :: []) (by exact (((((perm_front 3 rfl).trans (perm_front 3 rfl)).trans (perm_front 3 rfl)).trans (perm_front 3 rfl)).trans (perm_front 4 rfl)))
   obtain ⟨β1,sb,kn,hw1,back⟩ := St.frame (L := [_]) (M := _ :: _ :: _ :: _ :: []) hw
   refine ((gtakeH_ok β1 w (Cs.mono _ _ _ _ sb hG) G4 S3 n2 (odB t) true hw1 (by omega) x25 (odM ((x19.toNat % j) + 1)) hm29 (kn _ (k_poolS (zs := (MPool.e oz10)) (z := (x25.eh,(odM ((x19.toNat % j) + 1)).e)) 2 rfl hp30 hm29.eh))).mono fun _ _ z => act_no (odB_old (by omega)) z).mono ?_
   rintro e w' ⟨rfl,hw'⟩
   refine ⟨_,rfl,_,back _ _ hw',?_⟩
   clear hw hw1 hw' back kn sb
   refine lE omi (lE onq (lnf (c_no rfl (csk (cs2 (c_region (lE ofp (lE (oli 1) (lE omi ?_)))))))))
   refine lv (v := Nx (t + 1)) (e_add rfl rfl (i64n (by omega) (by omega))) (lE oeq_ (lnf (c_if _ rfl (fun hc33 => ?_) (fun hc33 => ?_))))
   ·exact absurd hc33 (by omega)
   refine csk (csr (lE omp (l_call rfl rfl rfl (cl0 (vs := [pp G4 0]) ut18.ok rfl rfl) ?_)))
   intro w hw
   replace hw := hw.perm (L' := _ :: _ :: _ :: _ :: _ :: []) (by exact (((((perm_front 4 rfl).trans (perm_front 4 rfl)).trans (perm_front 4 rfl)).trans (perm_front 4 rfl)).trans (perm_front 4 rfl)))
   obtain ⟨β1,sb,kn,hw1,back⟩ := St.frame (L := [_]) (M := _ :: _ :: _ :: _ :: []) hw
   refine ((hereG_ok β1 w G4 S3 n2 (odB t) true hw1).mono fun _ _ z => shownE (L' := (odH t)) rfl z).mono ?_
   rintro e w' ⟨p34,c35,rfl,hw'⟩
   refine ⟨_,rfl,_,back _ _ hw',?_⟩
   clear hw hw1 hw' back kn sb
   refine lE oln (lE omi (lE onq (lE omb (l_split (s := 104) rfl (fun h => ?_) (fun h => ?_)))))
   exact absurd h (fun q => q (by first | omega | decide))
   refine gE omp (g_call rfl rfl rfl rfl rfl (cl0 (vs := [pp G4 0,.int .i64 (1)]) ut20.ok rfl rfl) ?_)
   intro w hw
   replace hw := hw.perm (L' := _ :: _ :: _ :: _ :: _ :: _ :: []) (by exact ((((((perm_front 5 rfl).trans (perm_front 5 rfl)).trans (perm_front 5 rfl)).trans (perm_front 5 rfl)).trans (perm_front 4 rfl)).trans (perm_front 5 rfl)))
   obtain ⟨β1,sb,kn,hw1,back⟩ := St.frame (L := [_]) (M := _ :: _ :: _ :: _ :: _ :: []) hw
   refine ((lastG_ok β1 w G4 S3 n2 (odB t) true hw1 1).mono fun _ _ z => shownL odB_last z).mono ?_
   rintro e w' ⟨rfl,hw'⟩
   refine ⟨_,rfl,_,back _ _ hw',?_⟩
   clear hw hw1 hw' back kn sb
   refine gE omi (gE onq (lE okfb (lnf (c_if _ rfl (fun hc36 => ?_) (fun hc36 => ?_)))))
   ·exact absurd hc36 (fun q => q rfl)
   refine c_skip (f_block (f_then (c_region (lv (v := Nx (i + 1)) (e_add rfl rfl (i64n (by omega) (by omega))) (lE omi (l_nil (fpn [3,4,5,0,1,2] 6 ?_)))))))
   refine f_mask [true,true,true,true,false,false] rfl ?_
   exact f_cut ⟨(i + 1,t,n2),⟨⟨rfl,rfl,rfl,rfl,rfl,rfl,rfl,rfl⟩,rfl,⟨by omega,by omega,by omega⟩⟩,(show 100 - (i + 1) < 100 - i from by omega)⟩
  ·have hlen1 := odH_len (t + 1)
   refine c_region (lE ofp (lE (oli 0) (lE omi (lv (v := Nx (t + 1)) (e_add rfl rfl (i64n (by omega) (by omega))) (lE ogt (lnf ?_))))))
   refine c_if _ rfl (fun hc37 => ?_) (fun hc37 => ?_)
   ·exact absurd hc37 (by omega)
   refine csk (cs2 (c_region (lE omp (lE (olg 0) ?_))))
   refine l_call rfl rfl rfl (cl0 (vs := [pp G4 0,.agg #[Ix (x25.src),Ix (x25.to),Ix (x25.number),.bool (x25.ack),Ix (x25.id),.slice x25.p (x25.n) x25.c]]) ut17.ok rfl rfl) ?_
   intro w hw
   replace hw := hw.perm (L' := _ :: _ :: _ :: _ :: _ :: []) (by exact (((((perm_front 3 rfl).trans (perm_front 3 rfl)).trans (perm_front 3 rfl)).trans (perm_front 3 rfl)).trans (perm_front 4 rfl)))
   obtain ⟨β1,sb,kn,hw1,back⟩ := St.frame (L := [_]) (M := _ :: _ :: _ :: _ :: []) hw
   refine ((gtakeH_ok β1 w (Cs.mono _ _ _ _ sb hG) G4 S3 n2 (odB t) true hw1 (by omega) x25 (odM ((x19.toNat % j) + 1)) hm29 (kn _ (k_poolS (zs := (MPool.e oz10)) (z := (x25.eh,(odM ((x19.toNat % j) + 1)).e)) 2 rfl hp30 hm29.eh))).mono fun _ _ z => act_yes (N' := (n2 + 300)) (Y := (odB (t + 1))) (by rw [heq]; exact odB_new (by omega)) (by rw [heq]; exact odB_new2) (Nat.le_refl _) z).mono ?_
   rintro e w' ⟨rfl,hw'⟩
   refine ⟨_,rfl,_,back _ _ hw',?_⟩
   clear hw hw1 hw' back kn sb
   refine lE omi (lE onq (lnf (c_no rfl (csk (cs2 (c_region (lE ofp (lE (oli 1) (lE omi ?_)))))))))
   refine lv (v := Nx (t + 1)) (e_add rfl rfl (i64n (by omega) (by omega))) (lE oeq_ (lnf (c_if _ rfl (fun hc38 => ?_) (fun hc38 => ?_))))
   ·refine c_region (lE omi (lv (v := Nx (t + 1)) (e_add rfl rfl (i64n (by omega) (by omega))) (lE oai (lnc (lE omp ?_)))))
    refine l_call rfl rfl rfl (cl0 (vs := [pp G4 0]) ut18.ok rfl rfl) ?_
    intro w hw
    replace hw := hw.perm (L' := _ :: _ :: _ :: _ :: _ :: []) (by exact (((((perm_front 4 rfl).trans (perm_front 4 rfl)).trans (perm_front 4 rfl)).trans (perm_front 4 rfl)).trans (perm_front 4 rfl)))
    obtain ⟨β1,sb,kn,hw1,back⟩ := St.frame (L := [_]) (M := _ :: _ :: _ :: _ :: []) hw
    refine ((hereG_ok β1 w G4 S3 (n2 + 300) (odB (t + 1)) true hw1).mono fun _ _ z => shownE (L' := (odH (t + 1))) rfl z).mono ?_
    rintro e w' ⟨p39,c40,rfl,hw'⟩
    refine ⟨_,rfl,_,back _ _ hw',?_⟩
    clear hw hw1 hw' back kn sb
    refine lE oln (lE omi (lE onq (lE omb (l_split (s := 104) rfl (fun h => ?_) (fun h => ?_)))))
    exact absurd h (fun q => q (by first | omega | decide))
    refine gE omp (g_call rfl rfl rfl rfl rfl (cl0 (vs := [pp G4 0,.int .i64 (1)]) ut20.ok rfl rfl) ?_)
    intro w hw
    replace hw := hw.perm (L' := _ :: _ :: _ :: _ :: _ :: _ :: []) (by exact ((((((perm_front 5 rfl).trans (perm_front 5 rfl)).trans (perm_front 5 rfl)).trans (perm_front 5 rfl)).trans (perm_front 4 rfl)).trans (perm_front 5 rfl)))
    obtain ⟨β1,sb,kn,hw1,back⟩ := St.frame (L := [_]) (M := _ :: _ :: _ :: _ :: _ :: []) hw
    refine ((lastG_ok β1 w G4 S3 (n2 + 300) (odB (t + 1)) true hw1 1).mono fun _ _ z => shownL odB_last z).mono ?_
    rintro e w' ⟨rfl,hw'⟩
    refine ⟨_,rfl,_,back _ _ hw',?_⟩
    clear hw hw1 hw' back kn sb
    refine gE omi (gE onq (lE okfb (lnf (c_if _ rfl (fun hc41 => ?_) (fun hc41 => ?_)))))
    ·exact absurd hc41 (fun q => q rfl)
    refine c_skip (f_block (f_then (c_region (lv (v := Nx (i + 1)) (e_add rfl rfl (i64n (by omega) (by omega))) (lE omi (l_nil (fpn [3,4,5,0,1,2] 6 ?_)))))))
    refine f_mask [true,true,true,true,false,false] rfl ?_
    exact f_cut ⟨(i + 1,t + 1,(n2 + 300)),⟨⟨rfl,rfl,rfl,rfl,rfl,rfl,rfl,rfl⟩,rfl,⟨by omega,by omega,by omega⟩⟩,(show 100 - (i + 1) < 100 - i from by omega)⟩
   exact absurd (by omega) hc38
  have hlen1 := odH_len t
  refine c_region (lE ofp (lE (oli 0) (lE omi (lv (v := Nx (t + 1)) (e_add rfl rfl (i64n (by omega) (by omega))) (lE ogt (lnf ?_))))))
  refine c_if _ rfl (fun hc42 => ?_) (fun hc42 => ?_)
  ·refine c_region (lE oai (lnf (cs2 (c_region (lE omp (lE (olg 0) ?_))))))
   refine l_call rfl rfl rfl (cl0 (vs := [pp G4 0,.agg #[Ix (x25.src),Ix (x25.to),Ix (x25.number),.bool (x25.ack),Ix (x25.id),.slice x25.p (x25.n) x25.c]]) ut17.ok rfl rfl) ?_
   intro w hw
   replace hw := hw.perm (L' := _ :: _ :: _ :: _ :: _ :: []) (by exact (((((perm_front 3 rfl).trans (perm_front 3 rfl)).trans (perm_front 3 rfl)).trans (perm_front 3 rfl)).trans (perm_front 4 rfl)))
   obtain ⟨β1,sb,kn,hw1,back⟩ := St.frame (L := [_]) (M := _ :: _ :: _ :: _ :: []) hw
   refine ((gtakeH_ok β1 w (Cs.mono _ _ _ _ sb hG) G4 S3 n2 (odB t) true hw1 (by omega) x25 (odM ((x19.toNat % j) + 1)) hm29 (kn _ (k_poolS (zs := (MPool.e oz10)) (z := (x25.eh,(odM ((x19.toNat % j) + 1)).e)) 2 rfl hp30 hm29.eh))).mono fun _ _ z => act_no (odB_early (by omega)) z).mono ?_
   rintro e w' ⟨rfl,hw'⟩
   refine ⟨_,rfl,_,back _ _ hw',?_⟩
   clear hw hw1 hw' back kn sb
   refine lE omi (lE onq (lnf (c_no rfl (csk (cs2 (c_region (lE ofp (lE (oli 1) (lE omi ?_)))))))))
   refine lv (v := Nx (t + 1)) (e_add rfl rfl (i64n (by omega) (by omega))) (lE oeq_ (lnf (c_if _ rfl (fun hc43 => ?_) (fun hc43 => ?_))))
   ·exact absurd hc43 (by omega)
   refine csk (csr (lE omp (l_call rfl rfl rfl (cl0 (vs := [pp G4 0]) ut18.ok rfl rfl) ?_)))
   intro w hw
   replace hw := hw.perm (L' := _ :: _ :: _ :: _ :: _ :: []) (by exact (((((perm_front 4 rfl).trans (perm_front 4 rfl)).trans (perm_front 4 rfl)).trans (perm_front 4 rfl)).trans (perm_front 4 rfl)))
   obtain ⟨β1,sb,kn,hw1,back⟩ := St.frame (L := [_]) (M := _ :: _ :: _ :: _ :: []) hw
   refine ((hereG_ok β1 w G4 S3 n2 (odB t) true hw1).mono fun _ _ z => shownE (L' := (odH t)) rfl z).mono ?_
   rintro e w' ⟨p44,c45,rfl,hw'⟩
   refine ⟨_,rfl,_,back _ _ hw',?_⟩
   clear hw hw1 hw' back kn sb
   refine lE oln (lE omi (lE onq (lE omb (l_split (s := 104) rfl (fun h => ?_) (fun h => ?_)))))
   exact absurd h (fun q => q (by first | omega | decide))
   refine gE omp (g_call rfl rfl rfl rfl rfl (cl0 (vs := [pp G4 0,.int .i64 (1)]) ut20.ok rfl rfl) ?_)
   intro w hw
   replace hw := hw.perm (L' := _ :: _ :: _ :: _ :: _ :: _ :: []) (by exact ((((((perm_front 5 rfl).trans (perm_front 5 rfl)).trans (perm_front 5 rfl)).trans (perm_front 5 rfl)).trans (perm_front 4 rfl)).trans (perm_front 5 rfl)))
   obtain ⟨β1,sb,kn,hw1,back⟩ := St.frame (L := [_]) (M := _ :: _ :: _ :: _ :: _ :: []) hw
   refine ((lastG_ok β1 w G4 S3 n2 (odB t) true hw1 1).mono fun _ _ z => shownL odB_last z).mono ?_
   rintro e w' ⟨rfl,hw'⟩
   refine ⟨_,rfl,_,back _ _ hw',?_⟩
   clear hw hw1 hw' back kn sb
   refine gE omi (gE onq (lE okfb (lnf (c_if _ rfl (fun hc46 => ?_) (fun hc46 => ?_)))))
   ·exact absurd hc46 (fun q => q rfl)
   refine c_skip (f_block (f_then (c_region (lv (v := Nx (i + 1)) (e_add rfl rfl (i64n (by omega) (by omega))) (lE omi (l_nil (fpn [3,4,5,0,1,2] 6 ?_)))))))
   refine f_mask [true,true,true,true,false,false] rfl ?_
   exact f_cut ⟨(i + 1,t,n2),⟨⟨rfl,rfl,rfl,rfl,rfl,rfl,rfl,rfl⟩,rfl,⟨by omega,by omega,by omega⟩⟩,(show 100 - (i + 1) < 100 - i from by omega)⟩
  exact absurd (by omega) hc42
 refine c_exit (f_then_exit (f_then_exit (f_exit (fts (csr (lE omp (l_call rfl rfl rfl (cl0 (vs := [pp G4 0]) ut18.ok rfl rfl) ?_)))))))
 intro w hw
 replace hw := hw.perm (L' := _ :: _ :: _ :: _ :: []) (by exact ((((perm_front 2 rfl).trans (perm_front 2 rfl)).trans (perm_front 2 rfl)).trans (perm_front 3 rfl)))
 obtain ⟨β1,sb,kn,hw1,back⟩ := St.frame (L := [_]) (M := _ :: _ :: _ :: []) hw
 refine ((hereG_ok β1 w G4 S3 n2 (odB t) true hw1).mono fun _ _ z => shownE (L' := (odH t)) rfl z).mono ?_
 rintro e w' ⟨p47,c48,rfl,hw'⟩
 refine ⟨_,rfl,_,back _ _ hw',?_⟩
 clear hw hw1 hw' back kn sb
 refine lE oln (lE omi (lnf (c_block ?_)))
 have hHl := odH_len t
 refine c_openEnts rfl fun ez49 hez50 heh51 => ?_
 have hez50l : ez49.length = (odH t).length := by rw [← hez50,List.length_map]
 have hez50k : (ez49.map Prod.fst).length = ez49.length := List.length_map _
 refine rbs 112 (v := sB p47 ez49 c48) (show (sB p47 (odH t) c48 : Value) = sB p47 ez49 c48 from congrArg (fun z => Value.slice p47 z c48) hez50l.symm) ?_
 refine c_loop (fun (i2 : Nat) f L => (f 5 = pp G2 0 ∧ f 7 = pp G4 0 ∧ f 9 = Nx (j) ∧ f 12 = Nx (t) ∧ f 112 = sB p47 ez49 c48 ∧ f 113 = Nx ((odH t).length) ∧ f 114 = Nx (i2)) ∧ L = [rowF EhF 32 p47 c48 (ez49.map Prod.fst),poolR ez49,gateR G4 S3 (odB t) n2 true,rowF MgF 38 p8 c9 (oz10.map Prod.fst),poolR (MPool.e oz10),gateR G2 S1 (odA j) n1 true] ∧ (i2 ≤ t)) (fun i2 => t - i2) 0 ?_ ?_
 ·exact ⟨⟨rfl,rfl,rfl,rfl,rfl,rfl,rfl⟩,rfl,(Nat.zero_le _)⟩
 rintro i2 f0 L0 ⟨⟨hs5,hs7,hs9,hs12,hs112,hs113,hs114⟩,hL,hi2⟩
 subst L0
 refine rbs 5 hs5 (rbs 7 hs7 (rbs 9 hs9 (rbs 12 hs12 (rbs 112 hs112 (rbs 113 hs113 (rbs 114 hs114 (csr (lE olt (lnf (c_seq ?_))))))))))
 refine c_if _ rfl (fun hc52 => ?_) (fun hc52 => ?_)
 ·refine csk (c_seq (c_block (c_seq ?_)))
  obtain ⟨x53,hx54⟩ : ∃ x_,(ez49.map Prod.fst)[i2]? = some x_ := ⟨_,List.getElem?_eq_getElem (by first | omega | decide)⟩
  obtain ⟨e55,hs56,hm57,hp58⟩ := ent_at hez50 heh51 hx54
  obtain ⟨hee,-⟩ := odH_get hs56
  subst hee
  have hxi : x53.id = 10 * ((i2 + 1 : Nat) : Int) := hm57.id
  refine c_region (lE omi ?_)
  refine lv (v := .pointer (some ((ba p47).add (i2 * 2)))) (e_indexFlN 0 (F := EhF) rfl (List.length_map _).symm rfl ut21 (by omega) rfl) ?_
  refine lv (v := .agg #[Ix (x53.id),.slice x53.p (x53.n) x53.c]) (e_load ut22.ok rfl (k_flAt 0 (F := EhF) rfl hx54) rfl) (alE fun b59 => lE oai ?_)
  refine lu (mS 0 (#[Ix (x53.id),.slice x53.p (x53.n) x53.c])) (lnf (c_seq ?_))
  refine cnz [sv 119 (.agg #[Ix (x53.id),.slice x53.p (x53.n) x53.c]) [] [] [0],sv 120 (Nx (i2)) [] [] [1],sv 121 (Nx (i2 + 1)) [1] [1] [],sv 122 (Nx (10 * (i2 + 1))) [1,2] [2] [],sv 123 (Nx (i2)) [] [] [1],sv 124 (Nx (i2 + 1)) [4] [4] [],⟨[1,2,3,4,5],[3,5],[],[125],fun f => f 125 = .agg #[Nx (10 * (i2 + 1)),.slice (thA (f 125)) (1) (thC (f 125))]⟩,sv 126 (.bool true) (List.range 7) [0,6] [],sv 127 (.bool false) (List.range 8) [7] []] [u1 [0],u0,u1 [7]] [⟨(some 6),none,[7],[125],fun f => rowF CpF 100 (thA (f 125)) (thC (f 125)) [(⟨10,((i2 + 1 : Nat) : Int),0,0,0⟩ : KComp)]⟩] [(18,pp b59 0),(17,Nx (i2)),(5,pp G2 0),(7,pp G4 0),(9,Nx (j)),(12,Nx (t)),(112,sB p47 ez49 c48),(113,Nx ((odH t).length)),(114,Nx (i2))] [2,3,4,5,6,7,8] ⟨rfl,rfl,rfl,rfl,rfl,rfl,rfl,rfl,rfl,trivial⟩ ⟨?_,?_,?_,?_,?_,?_,?_,?_,?_,trivial⟩ ?_
  ·rintro f M - ⟨i0,-⟩
   exact obE (olg 0)
  ·rintro f M - ⟨i0,-⟩
   exact obE omi
  ·rintro f M ⟨k0,-⟩ -
   exact ob0 (up_cons (d := 120) rfl k0) rfl (e_add (a := ((i2 : Nat) : Int)) (b := (1 : Int)) rfl rfl (i64n (by omega) (by omega))) (.refl _)
  ·rintro f M ⟨k0,-⟩ -
   exact ob0 (up_cons (d := 121) rfl k0) rfl (e_mul (a := (10 : Int)) (b := ((i2 + 1 : Nat) : Int)) rfl rfl (i64n (by omega) (by omega))) (.refl _)
  ·rintro f M - ⟨i0,-⟩
   exact obE omi
  ·rintro f M ⟨k0,-⟩ -
   exact ob0 (up_cons (d := 123) rfl k0) rfl (e_add (a := ((i2 : Nat) : Int)) (b := (1 : Int)) rfl rfl (i64n (by omega) (by omega))) (.refl _)
  ·rintro f M ⟨k0,k1,-⟩ -
   refine obS (up_cons (d := 124) (up_cons (d := 122) rfl k0) k1) ?_
   refine lcf (cl0 (vs := [Nx (10 * (i2 + 1)),Nx (i2 + 1)]) ut4.ok rfl rfl) rfl fun w β1 sb kn hw1 back => (thing_ok β1 w hw1 ((10 * (i2 + 1) : Nat) : Int) ((i2 + 1 : Nat) : Int)).mono ?_
   rintro e w' ⟨p62,c63,rfl,hw'⟩
   refine ⟨_,rfl,_,back _ _ hw',?_⟩
   clear hw1 hw' back kn sb
   refine l_nil ?_
   exact f_owes_d (up_cons (d := 124) (up_cons (d := 122) rfl k0) k1) rfl (perm_front 0 rfl)
  ·rintro f M ⟨k0,k1,-⟩ -
   have hs125 : f 125 = .agg #[Nx (10 * (i2 + 1)),.slice (thA (f 125)) (1) (thC (f 125))] := k1
   refine obS (up_cons (up_cons (d := 119) rfl k0) hs125) ?_
   refine lcR clA (fun w β1 sb kn hw1 => sameE_ok β1 w hw1 x53.id ((10 * (i2 + 1) : Nat) : Int) _ _ ((odE (i2 + 1)).comps) [(⟨10,((i2 + 1 : Nat) : Int),0,0,0⟩ : KComp)] (kn _ (k_poolS (zs := ez49) (z := (x53,(odE (i2 + 1)))) 0 rfl hp58 hm57)) (kn _ (k_flN 1 (F := CpF) (m := 1) rfl rfl))) ?_
   refine l_nil ?_
   exact f_owes_d (up_cons (up_cons (d := 119) rfl k0) hs125) (congrArg Value.bool (decide_eq_true (by rw [hxi] <;> rfl))) ((perm_front 1 rfl).trans (perm_front 1 rfl))
  ·rintro f M ⟨k0,-⟩ -
   exact obE ont
  rintro fa64 ⟨-,-,-,-,-,-,-,-,k8,-⟩ ⟨j0,j1,j2,j3,j4,j5,j6,-⟩
  refine fre ?_
  refine f_rebase (d := 5) j0 (f_rebase (d := 7) j1 (f_rebase (d := 9) j2 (f_rebase (d := 12) j3 (f_rebase (d := 112) j4 (f_rebase (d := 113) j5 ?_)))))
  refine f_rebase (d := 114) j6 (f_rebase (d := 127) k8 (f_then (c_no rfl (c_skip (f_block (f_then (c_region ?_)))))))
  refine lv (v := Nx (i2 + 1)) (e_add rfl rfl (i64n (by omega) (by omega))) (lE omi (l_nil (f_mask [false,true,true,true,true,true,true,false] rfl ?_)))
  exact f_cut ⟨i2 + 1,⟨⟨rfl,rfl,rfl,rfl,rfl,rfl,rfl⟩,rfl,(by omega)⟩,(show t - (i2 + 1) < t - i2 from by omega)⟩
 refine c_exit (f_then_exit (f_then_exit (f_exit (fts ?_))))
 rcases Nat.eq_zero_or_pos t with ht0 | ht0
 ·refine c_region (lE omp (l_call rfl rfl rfl (cl0 (vs := [pp G4 0]) ut7.ok rfl rfl) ?_))
  intro w hw
  replace hw := hw.perm (L' := _ :: _ :: _ :: _ :: _ :: _ :: []) (by exact ((((((perm_front 5 rfl).trans (perm_front 5 rfl)).trans (perm_front 5 rfl)).trans (perm_front 4 rfl)).trans (perm_front 4 rfl)).trans (perm_front 5 rfl)))
  obtain ⟨β1,sb,kn,hw1,back⟩ := St.frame (L := [_]) (M := _ :: _ :: _ :: _ :: _ :: []) hw
  refine ((msgsG_ok β1 w G4 S3 n2 (odB t) true hw1).mono fun _ _ z => shownM (L' := ([] : List KMs)) (by rw [ht0]; exact odB_msgs0) z).mono ?_
  rintro e w' ⟨p65,c66,rfl,hw'⟩
  refine ⟨_,rfl,_,back _ _ hw',?_⟩
  clear hw hw1 hw' back kn sb
  refine lE oas (lnf (cs2 (c_region (lE omi (lE oeq_ (lnf (c_if _ rfl (fun hc67 => ?_) (fun hc67 => ?_))))))))
  ·refine csr (lE oms (lE oln (lE oeq_ (lE omb (l_split (s := 136) rfl (fun h => ?_) (fun h => ?_))))))
   rotate_left; exact absurd (by first | omega | decide) h
   refine g_call rfl rfl rfl rfl rfl (cl0 (vs := []) ut25.ok rfl rfl) ?_
   intro w hw
   obtain ⟨β1,sb,kn,hw1,back⟩ := St.frame_all hw
   refine (awake_ok β1 w hw1 (Cs.mono _ _ _ _ sb hG)).mono ?_
   rintro e w' ⟨rfl,hw'⟩
   refine ⟨_,rfl,_,back _ _ hw',?_⟩
   clear hw hw1 hw' back kn sb
   refine lE oktb (lE oab (lnf (c_ret (f_then_ret (ret1 Tryz.results3 rfl ?_)))))
   intro w hw
   exact ⟨rfl,st_mask [false,false,false,false,false,false,false] rfl hw⟩
  exact absurd (by omega) hc67
 refine c_region (lE omp (l_call rfl rfl rfl (cl0 (vs := [pp G4 0]) ut7.ok rfl rfl) ?_))
 intro w hw
 replace hw := hw.perm (L' := _ :: _ :: _ :: _ :: _ :: _ :: []) (by exact ((((((perm_front 5 rfl).trans (perm_front 5 rfl)).trans (perm_front 5 rfl)).trans (perm_front 4 rfl)).trans (perm_front 4 rfl)).trans (perm_front 5 rfl)))
 obtain ⟨β1,sb,kn,hw1,back⟩ := St.frame (L := [_]) (M := _ :: _ :: _ :: _ :: _ :: []) hw
 refine ((msgsG_ok β1 w G4 S3 n2 (odB t) true hw1).mono fun _ _ z => shownM (L' := [odK t]) (odB_msgs (by omega)) z).mono ?_
 rintro e w' ⟨p68,c69,rfl,hw'⟩
 refine ⟨_,rfl,_,back _ _ hw',?_⟩
 clear hw hw1 hw' back kn sb
 refine lE oas (lnf (cs2 (c_region (lE omi (lE oeq_ (lnf (c_if _ rfl (fun hc70 => ?_) (fun hc70 => ?_))))))))
 ·exact absurd hc70 (by omega)
 refine csk (cs2 (c_openMsgs rfl fun oz71 hoz72 hoh73 => ?_))
 have hoz72l : oz71.length = [odK t].length := by rw [← hoz72,List.length_map]
 have hoz72k : (oz71.map Prod.fst).length = oz71.length := List.length_map _
 have hoz72n : oz71.length = 1 := hoz72l
 refine rbs 19 (v := sB p68 oz71 c69) (show (sB p68 [odK t] c69 : Value) = sB p68 oz71 c69 from congrArg (fun z => Value.slice p68 z c69) hoz72l.symm) ?_
 obtain ⟨x74,hx75⟩ : ∃ x_,(oz71.map Prod.fst)[0]? = some x_ := ⟨_,List.getElem?_eq_getElem (by first | omega | decide)⟩
 obtain ⟨s76,hs77,hm78,hp79⟩ := msg_at hoz72 hoh73 hx75
 injection hs77 with hs77
 subst hs77
 have hxn : x74.number = ((t : Nat) : Int) := hm78.number
 have hxa : x74.ack = true := hm78.ack
 refine c_region (lE oms (lE oln (lE onq (lE omb (l_split (s := 142) rfl (fun h => ?_) (fun h => ?_))))))
 exact absurd h (fun q => q (by first | omega | decide))
 refine gE oms ?_
 refine g_val (v := .pointer (some ((ba p68).add (0 * 6)))) rfl rfl rfl rfl rfl (e_indexFlN 0 (F := MgF) rfl (List.length_map _).symm rfl ut12 (by omega) rfl) ?_
 refine gE ofd ?_
 refine g_val (v := Ix (x74.number)) rfl rfl rfl rfl rfl (e_load1 ut16.ok rfl (k_flPart 0 (F := MgF) (o := 2) (us := [Ix (x74.number)]) rfl hx75 rfl)) ?_
 refine gE omi (gE onq (lE okfb (lE omb (l_split (s := 150) rfl (fun h => ?_) (fun h => ?_)))))
 exact absurd h (fun q => q (by first | omega | decide))
 refine gE oms ?_
 refine g_val (v := .pointer (some ((ba p68).add (0 * 6)))) rfl rfl rfl rfl rfl (e_indexFlN 0 (F := MgF) rfl (List.length_map _).symm rfl ut12 (by omega) rfl) ?_
 refine gE ofd ?_
 refine g_val (v := .bool (x74.ack)) rfl rfl rfl rfl rfl (e_load1 ut27.ok rfl (k_flPart 0 (F := MgF) (o := 3) (us := [.bool (x74.ack)]) rfl hx75 rfl)) ?_
 refine gE ont (lE okfb (lE omb (l_splitb (s := 157) (b := !x74.ack) rfl (fun h => ?_) (fun h => ?_))))
 (rw [(show (!x74.ack) = false by rw [hxa]; rfl)] at h; cases h)
 refine gE omp (gE oms ?_)
 refine g_val (v := .pointer (some ((ba p68).add (0 * 6)))) rfl rfl rfl rfl rfl (e_indexFlN 0 (F := MgF) rfl (List.length_map _).symm rfl ut12 (by omega) rfl) ?_
 refine g_val (v := .agg #[Ix (x74.src),Ix (x74.to),Ix (x74.number),.bool (x74.ack),Ix (x74.id),.slice x74.p (x74.n) x74.c]) rfl rfl rfl rfl rfl (e_load ut13.ok rfl (k_flAt 0 (F := MgF) rfl hx75) rfl) ?_
 refine g_call rfl rfl rfl rfl rfl (cl0 (vs := [pp G2 0,.agg #[Ix (x74.src),Ix (x74.to),Ix (x74.number),.bool (x74.ack),Ix (x74.id),.slice x74.p (x74.n) x74.c]]) ut17.ok rfl rfl) ?_
 intro w hw
 replace hw := hw.perm (L' := _ :: _ :: _ :: _ :: _ :: _ :: _ :: _ :: []) (by exact ((((((((perm_front 6 rfl).trans (perm_front 6 rfl)).trans (perm_front 6 rfl)).trans (perm_front 6 rfl)).trans (perm_front 6 rfl)).trans (perm_front 6 rfl)).trans (perm_front 6 rfl)).trans (perm_front 7 rfl)))
 obtain ⟨β1,sb,kn,hw1,back⟩ := St.frame (L := [_]) (M := _ :: _ :: _ :: _ :: _ :: _ :: _ :: []) hw
 refine ((gtakeH_ok β1 w (Cs.mono _ _ _ _ sb hG) G2 S1 n1 (odA j) true hw1 (by omega) x74 (odK t) hm78 (kn _ (k_poolS (zs := (MPool.e oz71)) (z := (x74.eh,(odK t).e)) 1 rfl hp79 hm78.eh))).mono fun _ _ z => act_yes (N' := (n1 + 300)) (Y := (odA2 j t)) (odA_ack (by omega) (by omega)) (odA_ack2 (by omega)) (Nat.le_refl _) z).mono ?_
 rintro e w' ⟨rfl,hw'⟩
 refine ⟨_,rfl,_,back _ _ hw',?_⟩
 clear hw hw1 hw' back kn sb
 refine gE onq (lE okfb (lnf (c_no rfl (csk (c_seq ?_)))))
 have hol2 := odA2_len (k := j) (t := t)
 refine c_region (lE omp (l_call rfl rfl rfl (cl0 (vs := [pp G2 0]) ut28.ok rfl rfl) ?_))
 intro w hw
 replace hw := hw.perm (L' := _ :: _ :: _ :: _ :: _ :: _ :: _ :: _ :: []) (by exact ((((((((perm_front 7 rfl).trans (perm_front 7 rfl)).trans (perm_front 7 rfl)).trans (perm_front 7 rfl)).trans (perm_front 7 rfl)).trans (perm_front 7 rfl)).trans (perm_front 7 rfl)).trans (perm_front 7 rfl)))
 obtain ⟨β1,sb,kn,hw1,back⟩ := St.frame (L := [_]) (M := _ :: _ :: _ :: _ :: _ :: _ :: _ :: []) hw
 refine ((outG_ok β1 w G2 S1 (n1 + 300) (odA2 j t) true hw1).mono fun _ _ z => shownM (L' := (odA2 j t).out) rfl z).mono ?_
 rintro e w' ⟨p80,c81,rfl,hw'⟩
 refine ⟨_,rfl,_,back _ _ hw',?_⟩
 clear hw hw1 hw' back kn sb
 refine lE oln (lE omi (lE omi (lE omn (lE oeq_ (lE omb (l_split (s := 172) rfl (fun h => ?_) (fun h => ?_)))))))
 rotate_left; exact absurd (by first | omega | decide) h
 refine g_call rfl rfl rfl rfl rfl (cl0 (vs := []) ut25.ok rfl rfl) ?_
 intro w hw
 obtain ⟨β1,sb,kn,hw1,back⟩ := St.frame_all hw
 refine (awake_ok β1 w hw1 (Cs.mono _ _ _ _ sb hG)).mono ?_
 rintro e w' ⟨rfl,hw'⟩
 refine ⟨_,rfl,_,back _ _ hw',?_⟩
 clear hw hw1 hw' back kn sb
 refine lE oktb (lE oab (lnf (c_ret (ret1 Tryz.results3 rfl ?_))))
 intro w hw
 exact ⟨rfl,st_mask [false,false,false,false,false,false,false,false,false] rfl hw⟩
end Go.Proofs
