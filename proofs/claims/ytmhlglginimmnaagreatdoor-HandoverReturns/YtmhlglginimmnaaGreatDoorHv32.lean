/-
 HandoverReturns: walked. Printed by a program of my own.
-/
import Derived.Test.YtmhlglginimmnaaGreatDoorHv28
import Derived.Test.YtmhlglginimmnaaGreatDoorHvNetB
import Derived.Test.YtmhlglginimmnaaGreatDoorSlA
import Derived.Test.YtmhlglginimmnaaGreatDoorSlSortF
set_option linter.unusedVariables false
set_option linter.unusedSimpArgs false
namespace Go.Proofs
open Go Go.Sl Go.Hv Go.Jn
instance vb0 : ZerC Tryz.prog 46 (.agg #[.pointer none, .pointer none, .pointer none, .pointer none, .pointer none, .pointer none]) := ⟨by kernel_rfl⟩
instance vb1 : CfC Tryz.prog 10 := ⟨by kernel_rfl⟩
instance vb2 : CfC Tryz.prog 9 := ⟨by kernel_rfl⟩
instance vb3 : ArrC Tryz.prog 46 6 23 1 := ⟨by kernel_rfl⟩
instance vb4 : TyC Tryz.prog 23 false 1 := ⟨by kernel_rfl⟩
instance vb5 : CfC Tryz.prog 12 := ⟨by kernel_rfl⟩
instance vb6 : CfC Tryz.prog 11 := ⟨by kernel_rfl⟩
instance vb7 : UndC Tryz.prog 22 5 := ⟨by kernel_rfl⟩
theorem vb8 : slB Tryz.prog 22 5 1 = true := by kernel_rfl
instance vb9 : TyC Tryz.prog 5 false 1 := ⟨by kernel_rfl⟩
theorem vb10 : Tryz.prog.underlying 5 = some (.int .u8) := by kernel_rfl
theorem vb11 : Tryz.prog.underlying 3 = some (.int .i64) := by kernel_rfl
instance vb12 : CfC Tryz.prog 13 := ⟨by kernel_rfl⟩
instance vb13 : TyC Tryz.prog 46 true 6 := ⟨by kernel_rfl⟩
instance vb14 : CfC Tryz.prog 14 := ⟨by kernel_rfl⟩
instance vb15 : UndC Tryz.prog 35 38 := ⟨by kernel_rfl⟩
theorem vb16 : slB Tryz.prog 35 38 6 = true := by kernel_rfl
instance vb17 : TyC Tryz.prog 38 true 6 := ⟨by kernel_rfl⟩
instance vb18 : ZerC Tryz.prog 38 (.agg #[.int .i64 (0), .int .i64 (0), .int .i64 (0), .bool false, .int .i64 (0), .slice none 0 0]) := ⟨by kernel_rfl⟩
instance vb19 : FldC Tryz.prog 38 1 1 1 false := ⟨by kernel_rfl⟩
instance vb20 : TyC Tryz.prog 3 false 1 := ⟨by kernel_rfl⟩
instance vb21 : CfC Tryz.prog 15 := ⟨by kernel_rfl⟩
instance vb22 : CfC Tryz.prog 21 := ⟨by kernel_rfl⟩
instance vb23 : CfC Tryz.prog 16 := ⟨by kernel_rfl⟩
instance vb24 : CfC Tryz.prog 20 := ⟨by kernel_rfl⟩
instance vb25 : UndC Tryz.prog 40 32 := ⟨by kernel_rfl⟩
theorem vb26 : Tryz.prog.underlying 4 = some .bool := by kernel_rfl
theorem vb27 : slB Tryz.prog 40 32 2 = true := by kernel_rfl
instance vb28 : TyC Tryz.prog 32 true 2 := ⟨by kernel_rfl⟩
instance vb29 : CfC Tryz.prog 18 := ⟨by kernel_rfl⟩
instance vb30 : CfC Tryz.prog 19 := ⟨by kernel_rfl⟩
set_option maxHeartbeats 4000000 in
theorem returns_ok (β : Base) (w : World) (hw : St β [] w) (hG : GRng β) (v : Value) (xs : List UInt8) (hs : Sl U8R β.heap v xs) : Ret Tryz.prog 4 #[v] β w (.bool true) := by
 obtain ⟨va,vc,rfl,vl,vm,ve⟩ := hs.get
 refine enter (n := 143) Tryz.func4 rfl Tryz.ntmps4 rfl ?_ hw
 refine csr (lE oab (lnc (alE fun b1 => lnf (cs2 (c_region (lE omi (lnf (c_block (c_unroll 7 (un_succ 6 (csr (lE olt (lnf (c_seq (c_yes rfl (csk ?_))))))))))))))))
 refine c_seq (c_block (csr (lE omi (lE oai (lnc (lE omi (lE opl ?_)))))))
 refine lcf (cl0 (vs := []) vb1.ok rfl rfl) rfl fun w β1 sb kn hw1 back => (empty_ok β1 w hw1 1 (by decide)).mono ?_
 rintro e w' ⟨S2,rfl,hw'⟩
 refine ⟨_,rfl,_,back _ _ hw',?_⟩
 clear hw1 hw' back kn sb
 refine l_call rfl rfl rfl (cl0 (vs := [.int .i64 (1),pp S2 0]) vb2.ok rfl rfl) ?_
 intro w hw
 replace hw := hw.perm (L' := _ :: _ :: []) (by exact ((perm_front 1 rfl).trans (perm_front 1 rfl)))
 obtain ⟨β1,sb,kn,hw1,back⟩ := St.frame (L := [_]) (M := _ :: []) hw
 refine ((gopen_ok β1 w S2 0 (freshG 1) true hw1 (by decide)).mono fun _ _ z => open_yes z).mono ?_
 rintro e w' ⟨G3,rfl,hw'⟩
 refine ⟨_,rfl,_,back _ _ hw',?_⟩
 clear hw hw1 hw' back kn sb
 refine lE omt (lE oxp (lE oxi (lE oap (lE oai (lnf (cs2 (c_region (lE omi (lE onq (lnf (c_no rfl (csk (c_region (lE omi (lE omp ?_)))))))))))))))
 refine lv (v := pp b1 0) (e_indexArrK (b := b1) (o := 0) (k := 0) rfl rfl vb3.ok (by decide)) ?_
 refine lu (mS 1 (#[pp G3 0,.pointer none,.pointer none,.pointer none,.pointer none,.pointer none])) (l_nil (f_block (f_then (c_region (lE opl ?_)))))
 refine lE omi (l_nil (f_cut (un_succ 5 (csr (lE olt (lnf (c_seq (c_yes rfl (csk (c_seq (c_block (csr (lE omi (lE oai (lnc (lE omi (lE opl ?_)))))))))))))))))
 refine lcf (cl0 (vs := []) vb1.ok rfl rfl) rfl fun w β1 sb kn hw1 back => (empty_ok β1 w hw1 2 (by decide)).mono ?_
 rintro e w' ⟨S4,rfl,hw'⟩
 refine ⟨_,rfl,_,back _ _ hw',?_⟩
 clear hw1 hw' back kn sb
 refine l_call rfl rfl rfl (cl0 (vs := [.int .i64 (2),pp S4 0]) vb2.ok rfl rfl) ?_
 intro w hw
 replace hw := hw.perm (L' := _ :: _ :: _ :: []) (by exact (((perm_front 2 rfl).trans (perm_front 2 rfl)).trans (perm_front 2 rfl)))
 obtain ⟨β1,sb,kn,hw1,back⟩ := St.frame (L := [_]) (M := _ :: _ :: []) hw
 refine ((gopen_ok β1 w S4 0 (freshG 2) true hw1 (by decide)).mono fun _ _ z => open_yes z).mono ?_
 rintro e w' ⟨G5,rfl,hw'⟩
 refine ⟨_,rfl,_,back _ _ hw',?_⟩
 clear hw hw1 hw' back kn sb
 refine lE omt (lE oxp (lE oxi (lE oap (lE oai (lnf (cs2 (c_region (lE omi (lE onq (lnf (c_no rfl (csk (c_region (lE omi (lE omp ?_)))))))))))))))
 refine lv (v := pp b1 1) (e_indexArrK (b := b1) (o := 0) (k := 1) rfl rfl vb3.ok (by decide)) ?_
 refine lu (mS 2 (#[pp G3 0,pp G5 0,.pointer none,.pointer none,.pointer none,.pointer none])) (l_nil (f_block (f_then (c_region (lE opl (lE omi ?_))))))
 refine l_nil (f_cut (un_succ 4 (csr (lE olt (lnf (c_seq (c_yes rfl (csk (c_seq (c_block (csr (lE omi (lE oai (lnc (lE omi (lE opl ?_))))))))))))))))
 refine lcf (cl0 (vs := []) vb1.ok rfl rfl) rfl fun w β1 sb kn hw1 back => (empty_ok β1 w hw1 3 (by decide)).mono ?_
 rintro e w' ⟨S6,rfl,hw'⟩
 refine ⟨_,rfl,_,back _ _ hw',?_⟩
 clear hw1 hw' back kn sb
 refine l_call rfl rfl rfl (cl0 (vs := [.int .i64 (3),pp S6 0]) vb2.ok rfl rfl) ?_
 intro w hw
 replace hw := hw.perm (L' := _ :: _ :: _ :: _ :: []) (by exact ((((perm_front 3 rfl).trans (perm_front 3 rfl)).trans (perm_front 3 rfl)).trans (perm_front 3 rfl)))
 obtain ⟨β1,sb,kn,hw1,back⟩ := St.frame (L := [_]) (M := _ :: _ :: _ :: []) hw
 refine ((gopen_ok β1 w S6 0 (freshG 3) true hw1 (by decide)).mono fun _ _ z => open_yes z).mono ?_
 rintro e w' ⟨G7,rfl,hw'⟩
 refine ⟨_,rfl,_,back _ _ hw',?_⟩
 clear hw hw1 hw' back kn sb
 refine lE omt (lE oxp (lE oxi (lE oap (lE oai (lnf (cs2 (c_region (lE omi (lE onq (lnf (c_no rfl (csk (c_region (lE omi (lE omp ?_)))))))))))))))
 refine lv (v := pp b1 2) (e_indexArrK (b := b1) (o := 0) (k := 2) rfl rfl vb3.ok (by decide)) ?_
 refine lu (mS 3 (#[pp G3 0,pp G5 0,pp G7 0,.pointer none,.pointer none,.pointer none])) (l_nil (f_block (f_then (c_region (lE opl (lE omi (l_nil ?_)))))))
 refine f_cut (un_succ 3 (csr (lE olt (lnf (c_seq (c_yes rfl (csk (c_seq (c_block (csr (lE omi (lE oai (lnc (lE omi (lE opl ?_)))))))))))))))
 refine lcf (cl0 (vs := []) vb1.ok rfl rfl) rfl fun w β1 sb kn hw1 back => (empty_ok β1 w hw1 4 (by decide)).mono ?_
 rintro e w' ⟨S8,rfl,hw'⟩
 refine ⟨_,rfl,_,back _ _ hw',?_⟩
 clear hw1 hw' back kn sb
 refine l_call rfl rfl rfl (cl0 (vs := [.int .i64 (4),pp S8 0]) vb2.ok rfl rfl) ?_
 intro w hw
 replace hw := hw.perm (L' := _ :: _ :: _ :: _ :: _ :: []) (by exact (((((perm_front 4 rfl).trans (perm_front 4 rfl)).trans (perm_front 4 rfl)).trans (perm_front 4 rfl)).trans (perm_front 4 rfl)))
 obtain ⟨β1,sb,kn,hw1,back⟩ := St.frame (L := [_]) (M := _ :: _ :: _ :: _ :: []) hw
 refine ((gopen_ok β1 w S8 0 (freshG 4) true hw1 (by decide)).mono fun _ _ z => open_yes z).mono ?_
 rintro e w' ⟨G9,rfl,hw'⟩
 refine ⟨_,rfl,_,back _ _ hw',?_⟩
 clear hw hw1 hw' back kn sb
 refine lE omt (lE oxp (lE oxi (lE oap (lE oai (lnf (cs2 (c_region (lE omi (lE onq (lnf (c_no rfl (csk (c_region (lE omi (lE omp ?_)))))))))))))))
 refine lv (v := pp b1 3) (e_indexArrK (b := b1) (o := 0) (k := 3) rfl rfl vb3.ok (by decide)) ?_
 refine lu (mS 4 (#[pp G3 0,pp G5 0,pp G7 0,pp G9 0,.pointer none,.pointer none])) (l_nil (f_block (f_then (c_region (lE opl (lE omi (l_nil (f_cut ?_))))))))
 refine un_succ 2 (csr (lE olt (lnf (c_seq (c_yes rfl (csk (c_seq (c_block (csr (lE omi (lE oai (lnc (lE omi (lE opl ?_))))))))))))))
 refine lcf (cl0 (vs := []) vb1.ok rfl rfl) rfl fun w β1 sb kn hw1 back => (empty_ok β1 w hw1 5 (by decide)).mono ?_
 rintro e w' ⟨S10,rfl,hw'⟩
 refine ⟨_,rfl,_,back _ _ hw',?_⟩
 clear hw1 hw' back kn sb
 refine l_call rfl rfl rfl (cl0 (vs := [.int .i64 (5),pp S10 0]) vb2.ok rfl rfl) ?_
 intro w hw
 replace hw := hw.perm (L' := _ :: _ :: _ :: _ :: _ :: _ :: []) (by exact ((((((perm_front 5 rfl).trans (perm_front 5 rfl)).trans (perm_front 5 rfl)).trans (perm_front 5 rfl)).trans (perm_front 5 rfl)).trans (perm_front 5 rfl)))
 obtain ⟨β1,sb,kn,hw1,back⟩ := St.frame (L := [_]) (M := _ :: _ :: _ :: _ :: _ :: []) hw
 refine ((gopen_ok β1 w S10 0 (freshG 5) true hw1 (by decide)).mono fun _ _ z => open_yes z).mono ?_
 rintro e w' ⟨G11,rfl,hw'⟩
 refine ⟨_,rfl,_,back _ _ hw',?_⟩
 clear hw hw1 hw' back kn sb
 refine lE omt (lE oxp (lE oxi (lE oap (lE oai (lnf (cs2 (c_region (lE omi (lE onq (lnf (c_no rfl (csk (c_region (lE omi (lE omp ?_)))))))))))))))
 refine lv (v := pp b1 4) (e_indexArrK (b := b1) (o := 0) (k := 4) rfl rfl vb3.ok (by decide)) ?_
 refine lu (mS 5 (#[pp G3 0,pp G5 0,pp G7 0,pp G9 0,pp G11 0,.pointer none])) (l_nil (f_block (f_then (c_region (lE opl (lE omi (l_nil (f_cut ?_))))))))
 refine un_succ 1 (csr (lE olt (lnf (c_seq (c_yes rfl (csk (c_seq (c_block (csr (lE omi (lE oai (lnc (lE omi (lE opl ?_))))))))))))))
 refine lcf (cl0 (vs := []) vb1.ok rfl rfl) rfl fun w β1 sb kn hw1 back => (empty_ok β1 w hw1 6 (by decide)).mono ?_
 rintro e w' ⟨S12,rfl,hw'⟩
 refine ⟨_,rfl,_,back _ _ hw',?_⟩
 clear hw1 hw' back kn sb
 refine l_call rfl rfl rfl (cl0 (vs := [.int .i64 (6),pp S12 0]) vb2.ok rfl rfl) ?_
 intro w hw
 replace hw := hw.perm (L' := _ :: _ :: _ :: _ :: _ :: _ :: _ :: []) (by exact (((((((perm_front 6 rfl).trans (perm_front 6 rfl)).trans (perm_front 6 rfl)).trans (perm_front 6 rfl)).trans (perm_front 6 rfl)).trans (perm_front 6 rfl)).trans (perm_front 6 rfl)))
 obtain ⟨β1,sb,kn,hw1,back⟩ := St.frame (L := [_]) (M := _ :: _ :: _ :: _ :: _ :: _ :: []) hw
 refine ((gopen_ok β1 w S12 0 (freshG 6) true hw1 (by decide)).mono fun _ _ z => open_yes z).mono ?_
 rintro e w' ⟨G13,rfl,hw'⟩
 refine ⟨_,rfl,_,back _ _ hw',?_⟩
 clear hw hw1 hw' back kn sb
 refine lE omt (lE oxp (lE oxi (lE oap (lE oai (lnf (cs2 (c_region (lE omi (lE onq (lnf (c_no rfl (csk (c_region (lE omi (lE omp ?_)))))))))))))))
 refine lv (v := pp b1 5) (e_indexArrK (b := b1) (o := 0) (k := 5) rfl rfl vb3.ok (by decide)) ?_
 refine lu (mS 6 (#[pp G3 0,pp G5 0,pp G7 0,pp G9 0,pp G11 0,pp G13 0])) (l_nil (f_block (f_then (c_region (lE opl (lE omi (l_nil (f_cut (un_succ 0 ?_)))))))))
 refine csr (lE olt (lnf (c_seq (c_no rfl (c_exit (f_then_exit (f_then_exit (f_exit (fts (c_pi [5,4,3,2,1,0,6] 7 rfl (by kernel_rfl) ?_))))))))))
 refine c_merge (L := [gateR G3 S2 (freshG 1) 0 true,gateR G5 S4 (freshG 2) 0 true,gateR G7 S6 (freshG 3) 0 true,gateR G9 S8 (freshG 4) 0 true,gateR G11 S10 (freshG 5) 0 true,gateR G13 S12 (freshG 6) 0 true]) (M := [pt b1 (.cells #[pp G3 0,pp G5 0,pp G7 0,pp G9 0,pp G11 0,pp G13 0] 46)]) (r := netR [G3,G5,G7,G9,G11,G13] [S2,S4,S6,S8,S10,S12] (freshN 6) 0 true) (fun _ h => h) ?_
 obtain ⟨Gs,hGs⟩ : ∃ z : List Nat,z = [G3,G5,G7,G9,G11,G13] := ⟨_,rfl⟩
 obtain ⟨Ss,hSs⟩ : ∃ z : List Nat,z = [S2,S4,S6,S8,S10,S12] := ⟨_,rfl⟩
 have hgl : Gs.length = 6 := by rw [hGs]; rfl
 have hsl : Ss.length = 6 := by rw [hSs]; rfl
 refine c_re (L' := [netR Gs Ss (freshN 6) 0 true,pt b1 (.cells #[pp G3 0,pp G5 0,pp G7 0,pp G9 0,pp G11 0,pp G13 0] 46)]) (by rw [hGs,hSs]) ?_
 refine c_freeze2 (M := [netR Gs Ss (freshN 6) 0 true]) (K := [pt b1 (.cells #[pp G3 0,pp G5 0,pp G7 0,pp G9 0,pp G11 0,pp G13 0] 46)]) rfl (fun βf ext1 kn1 bk1 => ?_)
 replace hG := Cs.mono _ _ _ _ ext1.sub hG
 have hA : Cs βf.heap ⟨b1,0,none⟩ (Gs.map gp) := by rw [hGs]; exact kn1 _ (k_pt 0 rfl rfl)
 have hAf : Cs βf.heap ⟨b1,0,none⟩ (Gs.flatMap PtF.enc) := by rw [hGs]; exact kn1 _ (k_pt 0 rfl rfl)
 replace hs := Sl.mono _ _ _ _ _ ext1.sub hs
 obtain ⟨-,-,-,ve⟩ := hs.parts
 obtain ⟨hr0,hr1⟩ := ret_start
 refine c_region (lE oai (lE oai (lnf (cs2 ?_))))
 obtain ⟨G14,hg15⟩ : ∃ q_,Gs[0]? = some q_ := ⟨_,List.getElem?_eq_getElem (by omega)⟩
 refine cnz [sv 36 (.pointer (some ((⟨b1,0,none⟩ : Addr).add (0 * 1)))) [] [] [0],sv 37 (pp G14 0) [0] [0] [],sv 38 (.int .i64 (1)) [] [] [1],⟨[2],[2],[],[39],fun f => f 39 = .agg #[.int .i64 (8),.slice (thA (f 39)) (1) (thC (f 39))]⟩,sv 40 (.int .i64 (0)) [0,1,2,3] [1,3] [],sv 41 (.bool false) [0,1,2,3,4] [4] []] [(some 4,[4])] [⟨(some 3),none,[4],[39],fun f => rowF CpF 100 (thA (f 39)) (thC (f 39)) [(⟨10,1,0,0,0⟩ : KComp)]⟩,⟨(some 4),none,[],[],fun _ => netR Gs Ss (ptX (freshN 6) 0 1) 300 true⟩] [(3,pp b1 0),(8,.int .i64 (1)),(0,sB va xs (vc)),(7,.int .i64 (0))] [2,0,3,1] ⟨rfl,rfl,rfl,rfl,trivial⟩ ⟨?_,?_,?_,?_,?_,?_,trivial⟩ ?_
 ·rintro f M - ⟨i0,-⟩
  exact ob0 (up_cons (d := 3) rfl i0) rfl (e_indexArrI (a := ⟨b1,0,none⟩) (k := 0) rfl rfl vb3.ok (by omega)) (.refl _)
 ·rintro f M ⟨k0,-⟩ -
  exact ob0 (up_cons (d := 36) rfl k0) rfl (e_load1 vb4.ok rfl (Knows.of_base (Cs.mono _ _) (cs_fl (F := PtF) hAf hg15))) (.refl _)
 ·rintro f M - ⟨i0,-⟩
  exact obE omi
 ·rintro f M ⟨k0,-⟩ -
  refine obS (up_cons (d := 38) rfl k0) ?_
  refine lcf (cl0 (vs := [.int .i64 (8),.int .i64 (1)]) vb5.ok rfl rfl) rfl fun w β1 sb kn hw1 back => (thing_ok β1 w hw1 8 1).mono ?_
  rintro e w' ⟨p18,c19,rfl,hw'⟩
  refine ⟨_,rfl,_,back _ _ hw',?_⟩
  clear hw1 hw' back kn sb
  refine l_nil ?_
  exact f_owes_d (up_cons (d := 38) rfl k0) rfl (perm_front 0 rfl)
 ·rintro f M ⟨k0,k1,-⟩ -
  have hs39 : f 39 = .agg #[.int .i64 (8),.slice (thA (f 39)) (1) (thC (f 39))] := k1
  refine obS (up_cons (up_cons (d := 37) rfl k0) hs39) ?_
  refine l_call rfl rfl rfl (cl0 (vs := [pp G14 0,.agg #[.int .i64 (8),.slice (thA (f 39)) (1) (thC (f 39))]]) vb6.ok rfl rfl) ?_
  intro w hw
  replace hw := hw.perm (L' := _ :: _ :: M) (by exact ((perm_front 1 rfl).trans (perm_front 1 rfl)))
  obtain ⟨β1,sb,kn,hw1,back⟩ := St.frame (L := [_]) (M := _ :: M) hw
  refine (net_act hw1 ⟨hgl,hsl,(net_fresh (n := 6) (by decide)).len⟩ hg15 (.inr ⟨hr0,rfl,rfl⟩) fun β2 w S sb2 hw2 => gput_ok β2 w (Cs.mono _ _ _ _ sb2 (Cs.mono _ _ _ _ sb hG)) G14 S 0 (gt (freshN 6) 0) true hw2 (by decide) (thE 8 1) _ (Sl.mono _ _ _ _ _ sb2 (kn _ (k_flN 0 (F := CpF) (m := 1) rfl rfl)))).mono ?_
  rintro e w' ⟨rfl,hw'⟩
  refine ⟨_,rfl,_,back _ _ hw',?_⟩
  clear hw hw1 hw' back kn sb
  refine l_nil ?_
  exact f_owes_d (up_cons (up_cons (d := 37) rfl k0) hs39) rfl ((perm_front 0 rfl).trans (perm_front 1 rfl))
 ·rintro f M ⟨k0,-⟩ -
  exact obE onq
 rintro fa20 ⟨-,-,-,-,-,k5,-⟩ ⟨j0,j1,j2,j3,-⟩
 refine fre ?_
 refine f_rebase (d := 0) j0 (f_rebase (d := 3) j1 (f_rebase (d := 7) j2 (f_rebase (d := 8) j3 (f_rebase (d := 41) k5 (f_then (c_no rfl (csk (cs2 ?_))))))))
 refine c_region (lE oms (lE oms (lE oln ?_)))
 refine lv (v := Nx (min xs.length 30)) (ev_eq (congrArg (Value.int .i64) (by omega)) (e_min (a := ((xs.length : Nat) : Int)) (b := (30 : Int)) rfl rfl)) ?_
 obtain ⟨zs21,hz22⟩ : ∃ zs,zs = (xs.take (min xs.length 30)) := ⟨_,rfl⟩
 have zl23 : zs21.length = min (min xs.length 30) (xs).length - 0 := by rw [hz22]; simp; try omega
 have ze24 := (Elems.take (min xs.length 30) ve)
 rw [← hz22] at ze24
 refine lv (v := .slice va (zs21.length) (vc)) (ev_eq (by rw [show zs21.length = min xs.length 30 by omega]) (e_slice_hi (a := va) (len := xs.length) (cap := vc) (h := min xs.length 30) vb8 rfl rfl (by omega))) ?_
 refine lE oln (lE omi (lnf (c_block (c_mask [false,true] rfl ?_))))
 refine c_loop (fun (x_ : Nat × Nat × Int × List KG × Nat) f L => match x_ with | (i,at_,tg,Xs,n1) => (f 3 = pp b1 0 ∧ f 7 = Nx (at_) ∧ f 8 = Ix (tg) ∧ f 46 = sB va zs21 (vc) ∧ f 47 = Nx (zs21.length) ∧ f 48 = Nx (i)) ∧ L = [netR Gs Ss Xs n1 true] ∧ (i ≤ 30 ∧ at_ < 6 ∧ RetOk at_ tg Xs ∧ (0 ≤ tg ∧ tg ≤ 1000) ∧ n1 ≤ 300 + 300000 * i)) (fun (i,at_,tg,Xs,n1) => 30 - i) (0,0,1,(ptX (freshN 6) 0 1),300) ?_ ?_
 ·exact ⟨⟨rfl,rfl,rfl,rfl,rfl,rfl⟩,rfl,⟨Nat.zero_le _,by decide,hr1,by decide,by omega⟩⟩
 rintro ⟨i,at_,tg,Xs,n1⟩ f0 L0 ⟨⟨hs3,hs7,hs8,hs46,hs47,hs48⟩,hL,⟨hi,hat6,hret,htg,hn1⟩⟩
 subst L0
 refine rbs 3 hs3 (rbs 7 hs7 (rbs 8 hs8 (rbs 46 hs46 (rbs 47 hs47 (rbs 48 hs48 (csr (lE olt (lnf (c_seq (c_if _ rfl (fun hc25 => ?_) (fun hc25 => ?_)))))))))))
 ·refine csk (c_seq (c_block (csr (lE omi ?_))))
  obtain ⟨x26,hx27⟩ := getx zs21 i (by omega)
  obtain ⟨ha28,cs29,hc30,rfl⟩ := ze24 _ _ hx27
  refine lE (oia vb8 ha28) (lv (v := Bx (x26)) (e_load1 vb9.ok rfl (kB hc30)) (lE oai (lE oai (lnc (lE omi ?_)))))
  refine lv (v := Nx (x26.toNat)) (e_conv (a := ((x26).toNat : Int)) rfl ⟨_,vb10⟩ vb11 (i64n rfl (by have := (x26).toNat_lt; omega))) ?_
  refine lv (v := Nx (x26.toNat % 6)) (e_rem (a := ((x26.toNat : Nat) : Int)) (b := (6 : Int)) rfl rfl (by decide) (nat_tmod _ 6)) (lE oai (lnf ?_))
  refine c_seq ?_
  obtain ⟨tz,htz,htz6⟩ : ∃ tz : Nat,((tz : Nat) : Int) = ((x26.toNat % 6 : Nat) : Int) ∧ tz < 6 := ⟨_,rfl,by omega⟩
  refine rbs 11 (v := Nx tz) (show (Nx (x26.toNat % 6) : Value) = Nx tz from congrArg (Value.int .i64) htz.symm) ?_
  obtain ⟨G32,hg33⟩ : ∃ q_,Gs[at_]? = some q_ := ⟨_,List.getElem?_eq_getElem (by omega)⟩
  by_cases hat : at_ = tz
  ·subst hat
   refine c_region (lE omi ?_)
   refine lv (v := .pointer (some ((⟨b1,0,none⟩ : Addr).add (at_ * 1)))) (e_indexArrI (a := ⟨b1,0,none⟩) (k := at_) rfl rfl vb3.ok (by omega)) ?_
   refine lv (v := pp G32 0) (e_load1 vb4.ok rfl (Knows.of_base (Cs.mono _ _) (cs_fl (F := PtF) hAf hg33))) (lE omi ?_)
   refine lv (v := Nx (at_ + 1)) (e_add rfl rfl (i64n (by omega) (by omega))) ?_
   refine l_call rfl rfl rfl (cl0 (vs := [pp G32 0,.int .i64 (8),Nx (at_ + 1)]) vb12.ok rfl rfl) ?_
   intro w hw
   replace hw := hw.perm (L' := _ :: []) (by exact (perm_front 0 rfl))
   obtain ⟨β1,sb,kn,hw1,back⟩ := St.frame (L := [_]) (M := []) hw
   refine (net_no hw1 ⟨hgl,hsl,hret.net.len⟩ hg33 (ret_same hret hat6) fun β2 w S sb2 hw2 => ggive_ok β2 w (Cs.mono _ _ _ _ sb2 (Cs.mono _ _ _ _ sb hG)) G32 S n1 (gt Xs at_) true hw2 (by omega) 8 ((at_ + 1 : Nat) : Int) (by decide) ⟨by omega,by omega⟩).mono ?_
   rintro e w' ⟨rfl,hw'⟩
   refine ⟨_,rfl,_,back _ _ hw',?_⟩
   clear hw hw1 hw' back kn sb
   refine lE oai (lnf (cs2 (c_region (lE omi (lE omi (lE oeq_ (lnf (c_if _ rfl (fun hc34 => ?_) (fun hc34 => ?_)))))))))
   ·refine cs2 (c_region (lE omi (lE onq (lnf (c_no rfl (csk (c_exit (f_then_exit (f_exit (f_then (c_region ?_)))))))))))
    refine lv (v := Nx (i + 1)) (e_add rfl rfl (i64n (by omega) (by omega))) (lE omi (l_nil ?_))
    exact f_cut ⟨(i + 1,at_,tg,Xs,(n1 + 300)),⟨⟨rfl,rfl,rfl,rfl,rfl,rfl⟩,rfl,⟨by omega,hat6,hret,htg,by omega⟩⟩,(show 30 - (i + 1) < 30 - i from by omega)⟩
   exact absurd rfl hc34
  obtain ⟨hgq,hgiv,hgf⟩ := ret_give hret hat6 htz6 hat
  refine c_region (lE omi ?_)
  refine lv (v := .pointer (some ((⟨b1,0,none⟩ : Addr).add (at_ * 1)))) (e_indexArrI (a := ⟨b1,0,none⟩) (k := at_) rfl rfl vb3.ok (by omega)) ?_
  refine lv (v := pp G32 0) (e_load1 vb4.ok rfl (Knows.of_base (Cs.mono _ _) (cs_fl (F := PtF) hAf hg33))) (lE omi ?_)
  refine lv (v := Nx (tz + 1)) (e_add rfl rfl (i64n (by omega) (by omega))) ?_
  refine l_call rfl rfl rfl (cl0 (vs := [pp G32 0,.int .i64 (8),Nx (tz + 1)]) vb12.ok rfl rfl) ?_
  intro w hw
  replace hw := hw.perm (L' := _ :: []) (by exact (perm_front 0 rfl))
  obtain ⟨β1,sb,kn,hw1,back⟩ := St.frame (L := [_]) (M := []) hw
  refine (net_act hw1 ⟨hgl,hsl,hret.net.len⟩ hg33 (.inr ⟨hgq,rfl,rfl⟩) fun β2 w S sb2 hw2 => ggive_ok β2 w (Cs.mono _ _ _ _ sb2 (Cs.mono _ _ _ _ sb hG)) G32 S n1 (gt Xs at_) true hw2 (by omega) 8 ((tz + 1 : Nat) : Int) (by decide) ⟨by omega,by omega⟩).mono ?_
  rintro e w' ⟨rfl,hw'⟩
  refine ⟨_,rfl,_,back _ _ hw',?_⟩
  clear hw hw1 hw' back kn sb
  refine lE oai (lnf (cs2 (c_region (lE omi (lE omi (lE oeq_ (lnf (c_if _ rfl (fun hc35 => ?_) (fun hc35 => ?_)))))))))
  ·exact absurd hc35 (by omega)
  refine csk (cs2 (c_region (lE omi (lE onq (lnf (c_no rfl (csk (cs2 (c_region (lE omi (lnf (c_block (c_mask [true] rfl ?_)))))))))))))
  refine c_loop (fun (x_ : Nat × List KG × Nat) f L => match x_ with | (p,Zs,n2) => (f 3 = pp b1 0 ∧ f 8 = Ix (tg) ∧ f 9 = Nx (i) ∧ f 11 = Nx (tz) ∧ f 46 = sB va zs21 (vc) ∧ f 47 = Nx (zs21.length) ∧ f 48 = Nx (i) ∧ f 69 = Nx (p)) ∧ L = [netR Gs Ss Zs n2 true] ∧ (p ≤ 2 ∧ Passes 6 (gvX Xs at_ tz) p Zs ∧ n2 ≤ n1 + 300 + 140000 * p)) (fun (p,Zs,n2) => 2 - p) (0,(gvX Xs at_ tz),(n1 + 300)) ?_ ?_
  ·exact ⟨⟨rfl,rfl,rfl,rfl,rfl,rfl,rfl,rfl⟩,rfl,⟨Nat.zero_le _,rfl,by omega⟩⟩
  rintro ⟨p,Zs,n2⟩ f0 L0 ⟨⟨hs3,hs8,hs9,hs11,hs46,hs47,hs48,hs69⟩,hL,⟨hp2,hps,hn2⟩⟩
  subst L0
  refine rbs 3 hs3 (rbs 8 hs8 (rbs 9 hs9 (rbs 11 hs11 (rbs 46 hs46 (rbs 47 hs47 (rbs 48 hs48 (rbs 69 hs69 (csr (lE olt (lnf (c_seq ?_)))))))))))
  refine c_if _ rfl (fun hc36 => ?_) (fun hc36 => ?_)
  ·refine csk (c_seq (c_block (csr (lv (v := .agg (Gs.map gp).toArray) (e_load vb13.ok (a := ⟨b1,0,none⟩) rfl (kB hA) (by rw [List.length_map,hgl])) ?_))))
   refine lE omi (lnf (c_block (c_mask [true] rfl ?_)))
   refine c_loop (fun (x_ : Nat × List KG × Nat) f L => match x_ with | (ga,Ys,n3) => (f 3 = pp b1 0 ∧ f 8 = Ix (tg) ∧ f 9 = Nx (i) ∧ f 11 = Nx (tz) ∧ f 46 = sB va zs21 (vc) ∧ f 47 = Nx (zs21.length) ∧ f 48 = Nx (i) ∧ f 69 = Nx (p) ∧ f 71 = .agg (Gs.map gp).toArray ∧ f 72 = Nx (ga)) ∧ L = [netR Gs Ss Ys n3 true] ∧ (ga ≤ 6 ∧ PassTo 6 Zs Ys ga ∧ n3 ≤ n2 + 22000 * ga)) (fun (ga,Ys,n3) => 6 - ga) (0,Zs,n2) ?_ ?_
   ·exact ⟨⟨rfl,rfl,rfl,rfl,rfl,rfl,rfl,rfl,rfl,rfl⟩,rfl,⟨Nat.zero_le _,PassTo.start (Passes.net hgiv.net hps).1,by omega⟩⟩
   rintro ⟨ga,Ys,n3⟩ f0 L0 ⟨⟨hs3,hs8,hs9,hs11,hs46,hs47,hs48,hs69,hs71,hs72⟩,hL,⟨hga,hpt,hn3⟩⟩
   subst L0
   refine rbs 3 hs3 (rbs 8 hs8 (rbs 9 hs9 (rbs 11 hs11 (rbs 46 hs46 (rbs 47 hs47 (rbs 48 hs48 (rbs 69 hs69 (rbs 71 hs71 (rbs 72 hs72 (csr (lE olt ?_)))))))))))
   refine lnf (c_seq (c_if _ rfl (fun hc37 => ?_) (fun hc37 => ?_)))
   ·refine csk (c_seq (c_block (c_seq ?_)))
    have hga6 : ga < 6 := by omega
    have hml := msgs_len hpt.net hga6
    obtain ⟨G38,hg39⟩ : ∃ q_,Gs[ga]? = some q_ := ⟨_,List.getElem?_eq_getElem (by omega)⟩
    refine c_region (lv (v := pp G38 0) (e_index1 (xs := Gs.map gp) (k := ga) rfl rfl vb3.ok (by rw [List.getElem?_map,hg39]; rfl) (by omega) vb4.ok) ?_)
    refine lE oap (lnc (lE omp (l_call rfl rfl rfl (cl0 (vs := [pp G38 0]) vb14.ok rfl rfl) ?_)))
    intro w hw
    replace hw := hw.perm (L' := _ :: []) (by exact (perm_front 0 rfl))
    obtain ⟨β1,sb,kn,hw1,back⟩ := St.frame (L := [_]) (M := []) hw
    refine (net_keep (R := fun p c => msgsR p c (msgsX (gt Ys ga))) hw1 ⟨hgl,hsl,hpt.net.len⟩ hg39 fun β2 w S hw2 => (msgsG_ok β2 w G38 S n3 (gt Ys ga) true hw2).mono fun _ _ q_ => shownM (L' := (msgsX (gt Ys ga))) rfl q_).mono ?_
    rintro e w' ⟨p40,c41,rfl,hw'⟩
    refine ⟨_,rfl,_,back _ _ hw',?_⟩
    clear hw hw1 hw' back kn sb
    refine lE oln (lE omi (lnf (c_block (c_openMsgs rfl fun oz42 hoz43 hoh44 => ?_))))
    have hoz43l : oz42.length = (msgsX (gt Ys ga)).length := by rw [← hoz43,List.length_map]
    have hoz43k : (oz42.map Prod.fst).length = oz42.length := List.length_map _
    refine rbs 76 (v := sB p40 oz42 c41) (show (sB p40 (msgsX (gt Ys ga)) c41 : Value) = sB p40 oz42 c41 from congrArg (fun z => Value.slice p40 z c41) hoz43l.symm) ?_
    refine c_mask [true,true,true] rfl ?_
    refine c_loop (fun (x_ : Nat × List KG × Nat) f L => match x_ with | (j,Ws,n4) => (f 3 = pp b1 0 ∧ f 8 = Ix (tg) ∧ f 9 = Nx (i) ∧ f 11 = Nx (tz) ∧ f 46 = sB va zs21 (vc) ∧ f 47 = Nx (zs21.length) ∧ f 48 = Nx (i) ∧ f 69 = Nx (p) ∧ f 71 = .agg (Gs.map gp).toArray ∧ f 72 = Nx (ga) ∧ f 76 = sB p40 oz42 c41 ∧ f 77 = Nx ((msgsX (gt Ys ga)).length) ∧ f 78 = Nx (j)) ∧ L = [rowF MgF 38 p40 c41 (oz42.map Prod.fst),poolR (MPool.e oz42),netR Gs Ss Ws n4 true] ∧ (j ≤ (msgsX (gt Ys ga)).length ∧ PassIn 6 Ys Ws ga j ∧ n4 ≤ n3 + 300 * j)) (fun (j,Ws,n4) => (msgsX (gt Ys ga)).length - j) (0,Ys,n3) ?_ ?_
    ·exact ⟨⟨rfl,rfl,rfl,rfl,rfl,rfl,rfl,rfl,rfl,rfl,rfl,rfl,rfl⟩,rfl,⟨Nat.zero_le _,PassIn.start hpt.net ga,by omega⟩⟩
    rintro ⟨j,Ws,n4⟩ f0 L0 ⟨⟨hs3,hs8,hs9,hs11,hs46,hs47,hs48,hs69,hs71,hs72,hs76,hs77,hs78⟩,hL,⟨hj,hpi,hn4⟩⟩
    subst L0
    refine rbs 3 hs3 (rbs 8 hs8 (rbs 9 hs9 (rbs 11 hs11 (rbs 46 hs46 (rbs 47 hs47 (rbs 48 hs48 (rbs 69 hs69 (rbs 71 hs71 (rbs 72 hs72 (rbs 76 hs76 ?_))))))))))
    refine rbs 77 hs77 (rbs 78 hs78 (csr (lE olt (lnf (c_seq (c_if _ rfl (fun hc45 => ?_) (fun hc45 => ?_)))))))
    ·refine csk (c_seq (c_block (c_seq ?_)))
     obtain ⟨x46,hx47⟩ : ∃ x_,(oz42.map Prod.fst)[j]? = some x_ := ⟨_,List.getElem?_eq_getElem (by first | omega | decide)⟩
     obtain ⟨s48,hs49,hm50,hp51⟩ := msg_at hoz43 hoh44 hx47
     obtain ⟨b,Y,hb6,hbt,htk,hpn⟩ := hpi.next hga6 hs49
     have hxt : x46.to = ((b + 1 : Nat) : Int) := hm50.to.trans hbt
     obtain ⟨G52,hg53⟩ : ∃ q_,Gs[b]? = some q_ := ⟨_,List.getElem?_eq_getElem (by omega)⟩
     refine c_region (lv (v := .pointer (some ((ba p40).add (j * 6)))) (e_indexFlN 0 (F := MgF) rfl (List.length_map _).symm rfl vb16 (by omega) rfl) ?_)
     refine lv (v := .agg #[Ix (x46.src),Ix (x46.to),Ix (x46.number),.bool (x46.ack),Ix (x46.id),.slice x46.p (x46.n) x46.c]) (e_load vb17.ok rfl (k_flAt 0 (F := MgF) rfl hx47) rfl) ?_
     refine alE fun b54 => lu (mS 0 (#[Ix (x46.src),Ix (x46.to),Ix (x46.number),.bool (x46.ack),Ix (x46.id),.slice x46.p (x46.n) x46.c])) (lnf (c_seq ?_))
     refine cnz [sv 82 (pp b54 1) [] [] [0],sv 83 (Ix (x46.to)) [0] [0] [],sv 84 (Ix ((x46.to) - (1 : Int))) [0,1] [1] [],sv 85 (.pointer (some ((⟨b1,0,none⟩ : Addr).add (b * 1)))) [0,1,2] [2] [1],sv 86 (pp G52 0) [0,1,2,3] [3] [],sv 87 (.agg #[Ix (x46.src),Ix (x46.to),Ix (x46.number),.bool (x46.ack),Ix (x46.id),.slice x46.p (x46.n) x46.c]) [] [] [0],sv 88 (.int .i64 (0)) (List.range 6) [4,5] [],sv 89 (.bool false) (List.range 7) [6] []] [u1 [1,5],u0,u1 [6],(some 6,[6])] [⟨(some 6),none,[],[],fun _ => netR Gs Ss (Ws.set b Y) (n4 + 300) true⟩] [(16,pp b54 0),(3,pp b1 0),(8,Ix (tg)),(9,Nx (i)),(11,Nx (tz)),(46,sB va zs21 (vc)),(47,Nx (zs21.length)),(48,Nx (i)),(69,Nx (p)),(71,.agg (Gs.map gp).toArray),(72,Nx (ga)),(76,sB p40 oz42 c41),(77,Nx ((msgsX (gt Ys ga)).length)),(78,Nx (j))] [1,2,3,4,5,6,7,8,9,10,11,12,13] ⟨rfl,rfl,rfl,rfl,rfl,rfl,rfl,rfl,rfl,rfl,rfl,rfl,rfl,rfl,trivial⟩ ⟨?_,?_,?_,?_,?_,?_,?_,?_,trivial⟩ ?_
     ·rintro f M - ⟨i0,-⟩
      exact obE ofp
     ·rintro f M ⟨k0,-⟩ -
      exact obE (oli 0)
     ·rintro f M ⟨k0,-⟩ -
      exact obE omn
     ·rintro f M ⟨k0,-⟩ ⟨i0,-⟩
      exact ob0 (up_cons (d := 84) (up_cons (d := 3) rfl i0) k0) rfl (e_indexArrI (a := ⟨b1,0,none⟩) (k := b) rfl (show (Ix ((x46.to) - (1 : Int)) : Value) = Ix ((b : Nat) : Int) from congrArg (Value.int .i64) (by omega)) vb3.ok (by omega)) (.refl _)
     ·rintro f M ⟨k0,-⟩ -
      exact ob0 (up_cons (d := 85) rfl k0) rfl (e_load1 vb4.ok rfl (Knows.of_base (Cs.mono _ _) (cs_fl (F := PtF) hAf hg53))) (.refl _)
     ·rintro f M - ⟨i0,-⟩
      exact obE (olg 0)
     ·rintro f M ⟨k0,k1,-⟩ -
      refine obS (up_cons (d := 87) (up_cons (d := 86) rfl k0) k1) ?_
      refine l_call rfl rfl rfl (cl0 (vs := [pp G52 0,.agg #[Ix (x46.src),Ix (x46.to),Ix (x46.number),.bool (x46.ack),Ix (x46.id),.slice x46.p (x46.n) x46.c]]) vb21.ok rfl rfl) ?_
      intro w hw
      replace hw := hw.perm (L' := _ :: _ :: M) (by exact ((perm_front 0 rfl).trans (perm_front 1 rfl)))
      obtain ⟨β1,sb,kn,hw1,back⟩ := St.frame (L := [_]) (M := _ :: M) hw
      refine (net_act hw1 ⟨hgl,hsl,hpi.net.len⟩ hg53 (took_or htk) fun β2 w S sb2 hw2 => gtakeH_ok β2 w (Cs.mono _ _ _ _ sb2 (Cs.mono _ _ _ _ sb hG)) G52 S n4 (gt Ws b) true hw2 (by omega) x46 s48 hm50 (Sl.mono _ _ _ _ _ sb2 (kn _ (k_poolS (zs := (MPool.e oz42)) (z := (x46.eh,s48.e)) 0 rfl hp51 hm50.eh)))).mono ?_
      rintro e w' ⟨rfl,hw'⟩
      refine ⟨_,rfl,_,back _ _ hw',?_⟩
      clear hw hw1 hw' back kn sb
      refine l_nil ?_
      exact f_owes_d (up_cons (d := 87) (up_cons (d := 86) rfl k0) k1) rfl ((perm_front 0 rfl).trans (perm_front 1 rfl))
     ·rintro f M ⟨k0,-⟩ -
      exact obE onq
     rintro fa55 ⟨-,-,-,-,-,-,-,k7,-⟩ ⟨j0,j1,j2,j3,j4,j5,j6,j7,j8,j9,j10,j11,j12,-⟩
     refine fre ?_
     refine f_rebase (d := 3) j0 (f_rebase (d := 8) j1 (f_rebase (d := 9) j2 (f_rebase (d := 11) j3 (f_rebase (d := 46) j4 (f_rebase (d := 47) j5 ?_)))))
     refine f_rebase (d := 48) j6 (f_rebase (d := 69) j7 (f_rebase (d := 71) j8 (f_rebase (d := 72) j9 (f_rebase (d := 76) j10 (f_rebase (d := 77) j11 ?_)))))
     refine f_rebase (d := 78) j12 (f_rebase (d := 89) k7 (f_then (c_no rfl (c_skip (f_block (f_then (c_region ?_)))))))
     refine lv (v := Nx (j + 1)) (e_add rfl rfl (i64n (by omega) (by omega))) (lE omi (l_nil (f_mask [false,true,true,true] rfl ?_)))
     exact f_cut ⟨(j + 1,(Ws.set b Y),(n4 + 300)),⟨⟨rfl,rfl,rfl,rfl,rfl,rfl,rfl,rfl,rfl,rfl,rfl,rfl,rfl⟩,rfl,⟨by omega,hpn,by omega⟩⟩,(show (msgsX (gt Ys ga)).length - (j + 1) < (msgsX (gt Ys ga)).length - j from by omega)⟩
    refine c_exit (f_then_exit (f_then_exit (f_exit (f_block (f_then (c_region (lv (v := Nx (ga + 1)) (e_add rfl rfl (i64n (by omega) (by omega))) ?_)))))))
    refine lE omi (l_nil (f_mask [false,false,true] rfl ?_))
    exact f_cut ⟨(ga + 1,Ws,n4),⟨⟨rfl,rfl,rfl,rfl,rfl,rfl,rfl,rfl,rfl,rfl⟩,rfl,⟨by omega,hpt.next hga6 ((show j = (msgsX (gt Ys ga)).length by omega) ▸ hpi),by omega⟩⟩,(show 6 - (ga + 1) < 6 - ga from by omega)⟩
   refine c_exit (f_then_exit (f_then_exit (f_exit (f_block (f_then (c_region (lv (v := Nx (p + 1)) (e_add rfl rfl (i64n (by omega) (by omega))) ?_)))))))
   refine lE omi (l_nil ?_)
   exact f_cut ⟨(p + 1,Ys,n3),⟨⟨rfl,rfl,rfl,rfl,rfl,rfl,rfl,rfl⟩,rfl,⟨by omega,⟨Zs,hps,(show ga = 6 by omega) ▸ hpt⟩,by omega⟩⟩,(show 2 - (p + 1) < 2 - p from by omega)⟩
  refine c_exit (f_then_exit (f_then_exit (f_exit (fts ?_))))
  have hr2 : RetOk tz tg Zs := ret_pass hret hat6 htz6 hgiv hgf ((show p = 2 by omega) ▸ hps)
  refine c_region (lE omi (lE oai (lnf ?_)))
  refine c_seq_cut (fun (f : Fm) (L : List Res) => ∃ (t2 : Int) (Us : List KG) (n5 : Nat),(f 3 = pp b1 0 ∧ f 7 = Nx (tz) ∧ f 8 = Ix (t2) ∧ f 46 = sB va zs21 (vc) ∧ f 47 = Nx (zs21.length) ∧ f 48 = Nx (i)) ∧ L = [netR Gs Ss Us n5 true] ∧ (RetOk tz t2 Us ∧ (0 ≤ t2 ∧ t2 ≤ 1000) ∧ n5 ≤ n2 + 300)) ?_ ?_
  ·refine csr (lE omi (lv (v := Nx (i % 2)) (e_rem (a := ((i : Nat) : Int)) (b := (2 : Int)) rfl rfl (by decide) (nat_tmod _ 2)) (lE oeq_ (lnf ?_))))
   refine c_if _ rfl (fun hc56 => ?_) (fun hc56 => ?_)
   ·refine csr (lE omi (lv (v := Nx (i + 2)) (e_add rfl rfl (i64n (by omega) (by omega))) (lE oai (lnf (c_seq ?_)))))
    obtain ⟨hsq,hr4⟩ := ret_save hr2 htz6 (t := ((i + 2 : Nat) : Int)) ⟨by omega,by omega⟩
    obtain ⟨G57,hg58⟩ : ∃ q_,Gs[tz]? = some q_ := ⟨_,List.getElem?_eq_getElem (by omega)⟩
    refine cnz [sv 99 (Nx (tz)) [] [] [0],sv 100 (.pointer (some ((⟨b1,0,none⟩ : Addr).add (tz * 1)))) [0] [0] [1],sv 101 (pp G57 0) [0,1] [1] [],sv 102 (Nx (i + 2)) [] [] [2],⟨[3],[3],[],[103],fun f => f 103 = .agg #[.int .i64 (8),.slice (thA (f 103)) (1) (thC (f 103))]⟩,sv 104 (.int .i64 (0)) [0,1,2,3,4] [2,4] [],sv 105 (.bool false) (List.range 6) [5] []] [(some 5,[5])] [⟨(some 4),none,[5],[103],fun f => rowF CpF 100 (thA (f 103)) (thC (f 103)) [(⟨10,((i + 2 : Nat) : Int),0,0,0⟩ : KComp)]⟩,⟨(some 5),none,[],[],fun _ => netR Gs Ss (ptX Zs tz ((i + 2 : Nat) : Int)) (n2 + 300) true⟩] [(7,Nx (tz)),(3,pp b1 0),(8,Nx (i + 2)),(46,sB va zs21 (vc)),(47,Nx (zs21.length)),(48,Nx (i))] [1,0,2,3,4,5] ⟨rfl,rfl,rfl,rfl,rfl,rfl,trivial⟩ ⟨?_,?_,?_,?_,?_,?_,?_,trivial⟩ ?_
    ·rintro f M - ⟨i0,-⟩
     exact obE omi
    ·rintro f M ⟨k0,-⟩ ⟨i0,-⟩
     exact ob0 (up_cons (d := 99) (up_cons (d := 3) rfl i0) k0) rfl (e_indexArrI (a := ⟨b1,0,none⟩) (k := tz) rfl rfl vb3.ok (by omega)) (.refl _)
    ·rintro f M ⟨k0,-⟩ -
     exact ob0 (up_cons (d := 100) rfl k0) rfl (e_load1 vb4.ok rfl (Knows.of_base (Cs.mono _ _) (cs_fl (F := PtF) hAf hg58))) (.refl _)
    ·rintro f M - ⟨i0,-⟩
     exact obE omi
    ·rintro f M ⟨k0,-⟩ -
     refine obS (up_cons (d := 102) rfl k0) ?_
     refine lcf (cl0 (vs := [.int .i64 (8),Nx (i + 2)]) vb5.ok rfl rfl) rfl fun w β1 sb kn hw1 back => (thing_ok β1 w hw1 8 ((i + 2 : Nat) : Int)).mono ?_
     rintro e w' ⟨p61,c62,rfl,hw'⟩
     refine ⟨_,rfl,_,back _ _ hw',?_⟩
     clear hw1 hw' back kn sb
     refine l_nil ?_
     exact f_owes_d (up_cons (d := 102) rfl k0) rfl (perm_front 0 rfl)
    ·rintro f M ⟨k0,k1,-⟩ -
     have hs103 : f 103 = .agg #[.int .i64 (8),.slice (thA (f 103)) (1) (thC (f 103))] := k1
     refine obS (up_cons (up_cons (d := 101) rfl k0) hs103) ?_
     refine l_call rfl rfl rfl (cl0 (vs := [pp G57 0,.agg #[.int .i64 (8),.slice (thA (f 103)) (1) (thC (f 103))]]) vb22.ok rfl rfl) ?_
     intro w hw
     replace hw := hw.perm (L' := _ :: _ :: M) (by exact ((perm_front 1 rfl).trans (perm_front 1 rfl)))
     obtain ⟨β1,sb,kn,hw1,back⟩ := St.frame (L := [_]) (M := _ :: M) hw
     refine (net_act hw1 ⟨hgl,hsl,hr2.net.len⟩ hg58 (.inr ⟨hsq,rfl,rfl⟩) fun β2 w S sb2 hw2 => gsave_ok β2 w (Cs.mono _ _ _ _ sb2 (Cs.mono _ _ _ _ sb hG)) G57 S n2 (gt Zs tz) true hw2 (by omega) (thE 8 ((i + 2 : Nat) : Int)) _ (Sl.mono _ _ _ _ _ sb2 (kn _ (k_flN 0 (F := CpF) (m := 1) rfl rfl)))).mono ?_
     rintro e w' ⟨rfl,hw'⟩
     refine ⟨_,rfl,_,back _ _ hw',?_⟩
     clear hw hw1 hw' back kn sb
     refine l_nil ?_
     exact f_owes_d (up_cons (up_cons (d := 101) rfl k0) hs103) rfl ((perm_front 0 rfl).trans (perm_front 1 rfl))
    ·rintro f M ⟨k0,-⟩ -
     exact obE onq
    rintro fa63 ⟨-,-,-,-,-,-,k6,-⟩ ⟨j0,j1,j2,j3,j4,j5,-⟩
    refine fre ?_
    refine f_rebase (d := 3) j0 (f_rebase (d := 7) j1 (f_rebase (d := 8) j2 (f_rebase (d := 46) j3 (f_rebase (d := 47) j4 (f_rebase (d := 48) j5 ?_)))))
    refine f_rebase (d := 105) k6 (f_then (c_no rfl (c_skip (f_mask [false,true] rfl ?_))))
    exact f_cut ⟨((i + 2 : Nat) : Int),(ptX Zs tz ((i + 2 : Nat) : Int)),(n2 + 300),⟨rfl,rfl,rfl,rfl,rfl,rfl⟩,rfl,⟨hr4,⟨by omega,by omega⟩,by omega⟩⟩
   refine c_skip ?_
   exact f_cut ⟨tg,Zs,n2,⟨rfl,rfl,rfl,rfl,rfl,rfl⟩,rfl,⟨hr2,htg,by omega⟩⟩
  rintro f0 L0 ⟨t2,Us,n5,⟨hs3,hs7,hs8,hs46,hs47,hs48⟩,hL,⟨hr3,ht2,hn5⟩⟩
  subst L0
  refine rbs 3 hs3 (rbs 7 hs7 (rbs 8 hs8 (rbs 46 hs46 (rbs 47 hs47 (rbs 48 hs48 (csr ?_))))))
  refine lv (v := .agg (Gs.map gp).toArray) (e_load vb13.ok (a := ⟨b1,0,none⟩) rfl (kB hA) (by rw [List.length_map,hgl])) (lE omi (lnf (c_block ?_)))
  refine c_mask [true] rfl ?_
  refine c_loop (fun (gc : Nat) f L => (f 3 = pp b1 0 ∧ f 7 = Nx (tz) ∧ f 8 = Ix (t2) ∧ f 46 = sB va zs21 (vc) ∧ f 47 = Nx (zs21.length) ∧ f 48 = Nx (i) ∧ f 106 = .agg (Gs.map gp).toArray ∧ f 107 = Nx (gc)) ∧ L = [netR Gs Ss Us n5 true] ∧ (gc ≤ 6)) (fun gc => 6 - gc) 0 ?_ ?_
  ·exact ⟨⟨rfl,rfl,rfl,rfl,rfl,rfl,rfl,rfl⟩,rfl,(Nat.zero_le _)⟩
  rintro gc f0 L0 ⟨⟨hs3,hs7,hs8,hs46,hs47,hs48,hs106,hs107⟩,hL,hgc⟩
  subst L0
  refine rbs 3 hs3 (rbs 7 hs7 (rbs 8 hs8 (rbs 46 hs46 (rbs 47 hs47 (rbs 48 hs48 (rbs 106 hs106 (rbs 107 hs107 (csr (lE olt (lnf (c_seq ?_)))))))))))
  refine c_if _ rfl (fun hc64 => ?_) (fun hc64 => ?_)
  ·refine csk (c_seq (c_block (c_seq ?_)))
   have hgc6 : gc < 6 := by omega
   have ho0 := hr3.quiet gc hgc6
   obtain ⟨G65,hg66⟩ : ∃ q_,Gs[gc]? = some q_ := ⟨_,List.getElem?_eq_getElem (by omega)⟩
   by_cases hca : gc = tz
   ·have hh0 : (gt Us gc).here = [thE 8 t2] := by rw [hca]; exact hr3.here
    refine c_region (lE omi ?_)
    refine lv (v := pp G65 0) (e_index1 (xs := Gs.map gp) (k := gc) rfl rfl vb3.ok (by rw [List.getElem?_map,hg66]; rfl) (by omega) vb4.ok) ?_
    refine lE oai (lE oap (lnc (lE omp (l_call rfl rfl rfl (cl0 (vs := [pp G65 0]) vb23.ok rfl rfl) ?_))))
    intro w hw
    replace hw := hw.perm (L' := _ :: []) (by exact (perm_front 0 rfl))
    obtain ⟨β1,sb,kn,hw1,back⟩ := St.frame (L := [_]) (M := []) hw
    refine (net_keep (R := fun p c => entsR p c [thE 8 t2]) hw1 ⟨hgl,hsl,hr3.net.len⟩ hg66 fun β2 w S hw2 => (hereG_ok β2 w G65 S n5 (gt Us gc) true hw2).mono fun _ _ q_ => shownE (L' := [thE 8 t2]) hh0 q_).mono ?_
    rintro e w' ⟨p67,c68,rfl,hw'⟩
    refine ⟨_,rfl,_,back _ _ hw',?_⟩
    clear hw hw1 hw' back kn sb
    refine lE oas (lnf (c_seq (c_openEnts rfl fun ez69 hez70 heh71 => ?_)))
    have hez70l : ez69.length = [thE 8 t2].length := by rw [← hez70,List.length_map]
    have hez70k : (ez69.map Prod.fst).length = ez69.length := List.length_map _
    have hez70n : ez69.length = 1 := hez70l
    refine rbs 19 (v := sB p67 ez69 c68) (show (sB p67 [thE 8 t2] c68 : Value) = sB p67 ez69 c68 from congrArg (fun z => Value.slice p67 z c68) hez70l.symm) ?_
    obtain ⟨x72,hx73⟩ : ∃ x_,(ez69.map Prod.fst)[0]? = some x_ := ⟨_,List.getElem?_eq_getElem (by first | omega | decide)⟩
    obtain ⟨e74,hs75,hm76,hp77⟩ := ent_at hez70 heh71 hx73
    injection hs75 with hs75
    subst hs75
    have hxi : x72.id = 8 := hm76.id
    refine cnz [sv 113 (pp G65 0) [] [] [0],⟨[0],[0],[],[114],fun f => f 114 = sB (sla (f 114)) ([] : List KMs) (slc (f 114))⟩,sv 115 (Nx (([] : List KMs).length)) [0,1] [1] [],sv 116 (.bool false) [0,1,2] [2] [],sv 117 (.bool false) [0,1,2,3] [3] [],sv 118 (sB p67 ez69 c68) [0,1,2,3,4] [4] [1],sv 119 (Nx (ez69.length)) (List.range 6) [5,4] [],sv 120 (.bool true) (List.range 7) [6,4] [],sv 121 (Nx (gc)) [0,1,2,3,4] [4] [2],sv 122 (Nx (tz)) [0,1,2,3,4] [4] [3],sv 123 (.bool true) [0,1,2,3,4,8,9] [8,9,4] [],sv 124 (.bool false) (List.range 11) [7,10,4] [],sv 125 (.bool false) (List.range 12) [4,11] [],sv 126 (.bool false) (List.range 13) [12] [],sv 127 (Nx (gc)) (List.range 14) [13] [2],sv 128 (Nx (tz)) (List.range 14) [13] [3],sv 129 (.bool true) (List.range 16) [14,15,13] [],sv 130 (.bool true) (List.range 17) [16,13] [],sv 131 (sB p67 ez69 c68) (List.range 18) [17] [1],sv 132 (.pointer (some ((ba p67).add (0 * 2)))) (List.range 19) [18,17] [],sv 133 (.agg #[Ix (x72.id),.slice x72.p (x72.n) x72.c]) (List.range 20) [19,17] [],sv 134 (Ix (t2)) (List.range 18) [17] [4],⟨[0,1,2,3,4,5,6,7,8,9,10,11,12,13,14,15,16,17,21],[21,17],[],[135],fun f => f 135 = .agg #[.int .i64 (8),.slice (thA (f 135)) (1) (thC (f 135))]⟩,sv 136 (.bool true) (List.range 23) [20,22,17] [],sv 137 (.bool false) (List.range 24) [23,17] [],sv 138 (.bool false) (List.range 25) [17,24,13] [],sv 139 (.bool false) (List.range 26) [13,25] []] [u1 [19,20],u1 [23],u1 [1]] [⟨(some 1),none,[],[114],fun f => msgsR (sla (f 114)) (slc (f 114)) ([] : List KMs)⟩,⟨(some 22),none,[23],[135],fun f => rowF CpF 100 (thA (f 135)) (thC (f 135)) [(⟨10,t2,0,0,0⟩ : KComp)]⟩] [(18,pp G65 0),(19,sB p67 ez69 c68),(17,Nx (gc)),(7,Nx (tz)),(8,Ix (t2)),(3,pp b1 0),(46,sB va zs21 (vc)),(47,Nx (zs21.length)),(48,Nx (i)),(106,.agg (Gs.map gp).toArray),(107,Nx (gc))] [5,3,4,6,7,8,9,10] ⟨rfl,rfl,rfl,rfl,rfl,rfl,rfl,rfl,rfl,rfl,rfl,trivial⟩ ⟨?_,?_,?_,?_,?_,?_,?_,?_,?_,?_,?_,?_,?_,?_,?_,?_,?_,?_,?_,?_,?_,?_,?_,?_,?_,?_,?_,trivial⟩ ?_
    ·rintro f M - ⟨i0,-⟩
     exact obE omp
    ·rintro f M ⟨k0,-⟩ -
     refine obS (up_cons (d := 113) rfl k0) ?_
     refine l_call rfl rfl rfl (cl0 (vs := [pp G65 0]) vb24.ok rfl rfl) ?_
     intro w hw
     replace hw := hw.perm (L' := _ :: M) (by exact (perm_front 0 rfl))
     obtain ⟨β1,sb,kn,hw1,back⟩ := St.frame (L := [_]) (M := M) hw
     refine (net_keep (R := fun p c => msgsR p c ([] : List KMs)) hw1 ⟨hgl,hsl,hr3.net.len⟩ hg66 fun β2 w S hw2 => (outG_ok β2 w G65 S n5 (gt Us gc) true hw2).mono fun _ _ q_ => shownM (L' := ([] : List KMs)) ho0 q_).mono ?_
     rintro e w' ⟨p80,c81,rfl,hw'⟩
     refine ⟨_,rfl,_,back _ _ hw',?_⟩
     clear hw hw1 hw' back kn sb
     refine l_nil ?_
     exact f_owes_d (up_cons (d := 113) rfl k0) rfl ((perm_front 0 rfl).trans (perm_front 1 rfl))
    ·rintro f M ⟨k0,-⟩ -
     have hs114 : f 114 = sB (sla (f 114)) ([] : List KMs) (slc (f 114)) := k0
     exact obE oln
    ·rintro f M ⟨k0,-⟩ -
     exact ob0 (up_cons (d := 115) rfl k0) rfl ((ev_f (fun q => q (by first | omega | decide)) (e_neq (a := ((([] : List KMs).length : Nat) : Int)) (b := (0 : Int)) rfl rfl))) (.refl _)
    ·rintro f M ⟨k0,-⟩ -
     exact obE omb
    ·rintro f M ⟨k0,-⟩ ⟨i0,-⟩
     exact obG oms
    ·rintro f M ⟨k0,k1,-⟩ -
     exact obG oln
    ·rintro f M ⟨k0,k1,-⟩ -
     exact obg (L' := M) (v := .bool true) (up_cons (d := 117) (up_cons (d := 119) rfl k0) k1) ((ev_t (by first | omega | decide) (e_eql (a := ((ez69.length : Nat) : Int)) (b := (1 : Int)) rfl rfl))) rfl rfl rfl rfl (.refl _) (by rfl)
    ·rintro f M ⟨k0,-⟩ ⟨i0,-⟩
     exact obG omi
    ·rintro f M ⟨k0,-⟩ ⟨i0,-⟩
     exact obG omi
    ·rintro f M ⟨k0,k1,k2,-⟩ -
     exact obg (L' := M) (v := .bool true) (up_cons (d := 117) (up_cons (d := 122) (up_cons (d := 121) rfl k0) k1) k2) ((ev_t (by omega) (e_eql (a := ((gc : Nat) : Int)) (b := ((tz : Nat) : Int)) rfl rfl))) rfl rfl rfl rfl (.refl _) (by rfl)
    ·rintro f M ⟨k0,k1,k2,-⟩ -
     exact obg (L' := M) (v := .bool false) (up_cons (d := 117) (up_cons (d := 123) (up_cons (d := 120) rfl k0) k1) k2) (e_neq_b (a := true) (b := true) rfl rfl vb26) rfl rfl rfl rfl (.refl _) (by rfl)
    ·rintro f M ⟨k0,k1,-⟩ -
     exact obE okfb
    ·rintro f M ⟨k0,-⟩ -
     exact obE omb
    ·rintro f M ⟨k0,-⟩ ⟨i0,-⟩
     exact obG omi
    ·rintro f M ⟨k0,-⟩ ⟨i0,-⟩
     exact obG omi
    ·rintro f M ⟨k0,k1,k2,-⟩ -
     exact obg (L' := M) (v := .bool true) (up_cons (d := 126) (up_cons (d := 128) (up_cons (d := 127) rfl k0) k1) k2) ((ev_t (by omega) (e_eql (a := ((gc : Nat) : Int)) (b := ((tz : Nat) : Int)) rfl rfl))) rfl rfl rfl rfl (.refl _) (by rfl)
    ·rintro f M ⟨k0,k1,-⟩ -
     exact obG omb
    ·rintro f M ⟨k0,-⟩ ⟨i0,-⟩
     exact obG oms
    ·rintro f M ⟨k0,k1,-⟩ -
     exact obg (L' := rowF EhF 32 p67 c68 (ez69.map Prod.fst) :: M) (v := .pointer (some ((ba p67).add (0 * 2)))) (up_cons (d := 130) (up_cons (d := 131) rfl k0) k1) (e_indexFlN 0 (F := EhF) (j := 0) (m := ez69.length) (xs := (ez69.map Prod.fst)) rfl (List.length_map _).symm rfl vb27 (by omega) rfl) rfl rfl rfl rfl (perm_front 0 rfl) (by rfl)
    ·rintro f M ⟨k0,k1,-⟩ -
     exact obg (L' := rowF EhF 32 p67 c68 (ez69.map Prod.fst) :: M) (v := .agg #[Ix (x72.id),.slice x72.p (x72.n) x72.c]) (up_cons (d := 130) (up_cons (d := 132) rfl k0) k1) (e_load vb28.ok rfl (k_flAt 0 (F := EhF) rfl hx73) rfl) rfl rfl rfl rfl (perm_front 0 rfl) (by rfl)
    ·rintro f M ⟨k0,-⟩ ⟨i0,-⟩
     exact obG omi
    ·rintro f M ⟨k0,k1,-⟩ -
     refine obS (up_cons (d := 130) (up_cons (d := 134) rfl k0) k1) ?_
     refine g_call rfl rfl rfl rfl rfl (cl0 (vs := [.int .i64 (8),Ix (t2)]) vb5.ok rfl rfl) ?_
     intro w hw
     obtain ⟨β1,sb,kn,hw1,back⟩ := St.frame_all hw
     refine (thing_ok β1 w hw1 8 t2).mono ?_
     rintro e w' ⟨p84,c85,rfl,hw'⟩
     refine ⟨_,rfl,_,back _ _ hw',?_⟩
     clear hw hw1 hw' back kn sb
     refine l_nil ?_
     exact f_owes_d (up_cons (d := 130) (up_cons (d := 134) rfl k0) k1) rfl (perm_front 0 rfl)
    ·rintro f M ⟨k0,k1,k2,-⟩ -
     have hs135 : f 135 = .agg #[.int .i64 (8),.slice (thA (f 135)) (1) (thC (f 135))] := k1
     refine obS (up_cons (d := 130) (up_cons (up_cons (d := 133) rfl k0) hs135) k2) ?_
     refine g_call rfl rfl rfl rfl rfl (cl0 (vs := [.agg #[Ix (x72.id),.slice x72.p (x72.n) x72.c],.agg #[.int .i64 (8),.slice (thA (f 135)) (1) (thC (f 135))]]) vb29.ok rfl rfl) ?_
     intro w hw
     obtain ⟨β1,sb,kn,hw1,back⟩ := St.frame_all hw
     refine (sameE_ok β1 w hw1 x72.id 8 _ _ ((thE 8 t2).comps) [(⟨10,t2,0,0,0⟩ : KComp)] (kn _ (k_poolS (zs := ez69) (z := (x72,(thE 8 t2))) 0 rfl hp77 hm76)) (kn _ (k_flN 1 (F := CpF) (m := 1) rfl rfl))).mono ?_
     rintro e w' ⟨rfl,hw'⟩
     refine ⟨_,rfl,_,back _ _ hw',?_⟩
     clear hw hw1 hw' back kn sb
     refine l_nil ?_
     exact f_owes_d (up_cons (d := 130) (up_cons (up_cons (d := 133) rfl k0) hs135) k2) (congrArg Value.bool (decide_eq_true (by rw [hxi] <;> rfl))) ((perm_front 1 rfl).trans (perm_front 1 rfl))
    ·rintro f M ⟨k0,k1,-⟩ -
     exact obG ont
    ·rintro f M ⟨k0,k1,k2,-⟩ -
     exact obG oktb
    ·rintro f M ⟨k0,k1,-⟩ -
     exact obE okfb
    rintro fa86 ⟨-,-,-,-,-,-,-,-,-,-,-,-,-,-,-,-,-,-,-,-,-,-,-,-,-,-,k26,-⟩ ⟨j0,j1,j2,j3,j4,j5,j6,j7,-⟩
    refine fre ?_
    refine f_rebase (d := 3) j0 (f_rebase (d := 7) j1 (f_rebase (d := 8) j2 (f_rebase (d := 46) j3 (f_rebase (d := 47) j4 (f_rebase (d := 48) j5 ?_)))))
    refine f_rebase (d := 106) j6 (f_rebase (d := 107) j7 (f_rebase (d := 139) k26 (f_then (c_no rfl (c_skip (f_block (f_then (c_region ?_))))))))
    refine lv (v := Nx (gc + 1)) (e_add rfl rfl (i64n (by omega) (by omega))) (lE omi (l_nil (f_mask [false,false,true,false,false] rfl ?_)))
    exact f_cut ⟨gc + 1,⟨⟨rfl,rfl,rfl,rfl,rfl,rfl,rfl,rfl⟩,rfl,(by omega)⟩,(show 6 - (gc + 1) < 6 - gc from by omega)⟩
   have hh0 := hr3.none_ gc hgc6 hca
   refine c_region (lE omi ?_)
   refine lv (v := pp G65 0) (e_index1 (xs := Gs.map gp) (k := gc) rfl rfl vb3.ok (by rw [List.getElem?_map,hg66]; rfl) (by omega) vb4.ok) ?_
   refine lE oai (lE oap (lnc (lE omp (l_call rfl rfl rfl (cl0 (vs := [pp G65 0]) vb23.ok rfl rfl) ?_))))
   intro w hw
   replace hw := hw.perm (L' := _ :: []) (by exact (perm_front 0 rfl))
   obtain ⟨β1,sb,kn,hw1,back⟩ := St.frame (L := [_]) (M := []) hw
   refine (net_keep (R := fun p c => entsR p c ([] : List KEnt)) hw1 ⟨hgl,hsl,hr3.net.len⟩ hg66 fun β2 w S hw2 => (hereG_ok β2 w G65 S n5 (gt Us gc) true hw2).mono fun _ _ q_ => shownE (L' := ([] : List KEnt)) hh0 q_).mono ?_
   rintro e w' ⟨p87,c88,rfl,hw'⟩
   refine ⟨_,rfl,_,back _ _ hw',?_⟩
   clear hw hw1 hw' back kn sb
   refine lE oas (lnf (c_seq ?_))
   refine cnz [sv 113 (pp G65 0) [] [] [0],⟨[0],[0],[],[114],fun f => f 114 = sB (sla (f 114)) ([] : List KMs) (slc (f 114))⟩,sv 115 (Nx (([] : List KMs).length)) [0,1] [1] [],sv 116 (.bool false) [0,1,2] [2] [],sv 117 (.bool false) [0,1,2,3] [3] [],sv 118 (sB p87 ([] : List KEnt) c88) [0,1,2,3,4] [4] [1],sv 119 (Nx (([] : List KEnt).length)) (List.range 6) [5,4] [],sv 120 (.bool false) (List.range 7) [6,4] [],sv 121 (Nx (gc)) [0,1,2,3,4] [4] [2],sv 122 (Nx (tz)) [0,1,2,3,4] [4] [3],sv 123 (.bool false) [0,1,2,3,4,8,9] [8,9,4] [],sv 124 (.bool false) (List.range 11) [7,10,4] [],sv 125 (.bool false) (List.range 12) [4,11] [],sv 126 (.bool false) (List.range 13) [12] [],sv 127 (Nx (gc)) (List.range 14) [13] [2],sv 128 (Nx (tz)) (List.range 14) [13] [3],sv 129 (.bool false) (List.range 16) [14,15,13] [],sv 130 (.bool false) (List.range 17) [16,13] [],sv 131 undef (List.range 18) [17] [1],sv 132 undef (List.range 19) [18,17] [],sv 133 undef (List.range 20) [19,17] [],sv 134 undef (List.range 18) [17] [4],sv 135 undef [0,1,2,3,4,5,6,7,8,9,10,11,12,13,14,15,16,17,21] [21,17] [],sv 136 undef (List.range 23) [20,22,17] [],sv 137 undef (List.range 24) [23,17] [],sv 138 (.bool false) (List.range 25) [17,24,13] [],sv 139 (.bool false) (List.range 26) [13,25] []] [u0,u1 [1]] [⟨(some 1),none,[],[114],fun f => msgsR (sla (f 114)) (slc (f 114)) ([] : List KMs)⟩] [(18,pp G65 0),(19,sB p87 ([] : List KEnt) c88),(17,Nx (gc)),(7,Nx (tz)),(8,Ix (t2)),(3,pp b1 0),(46,sB va zs21 (vc)),(47,Nx (zs21.length)),(48,Nx (i)),(106,.agg (Gs.map gp).toArray),(107,Nx (gc))] [5,3,4,6,7,8,9,10] ⟨rfl,rfl,rfl,rfl,rfl,rfl,rfl,rfl,rfl,rfl,rfl,trivial⟩ ⟨?_,?_,?_,?_,?_,?_,?_,?_,?_,?_,?_,?_,?_,?_,?_,?_,?_,?_,?_,?_,?_,?_,?_,?_,?_,?_,?_,trivial⟩ ?_
   ·rintro f M - ⟨i0,-⟩
    exact obE omp
   ·rintro f M ⟨k0,-⟩ -
    refine obS (up_cons (d := 113) rfl k0) ?_
    refine l_call rfl rfl rfl (cl0 (vs := [pp G65 0]) vb24.ok rfl rfl) ?_
    intro w hw
    replace hw := hw.perm (L' := _ :: M) (by exact (perm_front 0 rfl))
    obtain ⟨β1,sb,kn,hw1,back⟩ := St.frame (L := [_]) (M := M) hw
    refine (net_keep (R := fun p c => msgsR p c ([] : List KMs)) hw1 ⟨hgl,hsl,hr3.net.len⟩ hg66 fun β2 w S hw2 => (outG_ok β2 w G65 S n5 (gt Us gc) true hw2).mono fun _ _ q_ => shownM (L' := ([] : List KMs)) ho0 q_).mono ?_
    rintro e w' ⟨p91,c92,rfl,hw'⟩
    refine ⟨_,rfl,_,back _ _ hw',?_⟩
    clear hw hw1 hw' back kn sb
    refine l_nil ?_
    exact f_owes_d (up_cons (d := 113) rfl k0) rfl ((perm_front 0 rfl).trans (perm_front 1 rfl))
   ·rintro f M ⟨k0,-⟩ -
    have hs114 : f 114 = sB (sla (f 114)) ([] : List KMs) (slc (f 114)) := k0
    exact obE oln
   ·rintro f M ⟨k0,-⟩ -
    exact ob0 (up_cons (d := 115) rfl k0) rfl ((ev_f (fun q => q (by first | omega | decide)) (e_neq (a := ((([] : List KMs).length : Nat) : Int)) (b := (0 : Int)) rfl rfl))) (.refl _)
   ·rintro f M ⟨k0,-⟩ -
    exact obE omb
   ·rintro f M ⟨k0,-⟩ ⟨i0,-⟩
    exact obG oms
   ·rintro f M ⟨k0,k1,-⟩ -
    exact obG oln
   ·rintro f M ⟨k0,k1,-⟩ -
    exact obg (L' := M) (v := .bool false) (up_cons (d := 117) (up_cons (d := 119) rfl k0) k1) ((ev_f (by decide) (e_eql (a := ((([] : List KEnt).length : Nat) : Int)) (b := (1 : Int)) rfl rfl))) rfl rfl rfl rfl (.refl _) (by rfl)
   ·rintro f M ⟨k0,-⟩ ⟨i0,-⟩
    exact obG omi
   ·rintro f M ⟨k0,-⟩ ⟨i0,-⟩
    exact obG omi
   ·rintro f M ⟨k0,k1,k2,-⟩ -
    exact obg (L' := M) (v := .bool false) (up_cons (d := 117) (up_cons (d := 122) (up_cons (d := 121) rfl k0) k1) k2) ((ev_f (by omega) (e_eql (a := ((gc : Nat) : Int)) (b := ((tz : Nat) : Int)) rfl rfl))) rfl rfl rfl rfl (.refl _) (by rfl)
   ·rintro f M ⟨k0,k1,k2,-⟩ -
    exact obg (L' := M) (v := .bool false) (up_cons (d := 117) (up_cons (d := 123) (up_cons (d := 120) rfl k0) k1) k2) (e_neq_b (a := false) (b := false) rfl rfl vb26) rfl rfl rfl rfl (.refl _) (by rfl)
   ·rintro f M ⟨k0,k1,-⟩ -
    exact obE okfb
   ·rintro f M ⟨k0,-⟩ -
    exact obE omb
   ·rintro f M ⟨k0,-⟩ ⟨i0,-⟩
    exact obG omi
   ·rintro f M ⟨k0,-⟩ ⟨i0,-⟩
    exact obG omi
   ·rintro f M ⟨k0,k1,k2,-⟩ -
    exact obg (L' := M) (v := .bool false) (up_cons (d := 126) (up_cons (d := 128) (up_cons (d := 127) rfl k0) k1) k2) ((ev_f (by omega) (e_eql (a := ((gc : Nat) : Int)) (b := ((tz : Nat) : Int)) rfl rfl))) rfl rfl rfl rfl (.refl _) (by rfl)
   ·rintro f M ⟨k0,k1,-⟩ -
    exact obG omb
   ·rintro f M ⟨k0,-⟩ ⟨i0,-⟩
    refine obS (up_cons (d := 130) (up_cons (d := 19) rfl i0) k0) ?_
    refine skE (l_nil ?_)
    exact f_owes_d (up_cons (d := 130) (up_cons (d := 19) rfl i0) k0) rfl (List.Perm.refl _)
   ·rintro f M ⟨k0,k1,-⟩ -
    refine obS (up_cons (d := 130) (up_cons (d := 131) rfl k0) k1) ?_
    refine skE (l_nil ?_)
    exact f_owes_d (up_cons (d := 130) (up_cons (d := 131) rfl k0) k1) rfl (List.Perm.refl _)
   ·rintro f M ⟨k0,k1,-⟩ -
    refine obS (up_cons (d := 130) (up_cons (d := 132) rfl k0) k1) ?_
    refine skE (l_nil ?_)
    exact f_owes_d (up_cons (d := 130) (up_cons (d := 132) rfl k0) k1) rfl (List.Perm.refl _)
   ·rintro f M ⟨k0,-⟩ ⟨i0,-⟩
    refine obS (up_cons (d := 130) (up_cons (d := 8) rfl i0) k0) ?_
    refine skE (l_nil ?_)
    exact f_owes_d (up_cons (d := 130) (up_cons (d := 8) rfl i0) k0) rfl (List.Perm.refl _)
   ·rintro f M ⟨k0,k1,-⟩ -
    refine obS (up_cons (d := 130) (up_cons (d := 134) rfl k0) k1) ?_
    refine skE (l_nil ?_)
    exact f_owes_d (up_cons (d := 130) (up_cons (d := 134) rfl k0) k1) rfl (List.Perm.refl _)
   ·rintro f M ⟨k0,k1,k2,-⟩ -
    refine obS (up_cons (d := 130) (up_cons (d := 135) (up_cons (d := 133) rfl k0) k1) k2) ?_
    refine skE (l_nil ?_)
    exact f_owes_d (up_cons (d := 130) (up_cons (d := 135) (up_cons (d := 133) rfl k0) k1) k2) rfl (List.Perm.refl _)
   ·rintro f M ⟨k0,k1,-⟩ -
    refine obS (up_cons (d := 130) (up_cons (d := 136) rfl k0) k1) ?_
    refine skE (l_nil ?_)
    exact f_owes_d (up_cons (d := 130) (up_cons (d := 136) rfl k0) k1) rfl (List.Perm.refl _)
   ·rintro f M ⟨k0,k1,k2,-⟩ -
    exact obG okfb
   ·rintro f M ⟨k0,k1,-⟩ -
    exact obE okfb
   rintro fa93 ⟨-,-,-,-,-,-,-,-,-,-,-,-,-,-,-,-,-,-,-,-,-,-,-,-,-,-,k26,-⟩ ⟨j0,j1,j2,j3,j4,j5,j6,j7,-⟩
   refine fre ?_
   refine f_rebase (d := 3) j0 (f_rebase (d := 7) j1 (f_rebase (d := 8) j2 (f_rebase (d := 46) j3 (f_rebase (d := 47) j4 (f_rebase (d := 48) j5 ?_)))))
   refine f_rebase (d := 106) j6 (f_rebase (d := 107) j7 (f_rebase (d := 139) k26 (f_then (c_no rfl (c_skip (f_block (f_then (c_region ?_))))))))
   refine lv (v := Nx (gc + 1)) (e_add rfl rfl (i64n (by omega) (by omega))) (lE omi (l_nil (f_mask [false,true,false] rfl ?_)))
   exact f_cut ⟨gc + 1,⟨⟨rfl,rfl,rfl,rfl,rfl,rfl,rfl,rfl⟩,rfl,(by omega)⟩,(show 6 - (gc + 1) < 6 - gc from by omega)⟩
  refine c_exit (f_then_exit (f_then_exit (f_exit (f_block (f_then (c_region (lv (v := Nx (i + 1)) (e_add rfl rfl (i64n (by omega) (by omega))) ?_)))))))
  refine lE omi (l_nil ?_)
  exact f_cut ⟨(i + 1,tz,t2,Us,n5),⟨⟨rfl,rfl,rfl,rfl,rfl,rfl⟩,rfl,⟨by omega,htz6,hr3,ht2,ret_n hn1 hn2 hp2 hn5⟩⟩,(show 30 - (i + 1) < 30 - i from by omega)⟩
 refine c_exit (f_then_exit (f_then_exit (f_exit (ftc (lcR clA (fun w β1 sb kn hw1 => awake_ok β1 w hw1 (Cs.mono _ _ _ _ sb hG)) (lE oab (lnf ?_)))))))
 refine c_ret (ret1 Tryz.results4 rfl ?_)
 intro w hw
 exact ⟨rfl,st_mask [false] rfl (bk1 _ _ (st_mask [false] rfl hw))⟩
end Go.Proofs
