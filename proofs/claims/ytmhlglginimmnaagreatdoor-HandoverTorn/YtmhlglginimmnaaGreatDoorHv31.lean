/-
 HandoverTorn: walked. Printed by a program of my own.
-/
import Derived.Test.YtmhlglginimmnaaGreatDoorHv28
import Derived.Test.YtmhlglginimmnaaGreatDoorHvTorn
import Derived.Test.YtmhlglginimmnaaGreatDoorSlA
import Derived.Test.YtmhlglginimmnaaGreatDoorSlSortF
set_option linter.unusedVariables false
set_option linter.unusedSimpArgs false
namespace Go.Hv
open Go Go.Sl
theorem ents_yes {xs ys : List KEnt} {k : Nat} (h1 : xs.length ≤ k) (h2 : ys.length ≤ k) (h3 : xs.take k = ys.take k) : xs = ys := by rwa [List.take_of_length_le h1, List.take_of_length_le h2] at h3
theorem ents_no {xs ys : List KEnt} {k : Nat} {x y : KEnt} (hx : xs[k]? = some x) (hy : ys[k]? = some y) (h : ¬ (⟨x.id, x.comps⟩ : KEnt) = ⟨y.id, y.comps⟩) : ¬ xs = ys := fun e => by
 subst e; rw [hx] at hy; injection hy with hy; subst hy; exact h rfl
def powB (e : Int) : Bool := decide (e = 0) || decide (e = 310)
end Go.Hv
namespace Go.Proofs
open Go Go.Sl Go.Hv Go.Jn
instance va0 : UndC Tryz.prog 40 32 := ⟨by kernel_rfl⟩
theorem va1 : slB Tryz.prog 40 32 2 = true := by kernel_rfl
instance va2 : TyC Tryz.prog 32 true 2 := ⟨by kernel_rfl⟩
instance va3 : CfC Tryz.prog 18 := ⟨by kernel_rfl⟩
instance va4 : CfC Tryz.prog 10 := ⟨by kernel_rfl⟩
instance va5 : CfC Tryz.prog 9 := ⟨by kernel_rfl⟩
theorem va6 : Tryz.prog.underlying 5 = some (.int .u8) := by kernel_rfl
theorem va7 : Tryz.prog.underlying 3 = some (.int .i64) := by kernel_rfl
instance va8 : CfC Tryz.prog 12 := ⟨by kernel_rfl⟩
instance va9 : CfC Tryz.prog 11 := ⟨by kernel_rfl⟩
instance va10 : CfC Tryz.prog 16 := ⟨by kernel_rfl⟩
theorem va11 : Tryz.prog.underlying 51 = some (.int .u16) := by kernel_rfl
instance va12 : FldC Tryz.prog 60 3 3 1 false := ⟨by kernel_rfl⟩
instance va13 : TyC Tryz.prog 3 false 1 := ⟨by kernel_rfl⟩
theorem va14 : elB Tryz.prog 32 2 32 = true := by kernel_rfl
instance va15 : CfC Tryz.prog 21 := ⟨by kernel_rfl⟩
instance va16 : CfC Tryz.prog 27 := ⟨by kernel_rfl⟩
instance va17 : CfC Tryz.prog 13 := ⟨by kernel_rfl⟩
instance va18 : ZerC Tryz.prog 32 (.agg #[.int .i64 (0), .slice none 0 0]) := ⟨by kernel_rfl⟩
instance va19 : CfC Tryz.prog 28 := ⟨by kernel_rfl⟩
instance va20 : CfC Tryz.prog 20 := ⟨by kernel_rfl⟩
instance va21 : CfC Tryz.prog 30 := ⟨by kernel_rfl⟩
instance va22 : UndC Tryz.prog 35 38 := ⟨by kernel_rfl⟩
instance va23 : CfC Tryz.prog 19 := ⟨by kernel_rfl⟩
theorem va24 : slB Tryz.prog 35 38 6 = true := by kernel_rfl
instance va25 : FldC Tryz.prog 38 4 4 2 true := ⟨by kernel_rfl⟩
instance va26 : FldC Tryz.prog 38 2 2 1 false := ⟨by kernel_rfl⟩
instance va27 : FldC Tryz.prog 38 1 1 1 false := ⟨by kernel_rfl⟩
instance va28 : CfC Tryz.prog 29 := ⟨by kernel_rfl⟩
instance va29 : CfC Tryz.prog 14 := ⟨by kernel_rfl⟩
theorem va30 : stB Tryz.prog 38 [(0, 1), (1, 1), (2, 1), (3, 1), (4, 2)] = true := by kernel_rfl
instance va31 : ZerC Tryz.prog 38 (.agg #[.int .i64 (0), .int .i64 (0), .int .i64 (0), .bool false, .int .i64 (0), .slice none 0 0]) := ⟨by kernel_rfl⟩
instance va32 : CfC Tryz.prog 15 := ⟨by kernel_rfl⟩
set_option maxHeartbeats 4000000 in
theorem entities_ok (β : Base) (w : World) (hw : St β [] w) (v u : Value) (xs ys : List KEnt) (hs : Sl EnR β.heap v xs) (ht : Sl EnR β.heap u ys) : Ret Tryz.prog 30 #[v, u] β w (.bool (decide (xs = ys))) := by
 obtain ⟨va,vc,rfl,vl,vm,ve⟩ := hs.get
 obtain ⟨ua,uc,rfl,ul,um,ue⟩ := ht.get
 refine enter (n := 27) Tryz.func30 rfl Tryz.ntmps30 rfl ?_ hw
 refine csr (lE oab (lnf (cs2 (c_region (lE oms (lE oln (lE oms (lE oln (lE onq (lnf (c_if _ rfl (fun hc1 => ?_) (fun hc1 => ?_))))))))))))
 ·refine csr (lE oab (lnf (c_ret (f_then_ret (ret1 Tryz.results30 rfl ?_)))))
  intro w hw
  exact ⟨congrArg (fun b : Bool => Ending.returned (.bool b)) (decide_eq_false (fun q => by have hq := congrArg List.length q; have := hc1; omega)).symm,st_mask [] rfl hw⟩
 refine csk (cs2 ?_)
 have hlen : xs.length = ys.length := by have := hc1; omega
 refine c_region (lE oms (lE oln (lE omi (lnf (c_block (c_mask [] rfl ?_))))))
 refine c_loop (fun (k : Nat) f L => (f 0 = sB va xs (vc) ∧ f 1 = sB ua ys (uc) ∧ f 12 = Nx (xs.length) ∧ f 13 = Nx (k)) ∧ L = [] ∧ (k ≤ xs.length ∧ xs.take k = ys.take k)) (fun k => xs.length - k) 0 ?_ ?_
 ·exact ⟨⟨rfl,rfl,rfl,rfl⟩,rfl,⟨Nat.zero_le _,rfl⟩⟩
 rintro k f0 L0 ⟨⟨hs0,hs1,hs12,hs13⟩,hL,⟨hk,hpre⟩⟩
 subst L0
 refine rbs 0 hs0 (rbs 1 hs1 (rbs 12 hs12 (rbs 13 hs13 (csr (lE olt (lnf (c_seq (c_if _ rfl (fun hc2 => ?_) (fun hc2 => ?_)))))))))
 ·refine csk (c_seq (c_block (csr (lE omi (lE oai (lnf (c_seq (c_quiet (by kernel_rfl) (by kernel_rfl) (qE oms (qE omi ?_))))))))))
  obtain ⟨x3,hx4⟩ := getx xs k (by omega)
  obtain ⟨ha5,cs6,hc7,hr8⟩ := ve _ _ hx4
  obtain ⟨v9,rfl,ho10,hv11⟩ := hr8
  obtain ⟨a12,c13,rfl,hl14,hm15,he16⟩ := (hv11).get
  refine qE (oia va1 ha5) (q_val (v := .agg #[Ix (x3.id),sB a12 x3.comps (c13)]) rfl rfl rfl (e_load va2.ok rfl (kB hc7) rfl) (qE oms (qE omi ?_)))
  obtain ⟨x17,hx18⟩ := getx ys k (by omega)
  obtain ⟨ha19,cs20,hc21,hr22⟩ := ue _ _ hx18
  obtain ⟨v23,rfl,ho24,hv25⟩ := hr22
  obtain ⟨a26,c27,rfl,hl28,hm29,he30⟩ := (hv25).get
  refine qE (oia va1 ha19) (q_val (v := .agg #[Ix (x17.id),sB a26 x17.comps (c27)]) rfl rfl rfl (e_load va2.ok rfl (kB hc21) rfl) ?_)
  refine q_call (v := .bool (decide ((⟨x3.id,x3.comps⟩ : KEnt) = (⟨x17.id,x17.comps⟩ : KEnt)))) rfl rfl rfl (cl0 (vs := [.agg #[Ix (x3.id),sB a12 x3.comps (c13)],.agg #[Ix (x17.id),sB a26 x17.comps (c27)]]) va3.ok rfl rfl) (fun w hw => ?_) ?_
  ·obtain ⟨β1,sb,kn,hw1,back⟩ := St.frame_all hw
   exact (sameE_ok β1 w hw1 x3.id x17.id _ _ x3.comps x17.comps (Sl.mono _ _ _ _ _ sb (⟨⟨_,_,rfl,by omega,by omega,he16⟩⟩ : Sl CpF.R _ _ x3.comps)) (Sl.mono _ _ _ _ _ sb (⟨⟨_,_,rfl,by omega,by omega,he30⟩⟩ : Sl CpF.R _ _ x17.comps))).mono (fun e w' ⟨he,hw'⟩ => ⟨he,st_mask [] rfl (back _ _ hw')⟩)
  refine qE ond (q_nil (f_then (c_if _ rfl (fun hc31 => ?_) (fun hc31 => ?_))))
  ·refine csr (lE oab (lnf (c_ret (f_block_ret (f_then_ret (f_then_ret (f_block_ret (f_then_ret (ret1 Tryz.results30 rfl ?_)))))))))
   intro w hw
   exact ⟨congrArg (fun b : Bool => Ending.returned (.bool b)) (decide_eq_false (ents_no hx4 hx18 hc31)).symm,st_mask [] rfl hw⟩
  refine c_skip (f_block (f_then (c_region (lv (v := Nx (k + 1)) (e_add rfl rfl (i64n (by omega) (by omega))) (lE omi (l_nil ?_))))))
  exact f_cut ⟨k + 1,⟨⟨rfl,rfl,rfl,rfl⟩,rfl,⟨by omega,take_both hpre hx4 hx18 (by have := hc31; exact Decidable.not_not.1 this)⟩⟩,(show xs.length - (k + 1) < xs.length - k from by omega)⟩
 refine c_exit (f_then_exit (f_then_exit (f_exit (ftc (lE oab (lnf (c_ret (ret1 Tryz.results30 rfl ?_))))))))
 intro w hw
 exact ⟨congrArg (fun b : Bool => Ending.returned (.bool b)) (decide_eq_true (ents_yes (by omega) (by omega) hpre)).symm,st_mask [] rfl hw⟩
theorem powered_ok (β : Base) (w : World) (hw : St β [] w) (e : Int) : Ret Tryz.prog 28 #[Ix e] β w (.bool (powB e)) := by
 refine enter (n := 9) Tryz.func28 rfl Tryz.ntmps28 rfl ?_ hw
 refine csr (lE oab (lnc (lE omi (lE oeq_ (l_or2 (decide ((e) = (0 : Int))) (decide ((e) = (310 : Int))) rfl (fun hb1 hk1 => ?_) (fun z2 z3 => ?_))))))
 ·have hb1p := of_decide_eq_false hb1
  refine gE omi (gE oeq_ (lE okfb ?_))
  exact hk1 _ _
 refine lE oab (lnf (c_ret (ret1 Tryz.results28 rfl ?_)))
 intro w hw
 exact ⟨congrArg (fun b : Bool => Ending.returned (.bool b)) (by unfold powB; simp),st_mask [] rfl hw⟩
set_option maxHeartbeats 4000000 in
theorem torn_ok (β : Base) (w : World) (hw : St β [] w) (hG : GRng β) (n wh : UInt8) (pw : Nat) (hpw0 : pw ≤ 65535) : Ret Tryz.prog 7 #[Bx n, Bx wh, .int .u16 ((pw : Nat) : Int)] β w (.bool true) := by
 refine enter (n := 206) Tryz.func7 rfl Tryz.ntmps7 rfl ?_ hw
 refine csr (lE oab (lnc (lcf (cl0 (vs := []) va4.ok rfl rfl) rfl fun w β1 sb kn hw1 back => (empty_ok β1 w hw1 3 (by decide)).mono ?_)))
 rintro e w' ⟨S1,rfl,hw'⟩
 refine ⟨_,rfl,_,back _ _ hw',?_⟩
 clear hw1 hw' back kn sb
 refine lE oap (lnc (lE omp (l_call rfl rfl rfl (cl0 (vs := [.int .i64 (3),pp S1 0]) va5.ok rfl rfl) ?_)))
 intro w hw
 replace hw := hw.perm (L' := _ :: []) (by exact (perm_front 0 rfl))
 obtain ⟨β1,sb,kn,hw1,back⟩ := St.frame (L := [_]) (M := []) hw
 refine ((gopenZ_ok β1 w S1 0 (freshG 3) true hw1 (by decide) 3 rfl).mono fun _ _ z => open_yes z).mono ?_
 rintro e w' ⟨G2,rfl,hw'⟩
 refine ⟨_,rfl,_,back _ _ hw',?_⟩
 clear hw hw1 hw' back kn sb
 refine lE omt (lE oxp (lE oxi (lE oap (lE oai (lnf (cs2 (c_region (lE omi (lE onq (lnf (c_no rfl (csk (csr (lE omi ?_))))))))))))))
 refine lv (v := .int .u8 (((n.toNat % 5 : Nat)) : Int)) (e_rem (a := ((n).toNat : Int)) (b := ((5 : Nat) : Int)) rfl rfl (by decide) (nat_tmod _ _)) ?_
 refine lv (v := Nx (n.toNat % 5)) (e_conv (a := ((n.toNat % 5 : Nat) : Int)) rfl ⟨_,va6⟩ va7 (i64n rfl (by omega))) ?_
 refine lv (v := Nx (1 + (n.toNat % 5))) (e_add rfl rfl (i64n (by omega) (by omega))) (lE oai (lnf (cs2 ?_)))
 obtain ⟨k,hkk,hk1,hk2⟩ : ∃ k : Nat,((k : Nat) : Int) = ((1 + (n.toNat % 5) : Nat) : Int) ∧ 1 ≤ k ∧ k ≤ 5 := ⟨_,rfl,by omega,by have := Nat.mod_lt n.toNat (show 0 < 5 by decide); omega⟩
 refine rbs 10 (v := Nx k) (show (Nx (1 + (n.toNat % 5)) : Value) = Nx k from congrArg (Value.int .i64) hkk.symm) ?_
 refine c_re (L' := [gateR G2 S1 (tX 0) 0 true]) rfl (c_region (lE oai (lnf (c_block ?_))))
 refine c_loop (fun (x_ : Nat × Nat) f L => match x_ with | (j,n1) => (f 1 = Bx (wh) ∧ f 2 = .int .u16 (((pw : Nat)) : Int) ∧ f 7 = pp S1 0 ∧ f 8 = pp G2 0 ∧ f 10 = Nx (k) ∧ f 11 = Nx (j + 1)) ∧ L = [gateR G2 S1 (tX j) n1 true] ∧ (j ≤ k ∧ n1 ≤ 300 * j)) (fun (j,n1) => k - j) (0,0) ?_ ?_
 ·exact ⟨⟨rfl,rfl,rfl,rfl,rfl,rfl⟩,rfl,⟨Nat.zero_le _,Nat.le_refl _⟩⟩
 rintro ⟨j,n1⟩ f0 L0 ⟨⟨hs1,hs2,hs7,hs8,hs10,hs11⟩,hL,⟨hj,hn1⟩⟩
 subst L0
 refine rbs 1 hs1 (rbs 2 hs2 (rbs 7 hs7 (rbs 8 hs8 (rbs 10 hs10 (rbs 11 hs11 (cs2 (c_region (lE omi (lE omi (lE ole (lnf ?_)))))))))))
 refine c_if _ rfl (fun hc3 => ?_) (fun hc3 => ?_)
 ·refine csk (c_seq (c_block (csr (lE omp (lE omi (lE omi ?_))))))
  refine lcf (cl0 (vs := [Nx (j + 1),Nx (j + 1)]) va8.ok rfl rfl) rfl fun w β1 sb kn hw1 back => (thing_ok β1 w hw1 ((j + 1 : Nat) : Int) ((j + 1 : Nat) : Int)).mono ?_
  rintro e w' ⟨p4,c5,rfl,hw'⟩
  refine ⟨_,rfl,_,back _ _ hw',?_⟩
  clear hw1 hw' back kn sb
  refine l_call rfl rfl rfl (cl0 (vs := [pp G2 0,.agg #[Nx (j + 1),.slice p4 (1) c5]]) va9.ok rfl rfl) ?_
  intro w hw
  replace hw := hw.perm (L' := _ :: _ :: []) (by exact ((perm_front 0 rfl).trans (perm_front 1 rfl)))
  obtain ⟨β1,sb,kn,hw1,back⟩ := St.frame (L := [_]) (M := _ :: []) hw
  refine ((gput_ok β1 w (Cs.mono _ _ _ _ sb hG) G2 S1 n1 (tX j) true hw1 (by omega) (thE ((j + 1 : Nat) : Int) ((j + 1 : Nat) : Int)) _ (kn _ (k_flN 0 (F := CpF) (m := 1) rfl rfl))).mono fun _ _ z => act_yes (N' := (n1 + 300)) (Y := (tX (j + 1))) (tX_put ⟨by omega,by omega⟩ (by omega)) tX_next (Nat.le_refl _) z).mono ?_
  rintro e w' ⟨rfl,hw'⟩
  refine ⟨_,rfl,_,back _ _ hw',?_⟩
  clear hw hw1 hw' back kn sb
  refine lE onq (lnf (c_no rfl (c_skip (f_block (f_then (c_region (lE omi (lv (v := Nx ((j + 1) + 1)) (e_add rfl rfl (i64n (by omega) (by omega))) ?_))))))))
  refine lE oai (l_nil (f_mask [true,false] rfl ?_))
  exact f_cut ⟨(j + 1,(n1 + 300)),⟨⟨rfl,rfl,rfl,rfl,rfl,rfl⟩,rfl,⟨by omega,by omega⟩⟩,(show k - (j + 1) < k - j from by omega)⟩
 refine c_exit (f_then_exit (f_then_exit (f_exit (fts ?_))))
 have hjk : k = j := by omega
 subst hjk
 refine c_region (lE omp (l_call rfl rfl rfl (cl0 (vs := [pp G2 0]) va10.ok rfl rfl) ?_))
 intro w hw
 replace hw := hw.perm (L' := _ :: []) (by exact (perm_front 0 rfl))
 obtain ⟨β1,sb,kn,hw1,back⟩ := St.frame (L := [_]) (M := []) hw
 refine ((hereG_ok β1 w G2 S1 n1 (tX k) true hw1).mono fun _ _ z => shownE (L' := (tH k)) rfl z).mono ?_
 rintro e w' ⟨p6,c7,rfl,hw'⟩
 refine ⟨_,rfl,_,back _ _ hw',?_⟩
 clear hw hw1 hw' back kn sb
 refine lE oas (lnf (cs2 (c_openEnts rfl fun ez8 hez9 heh10 => ?_)))
 have hez9l : ez8.length = (tH k).length := by rw [← hez9,List.length_map]
 have hez9k : (ez8.map Prod.fst).length = ez8.length := List.length_map _
 refine rbs 12 (v := sB p6 ez8 c7) (show (sB p6 (tH k) c7 : Value) = sB p6 ez8 c7 from congrArg (fun z => Value.slice p6 z c7) hez9l.symm) ?_
 have hzip := Zip.of hez9 heh10
 have hezk : ez8.length = k := by rw [hez9l,tH_len]
 have hezm : (ez8.map Prod.fst).length = k := by rw [List.length_map]; exact hezk
 refine c_region (lE oms (lE oln (lE omi (lE onq (lnf (c_if _ rfl (fun hc11 => ?_) (fun hc11 => ?_)))))))
 ·exact absurd hc11 (fun q => q (by first | omega | decide))
 refine csk (c_seq (c_pi [2,0,1] 3 rfl (by kernel_rfl) (c_openGate rfl fun J i kk hso hpw => c_pi [2,0,1,3,4] 5 rfl (by kernel_rfl) ?_)))
 refine c_openStore rfl (fun pH12 pA13 pB14 cH15 cA16 cB17 => ?_)
 refine c_region (lE omp (lE omi ?_))
 refine lv (v := Nx (pw)) (e_conv (a := ((pw : Nat) : Int)) rfl ⟨_,va11⟩ va7 (by rw [wrap64 _ (by omega),if_pos (by omega)])) ?_
 refine lv (v := Nx (pw % 400)) (e_rem (a := ((pw : Nat) : Int)) (b := (400 : Int)) rfl rfl (by decide) (nat_tmod _ 400)) (lE onp (lE ofp ?_))
 refine lu (mS 0 (#[sB pH12 kk.head cH15,sB pA13 kk.a cA16,sB pB14 kk.b cB17,Nx (pw % 400)])) (lnf (c_seq ?_))
 obtain ⟨pq,hpq⟩ : ∃ z : Int,z = ((pw % 400 : Nat) : Int) := ⟨_,rfl⟩
 refine c_closeStore (S := S1) (k := { kk with power := pq }) (pH := pH12) (pA := pA13) (pB := pB14) (cH := cH15) (cA := cA16) (cB := cB17) (M := [gvR G2 J (tX k) false,jourR J S1 i false,rowF EhF 32 p6 c7 (ez8.map Prod.fst),poolR ez8]) (by rw [hpq] <;> rfl) ?_
 refine c_pi [1,2,0,3,4] 5 rfl (by kernel_rfl) ?_
 refine c_closeGate (N := n1) (m := false) (M := [rowF EhF 32 p6 c7 (ez8.map Prod.fst),poolR ez8]) rfl (hso.pow (by omega) (by omega)) (fun q => by cases q) ?_
 refine c_region (lE oai (lnf (c_seq ?_)))
 refine rbs 12 (v := sB p6 (ez8.map Prod.fst) c7) (show (sB p6 ez8 c7 : Value) = sB p6 (ez8.map Prod.fst) c7 from congrArg (fun z => Value.slice p6 z c7) hez9k.symm) ?_
 refine c_region (l_mv rfl rfl rfl (m_slice0 va1) ?_)
 rintro _ _ ⟨b18,rfl,rfl⟩
 refine l_conseq 0 rfl (r' := rowF EhF 32 (some ⟨b18,0,none⟩) 0 []) (fun a h => pt_rowF (F := EhF) (xs := []) rfl (by decide) a h) (lE oms ?_)
 refine l_mv rfl rfl rfl (m_appendFlN (F := EhF) 0 va1 va14 (p := (some ⟨b18,0,none⟩)) (m := 0) (xs := []) (ys := (ez8.map Prod.fst)) (ao := p6) (k := (ez8.map Prod.fst).length) (c := c7) rfl rfl rfl rfl rfl (Knows.imp (k_flN 2 (F := EhF) (m := (ez8.map Prod.fst).length) rfl rfl) fun _ h => (Sl.parts h).2.2.2) (by first | omega | simp only [List.length_nil,List.length_cons,List.length_append,List.length_set]; omega) (by first | omega | simp only [List.length_nil,List.length_cons,List.length_append,List.length_set]; omega)) ?_
 rintro _ _ ⟨rp19,rc20,rfl,rfl⟩
 refine lE oas (lnf (c_seq ?_))
 refine rbs 12 (v := .slice p6 (k) c7) (show (sB p6 (ez8.map Prod.fst) c7 : Value) = .slice p6 (k) c7 from congrArg (fun z => Value.slice p6 z c7) hezm) ?_
 refine rbs 14 (v := .slice rp19 (k) rc20) (show (sB rp19 (ez8.map Prod.fst) rc20 : Value) = .slice rp19 (k) rc20 from congrArg (fun z => Value.slice rp19 z rc20) (by first | exact hezm | (simp only [List.nil_append]; exact hezm))) ?_
 refine c_region (lE oai (lnf ?_))
 refine c_seq_cut (fun (f : Fm) (L : List Res) => ∃ (e : Int) (pa : Option Addr) (na : Nat) (ca : Nat) (AL : List KEnt) (X1 : KG) (gv : Nat),(f 7 = pp S1 0 ∧ f 8 = pp G2 0 ∧ f 10 = Nx (k) ∧ f 12 = .slice p6 (k) c7 ∧ f 13 = Ix (e) ∧ f 14 = .slice pa (na) ca ∧ f 15 = Nx (gv)) ∧ L = [seen2R p6 k c7 (tH k) pa na ca AL,endG e G2 S1 (tX k) X1 (n1 + 300) (n1 + 262500) false] ∧ (X1.zone = 3 ∧ AL = X1.here ∧ ((gv = 0 ∧ X1.out = []) ∨ (gv = 1 ∧ X1.out = [tM k])))) ?_ ?_
 ·refine csr (lE omi ?_)
  refine lv (v := .int .u8 (((wh.toNat % 4 : Nat)) : Int)) (e_rem (a := ((wh).toNat : Int)) (b := ((4 : Nat) : Int)) rfl rfl (by decide) (nat_tmod _ _)) ?_
  refine lnf (c_block (csr (lE oeq_ (lE oab (lnf (c_if _ rfl (fun hc21 => ?_) (fun hc21 => ?_)))))))
  ·refine csr (lE omp (lE omi ?_))
   refine lcf (cl0 (vs := [Nx (k),.int .i64 (99)]) va8.ok rfl rfl) rfl fun w β1 sb kn hw1 back => (thing_ok β1 w hw1 ((k : Nat) : Int) 99).mono ?_
   rintro e w' ⟨p22,c23,rfl,hw'⟩
   refine ⟨_,rfl,_,back _ _ hw',?_⟩
   clear hw1 hw' back kn sb
   refine l_call rfl rfl rfl (cl0 (vs := [pp G2 0,.agg #[Nx (k),.slice p22 (1) c23]]) va15.ok rfl rfl) ?_
   intro w hw
   replace hw := hw.perm (L' := _ :: _ :: _ :: _ :: _ :: []) (by exact (((((perm_front 4 rfl).trans (perm_front 4 rfl)).trans (perm_front 3 rfl)).trans (perm_front 3 rfl)).trans (perm_front 4 rfl)))
   obtain ⟨β1,sb,kn,hw1,back⟩ := St.frame (L := [_]) (M := _ :: _ :: _ :: _ :: []) hw
   refine ((gsave_ok β1 w (Cs.mono _ _ _ _ sb hG) G2 S1 n1 (tX k) false hw1 (by omega) (thE ((k : Nat) : Int) 99) _ (kn _ (k_flN 0 (F := CpF) (m := 1) rfl rfl))).mono fun _ _ z => act_end (Y := (⟨3,(tH k).set (k - 1) (thE ((k : Nat) : Int) 99),[],zero7,zero7⟩ : KG)) (tX_save ⟨hk1,Nat.le_refl _⟩ hk2 (by decide)) (tX_save2 hk1) z).mono ?_
   rintro e w' ⟨e24,rfl,hw'⟩
   refine ⟨_,rfl,_,back _ _ hw',?_⟩
   clear hw hw1 hw' back kn sb
   refine lE oai (lnr (lE oms (lE omi ?_)))
   refine lv (v := Nx (k - 1)) (ev_eq (congrArg (fun z : Int => Ix z) (show (((k : Nat) : Int) - (1 : Int)) = ((k - 1 : Nat) : Int) by omega)) (e_sub (a := ((k : Nat) : Int)) (b := (1 : Int)) rfl rfl (i64w (by omega)))) ?_
   refine lE omi ?_
   refine lcf (cl0 (vs := [Nx (k),.int .i64 (99)]) va8.ok rfl rfl) rfl fun w β1 sb kn hw1 back => (thing_ok β1 w hw1 ((k : Nat) : Int) 99).mono ?_
   rintro e w' ⟨p25,c26,rfl,hw'⟩
   refine ⟨_,rfl,_,back _ _ hw',?_⟩
   clear hw1 hw' back kn sb
   refine lv (v := .pointer (some ((ba rp19).add ((k - 1) * 2)))) (e_indexFlN 3 (F := EhF) (j := k - 1) (m := k) (xs := (ez8.map Prod.fst)) rfl (by omega) rfl va1 (by omega) rfl) ?_
   refine lu (m_storeFl 3 (F := EhF) (p := rp19) (k := k - 1) (xs := (ez8.map Prod.fst)) (z := (⟨((k : Nat) : Int),p25,1,c26⟩ : KEh)) va2.ok rfl rfl rfl rfl (by omega)) ?_
   refine l_nil (f_block (f_pi [0,5,1,2,3,4] 6 rfl (by kernel_rfl) ?_))
   refine f_merge (L := [rowF CpF 100 p25 c26 [(⟨10,99,0,0,0⟩ : KComp)],poolR ez8]) (M := [endG e24 G2 S1 (tX k) (⟨3,(tH k).set (k - 1) (thE ((k : Nat) : Int) 99),[],zero7,zero7⟩ : KG) (n1 + 300) (n1 + 262500) false,rowF CpF 100 p22 c23 [(⟨10,99,0,0,0⟩ : KComp)],rowF EhF 32 rp19 rc20 ((ez8.map Prod.fst).set (k - 1) (⟨((k : Nat) : Int),p25,1,c26⟩ : KEh)),rowF EhF 32 p6 c7 (ez8.map Prod.fst)]) (r := poolR (ez8 ++ [((⟨((k : Nat) : Int),p25,1,c26⟩ : KEh),(thE ((k : Nat) : Int) 99))])) (poolR_add (id := ((k : Nat) : Int)) rfl) ?_
   refine f_pi [4,3,0,1,2] 5 rfl (by kernel_rfl) ?_
   refine f_merge (L := [rowF EhF 32 p6 c7 (ez8.map Prod.fst),rowF EhF 32 rp19 rc20 ((ez8.map Prod.fst).set (k - 1) (⟨((k : Nat) : Int),p25,1,c26⟩ : KEh)),poolR (ez8 ++ [((⟨((k : Nat) : Int),p25,1,c26⟩ : KEh),(thE ((k : Nat) : Int) 99))])]) (M := [endG e24 G2 S1 (tX k) (⟨3,(tH k).set (k - 1) (thE ((k : Nat) : Int) 99),[],zero7,zero7⟩ : KG) (n1 + 300) (n1 + 262500) false,rowF CpF 100 p22 c23 [(⟨10,99,0,0,0⟩ : KComp)]]) (r := seen2R p6 k c7 (tH k) rp19 k rc20 ((tH k).set (k - 1) (thE ((k : Nat) : Int) 99))) (fun a ha => hezm ▸ seen2_of (n' := k) (es' := ((tH k).set (k - 1) (thE ((k : Nat) : Int) 99))) (hzip.more ((⟨((k : Nat) : Int),p25,1,c26⟩ : KEh),(thE ((k : Nat) : Int) 99))) (by rw [List.take_of_length_le (by first | omega | (simp only [List.length_append,List.length_set,List.length_nil,List.length_cons] <;> omega))]; exact (hzip.set (k := k - 1) (x := (⟨((k : Nat) : Int),p25,1,c26⟩ : KEh)) (e := (thE ((k : Nat) : Int) 99)) ⟨rfl,rfl⟩)) (by first | omega | (simp only [List.length_append,List.length_set,List.length_nil,List.length_cons] <;> omega)) a ha) ?_
   refine f_mask [true,true,false] rfl ?_
   exact f_cut ⟨e24,rp19,k,rc20,((tH k).set (k - 1) (thE ((k : Nat) : Int) 99)),(⟨3,(tH k).set (k - 1) (thE ((k : Nat) : Int) 99),[],zero7,zero7⟩ : KG),0,⟨rfl,rfl,rfl,rfl,rfl,rfl,rfl⟩,rfl,⟨rfl,rfl,.inl ⟨rfl,rfl⟩⟩⟩
  refine csr (lE oeq_ (lE oab (lnf (c_if _ rfl (fun hc27 => ?_) (fun hc27 => ?_)))))
  ·refine csr (lE omp (lE omi (l_call rfl rfl rfl (cl0 (vs := [pp G2 0,Nx (k)]) va16.ok rfl rfl) ?_)))
   intro w hw
   replace hw := hw.perm (L' := _ :: _ :: _ :: _ :: []) (by exact ((((perm_front 3 rfl).trans (perm_front 3 rfl)).trans (perm_front 2 rfl)).trans (perm_front 3 rfl)))
   obtain ⟨β1,sb,kn,hw1,back⟩ := St.frame (L := [_]) (M := _ :: _ :: _ :: []) hw
   refine ((gdrop_ok β1 w (Cs.mono _ _ _ _ sb hG) G2 S1 n1 (tX k) false hw1 (by omega) ((k : Nat) : Int) ⟨by omega,by omega⟩).mono fun _ _ z => act_end (Y := (⟨3,(tH k).take (k - 1),[],zero7,zero7⟩ : KG)) (tX_drop hk1) (tX_drop2 hk1) z).mono ?_
   rintro e w' ⟨e28,rfl,hw'⟩
   refine ⟨_,rfl,_,back _ _ hw',?_⟩
   clear hw hw1 hw' back kn sb
   refine lE oai (lnf (c_rowcap 1 rfl (fun hcap1 hcap2 => ?_)))
   have hcap3 : k ≤ rc20 := Nat.le_trans (Nat.le_of_eq (by first | exact hezm.symm | (simp only [List.nil_append]; exact hezm.symm))) hcap1
   refine c_region (lE oms (lE omi ?_))
   refine lv (v := Nx (k - 1)) (ev_eq (congrArg (fun z : Int => Ix z) (show (((k : Nat) : Int) - (1 : Int)) = ((k - 1 : Nat) : Int) by omega)) (e_sub (a := ((k : Nat) : Int)) (b := (1 : Int)) rfl rfl (i64w (by omega)))) ?_
   refine lv (v := .slice rp19 (k - 1) rc20) (e_slice_hi (a := rp19) (len := k) (cap := rc20) (h := k - 1) va1 rfl rfl (by omega)) (lE oas (l_nil ?_))
   refine f_block (f_pi [2,1,3,0] 4 rfl (by kernel_rfl) ?_)
   refine f_merge (L := [rowF EhF 32 p6 c7 (ez8.map Prod.fst),rowF EhF 32 rp19 rc20 (ez8.map Prod.fst),poolR ez8]) (M := [endG e28 G2 S1 (tX k) (⟨3,(tH k).take (k - 1),[],zero7,zero7⟩ : KG) (n1 + 300) (n1 + 262500) false]) (r := seen2R p6 k c7 (tH k) rp19 (k - 1) rc20 ((tH k).take (k - 1))) (fun a ha => hezm ▸ seen2_of (n' := k - 1) (es' := ((tH k).take (k - 1))) hzip (hzip.take (k - 1)) (by first | omega | (simp only [List.length_append,List.length_set,List.length_nil,List.length_cons] <;> omega)) a ha) ?_
   exact f_cut ⟨e28,rp19,k - 1,rc20,((tH k).take (k - 1)),(⟨3,(tH k).take (k - 1),[],zero7,zero7⟩ : KG),0,⟨rfl,rfl,rfl,rfl,rfl,rfl,rfl⟩,rfl,⟨rfl,rfl,.inl ⟨rfl,rfl⟩⟩⟩
  refine csr (lE oeq_ (lE oab (lnf (c_if _ rfl (fun hc29 => ?_) (fun hc29 => ?_)))))
  ·refine csr (lE omp (lE omi (l_call rfl rfl rfl (cl0 (vs := [pp G2 0,Nx (k),.int .i64 (5)]) va17.ok rfl rfl) ?_)))
   intro w hw
   replace hw := hw.perm (L' := _ :: _ :: _ :: _ :: []) (by exact ((((perm_front 3 rfl).trans (perm_front 3 rfl)).trans (perm_front 2 rfl)).trans (perm_front 3 rfl)))
   obtain ⟨β1,sb,kn,hw1,back⟩ := St.frame (L := [_]) (M := _ :: _ :: _ :: []) hw
   refine ((ggive_ok β1 w (Cs.mono _ _ _ _ sb hG) G2 S1 n1 (tX k) false hw1 (by omega) ((k : Nat) : Int) 5 ⟨by omega,by omega⟩ (by decide)).mono fun _ _ z => act_end (Y := (⟨3,(tH k).take (k - 1),[tM k],⟨0,0,0,0,0,1,0⟩,zero7⟩ : KG)) (tX_give hk1) (tX_give2 hk1) z).mono ?_
   rintro e w' ⟨e30,rfl,hw'⟩
   refine ⟨_,rfl,_,back _ _ hw',?_⟩
   clear hw hw1 hw' back kn sb
   refine lE oai (lnf (c_rowcap 1 rfl (fun hcap1 hcap2 => ?_)))
   have hcap3 : k ≤ rc20 := Nat.le_trans (Nat.le_of_eq (by first | exact hezm.symm | (simp only [List.nil_append]; exact hezm.symm))) hcap1
   refine c_region (lE oms (lE omi ?_))
   refine lv (v := Nx (k - 1)) (ev_eq (congrArg (fun z : Int => Ix z) (show (((k : Nat) : Int) - (1 : Int)) = ((k - 1 : Nat) : Int) by omega)) (e_sub (a := ((k : Nat) : Int)) (b := (1 : Int)) rfl rfl (i64w (by omega)))) ?_
   refine lv (v := .slice rp19 (k - 1) rc20) (e_slice_hi (a := rp19) (len := k) (cap := rc20) (h := k - 1) va1 rfl rfl (by omega)) (lE oas (lE oai ?_))
   refine l_nil (f_block (f_pi [2,1,3,0] 4 rfl (by kernel_rfl) ?_))
   refine f_merge (L := [rowF EhF 32 p6 c7 (ez8.map Prod.fst),rowF EhF 32 rp19 rc20 (ez8.map Prod.fst),poolR ez8]) (M := [endG e30 G2 S1 (tX k) (⟨3,(tH k).take (k - 1),[tM k],⟨0,0,0,0,0,1,0⟩,zero7⟩ : KG) (n1 + 300) (n1 + 262500) false]) (r := seen2R p6 k c7 (tH k) rp19 (k - 1) rc20 ((tH k).take (k - 1))) (fun a ha => hezm ▸ seen2_of (n' := k - 1) (es' := ((tH k).take (k - 1))) hzip (hzip.take (k - 1)) (by first | omega | (simp only [List.length_append,List.length_set,List.length_nil,List.length_cons] <;> omega)) a ha) ?_
   exact f_cut ⟨e30,rp19,k - 1,rc20,((tH k).take (k - 1)),(⟨3,(tH k).take (k - 1),[tM k],⟨0,0,0,0,0,1,0⟩,zero7⟩ : KG),1,⟨rfl,rfl,rfl,rfl,rfl,rfl,rfl⟩,rfl,⟨rfl,rfl,.inr ⟨rfl,rfl⟩⟩⟩
  refine csr (lE oeq_ (lE oab (lnf (c_if _ rfl (fun hc31 => ?_) (fun hc31 => ?_)))))
  ·refine csr (lE omp (lcf (cl0 (vs := [.int .i64 (50),.int .i64 (50)]) va8.ok rfl rfl) rfl fun w β1 sb kn hw1 back => (thing_ok β1 w hw1 50 50).mono ?_))
   rintro e w' ⟨p32,c33,rfl,hw'⟩
   refine ⟨_,rfl,_,back _ _ hw',?_⟩
   clear hw1 hw' back kn sb
   refine l_call rfl rfl rfl (cl0 (vs := [pp G2 0,.agg #[.int .i64 (50),.slice p32 (1) c33]]) va9.ok rfl rfl) ?_
   intro w hw
   replace hw := hw.perm (L' := _ :: _ :: _ :: _ :: _ :: []) (by exact (((((perm_front 4 rfl).trans (perm_front 4 rfl)).trans (perm_front 3 rfl)).trans (perm_front 3 rfl)).trans (perm_front 4 rfl)))
   obtain ⟨β1,sb,kn,hw1,back⟩ := St.frame (L := [_]) (M := _ :: _ :: _ :: _ :: []) hw
   refine ((gput_ok β1 w (Cs.mono _ _ _ _ sb hG) G2 S1 n1 (tX k) false hw1 (by omega) (thE 50 50) _ (kn _ (k_flN 0 (F := CpF) (m := 1) rfl rfl))).mono fun _ _ z => act_end (Y := (⟨3,tH k ++ [thE 50 50],[],zero7,zero7⟩ : KG)) (tX_put ⟨by omega,by omega⟩ hk2) (tX_put2 (by omega)) z).mono ?_
   rintro e w' ⟨e34,rfl,hw'⟩
   refine ⟨_,rfl,_,back _ _ hw',?_⟩
   clear hw hw1 hw' back kn sb
   refine lE oai (lnr (lE oms ?_))
   refine lcf (cl0 (vs := [.int .i64 (50),.int .i64 (50)]) va8.ok rfl rfl) rfl fun w β1 sb kn hw1 back => (thing_ok β1 w hw1 50 50).mono ?_
   rintro e w' ⟨p35,c36,rfl,hw'⟩
   refine ⟨_,rfl,_,back _ _ hw',?_⟩
   clear hw1 hw' back kn sb
   refine l_mv rfl rfl rfl (m_slices va1 va18.ok (cells := #[.int .i64 (50),.slice p35 (1) c36]) rfl rfl rfl rfl) ?_
   rintro _ _ ⟨b37,rfl,rfl⟩
   refine l_mv rfl rfl rfl (m_appendFlN (F := EhF) 4 va1 va14 (p := rp19) (m := k) (xs := (ez8.map Prod.fst)) (ys := [(⟨50,p35,1,c36⟩ : KEh)]) (ao := (some ⟨b37,0,none⟩)) (k := 1) (c := 1) rfl (by omega) rfl rfl rfl (k_ptFl (z := (⟨50,p35,1,c36⟩ : KEh)) 0 rfl rfl) (by first | omega | simp only [List.length_nil,List.length_cons,List.length_append,List.length_set]; omega) (by first | omega | simp only [List.length_nil,List.length_cons,List.length_append,List.length_set]; omega)) ?_
   rintro _ _ ⟨rp38,rc39,rfl,rfl⟩
   refine lE oas (l_nil (f_block (f_pi [1,6,0,2,3,4,5] 7 rfl (by kernel_rfl) ?_)))
   refine f_merge (L := [rowF CpF 100 p35 c36 [(⟨10,50,0,0,0⟩ : KComp)],poolR ez8]) (M := [pt b37 (.cells #[.int .i64 (50),.slice p35 (1) c36] 32),endG e34 G2 S1 (tX k) (⟨3,tH k ++ [thE 50 50],[],zero7,zero7⟩ : KG) (n1 + 300) (n1 + 262500) false,rowF CpF 100 p32 c33 [(⟨10,50,0,0,0⟩ : KComp)],rowF EhF 32 rp38 rc39 ((ez8.map Prod.fst) ++ [(⟨50,p35,1,c36⟩ : KEh)]),rowF EhF 32 p6 c7 (ez8.map Prod.fst)]) (r := poolR (ez8 ++ [((⟨50,p35,1,c36⟩ : KEh),(thE 50 50))])) (poolR_add (id := 50) rfl) ?_
   refine f_pi [5,4,0,1,2,3] 6 rfl (by kernel_rfl) ?_
   refine f_merge (L := [rowF EhF 32 p6 c7 (ez8.map Prod.fst),rowF EhF 32 rp38 rc39 ((ez8.map Prod.fst) ++ [(⟨50,p35,1,c36⟩ : KEh)]),poolR (ez8 ++ [((⟨50,p35,1,c36⟩ : KEh),(thE 50 50))])]) (M := [pt b37 (.cells #[.int .i64 (50),.slice p35 (1) c36] 32),endG e34 G2 S1 (tX k) (⟨3,tH k ++ [thE 50 50],[],zero7,zero7⟩ : KG) (n1 + 300) (n1 + 262500) false,rowF CpF 100 p32 c33 [(⟨10,50,0,0,0⟩ : KComp)]]) (r := seen2R p6 k c7 (tH k) rp38 (((ez8.map Prod.fst) ++ [(⟨50,p35,1,c36⟩ : KEh)]).length) rc39 (tH k ++ [thE 50 50])) (fun a ha => hezm ▸ seen2_of (n' := ((ez8.map Prod.fst) ++ [(⟨50,p35,1,c36⟩ : KEh)]).length) (es' := (tH k ++ [thE 50 50])) (hzip.more ((⟨50,p35,1,c36⟩ : KEh),(thE 50 50))) (by rw [List.take_of_length_le (by first | omega | (simp only [List.length_append,List.length_set,List.length_nil,List.length_cons] <;> omega))]; exact (hzip.snoc (x := (⟨50,p35,1,c36⟩ : KEh)) (e := (thE 50 50)) ⟨rfl,rfl⟩)) (by first | omega | (simp only [List.length_append,List.length_set,List.length_nil,List.length_cons] <;> omega)) a ha) ?_
   refine f_mask [true,false,true,false] rfl ?_
   exact f_cut ⟨e34,rp38,((ez8.map Prod.fst) ++ [(⟨50,p35,1,c36⟩ : KEh)]).length,rc39,(tH k ++ [thE 50 50]),(⟨3,tH k ++ [thE 50 50],[],zero7,zero7⟩ : KG),0,⟨rfl,rfl,rfl,rfl,rfl,rfl,rfl⟩,rfl,⟨rfl,rfl,.inl ⟨rfl,rfl⟩⟩⟩
  exact absurd (by omega) hc31
 rintro f0 L0 ⟨e,pa,na,ca,AL,X1,gv,⟨hs7,hs8,hs10,hs12,hs13,hs14,hs15⟩,hL,⟨hX1z,hAL,hgv⟩⟩
 subst L0
 refine rbs 7 hs7 (rbs 8 hs8 (rbs 10 hs10 (rbs 12 hs12 (rbs 13 hs13 (rbs 14 hs14 (rbs 15 hs15 (cs2 (c_pi [1,0] 2 rfl (by kernel_rfl) ?_))))))))
 refine c_freeze2 (M := [endG e G2 S1 (tX k) X1 (n1 + 300) (n1 + 262500) false]) (K := [seen2R p6 k c7 (tH k) pa na ca AL]) rfl (fun βf ext1 kn1 bk1 => ?_)
 replace hG := Cs.mono _ _ _ _ ext1.sub hG
 have hsb := kn1 _ (k_seen1 0 rfl)
 have hsa := kn1 _ (k_seen2 0 rfl)
 obtain ⟨hbn,hbl,hbm,hbe⟩ := hsb.parts
 obtain ⟨han,hal,ham,hae⟩ := hsa.parts
 subst hAL
 have hks := tH_len k
 refine c_endIf rfl (fun he => ?_) (fun he => ?_)
 ·have hpb : powB e = true := by unfold powB; simp [he]
  refine c_region (lE omi (lcR clA (fun w β1 sb kn hw1 => powered_ok β1 w hw1 e) (lE ont (lnf (c_ifb (!(powB e)) rfl (fun hc40 => ?_) (fun hc40 => ?_))))))
  ·rw [(show (!(powB e)) = false by rw [hpb]; rfl)] at hc40; cases hc40
  refine csk (cs2 (c_region (lE omi (lE oeq_ (lnf (c_if _ rfl (fun hc41 => ?_) (fun hc41 => ?_)))))))
  ·exact absurd hc41 (by omega)
  refine csk (c_seq (c_leaveT rfl (c_openShelf rfl (fun i2 k2 hso2 hpw2 => ?_))))
  refine c_openStore rfl (fun pH42 pA43 pB44 cH45 cA46 cB47 => ?_)
  refine c_region (lE omp (lE onp (lE ofp (lu (mS 0 (#[sB pH42 k2.head cH45,sB pA43 k2.a cA46,sB pB44 k2.b cB47,.int .i64 (-1)])) (lnf (c_seq ?_))))))
  refine c_closeStore (S := S1) (k := { k2 with power := -1 }) (pH := pH42) (pA := pA43) (pB := pB44) (cH := cH45) (cA := cA46) (cB := cB47) (M := []) rfl ?_
  refine c_closeShelf (m := true) (M := []) rfl (hso2.pow (by decide) (by decide)) (fun _ => rfl) (c_region (lE omp ?_))
  refine l_call rfl rfl rfl (cl0 (vs := [.int .i64 (3),pp S1 0]) va5.ok rfl rfl) ?_
  intro w hw
  replace hw := hw.perm (L' := _ :: []) (by exact (perm_front 0 rfl))
  obtain ⟨β1,sb,kn,hw1,back⟩ := St.frame (L := [_]) (M := []) hw
  refine ((gopenZ_ok β1 w S1 (n1 + 300) X1 true hw1 (by omega) 3 hX1z).mono fun _ _ z => open_yes z).mono ?_
  rintro e w' ⟨G48,rfl,hw'⟩
  refine ⟨_,rfl,_,back _ _ hw',?_⟩
  clear hw hw1 hw' back kn sb
  refine lE omt (lE oxp (lE oxi (lE oap (lE oai (lnf (cs2 (c_region (lE omi (lE onq (lnf (c_no rfl (csk (csr (lE omp ?_))))))))))))))
  refine l_call rfl rfl rfl (cl0 (vs := [pp G48 0]) va10.ok rfl rfl) ?_
  intro w hw
  replace hw := hw.perm (L' := _ :: []) (by exact (perm_front 0 rfl))
  obtain ⟨β1,sb,kn,hw1,back⟩ := St.frame (L := [_]) (M := []) hw
  refine ((hereG_ok β1 w G48 S1 (n1 + 300) X1 true hw1).mono fun _ _ z => shownE (L' := X1.here) rfl z).mono ?_
  rintro e w' ⟨p49,c50,rfl,hw'⟩
  refine ⟨_,rfl,_,back _ _ hw',?_⟩
  clear hw hw1 hw' back kn sb
  refine lE omp (l_call rfl rfl rfl (cl0 (vs := [pp G48 0]) va20.ok rfl rfl) ?_)
  intro w hw
  replace hw := hw.perm (L' := _ :: _ :: []) (by exact ((perm_front 0 rfl).trans (perm_front 1 rfl)))
  obtain ⟨β1,sb,kn,hw1,back⟩ := St.frame (L := [_]) (M := _ :: []) hw
  refine ((outG_ok β1 w G48 S1 (n1 + 300) X1 true hw1).mono fun _ _ z => shownM (L' := X1.out) rfl z).mono ?_
  rintro e w' ⟨p51,c52,rfl,hw'⟩
  refine ⟨_,rfl,_,back _ _ hw',?_⟩
  clear hw hw1 hw' back kn sb
  refine lE oas (lE oas (lnf (c_seq ?_)))
  rcases hgv with ⟨hg0,hgo⟩ | ⟨hg0,hgo⟩
  ·have hol : X1.out.length = 0 := by rw [hgo]; rfl
   refine c_quiet (by kernel_rfl) (by kernel_rfl) (qE oms (qE oms ?_))
   refine q_call (v := .bool (decide (X1.here = X1.here))) rfl rfl rfl (cl0 (vs := [sB p49 X1.here c50,.slice pa (na) (ca)]) va21.ok rfl rfl) (fun w hw => ?_) ?_
   ·obtain ⟨β1,sb,kn,hw1,back⟩ := St.frame_all hw
    exact (entities_ok β1 w hw1 _ _ X1.here X1.here (kn _ (k_entsR 2 rfl rfl)) (Sl.mono _ _ _ _ _ sb hsa)).mono (fun e w' ⟨he,hw'⟩ => ⟨he,st_mask [true,true,true] rfl (back _ _ hw')⟩)
   refine qE omb (q_split (s := 150) rfl (fun h => ?_) (fun h => ?_))
   rotate_left; exact absurd rfl h
   refine rE oms (rE oln (rE omi (rE oeq_ (qE oktb (qE omb (q_split (s := 156) rfl (fun h => ?_) (fun h => ?_)))))))
   rotate_left; exact absurd (by first | omega | (rw [hg0] <;> rfl)) h
   refine rE omi (rE oeq_ (rE omb (q_split (s := 159) rfl (fun h => ?_) (fun h => ?_))))
   rotate_left; exact absurd (by omega) h
   iterate 11 refine qsE ?_
   refine q_skip_u rfl rfl rfl rfl rfl (q_skip_u rfl rfl rfl rfl rfl (q_skip_u rfl rfl rfl rfl rfl (q_skip_u rfl rfl rfl rfl rfl ?_)))
   refine q_skip_u rfl rfl rfl rfl rfl (qsE (qsE (q_skip_u rfl rfl rfl rfl rfl (q_skip_u rfl rfl rfl rfl rfl (q_skip_u rfl rfl rfl rfl rfl ?_)))))
   refine q_skip_u rfl rfl rfl rfl rfl (q_skip_u rfl rfl rfl rfl rfl (qsE (rE oktb (qE oktb (qE oab (q_nil (fts (csr (lE omi (lE oeq_ (lnf ?_)))))))))))
   refine c_if _ rfl (fun hc53 => ?_) (fun hc53 => ?_)
   ·refine csr (lE omb (lE omb (g_call rfl rfl rfl rfl rfl (cl0 (vs := []) va23.ok rfl rfl) ?_)))
    intro w hw
    obtain ⟨β1,sb,kn,hw1,back⟩ := St.frame_all hw
    refine (awake_ok β1 w hw1 (Cs.mono _ _ _ _ sb hG)).mono ?_
    rintro e w' ⟨rfl,hw'⟩
    refine ⟨_,rfl,_,back _ _ hw',?_⟩
    clear hw hw1 hw' back kn sb
    refine lE oktb (lE oab (lnf (c_ret (f_then_ret (ret1 Tryz.results7 rfl ?_)))))
    intro w hw
    exact ⟨rfl,st_mask [false] rfl (bk1 _ _ (st_mask [false,false,false] rfl hw))⟩
   exact absurd (by omega) hc53
  have hol : X1.out.length = 1 := by rw [hgo]; rfl
  refine c_openMsgs rfl fun oz54 hoz55 hoh56 => ?_
  have hoz55l : oz54.length = X1.out.length := by rw [← hoz55,List.length_map]
  have hoz55k : (oz54.map Prod.fst).length = oz54.length := List.length_map _
  refine rbs 18 (v := sB p51 oz54 c52) (show (sB p51 X1.out c52 : Value) = sB p51 oz54 c52 from congrArg (fun z => Value.slice p51 z c52) hoz55l.symm) ?_
  obtain ⟨x57,hx58⟩ : ∃ x_,(oz54.map Prod.fst)[0]? = some x_ := ⟨_,List.getElem?_eq_getElem (by first | omega | decide)⟩
  obtain ⟨s59,hs60,hm61,hp62⟩ := msg_at hoz55 hoh56 hx58
  rw [hgo] at hs60
  injection hs60 with hs60
  subst hs60
  have hxn : x57.number = 1 := hm61.number
  have hxt : x57.to = 5 := hm61.to
  have hxi : x57.id = ((k : Nat) : Int) := hm61.id
  have hyb := tH_get (show k - 1 < k by omega)
  refine c_quiet (by kernel_rfl) (by kernel_rfl) (qE oms (qE oms ?_))
  refine q_call (v := .bool (decide (X1.here = X1.here))) rfl rfl rfl (cl0 (vs := [sB p49 X1.here c50,.slice pa (na) (ca)]) va21.ok rfl rfl) (fun w hw => ?_) ?_
  ·obtain ⟨β1,sb,kn,hw1,back⟩ := St.frame_all hw
   exact (entities_ok β1 w hw1 _ _ X1.here X1.here (kn _ (k_entsR 3 rfl rfl)) (Sl.mono _ _ _ _ _ sb hsa)).mono (fun e w' ⟨he,hw'⟩ => ⟨he,st_mask [true,true,true,true] rfl (back _ _ hw')⟩)
  refine qE omb (q_split (s := 150) rfl (fun h => ?_) (fun h => ?_))
  rotate_left; exact absurd rfl h
  refine rE oms (rE oln (rE omi (rE oeq_ (qE oktb (qE omb (q_split (s := 156) rfl (fun h => ?_) (fun h => ?_)))))))
  rotate_left; exact absurd (by first | omega | (rw [hg0] <;> rfl)) h
  refine rE omi (rE oeq_ (rE omb (q_split (s := 159) rfl (fun h => ?_) (fun h => ?_))))
  exact absurd h (by omega)
  refine rE oms ?_
  refine qg_val (v := .pointer (some ((ba p51).add (0 * 6)))) rfl rfl rfl rfl rfl (e_indexFlN 0 (F := MgF) rfl (List.length_map _).symm rfl va24 (by omega) rfl) ?_
  refine rE ofd ?_
  refine qg_val (v := .agg #[Ix (x57.id),.slice x57.p (x57.n) x57.c]) rfl rfl rfl rfl rfl (e_load va2.ok rfl (k_flPart 0 (F := MgF) (o := 4) (us := [Ix (x57.id),.slice x57.p (x57.n) x57.c]) rfl hx58 rfl) rfl) ?_
  refine rE oms (rE omi ?_)
  refine qg_val (v := Nx (k - 1)) rfl rfl rfl rfl rfl (ev_eq (congrArg (fun z : Int => Ix z) (show (((k : Nat) : Int) - (1 : Int)) = ((k - 1 : Nat) : Int) by omega)) (e_sub (a := ((k : Nat) : Int)) (b := (1 : Int)) rfl rfl (i64w (by omega)))) ?_
  obtain ⟨x63,hx64⟩ := getx (tH k) (k - 1) (by omega)
  obtain ⟨ha65,cs66,hc67,hr68⟩ := hbe _ _ hx64
  obtain ⟨v69,rfl,ho70,hv71⟩ := hr68
  obtain ⟨a72,c73,rfl,hl74,hm75,he76⟩ := (hv71).get
  refine rE (oia va1 ha65) (qg_val (v := .agg #[Ix (x63.id),sB a72 x63.comps (c73)]) rfl rfl rfl rfl rfl (e_load va2.ok rfl (kB hc67) rfl) ?_)
  refine qg_call (v := .bool (decide ((⟨x57.id,(tM k).e.comps⟩ : KEnt) = (⟨x63.id,x63.comps⟩ : KEnt)))) rfl rfl rfl rfl rfl (cl0 (vs := [.agg #[Ix (x57.id),.slice x57.p (x57.n) x57.c],.agg #[Ix (x63.id),sB a72 x63.comps (c73)]]) va3.ok rfl rfl) (fun w hw => ?_) ?_
  ·obtain ⟨β1,sb,kn,hw1,back⟩ := St.frame_all hw
   exact (sameE_ok β1 w hw1 x57.id x63.id _ _ ((tM k).e.comps) x63.comps (kn _ (k_poolS (zs := (MPool.e oz54)) (z := (x57.eh,(tM k).e)) 1 rfl hp62 hm61.eh)) (Sl.mono _ _ _ _ _ sb (⟨⟨_,_,rfl,by omega,by omega,he76⟩⟩ : Sl CpF.R _ _ x63.comps))).mono (fun e w' ⟨he,hw'⟩ => ⟨he,st_mask [true,true,true,true] rfl (back _ _ hw')⟩)
  refine rE omb (q_split (s := 170) rfl (fun h => ?_) (fun h => ?_))
  rotate_left; exact absurd (by rw [hxi]; exact t_same hk1 hx64) h
  refine rE oms ?_
  refine qg_val (v := .pointer (some ((ba p51).add (0 * 6)))) rfl rfl rfl rfl rfl (e_indexFlN 0 (F := MgF) rfl (List.length_map _).symm rfl va24 (by omega) rfl) ?_
  refine rE ofd ?_
  refine qg_val (v := Ix (x57.number)) rfl rfl rfl rfl rfl (e_load1 va13.ok rfl (k_flPart 0 (F := MgF) (o := 2) (us := [Ix (x57.number)]) rfl hx58 rfl)) ?_
  refine rE oeq_ (rE oktb (rE omb (q_split (s := 177) rfl (fun h => ?_) (fun h => ?_))))
  rotate_left; exact absurd (by first | omega | decide) h
  refine rE oms ?_
  refine qg_val (v := .pointer (some ((ba p51).add (0 * 6)))) rfl rfl rfl rfl rfl (e_indexFlN 0 (F := MgF) rfl (List.length_map _).symm rfl va24 (by omega) rfl) ?_
  refine rE ofd ?_
  refine qg_val (v := Ix (x57.to)) rfl rfl rfl rfl rfl (e_load1 va13.ok rfl (k_flPart 0 (F := MgF) (o := 1) (us := [Ix (x57.to)]) rfl hx58 rfl)) ?_
  refine rE oeq_ (rE oktb (rE okfb (qE oktb (qE oab (q_nil (fts (csr (lE omi (lE oeq_ (lnf (c_if _ rfl (fun hc77 => ?_) (fun hc77 => ?_))))))))))))
  ·refine csr (lE omb (lE omb (l_split (s := 189) rfl (fun h => ?_) (fun h => ?_))))
   rotate_left; exact absurd (by first | omega | decide) h
   refine g_call rfl rfl rfl rfl rfl (cl0 (vs := []) va23.ok rfl rfl) ?_
   intro w hw
   obtain ⟨β1,sb,kn,hw1,back⟩ := St.frame_all hw
   refine (awake_ok β1 w hw1 (Cs.mono _ _ _ _ sb hG)).mono ?_
   rintro e w' ⟨rfl,hw'⟩
   refine ⟨_,rfl,_,back _ _ hw',?_⟩
   clear hw hw1 hw' back kn sb
   refine lE oktb (lE oab (lnf (c_ret (f_then_ret (ret1 Tryz.results7 rfl ?_)))))
   intro w hw
   exact ⟨rfl,st_mask [false] rfl (bk1 _ _ (st_mask [false,false,false,false] rfl hw))⟩
  exact absurd (by omega) hc77
 have hpb : powB e = true := by unfold powB; simp [he]
 refine c_region (lE omi (lcR clA (fun w β1 sb kn hw1 => powered_ok β1 w hw1 e) (lE ont (lnf (c_ifb (!(powB e)) rfl (fun hc78 => ?_) (fun hc78 => ?_))))))
 ·rw [(show (!(powB e)) = false by rw [hpb]; rfl)] at hc78; cases hc78
 refine csk (cs2 (c_region (lE omi (lE oeq_ (lnf (c_if _ rfl (fun hc79 => ?_) (fun hc79 => ?_)))))))
 ·refine csr (lE omp (lcf (cl0 (vs := [.int .i64 (1),.int .i64 (1)]) va8.ok rfl rfl) rfl fun w β1 sb kn hw1 back => (thing_ok β1 w hw1 1 1).mono ?_))
  rintro e w' ⟨p80,c81,rfl,hw'⟩
  refine ⟨_,rfl,_,back _ _ hw',?_⟩
  clear hw1 hw' back kn sb
  refine l_call rfl rfl rfl (cl0 (vs := [pp G2 0,.agg #[.int .i64 (1),.slice p80 (1) c81]]) va15.ok rfl rfl) ?_
  intro w hw
  replace hw := hw.perm (L' := _ :: _ :: _ :: []) (by exact (((perm_front 2 rfl).trans (perm_front 1 rfl)).trans (perm_front 2 rfl)))
  obtain ⟨β1,sb,kn,hw1,back⟩ := St.frame (L := [_]) (M := _ :: _ :: []) hw
  refine (down_do hw1 fun β2 w hw2 hb => bsave_ok β2 w hw2 _ 310 (by decide) hb 1 _ rfl).mono ?_
  rintro e w' ⟨rfl,hw'⟩
  refine ⟨_,rfl,_,back _ _ hw',?_⟩
  clear hw hw1 hw' back kn sb
  refine lE onq (lE omb (gE omp (g_call rfl rfl rfl rfl rfl (cl0 (vs := [pp G2 0]) va28.ok rfl rfl) ?_)))
  intro w hw
  replace hw := hw.perm (L' := _ :: _ :: _ :: []) (by exact (((perm_front 2 rfl).trans (perm_front 2 rfl)).trans (perm_front 2 rfl)))
  obtain ⟨β1,sb,kn,hw1,back⟩ := St.frame (L := [_]) (M := _ :: _ :: []) hw
  refine (down_do hw1 fun β2 w hw2 hb => bcompact_ok β2 w hw2 _ 310 (by decide) hb ).mono ?_
  rintro e w' ⟨rfl,hw'⟩
  refine ⟨_,rfl,_,back _ _ hw',?_⟩
  clear hw hw1 hw' back kn sb
  refine gE onq (lE okfb (lE omb (gE omp (g_call rfl rfl rfl rfl rfl (cl0 (vs := [pp G2 0]) va10.ok rfl rfl) ?_))))
  intro w hw
  replace hw := hw.perm (L' := _ :: _ :: _ :: []) (by exact (((perm_front 2 rfl).trans (perm_front 2 rfl)).trans (perm_front 2 rfl)))
  obtain ⟨β1,sb,kn,hw1,back⟩ := St.frame (L := [_]) (M := _ :: _ :: []) hw
  refine (down_do hw1 fun β2 w hw2 hb => bhere_ok β2 w hw2 _ 310 (by decide) hb ).mono ?_
  rintro e w' ⟨rfl,hw'⟩
  refine ⟨_,rfl,_,back _ _ hw',?_⟩
  clear hw hw1 hw' back kn sb
  refine gE oln (gE omp (g_call rfl rfl rfl rfl rfl (cl0 (vs := [pp G2 0]) va20.ok rfl rfl) ?_))
  intro w hw
  replace hw := hw.perm (L' := _ :: _ :: _ :: []) (by exact (((perm_front 2 rfl).trans (perm_front 2 rfl)).trans (perm_front 2 rfl)))
  obtain ⟨β1,sb,kn,hw1,back⟩ := St.frame (L := [_]) (M := _ :: _ :: []) hw
  refine (down_do hw1 fun β2 w hw2 hb => bout_ok β2 w hw2 _ 310 (by decide) hb ).mono ?_
  rintro e w' ⟨rfl,hw'⟩
  refine ⟨_,rfl,_,back _ _ hw',?_⟩
  clear hw hw1 hw' back kn sb
  refine gE oln (gE opl (gE omp (g_call rfl rfl rfl rfl rfl (cl0 (vs := [pp G2 0]) va29.ok rfl rfl) ?_)))
  intro w hw
  replace hw := hw.perm (L' := _ :: _ :: _ :: []) (by exact (((perm_front 2 rfl).trans (perm_front 2 rfl)).trans (perm_front 2 rfl)))
  obtain ⟨β1,sb,kn,hw1,back⟩ := St.frame (L := [_]) (M := _ :: _ :: []) hw
  refine (down_do hw1 fun β2 w hw2 hb => bmsgs_ok β2 w hw2 _ 310 (by decide) hb ).mono ?_
  rintro e w' ⟨rfl,hw'⟩
  refine ⟨_,rfl,_,back _ _ hw',?_⟩
  clear hw hw1 hw' back kn sb
  refine gE oln (gE opl (gE onq (lE okfb (lE omb (gE omp ?_)))))
  refine g_val (v := .agg #[.int .i64 (0),.int .i64 (0),.int .i64 (0),.bool false,.int .i64 (0),.slice none 0 0]) rfl rfl rfl rfl rfl (e_build va31.ok va30 (vs := []) (cells := #[.int .i64 (0),.int .i64 (0),.int .i64 (0),.bool false,.int .i64 (0),.slice none 0 0]) rfl (by kernel_rfl)) ?_
  refine g_call rfl rfl rfl rfl rfl (cl0 (vs := [pp G2 0,.agg #[.int .i64 (0),.int .i64 (0),.int .i64 (0),.bool false,.int .i64 (0),.slice none 0 0]]) va32.ok rfl rfl) ?_
  intro w hw
  replace hw := hw.perm (L' := _ :: _ :: _ :: []) (by exact (((perm_front 2 rfl).trans (perm_front 2 rfl)).trans (perm_front 2 rfl)))
  obtain ⟨β1,sb,kn,hw1,back⟩ := St.frame (L := [_]) (M := _ :: _ :: []) hw
  refine (down_do hw1 fun β2 w hw2 hb => btake_ok β2 w hw2 _ 310 (by decide) hb 0 0 0 false 0 _ rfl).mono ?_
  rintro e w' ⟨rfl,hw'⟩
  refine ⟨_,rfl,_,back _ _ hw',?_⟩
  clear hw hw1 hw' back kn sb
  refine gE onq (lE okfb (lnf (c_no rfl (csk (c_seq (c_pi [2,0,1] 3 rfl (by kernel_rfl) (c_openShelf rfl (fun i2 k2 hso2 hpw2 => ?_))))))))
  refine c_openStore rfl (fun pH82 pA83 pB84 cH85 cA86 cB87 => ?_)
  refine c_region (lE omp (lE onp (lE ofp (lu (mS 0 (#[sB pH82 k2.head cH85,sB pA83 k2.a cA86,sB pB84 k2.b cB87,.int .i64 (-1)])) (lnf (c_seq ?_))))))
  refine c_closeStore (S := S1) (k := { k2 with power := -1 }) (pH := pH82) (pA := pA83) (pB := pB84) (cH := cH85) (cA := cA86) (cB := cB87) (M := [downR G2 (tX k),rowF CpF 100 p80 c81 [(⟨10,1,0,0,0⟩ : KComp)]]) rfl ?_
  refine c_closeShelf (m := true) (M := [downR G2 (tX k),rowF CpF 100 p80 c81 [(⟨10,1,0,0,0⟩ : KComp)]]) rfl (hso2.pow (by decide) (by decide)) (fun _ => rfl) ?_
  refine c_region (lE omp (l_call rfl rfl rfl (cl0 (vs := [.int .i64 (3),pp S1 0]) va5.ok rfl rfl) ?_))
  intro w hw
  replace hw := hw.perm (L' := _ :: _ :: _ :: []) (by exact (((perm_front 2 rfl).trans (perm_front 2 rfl)).trans (perm_front 2 rfl)))
  obtain ⟨β1,sb,kn,hw1,back⟩ := St.frame (L := [_]) (M := _ :: _ :: []) hw
  refine ((gopenZ_ok β1 w S1 (n1 + 262500) (tX k) true hw1 (by omega) 3 rfl).mono fun _ _ z => open_yes z).mono ?_
  rintro e w' ⟨G88,rfl,hw'⟩
  refine ⟨_,rfl,_,back _ _ hw',?_⟩
  clear hw hw1 hw' back kn sb
  refine lE omt (lE oxp (lE oxi (lE oap (lE oai (lnf (cs2 (c_region (lE omi (lE onq (lnf (c_no rfl (csk (csr (lE omp ?_))))))))))))))
  refine l_call rfl rfl rfl (cl0 (vs := [pp G88 0]) va10.ok rfl rfl) ?_
  intro w hw
  replace hw := hw.perm (L' := _ :: _ :: _ :: []) (by exact (((perm_front 2 rfl).trans (perm_front 2 rfl)).trans (perm_front 2 rfl)))
  obtain ⟨β1,sb,kn,hw1,back⟩ := St.frame (L := [_]) (M := _ :: _ :: []) hw
  refine ((hereG_ok β1 w G88 S1 (n1 + 262500) (tX k) true hw1).mono fun _ _ z => shownE (L' := (tH k)) rfl z).mono ?_
  rintro e w' ⟨p89,c90,rfl,hw'⟩
  refine ⟨_,rfl,_,back _ _ hw',?_⟩
  clear hw hw1 hw' back kn sb
  refine lE omp (l_call rfl rfl rfl (cl0 (vs := [pp G88 0]) va20.ok rfl rfl) ?_)
  intro w hw
  replace hw := hw.perm (L' := _ :: _ :: _ :: _ :: []) (by exact ((((perm_front 3 rfl).trans (perm_front 3 rfl)).trans (perm_front 2 rfl)).trans (perm_front 3 rfl)))
  obtain ⟨β1,sb,kn,hw1,back⟩ := St.frame (L := [_]) (M := _ :: _ :: _ :: []) hw
  refine ((outG_ok β1 w G88 S1 (n1 + 262500) (tX k) true hw1).mono fun _ _ z => shownM (L' := ([] : List KMs)) rfl z).mono ?_
  rintro e w' ⟨p91,c92,rfl,hw'⟩
  refine ⟨_,rfl,_,back _ _ hw',?_⟩
  clear hw hw1 hw' back kn sb
  refine lE oas (lE oas (lnf (c_seq ?_)))
  rcases hgv with ⟨hg0,hgo⟩ | ⟨hg0,hgo⟩
  ·by_cases hB : (tH k) = X1.here
   ·refine c_quiet (by kernel_rfl) (by kernel_rfl) (qE oms (qE oms ?_))
    refine q_call (v := .bool (decide ((tH k) = X1.here))) rfl rfl rfl (cl0 (vs := [sB p89 (tH k) c90,.slice pa (na) (ca)]) va21.ok rfl rfl) (fun w hw => ?_) ?_
    ·obtain ⟨β1,sb,kn,hw1,back⟩ := St.frame_all hw
     exact (entities_ok β1 w hw1 _ _ (tH k) X1.here (kn _ (k_entsR 2 rfl rfl)) (Sl.mono _ _ _ _ _ sb hsa)).mono (fun e w' ⟨he,hw'⟩ => ⟨he,st_mask [true,true,true,true,true] rfl (back _ _ hw')⟩)
    refine qE omb (q_split (s := 150) rfl (fun h => ?_) (fun h => ?_))
    rotate_left; exact absurd hB h
    refine rE oms (rE oln (rE omi (rE oeq_ (qE oktb (qE omb (q_split (s := 156) rfl (fun h => ?_) (fun h => ?_)))))))
    rotate_left; exact absurd (by first | omega | (rw [hg0] <;> rfl)) h
    refine rE omi (rE oeq_ (rE omb (q_split (s := 159) rfl (fun h => ?_) (fun h => ?_))))
    rotate_left; exact absurd (by omega) h
    iterate 11 refine qsE ?_
    refine q_skip_u rfl rfl rfl rfl rfl (q_skip_u rfl rfl rfl rfl rfl (q_skip_u rfl rfl rfl rfl rfl (q_skip_u rfl rfl rfl rfl rfl ?_)))
    refine q_skip_u rfl rfl rfl rfl rfl (qsE (qsE (q_skip_u rfl rfl rfl rfl rfl (q_skip_u rfl rfl rfl rfl rfl (q_skip_u rfl rfl rfl rfl rfl ?_)))))
    refine q_skip_u rfl rfl rfl rfl rfl (q_skip_u rfl rfl rfl rfl rfl (qsE (rE oktb (qE oktb (qE oab (q_nil (fts (csr (lE omi (lE oeq_ (lnf ?_)))))))))))
    refine c_if _ rfl (fun hc93 => ?_) (fun hc93 => ?_)
    ·exact absurd hc93 (by omega)
    refine csk (csr (lE omb (lE omb (skE (skE (skE (skE (l_skip_u rfl rfl rfl rfl rfl (l_skip_u rfl rfl rfl rfl rfl (l_skip_u rfl rfl rfl rfl rfl (skE ?_)))))))))))
    refine lE oktb (lE omb (g_call rfl rfl rfl rfl rfl (cl0 (vs := []) va23.ok rfl rfl) ?_))
    intro w hw
    obtain ⟨β1,sb,kn,hw1,back⟩ := St.frame_all hw
    refine (awake_ok β1 w hw1 (Cs.mono _ _ _ _ sb hG)).mono ?_
    rintro e w' ⟨rfl,hw'⟩
    refine ⟨_,rfl,_,back _ _ hw',?_⟩
    clear hw hw1 hw' back kn sb
    refine lE oktb (lE oab (lnf (c_ret (ret1 Tryz.results7 rfl ?_))))
    intro w hw
    exact ⟨rfl,st_mask [false] rfl (bk1 _ _ (st_mask [false,false,false,false,false] rfl hw))⟩
   refine c_quiet (by kernel_rfl) (by kernel_rfl) (qE oms (qE oms ?_))
   refine q_call (v := .bool (decide ((tH k) = X1.here))) rfl rfl rfl (cl0 (vs := [sB p89 (tH k) c90,.slice pa (na) (ca)]) va21.ok rfl rfl) (fun w hw => ?_) ?_
   ·obtain ⟨β1,sb,kn,hw1,back⟩ := St.frame_all hw
    exact (entities_ok β1 w hw1 _ _ (tH k) X1.here (kn _ (k_entsR 2 rfl rfl)) (Sl.mono _ _ _ _ _ sb hsa)).mono (fun e w' ⟨he,hw'⟩ => ⟨he,st_mask [true,true,true,true,true] rfl (back _ _ hw')⟩)
   refine qE omb (q_split (s := 150) rfl (fun h => ?_) (fun h => ?_))
   exact absurd h hB
   refine qsE (qsE (qsE (qsE (qE okfb (qE omb (qsE (qsE (qsE (q_skip_u rfl rfl rfl rfl rfl (q_skip_u rfl rfl rfl rfl rfl ?_))))))))))
   refine q_skip_u rfl rfl rfl rfl rfl (q_skip_u rfl rfl rfl rfl rfl (q_skip_u rfl rfl rfl rfl rfl (q_skip_u rfl rfl rfl rfl rfl ?_)))
   refine q_skip_u rfl rfl rfl rfl rfl (q_skip_u rfl rfl rfl rfl rfl (q_skip_u rfl rfl rfl rfl rfl (q_skip_u rfl rfl rfl rfl rfl ?_)))
   refine q_skip_u rfl rfl rfl rfl rfl (q_skip_u rfl rfl rfl rfl rfl (q_skip_u rfl rfl rfl rfl rfl (q_skip_u rfl rfl rfl rfl rfl ?_)))
   refine q_skip_u rfl rfl rfl rfl rfl (q_skip_u rfl rfl rfl rfl rfl (q_skip_u rfl rfl rfl rfl rfl (q_skip_u rfl rfl rfl rfl rfl ?_)))
   refine q_skip_u rfl rfl rfl rfl rfl (q_skip_u rfl rfl rfl rfl rfl (q_skip_u rfl rfl rfl rfl rfl (q_skip_u rfl rfl rfl rfl rfl ?_)))
   refine q_skip_u rfl rfl rfl rfl rfl (q_skip_u rfl rfl rfl rfl rfl (qsE (qE okfb (qE oab (q_nil (fts (csr (lE omi (lE oeq_ (lnf ?_))))))))))
   refine c_if _ rfl (fun hc94 => ?_) (fun hc94 => ?_)
   ·exact absurd hc94 (by omega)
   refine csk (csr (lE omb (lE omb (gE oms (gE oms (g_call rfl rfl rfl rfl rfl (cl0 (vs := [sB p89 (tH k) c90,.slice p6 (k) (c7)]) va21.ok rfl rfl) ?_))))))
   intro w hw
   obtain ⟨β1,sb,kn,hw1,back⟩ := St.frame_all hw
   refine (entities_ok β1 w hw1 _ _ (tH k) (tH k) (kn _ (k_entsR 2 rfl rfl)) (Sl.mono _ _ _ _ _ sb hsb)).mono ?_
   rintro e w' ⟨rfl,hw'⟩
   refine ⟨_,rfl,_,back _ _ hw',?_⟩
   clear hw hw1 hw' back kn sb
   refine gE omb (l_split (s := 197) rfl (fun h => ?_) (fun h => ?_))
   rotate_left; exact absurd rfl h
   refine gE oms (gE oln (gE oeq_ (gE oktb (lE okfb (lE omb (l_split (s := 203) rfl (fun h => ?_) (fun h => ?_)))))))
   rotate_left; exact absurd (by first | omega | decide) h
   refine g_call rfl rfl rfl rfl rfl (cl0 (vs := []) va23.ok rfl rfl) ?_
   intro w hw
   obtain ⟨β1,sb,kn,hw1,back⟩ := St.frame_all hw
   refine (awake_ok β1 w hw1 (Cs.mono _ _ _ _ sb hG)).mono ?_
   rintro e w' ⟨rfl,hw'⟩
   refine ⟨_,rfl,_,back _ _ hw',?_⟩
   clear hw hw1 hw' back kn sb
   refine lE oktb (lE oab (lnf (c_ret (ret1 Tryz.results7 rfl ?_))))
   intro w hw
   exact ⟨rfl,st_mask [false] rfl (bk1 _ _ (st_mask [false,false,false,false,false] rfl hw))⟩
  by_cases hB : (tH k) = X1.here
  ·refine c_quiet (by kernel_rfl) (by kernel_rfl) (qE oms (qE oms ?_))
   refine q_call (v := .bool (decide ((tH k) = X1.here))) rfl rfl rfl (cl0 (vs := [sB p89 (tH k) c90,.slice pa (na) (ca)]) va21.ok rfl rfl) (fun w hw => ?_) ?_
   ·obtain ⟨β1,sb,kn,hw1,back⟩ := St.frame_all hw
    exact (entities_ok β1 w hw1 _ _ (tH k) X1.here (kn _ (k_entsR 2 rfl rfl)) (Sl.mono _ _ _ _ _ sb hsa)).mono (fun e w' ⟨he,hw'⟩ => ⟨he,st_mask [true,true,true,true,true] rfl (back _ _ hw')⟩)
   refine qE omb (q_split (s := 150) rfl (fun h => ?_) (fun h => ?_))
   rotate_left; exact absurd hB h
   refine rE oms (rE oln (rE omi (rE oeq_ (qE oktb (qE omb (q_split (s := 156) rfl (fun h => ?_) (fun h => ?_)))))))
   exact absurd h (by first | omega | (rw [hg0]; decide))
   refine qsE (qsE (qsE (q_skip_u rfl rfl rfl rfl rfl (q_skip_u rfl rfl rfl rfl rfl (q_skip_u rfl rfl rfl rfl rfl (q_skip_u rfl rfl rfl rfl rfl ?_))))))
   refine q_skip_u rfl rfl rfl rfl rfl (q_skip_u rfl rfl rfl rfl rfl (q_skip_u rfl rfl rfl rfl rfl (q_skip_u rfl rfl rfl rfl rfl ?_)))
   refine q_skip_u rfl rfl rfl rfl rfl (q_skip_u rfl rfl rfl rfl rfl (q_skip_u rfl rfl rfl rfl rfl (q_skip_u rfl rfl rfl rfl rfl ?_)))
   refine q_skip_u rfl rfl rfl rfl rfl (q_skip_u rfl rfl rfl rfl rfl (q_skip_u rfl rfl rfl rfl rfl (q_skip_u rfl rfl rfl rfl rfl ?_)))
   refine q_skip_u rfl rfl rfl rfl rfl (q_skip_u rfl rfl rfl rfl rfl (q_skip_u rfl rfl rfl rfl rfl (q_skip_u rfl rfl rfl rfl rfl ?_)))
   refine q_skip_u rfl rfl rfl rfl rfl (q_skip_u rfl rfl rfl rfl rfl (q_skip_u rfl rfl rfl rfl rfl (q_skip_u rfl rfl rfl rfl rfl (qsE (qE okfb ?_)))))
   refine qE oab (q_nil (fts (csr (lE omi (lE oeq_ (lnf (c_if _ rfl (fun hc95 => ?_) (fun hc95 => ?_))))))))
   ·exact absurd hc95 (by omega)
   refine csk (csr (lE omb (lE omb (gE oms (gE oms (g_call rfl rfl rfl rfl rfl (cl0 (vs := [sB p89 (tH k) c90,.slice p6 (k) (c7)]) va21.ok rfl rfl) ?_))))))
   intro w hw
   obtain ⟨β1,sb,kn,hw1,back⟩ := St.frame_all hw
   refine (entities_ok β1 w hw1 _ _ (tH k) (tH k) (kn _ (k_entsR 2 rfl rfl)) (Sl.mono _ _ _ _ _ sb hsb)).mono ?_
   rintro e w' ⟨rfl,hw'⟩
   refine ⟨_,rfl,_,back _ _ hw',?_⟩
   clear hw hw1 hw' back kn sb
   refine gE omb (l_split (s := 197) rfl (fun h => ?_) (fun h => ?_))
   rotate_left; exact absurd rfl h
   refine gE oms (gE oln (gE oeq_ (gE oktb (lE okfb (lE omb (l_split (s := 203) rfl (fun h => ?_) (fun h => ?_)))))))
   rotate_left; exact absurd (by first | omega | decide) h
   refine g_call rfl rfl rfl rfl rfl (cl0 (vs := []) va23.ok rfl rfl) ?_
   intro w hw
   obtain ⟨β1,sb,kn,hw1,back⟩ := St.frame_all hw
   refine (awake_ok β1 w hw1 (Cs.mono _ _ _ _ sb hG)).mono ?_
   rintro e w' ⟨rfl,hw'⟩
   refine ⟨_,rfl,_,back _ _ hw',?_⟩
   clear hw hw1 hw' back kn sb
   refine lE oktb (lE oab (lnf (c_ret (ret1 Tryz.results7 rfl ?_))))
   intro w hw
   exact ⟨rfl,st_mask [false] rfl (bk1 _ _ (st_mask [false,false,false,false,false] rfl hw))⟩
  refine c_quiet (by kernel_rfl) (by kernel_rfl) (qE oms (qE oms ?_))
  refine q_call (v := .bool (decide ((tH k) = X1.here))) rfl rfl rfl (cl0 (vs := [sB p89 (tH k) c90,.slice pa (na) (ca)]) va21.ok rfl rfl) (fun w hw => ?_) ?_
  ·obtain ⟨β1,sb,kn,hw1,back⟩ := St.frame_all hw
   exact (entities_ok β1 w hw1 _ _ (tH k) X1.here (kn _ (k_entsR 2 rfl rfl)) (Sl.mono _ _ _ _ _ sb hsa)).mono (fun e w' ⟨he,hw'⟩ => ⟨he,st_mask [true,true,true,true,true] rfl (back _ _ hw')⟩)
  refine qE omb (q_split (s := 150) rfl (fun h => ?_) (fun h => ?_))
  exact absurd h hB
  refine qsE (qsE (qsE (qsE (qE okfb (qE omb (qsE (qsE (qsE (q_skip_u rfl rfl rfl rfl rfl (q_skip_u rfl rfl rfl rfl rfl ?_))))))))))
  refine q_skip_u rfl rfl rfl rfl rfl (q_skip_u rfl rfl rfl rfl rfl (q_skip_u rfl rfl rfl rfl rfl (q_skip_u rfl rfl rfl rfl rfl ?_)))
  refine q_skip_u rfl rfl rfl rfl rfl (q_skip_u rfl rfl rfl rfl rfl (q_skip_u rfl rfl rfl rfl rfl (q_skip_u rfl rfl rfl rfl rfl ?_)))
  refine q_skip_u rfl rfl rfl rfl rfl (q_skip_u rfl rfl rfl rfl rfl (q_skip_u rfl rfl rfl rfl rfl (q_skip_u rfl rfl rfl rfl rfl ?_)))
  refine q_skip_u rfl rfl rfl rfl rfl (q_skip_u rfl rfl rfl rfl rfl (q_skip_u rfl rfl rfl rfl rfl (q_skip_u rfl rfl rfl rfl rfl ?_)))
  refine q_skip_u rfl rfl rfl rfl rfl (q_skip_u rfl rfl rfl rfl rfl (q_skip_u rfl rfl rfl rfl rfl (q_skip_u rfl rfl rfl rfl rfl ?_)))
  refine q_skip_u rfl rfl rfl rfl rfl (q_skip_u rfl rfl rfl rfl rfl (qsE (qE okfb (qE oab (q_nil (fts (csr (lE omi (lE oeq_ (lnf ?_))))))))))
  refine c_if _ rfl (fun hc96 => ?_) (fun hc96 => ?_)
  ·exact absurd hc96 (by omega)
  refine csk (csr (lE omb (lE omb (gE oms (gE oms (g_call rfl rfl rfl rfl rfl (cl0 (vs := [sB p89 (tH k) c90,.slice p6 (k) (c7)]) va21.ok rfl rfl) ?_))))))
  intro w hw
  obtain ⟨β1,sb,kn,hw1,back⟩ := St.frame_all hw
  refine (entities_ok β1 w hw1 _ _ (tH k) (tH k) (kn _ (k_entsR 2 rfl rfl)) (Sl.mono _ _ _ _ _ sb hsb)).mono ?_
  rintro e w' ⟨rfl,hw'⟩
  refine ⟨_,rfl,_,back _ _ hw',?_⟩
  clear hw hw1 hw' back kn sb
  refine gE omb (l_split (s := 197) rfl (fun h => ?_) (fun h => ?_))
  rotate_left; exact absurd rfl h
  refine gE oms (gE oln (gE oeq_ (gE oktb (lE okfb (lE omb (l_split (s := 203) rfl (fun h => ?_) (fun h => ?_)))))))
  rotate_left; exact absurd (by first | omega | decide) h
  refine g_call rfl rfl rfl rfl rfl (cl0 (vs := []) va23.ok rfl rfl) ?_
  intro w hw
  obtain ⟨β1,sb,kn,hw1,back⟩ := St.frame_all hw
  refine (awake_ok β1 w hw1 (Cs.mono _ _ _ _ sb hG)).mono ?_
  rintro e w' ⟨rfl,hw'⟩
  refine ⟨_,rfl,_,back _ _ hw',?_⟩
  clear hw hw1 hw' back kn sb
  refine lE oktb (lE oab (lnf (c_ret (ret1 Tryz.results7 rfl ?_))))
  intro w hw
  exact ⟨rfl,st_mask [false] rfl (bk1 _ _ (st_mask [false,false,false,false,false] rfl hw))⟩
 exact absurd (by omega) hc79
end Go.Proofs
