/-
 A restore: walked. Printed by a program of my own.
-/
import Derived.Test.YtjejfkajcbdgjaaGreatTd12
import Derived.Test.YtjejfkajcbdgjaaGreatTdHouE
import Derived.Test.YtjejfkajcbdgjaaGreatSlA
import Derived.Test.YtjejfkajcbdgjaaGreatSlN
namespace Go.Proofs
open Go Go.Sl Go.Td Go.Jn
instance tt148 : CfC Tryz.prog 85 := ⟨by kernel_rfl⟩
instance tt149 : UndC Tryz.prog 107 27 := ⟨by kernel_rfl⟩
theorem tt150 : slB Tryz.prog 107 27 1 = true := by kernel_rfl
set_option maxHeartbeats 4000000 in
theorem restore_ok (β : Base) (w : World) (hw : St β [] w) (v vr : Value) (bs : Bs) (hs : Sl U8R β.heap v bs) (hbl : bs.length ≤ 65536) (recs : List Bs) (hr : Sl BsR β.heap vr recs) (hrl : recs.length ≤ 1048576) (X X0 : KHs) (ds : List KDeal) (hst : (bs = [] ∧ X0 = freshX) ∨ (bs ≠ [] ∧ StB X0 bs)) (hx0 : XOk X0) (hrecs : recs = ds.map recD) (hds : okD ds) (hX : EqX X (replay X0 ds)) (hl0 : X0.s.last ≤ 16000000) (hlast : (replay X0 ds).s.last ≤ 16000000) : Calls Tryz.prog 46 #[v, vr] w fun r w' => ∃ mp mh mm s ms zs, EqS s X.s ∧ MmOk X ms zs ∧ r = .returned (.tuple #[.agg (stC mp mh mm s.last s.su), .bool true]) ∧ St β [mpR PuM mp s.ps, mpR HoM mh s.hs, mpR MeM mm ms, memR zs] w' := by
 obtain ⟨va,vc,rfl,vl,vm,ve⟩ := hs.get
 obtain ⟨vra,vrc,rfl,vrl,vrm,vre⟩ := hr.get
 refine enter (n := 55) Tryz.func46 rfl Tryz.ntmps46 rfl ?_ hw
 refine csr (alE fun b1 => lE oab (lnc (lcf (cl0 (vs := []) tt141.ok rfl rfl) rfl fun w β1 sb kn hw1 back => (fresh_ok β1 w hw1).mono ?_)))
 rintro e w' ⟨mp2,mh3,mm4,rfl,hw'⟩
 refine ⟨_,rfl,_,back _ _ hw',?_⟩
 clear hw1 hw' back kn sb
 refine alE fun b5 => ?_
 refine lu (mS 0 (#[.map (some mp2),.map (some mh3),.int .i64 (0),.int .i64 (0),.int .i64 (0),.int .i64 (0),.int .i64 (0),.map (some mm4)])) ?_
 refine lE oab (lnf ?_)
 refine c_seq_cut (fun (f : Fm) (L : List Res) => ∃ (mp : Nat) (mh : Nat) (mm : Nat) (s : KSt) (ms : List (Int × KMh)) (zs : List (KMh × KMem)),(f 1 = sB vra recs (vrc) ∧ f 4 = pp b1 0 ∧ f 6 = pp b5 0 ∧ f 7 = .bool true) ∧ L = [pt b5 (.cells #[.map (some mp),.map (some mh),Ix (s.last),Ix (s.su.a0),Ix (s.su.a1),Ix (s.su.a2),Ix (s.su.a3),.map (some mm)] 88),pt b1 (.cells #[.map none,.map none,.int .i64 (0),.int .i64 (0),.int .i64 (0),.int .i64 (0),.int .i64 (0),.map none] 88),mpR PuM mp s.ps,mpR HoM mh s.hs,mpR MeM mm ms,memR zs] ∧ (EqS s X0.s ∧ MmOk X0 ms zs)) ?_ ?_
 ·refine csr (lE oms (lE oln (lE ogt (lnf (c_if _ rfl (fun hc6 => ?_) (fun hc6 => ?_))))))
  ·obtain ⟨hne,ps,gs,msl,hps,hgs,hms,nb,hb⟩ := hst.resolve_left (fun q => by have h0 := hc6; rw [q.1] at h0; exact absurd h0 (by decide))
   have hsf := st_fit hx0 hl0 hps hgs hms
   refine c_region (lE oms ?_)
   refine lcf (cl0 (vs := [sB va bs (vc)]) tt148.ok rfl rfl) rfl fun w β1 sb kn hw1 back => (load_ok β1 w hw1 _ bs (Sl.mono _ _ _ _ _ sb (⟨⟨_,_,rfl,vl,vm,ve⟩⟩ : Sl U8R _ _ bs)) hbl X0 ps gs msl _ hb hsf hl0).mono ?_
   rintro e w' ⟨mp7,mh8,mm9,LL,hml,hho,rfl,hw'⟩
   refine ⟨_,rfl,_,back _ _ hw',?_⟩
   clear hw1 hw' back kn sb
   refine lE omt (lE oxa (lE oxb ?_))
   refine lu (mS 4 (#[.map (some mp7),.map (some mh8),Ix (X0.s.last),Ix (X0.s.su.a0),Ix (X0.s.su.a1),Ix (X0.s.su.a2),Ix (X0.s.su.a3),.map (some mm9)])) ?_
   refine lE oab (l_nil (fpn [4,8,0,1,2,3,5,6,7] 9 ?_))
   refine f_mask [true,true,true,true,true,true,false,false,false] rfl ?_
   exact f_cut ⟨mp7,mh8,mm9,(⟨ps,gs,X0.s.last,X0.s.su⟩ : KSt),(hdl LL),LL,⟨rfl,rfl,rfl,rfl⟩,rfl,⟨⟨hps.symm,hgs.symm,rfl,rfl,hsf.pd,hsf.hd⟩,mm_of hms hml hho⟩⟩
  refine c_skip (f_emp (r := memR []) memR_nil (fpn [1,5,2,3,4,0] 6 ?_))
  exact f_cut ⟨mp2,mh3,mm4,freshS,[],[],⟨rfl,rfl,rfl,rfl⟩,rfl,by rw [hst.resolve_right (fun q => q.1 (List.eq_nil_of_length_eq_zero (by omega))) |>.2]; exact ⟨fresh_eq,fresh_mm⟩⟩
 rintro f0 L0 ⟨mp,mh,mm,s,ms,zs,⟨hs1,hs4,hs6,hs7⟩,hL,⟨hes,hmm⟩⟩
 subst L0
 refine rbs 1 hs1 (rbs 4 hs4 (rbs 6 hs6 (rbs 7 hs7 (cs2 (c_region (lE oms (lE oln (lE omi (lnf (c_block ?_))))))))))
 refine c_loop (fun (x_ : Nat × Nat × Nat × Nat × KSt × List (Int × KMh) × List (KMh × KMem)) f L => match x_ with | (k,mp,mh,mm,s,ms,zs) => (f 4 = pp b1 0 ∧ f 6 = pp b5 0 ∧ f 7 = .bool true ∧ f 21 = sB vra recs (vrc) ∧ f 22 = Nx (recs.length) ∧ f 23 = Nx (k)) ∧ L = [pt b5 (.cells #[.map (some mp),.map (some mh),Ix (s.last),Ix (s.su.a0),Ix (s.su.a1),Ix (s.su.a2),Ix (s.su.a3),.map (some mm)] 88),pt b1 (.cells #[.map none,.map none,.int .i64 (0),.int .i64 (0),.int .i64 (0),.int .i64 (0),.int .i64 (0),.map none] 88),mpR PuM mp s.ps,mpR HoM mh s.hs,mpR MeM mm ms,memR zs] ∧ (k ≤ recs.length ∧ RsOk X0 ds k s ms zs)) (fun (k,mp,mh,mm,s,ms,zs) => recs.length - k) (0,mp,mh,mm,s,ms,zs) ?_ ?_
 ·exact ⟨⟨rfl,rfl,rfl,rfl,rfl,rfl⟩,rfl,⟨Nat.zero_le _,RsOk.zero hes hmm⟩⟩
 rintro ⟨k,mp,mh,mm,s,ms,zs⟩ f0 L0 ⟨⟨hs4,hs6,hs7,hs21,hs22,hs23⟩,hL,⟨hk,hrs⟩⟩
 subst L0
 refine rbs 4 hs4 (rbs 6 hs6 (rbs 7 hs7 (rbs 21 hs21 (rbs 22 hs22 (rbs 23 hs23 (csr (lE olt (lnf (c_seq (c_if _ rfl (fun hc10 => ?_) (fun hc10 => ?_)))))))))))
 ·refine csk (c_seq (c_block (csr ?_)))
  obtain ⟨x11,hx12⟩ := getx recs k (by omega)
  obtain ⟨ha13,cs14,hc15,hr16⟩ := vre _ _ hx12
  obtain ⟨v17,rfl,hv18⟩ := hr16
  obtain ⟨a19,c20,rfl,hl21,hm22,he23⟩ := (hv18).get
  refine lE (oia tt150 ha13) (lv (v := sB a19 x11 (c20)) (e_load1 tt70.ok rfl (kB hc15)) (lE oas (lnf (c_seq ?_))))
  obtain ⟨d,hdk,hxd⟩ := recs_at hrecs hx12
  obtain ⟨hfm,hb63⟩ := hds d (List.mem_of_getElem? hdk)
  have hdf := deal_fit hfm hb63
  have hd16 := hdf.few
  have hfa := (dformed_iff.1 hfm).2.2.2
  have hxl : x11.length ≤ 65536 := by rw [hxd]; exact rec_len hfm
  have hxw : Wr x11 _ _ := hxd ▸ rec_wr d
  have hgs := hrs.good hx0 hds hlast
  refine c_region (lE oms ?_)
  refine lcf (cl0 (vs := [sB a19 x11 (c20)]) tt138.ok rfl rfl) rfl fun w β1 sb kn hw1 back => (newr_ok β1 w hw1 _ x11 (Sl.mono _ _ _ _ _ sb (⟨⟨_,_,rfl,by omega,by omega,he23⟩⟩ : Sl U8R _ _ x11)) _ _ hxw hxl).mono ?_
  rintro e w' ⟨rb24,rfl,hw'⟩
  refine ⟨_,rfl,_,back _ _ hw',?_⟩
  clear hw1 hw' back kn sb
  refine lv (v := .agg #[pp rb24 0]) (e_build tt140.ok tt139 (vs := [(0,pp rb24 0)]) (cells := #[pp rb24 0]) rfl rfl) (alE fun b25 => ?_)
  refine lu (mS 0 (#[pp rb24 0])) (lnc (lE (olg 0) (l_call rfl rfl rfl (cl0 (vs := [.agg #[pp rb24 0]]) tt143.ok rfl rfl) ?_)))
  intro w hw
  replace hw := hw.perm (L' := _ :: _ :: _ :: _ :: _ :: _ :: _ :: _ :: []) (by exact ((((((((perm_front 7 rfl).trans (perm_front 7 rfl)).trans (perm_front 7 rfl)).trans (perm_front 7 rfl)).trans (perm_front 7 rfl)).trans (perm_front 7 rfl)).trans (perm_front 6 rfl)).trans (perm_front 7 rfl)))
  obtain ⟨β1,sb,kn,hw1,back⟩ := St.frame (L := [_]) (M := _ :: _ :: _ :: _ :: _ :: _ :: _ :: []) hw
  refine (dealr_ok β1 w rb24 d.author d.number d.acts _ hdf hw1).mono ?_
  rintro e w' ⟨p26,c27,rfl,hw'⟩
  refine ⟨_,rfl,_,back _ _ hw',?_⟩
  clear hw hw1 hw' back kn sb
  refine alE fun b28 => lu (mS 0 (#[Ix (d.author),Ix (d.number),sB p26 d.acts c27])) (lnf (cs2 (c_region (lE omb (lE ont (lE omb (gE ofp (gE (olp 3) ?_))))))))
  refine g_call rfl rfl rfl rfl rfl (cl0 (vs := [pp rb24 0]) tt147.ok rfl rfl) ?_
  intro w hw
  replace hw := hw.perm (L' := [rdrR rb24 [],pt b28 (.cells #[Ix (d.author),Ix (d.number),sB p26 d.acts c27] 80),rowF ActF 47 p26 c27 d.acts,pt b25 (.cells #[pp rb24 0] 168),pt b5 (.cells #[.map (some mp),.map (some mh),Ix (s.last),Ix (s.su.a0),Ix (s.su.a1),Ix (s.su.a2),Ix (s.su.a3),.map (some mm)] 88),pt b1 (.cells #[.map none,.map none,.int .i64 (0),.int .i64 (0),.int .i64 (0),.int .i64 (0),.int .i64 (0),.map none] 88),mpR PuM mp s.ps,mpR HoM mh s.hs,mpR MeM mm ms,memR zs]) (by exact (perm_ix [2,0,1,3,4,5,6,7,8,9] 10 rfl (by kernel_rfl) (by kernel_rfl)))
  obtain ⟨β1,sb,kn,hw1,back⟩ := St.frame (L := [_]) (M := _ :: _ :: _ :: _ :: _ :: _ :: _ :: _ :: _ :: []) hw
  refine (rend_ok β1 w rb24 hw1).mono ?_
  rintro e w' ⟨rfl,hw'⟩
  refine ⟨_,rfl,_,back _ _ hw',?_⟩
  clear hw hw1 hw' back kn sb
  refine gE onq (lE okfb (lE omb (gE (olg 1) ?_)))
  refine g_call rfl rfl rfl rfl rfl (cl0 (vs := [.agg #[Ix (d.author),Ix (d.number),sB p26 d.acts c27]]) tt102.ok rfl rfl) ?_
  intro w hw
  obtain ⟨β1,sb,kn,hw1,back⟩ := St.frame_all hw
  refine (dformed_ok β1 w hw1 d.author d.number _ d.acts (kn _ (k_flN 2 (F := ActF) (m := d.acts.length) rfl rfl))).mono ?_
  rintro e w' ⟨rfl,hw'⟩
  refine ⟨_,rfl,_,back _ _ hw',?_⟩
  clear hw hw1 hw' back kn sb
  refine gE ont (lE okfb (lnf (c_ifb (!(dformed d.author d.number d.acts)) rfl (fun hc29 => ?_) (fun hc29 => ?_))))
  ·rw [(show (!(dformed d.author d.number d.acts)) = false by rw [hfm]; rfl)] at hc29; cases hc29
  refine csk (c_region (lE (olg 4) (lE (olg 1) ?_)))
  refine l_call rfl rfl rfl (cl0 (vs := [.agg #[.map (some mp),.map (some mh),Ix (s.last),Ix (s.su.a0),Ix (s.su.a1),Ix (s.su.a2),Ix (s.su.a3),.map (some mm)],.agg #[Ix (d.author),Ix (d.number),sB p26 d.acts c27]]) tt109.ok rfl rfl) ?_
  intro w hw
  replace hw := hw.perm (L' := [mpR PuM mp s.ps,mpR HoM mh s.hs,mpR MeM mm ms,rdrR rb24 [],pt b28 (.cells #[Ix (d.author),Ix (d.number),sB p26 d.acts c27] 80),rowF ActF 47 p26 c27 d.acts,pt b25 (.cells #[pp rb24 0] 168),pt b5 (.cells #[.map (some mp),.map (some mh),Ix (s.last),Ix (s.su.a0),Ix (s.su.a1),Ix (s.su.a2),Ix (s.su.a3),.map (some mm)] 88),pt b1 (.cells #[.map none,.map none,.int .i64 (0),.int .i64 (0),.int .i64 (0),.int .i64 (0),.int .i64 (0),.map none] 88),memR zs]) (by exact (perm_ix [6,7,8,0,1,2,3,4,5,9] 10 rfl (by kernel_rfl) (by kernel_rfl)))
  obtain ⟨β1,sb,kn,hw1,back⟩ := St.frame (L := [_,_,_]) (M := _ :: _ :: _ :: _ :: _ :: _ :: _ :: []) hw
  refine (carry2_ok β1 w mp mh mm s ms hw1 d.author d.number _ d.acts (kn _ (k_flN 2 (F := ActF) (m := d.acts.length) rfl rfl)) hfa (by omega) _ (Int.le_refl _) hgs).mono ?_
  rintro e w' ⟨mq30,hq31,mn32,p33,c34,rfl,hw'⟩
  refine ⟨_,rfl,_,back _ _ hw',?_⟩
  clear hw hw1 hw' back kn sb
  refine lE omt (lE oxa (lE oxa ?_))
  refine lu (mS 8 (#[.map (some mq30),.map (some hq31),Ix ((carryF s d.acts).1.last),Ix ((carryF s d.acts).1.su.a0),Ix ((carryF s d.acts).1.su.a1),Ix ((carryF s d.acts).1.su.a2),Ix ((carryF s d.acts).1.su.a3),.map (some mn32)])) ?_
  refine l_nil (f_block (f_then (c_region (lv (v := Nx (k + 1)) (e_add rfl rfl (i64n (by omega) (by omega))) (lE omi (l_nil ?_))))))
  refine fpn [6,3,10,0,1,2,4,5,7,8,9] 11 ?_
  refine f_merge (L := [rowF ActF 47 p26 c27 d.acts,rowF IntF 3 p33 c34 ((carryF s d.acts).2.holds),memR zs]) (M := [mpR PuM mq30 ((carryF s d.acts).1.ps),mpR HoM hq31 ((carryF s d.acts).1.hs),mpR MeM mn32 (MeM.put ms d.author (⟨d.author,d.number,p26,d.acts.length,c27,(carryF s d.acts).2.done,(carryF s d.acts).2.at_,(carryF s d.acts).2.e,p33,(carryF s d.acts).2.holds.length,c34⟩ : KMh)),rdrR rb24 [],pt b28 (.cells #[Ix (d.author),Ix (d.number),sB p26 d.acts c27] 80),pt b25 (.cells #[pp rb24 0] 168),pt b5 (.cells #[.map (some mq30),.map (some hq31),Ix ((carryF s d.acts).1.last),Ix ((carryF s d.acts).1.su.a0),Ix ((carryF s d.acts).1.su.a1),Ix ((carryF s d.acts).1.su.a2),Ix ((carryF s d.acts).1.su.a3),.map (some mn32)] 88),pt b1 (.cells #[.map none,.map none,.int .i64 (0),.int .i64 (0),.int .i64 (0),.int .i64 (0),.int .i64 (0),.map none] 88)]) (r := memR (zs ++ [((⟨d.author,d.number,p26,d.acts.length,c27,(carryF s d.acts).2.done,(carryF s d.acts).2.at_,(carryF s d.acts).2.e,p33,(carryF s d.acts).2.holds.length,c34⟩ : KMh),(⟨⟨d.author,d.number,d.acts⟩,(carryF s d.acts).2⟩ : KMem))])) (fun a ha => memR_add a ha) ?_
  refine fpn [7,8,1,2,3,0,4,5,6] 9 ?_
  refine f_mask [true,true,true,true,true,true,false,false,false] rfl ?_
  exact f_cut ⟨(k + 1,mq30,hq31,mn32,(carryF s d.acts).1,(MeM.put ms d.author (⟨d.author,d.number,p26,d.acts.length,c27,(carryF s d.acts).2.done,(carryF s d.acts).2.at_,(carryF s d.acts).2.e,p33,(carryF s d.acts).2.holds.length,c34⟩ : KMh)),(zs ++ [((⟨d.author,d.number,p26,d.acts.length,c27,(carryF s d.acts).2.done,(carryF s d.acts).2.at_,(carryF s d.acts).2.e,p33,(carryF s d.acts).2.holds.length,c34⟩ : KMh),(⟨⟨d.author,d.number,d.acts⟩,(carryF s d.acts).2⟩ : KMem))])),⟨⟨rfl,rfl,rfl,rfl,rfl,rfl⟩,rfl,⟨by omega,hrs.next hdk ⟨rfl,rfl,rfl,rfl,rfl,rfl,rfl⟩⟩⟩,(show recs.length - (k + 1) < recs.length - k from by omega)⟩
 refine c_exit (f_then_exit (f_then_exit (f_exit (ftc (lE (olg 0) (lE omb ?_))))))
 refine lu (mS 1 (#[.map (some mp),.map (some mh),Ix (s.last),Ix (s.su.a0),Ix (s.su.a1),Ix (s.su.a2),Ix (s.su.a3),.map (some mm)])) (lE oab (lnf ?_))
 refine c_ret ?_
 refine retG (m := [.agg #[.map (some mp),.map (some mh),Ix (s.last),Ix (s.su.a0),Ix (s.su.a1),Ix (s.su.a2),Ix (s.su.a3),.map (some mm)],.bool true]) Tryz.results46 ⟨rd_cell tt54.ok rfl (k_pt 1 rfl rfl) rfl,rd_tmp (v := .bool true) rfl,trivial⟩ rfl ?_
 intro w hw
 replace hw := hw.perm (L' := [mpR PuM mp s.ps,mpR HoM mh s.hs,mpR MeM mm ms,memR zs,pt b5 (.cells #[.map (some mp),.map (some mh),Ix (s.last),Ix (s.su.a0),Ix (s.su.a1),Ix (s.su.a2),Ix (s.su.a3),.map (some mm)] 88),pt b1 (.cells #[.map (some mp),.map (some mh),Ix (s.last),Ix (s.su.a0),Ix (s.su.a1),Ix (s.su.a2),Ix (s.su.a3),.map (some mm)] 88)]) (by exact (perm_ix [2,3,4,5,0,1] 6 rfl (by kernel_rfl) (by kernel_rfl)))
 replace hw := st_mask (L' := [mpR PuM mp s.ps,mpR HoM mh s.hs,mpR MeM mm ms,memR zs]) [true,true,true,true,false,false] rfl hw
 obtain ⟨he1,he2⟩ := hrs.all (by rw [hrecs,List.length_map] at *; omega) hX
 exact ⟨_,_,_,s,ms,zs,he1,he2,rfl,hw⟩
end Go.Proofs
