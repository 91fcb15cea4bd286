/-
 Own work; plain Lean (Hv23, Hv24, Hv25).
-/
import Derived.Test.YtmhlglginimmnaaGreatDoorHvAct
set_option linter.all false
namespace Go.Proofs
open Go Go.Sl Go.Hv Go.Jn
instance uo0:CfC Tryz.prog 35:={}
instance uo1:FldC Tryz.prog 32 0 0 1 false:={}
instance uo2:TyC Tryz.prog 3 false 1:={}
instance uo3:CfC Tryz.prog 36:={}
instance uo4:TyC Tryz.prog 32 true 2:={}
instance uo5:CfC Tryz.prog 37:={}
instance uo6:FldC Tryz.prog 77 2 2 16 true:={}
instance uo7:FldC Tryz.prog 75 0 0 1 false:={}
instance uo8:TyC Tryz.prog 73 false 1:={}
instance uo9:CfC Tryz.prog 38:={}
instance uo10:ZerC Tryz.prog 32 (.agg #[.int .i64 (0),.slice none 0 0]):={}
instance uo11:CfC Tryz.prog 39:={}
instance uo12:CfC Tryz.prog 43:={}
instance uo13:FldC Tryz.prog 75 1 1 1 false:={}
instance uo14:TyC Tryz.prog 35 false 1:={}
instance uo15:UndC Tryz.prog 35 38:={}
set_option maxHeartbeats 4000000 in
theorem gput_ok(β:Base)(w:World)(hG:GRng β)(G S N:Nat)(X:KG)(m:Bool)(hw:St β [gateR G S X N m] w)(hN:N≤53000000)(e:KEnt)(v:Value)(hs:Sl CpF.R β.heap v e.comps):Calls Tryz.prog 11 #[pp G 0,.agg #[Ix e.id,v]] w fun r w'=>∃e_,r= .returned (Ix e_)∧St β [actG (putF X e) e_ G S X (playX X (.put e)) N m] w':=by
 obtain⟨J,i,k,hso,hpw,hw⟩:=St.openGate hw
 obtain⟨va,vc,rfl,vl,vm,ve⟩:=hs.get
 refine enter (n:=44) Tryz.func11 rfl Tryz.ntmps11 rfl ?_ hw
 refine csr (bxa fun b1=> ?_)
 refine lE oai (lnf (cs2 (c_region (lE omp (l_call rfl rfl rfl (cl0 (vs:=[pp G 0]) uo0.ok rfl rfl) ?_)))))
 intro w hw
 replace hw:=hw.perm (L':=_::_::_::_::[]) (by exact((((perm_front 3 rfl).trans (perm_front 3 rfl)).trans (perm_front 2 rfl)).trans (perm_front 3 rfl)))
 obtain⟨β1,sb,kn,hw1,back⟩:=St.frame (L:=[_]) (M:=_::_::_::[]) hw
 refine(upV_ok β1 w G J X hw1).mono ?_
 rintro e w' ⟨rfl,hw'⟩
 refine⟨_,rfl,_,back _ _ hw',?_⟩
 clear hw hw1 hw' back kn sb
 refine lE oai (lnc (lE omi (lE onq (lnf (c_no rfl (csk (csr (lE omp (lE ofp (lE (oli 1) ?_))))))))))
 refine l_call rfl rfl rfl (cl0 (vs:=[pp G 0,Ix (e.id)]) uo3.ok rfl rfl) ?_
 intro w hw
 replace hw:=hw.perm (L':=_::_::_::_::[]) (by exact((((perm_front 3 rfl).trans (perm_front 3 rfl)).trans (perm_front 3 rfl)).trans (perm_front 3 rfl)))
 obtain⟨β1,sb,kn,hw1,back⟩:=St.frame (L:=[_]) (M:=_::_::_::[]) hw
 refine(hasV_ok β1 w G J X false hw1 e.id).mono ?_
 rintro e w' ⟨rfl,hw'⟩
 refine⟨_,rfl,_,back _ _ hw',?_⟩
 clear hw hw1 hw' back kn sb
 refine lE omt (lE oxb (lE oxb (lE oab (lE oab (lnf (c_seq (c_block (csr (lE (olg 1) ?_)))))))))
 refine lcR clA (fun w β1 sb kn hw1=>right_ok β1 w hw1 (Cs.mono _ _ _ _ sb hG) e.id _ e.comps (Sl.mono _ _ _ _ _ sb (⟨⟨_,_,rfl,vl,vm,ve⟩⟩:Sl CpF.R _ _ e.comps))) ?_
 refine lE ont (l_or1 (!(rightE ⟨e.id,e.comps⟩)) (hereB X e.id) rfl (fun hb2 hk2=> ?_) (fun z3=> ?_))
 ·refine gE omb (lE okfb ?_)
  exact hk2 _
 refine l_or1 ((!(rightE ⟨e.id,e.comps⟩))||(hereB X e.id)) (outB X e.id) rfl (fun hb4 hk4=> ?_) (fun z5=> ?_)
 ·refine gE omb (lE okfb ?_)
  exact hk4 _
 refine lE oab (lnf (c_ifb ((((!(rightE ⟨e.id,e.comps⟩))||(hereB X e.id))||(outB X e.id))) rfl (fun hc6=> ?_) (fun hc6=> ?_)))
 ·refine csr (lE oai (lnf (c_ret (f_block_ret (f_then_ret (ret1 Tryz.results11 rfl ?_))))))
  intro w hw
  replace hw:=hw.perm (L':=[gvR G J X false,jourR J S i false,storeR S k,pt b1 (.cells #[Ix (e.id),sB va e.comps (vc)] 32)]) (by exact(perm_ix [0,2,3,1] 4 rfl (by kernel_rfl) (by kernel_rfl)))
  replace hw:=st_mask (L':=[gvR G J X false,jourR J S i false,storeR S k]) [true,true,true,false] rfl hw
  exact⟨2,rfl,St.actNo (show putF X e=some 2 from(if_pos hc6)) (St.closeGate hso hpw hw)⟩
 refine c_seq (c_openGv rfl fun m7 p8 c9 ks10 mz11 zs12 hk13=> ?_)
 have hkl:=hk13.klen
 have hmo:=hk13.mlen
 refine c_region (lE omp (lE onp (lE ofp (lE ofp (lv (v:= .map (some m7)) (e_load1 uo8.ok rfl (k_pt 0 rfl rfl)) ?_)))))
 refine lv (v:=Nx (ks10.length)) (e_mlen (K:=EnM) (b:=m7) (ks:=ks10) rfl rfl (Knows.of_res 1 rfl (mpR.mono _ _ _) fun _ h=>h)) (lE oge ?_)
 refine lE oab (lnf (c_if _ rfl (fun hc14=> ?_) (fun hc14=> ?_)))
 ·refine c_seq ?_
  refine c_merge (L:=[pt G (.cells (gC (X.zone) J m7 p8 (mz11.length) c9 X.gv X.lv false) 77),mpR EnM m7 ks10,rowF MgF 38 p8 c9 (mz11.map Prod.fst),poolR zs12]) (M:=[pt b1 (.cells #[Ix (e.id),sB va e.comps (vc)] 32),jourR J S i false,storeR S k]) (r:=gvR G J X false) (gv_close hk13) ?_
  refine c_region (lE oai (lnf (c_ret (f_block_ret (f_then_ret (ret1 Tryz.results11 rfl ?_))))))
  intro w hw
  replace hw:=hw.perm (L':=[gvR G J X false,jourR J S i false,storeR S k,pt b1 (.cells #[Ix (e.id),sB va e.comps (vc)] 32)]) (by exact(perm_ix [0,2,3,1] 4 rfl (by kernel_rfl) (by kernel_rfl)))
  replace hw:=st_mask (L':=[gvR G J X false,jourR J S i false,storeR S k]) [true,true,true,false] rfl hw
  exact⟨4,rfl,St.actNo (show putF X e=some 4 from((if_neg (Bool.eq_false_iff.1 hc6)).trans (if_pos (by omega)))) (St.closeGate hso hpw hw)⟩
 refine c_skip (f_block (fts ?_))
 have hre:rightE e=true:=by have:=hc6;simp at this;exact this.1.1
 have hel:=(right_of hre).len
 refine c_region (lE (olg 4) ?_)
 refine lcf (cl0 (vs:=[.agg #[Ix (e.id),sB va e.comps (vc)]]) uo9.ok rfl rfl) rfl fun w β1 sb kn hw1 back=>(own_ok β1 w hw1 e.id _ e.comps (Sl.mono _ _ _ _ _ sb (⟨⟨_,_,rfl,vl,vm,ve⟩⟩:Sl CpF.R _ _ e.comps)) (by omega)).mono ?_
 rintro e w' ⟨p15,c16,rfl,hw'⟩
 refine⟨_,rfl,_,back _ _ hw',?_⟩
 clear hw1 hw' back kn sb
 refine alE fun b17=>lu (mS 0 (#[Ix (e.id),sB p15 e.comps c16])) (lnf (c_seq (c_pi [2,3,4,5,0,1,6,7,8] 9 rfl (by kernel_rfl) ?_)))
 refine c_merge (L:=[pt G (.cells (gC (X.zone) J m7 p8 (mz11.length) c9 X.gv X.lv false) 77),mpR EnM m7 ks10,rowF MgF 38 p8 c9 (mz11.map Prod.fst),poolR zs12]) (M:=[pt b17 (.cells #[Ix (e.id),sB p15 e.comps c16] 32),rowF CpF 100 p15 c16 e.comps,pt b1 (.cells #[Ix (e.id),sB va e.comps (vc)] 32),jourR J S i false,storeR S k]) (r:=gvR G J X false) (gv_close hk13) ?_
 refine c_pi [0,4,5,1,2,3] 6 rfl (by kernel_rfl) ?_
 refine c_closeGate (N:=N) (m:=m) (M:=[pt b17 (.cells #[Ix (e.id),sB p15 e.comps c16] 32),rowF CpF 100 p15 c16 e.comps,pt b1 (.cells #[Ix (e.id),sB va e.comps (vc)] 32)]) rfl hso hpw ?_
 refine c_region (lE omp (lv (v:= .func (.func 40) #[] #[pp b17 0]) (e_func (u:=[]) (v:=[pp b17 0]) rfl rfl) ?_))
 refine l_call rfl rfl rfl (cl0 (vs:=[pp G 0,.int .i64 (1),.func (.func 40) #[] #[pp b17 0]]) uo11.ok rfl rfl) ?_
 intro w hw
 replace hw:=hw.perm (L':=_::_::_::_::[]) (by exact((((perm_front 3 rfl).trans (perm_front 3 rfl)).trans (perm_front 3 rfl)).trans (perm_front 3 rfl)))
 obtain⟨β1,sb,kn,hw1,back⟩:=St.frame (L:=[_]) (M:=_::_::_::[]) hw
 refine(change_ok β1 w G S N X m hw1 hN (.put (⟨e.id,e.comps⟩:KEnt)) (OpG.put hre (.inr (by omega))) _ (fput_ok _ b17 (⟨e.id,p15,e.comps.length,c16⟩:KEh) (⟨e.id,e.comps⟩:KEnt) ⟨rfl,rfl⟩ (kn _ (k_pt 0 (o:=0) rfl rfl)) (kn _ (k_has 1 rfl)) (right_of hre))).mono ?_
 rintro e w' ⟨e18,rfl,hw'⟩
 refine⟨_,rfl,_,back _ _ hw',?_⟩
 clear hw hw1 hw' back kn sb
 refine lE oai (lnf (c_ret (ret1 Tryz.results11 rfl ?_)))
 intro w hw
 replace hw:=st_mask (L':=[endG e18 G S X (playX X (.put (⟨e.id,e.comps⟩:KEnt))) (N+300) (N+262500) m]) [true,false,false,false] rfl hw
 exact⟨e18,rfl,St.actGo (show putF X e=none from((if_neg (Bool.eq_false_iff.1 hc6)).trans (if_neg (by omega)))) hw⟩
set_option maxHeartbeats 4000000 in
theorem gsave_ok(β:Base)(w:World)(hG:GRng β)(G S N:Nat)(X:KG)(m:Bool)(hw:St β [gateR G S X N m] w)(hN:N≤53000000)(e:KEnt)(v:Value)(hs:Sl CpF.R β.heap v e.comps):Calls Tryz.prog 21 #[pp G 0,.agg #[Ix e.id,v]] w fun r w'=>∃e_,r= .returned (Ix e_)∧St β [actG (saveF X e) e_ G S X (playX X (.put e)) N m] w':=by
 obtain⟨J,i,k,hso,hpw,hw⟩:=St.openGate hw
 obtain⟨va,vc,rfl,vl,vm,ve⟩:=hs.get
 refine enter (n:=31) Tryz.func21 rfl Tryz.ntmps21 rfl ?_ hw
 refine csr (bxa fun b1=> ?_)
 refine lE oai (lnf (cs2 (c_region (lE omp (l_call rfl rfl rfl (cl0 (vs:=[pp G 0]) uo0.ok rfl rfl) ?_)))))
 intro w hw
 replace hw:=hw.perm (L':=_::_::_::_::[]) (by exact((((perm_front 3 rfl).trans (perm_front 3 rfl)).trans (perm_front 2 rfl)).trans (perm_front 3 rfl)))
 obtain⟨β1,sb,kn,hw1,back⟩:=St.frame (L:=[_]) (M:=_::_::_::[]) hw
 refine(upV_ok β1 w G J X hw1).mono ?_
 rintro e w' ⟨rfl,hw'⟩
 refine⟨_,rfl,_,back _ _ hw',?_⟩
 clear hw hw1 hw' back kn sb
 refine lE oai (lnc (lE omi (lE onq (lnf (c_no rfl (csk (cs2 (c_region (lE (olg 1) ?_)))))))))
 refine lcR clA (fun w β1 sb kn hw1=>right_ok β1 w hw1 (Cs.mono _ _ _ _ sb hG) e.id _ e.comps (Sl.mono _ _ _ _ _ sb (⟨⟨_,_,rfl,vl,vm,ve⟩⟩:Sl CpF.R _ _ e.comps))) ?_
 refine lE ont (lnf (c_ifb (!(rightE ⟨e.id,e.comps⟩)) rfl (fun hc2=> ?_) (fun hc2=> ?_)))
 ·refine csr (lE oai (lnf (c_ret (f_then_ret (ret1 Tryz.results21 rfl ?_)))))
  intro w hw
  replace hw:=hw.perm (L':=[gvR G J X false,jourR J S i false,storeR S k,pt b1 (.cells #[Ix (e.id),sB va e.comps (vc)] 32)]) (by exact(perm_ix [0,2,3,1] 4 rfl (by kernel_rfl) (by kernel_rfl)))
  replace hw:=st_mask (L':=[gvR G J X false,jourR J S i false,storeR S k]) [true,true,true,false] rfl hw
  exact⟨2,rfl,St.actNo (show saveF X e=some 2 from(if_pos hc2)) (St.closeGate hso hpw hw)⟩
 refine csk (cs2 (c_region (lE omp (lE ofp (lE (oli 1) (l_call rfl rfl rfl (cl0 (vs:=[pp G 0,Ix (e.id)]) uo3.ok rfl rfl) ?_))))))
 intro w hw
 replace hw:=hw.perm (L':=_::_::_::_::[]) (by exact((((perm_front 3 rfl).trans (perm_front 3 rfl)).trans (perm_front 3 rfl)).trans (perm_front 3 rfl)))
 obtain⟨β1,sb,kn,hw1,back⟩:=St.frame (L:=[_]) (M:=_::_::_::[]) hw
 refine(hasV_ok β1 w G J X false hw1 e.id).mono ?_
 rintro e w' ⟨rfl,hw'⟩
 refine⟨_,rfl,_,back _ _ hw',?_⟩
 clear hw hw1 hw' back kn sb
 refine lE omt (lE oxb (lE oxb (lE oab (lE oab (lnc (lE omb (lE ont (lnf (c_ifb (!(hereB X e.id)) rfl (fun hc3=> ?_) (fun hc3=> ?_))))))))))
 ·refine csr (lE oai (lnf (c_ret (f_then_ret (ret1 Tryz.results21 rfl ?_)))))
  intro w hw
  replace hw:=hw.perm (L':=[gvR G J X false,jourR J S i false,storeR S k,pt b1 (.cells #[Ix (e.id),sB va e.comps (vc)] 32)]) (by exact(perm_ix [0,2,3,1] 4 rfl (by kernel_rfl) (by kernel_rfl)))
  replace hw:=st_mask (L':=[gvR G J X false,jourR J S i false,storeR S k]) [true,true,true,false] rfl hw
  exact⟨6,rfl,St.actNo (show saveF X e=some 6 from((if_neg (Bool.eq_false_iff.1 hc2)).trans (if_pos hc3))) (St.closeGate hso hpw hw)⟩
 refine csk (c_seq ?_)
 have hre:rightE e=true:=by have:=hc2;simpa using this
 have hel:=(right_of hre).len
 have hhe:hereB X e.id=true:=by have:=hc3;simpa using this
 refine c_region (lE (olg 1) ?_)
 refine lcf (cl0 (vs:=[.agg #[Ix (e.id),sB va e.comps (vc)]]) uo9.ok rfl rfl) rfl fun w β1 sb kn hw1 back=>(own_ok β1 w hw1 e.id _ e.comps (Sl.mono _ _ _ _ _ sb (⟨⟨_,_,rfl,vl,vm,ve⟩⟩:Sl CpF.R _ _ e.comps)) (by omega)).mono ?_
 rintro e w' ⟨p4,c5,rfl,hw'⟩
 refine⟨_,rfl,_,back _ _ hw',?_⟩
 clear hw1 hw' back kn sb
 refine alE fun b6=>lu (mS 0 (#[Ix (e.id),sB p4 e.comps c5])) (lnf (c_seq (c_pi [2,4,5,0,1,3] 6 rfl (by kernel_rfl) ?_)))
 refine c_closeGate (N:=N) (m:=m) (M:=[pt b6 (.cells #[Ix (e.id),sB p4 e.comps c5] 32),rowF CpF 100 p4 c5 e.comps,pt b1 (.cells #[Ix (e.id),sB va e.comps (vc)] 32)]) rfl hso hpw ?_
 refine c_region (lE omp (lv (v:= .func (.func 53) #[] #[pp b6 0]) (e_func (u:=[]) (v:=[pp b6 0]) rfl rfl) ?_))
 refine l_call rfl rfl rfl (cl0 (vs:=[pp G 0,.int .i64 (1),.func (.func 53) #[] #[pp b6 0]]) uo11.ok rfl rfl) ?_
 intro w hw
 replace hw:=hw.perm (L':=_::_::_::_::[]) (by exact((((perm_front 3 rfl).trans (perm_front 3 rfl)).trans (perm_front 3 rfl)).trans (perm_front 3 rfl)))
 obtain⟨β1,sb,kn,hw1,back⟩:=St.frame (L:=[_]) (M:=_::_::_::[]) hw
 refine(change_ok β1 w G S N X m hw1 hN (.put (⟨e.id,e.comps⟩:KEnt)) (OpG.put hre (.inl hhe)) _ (fsave_ok _ b6 (⟨e.id,p4,e.comps.length,c5⟩:KEh) (⟨e.id,e.comps⟩:KEnt) ⟨rfl,rfl⟩ (kn _ (k_pt 0 (o:=0) rfl rfl)) (kn _ (k_has 1 rfl)) (right_of hre))).mono ?_
 rintro e w' ⟨e7,rfl,hw'⟩
 refine⟨_,rfl,_,back _ _ hw',?_⟩
 clear hw hw1 hw' back kn sb
 refine lE oai (lnf (c_ret (ret1 Tryz.results21 rfl ?_)))
 intro w hw
 replace hw:=st_mask (L':=[endG e7 G S X (playX X (.put (⟨e.id,e.comps⟩:KEnt))) (N+300) (N+262500) m]) [true,false,false,false] rfl hw
 exact⟨e7,rfl,St.actGo (show saveF X e=none from((if_neg (Bool.eq_false_iff.1 hc2)).trans (if_neg (Bool.eq_false_iff.1 hc3)))) hw⟩
set_option maxHeartbeats 4000000 in
theorem gdrop_ok(β:Base)(w:World)(hG:GRng β)(G S N:Nat)(X:KG)(m:Bool)(hw:St β [gateR G S X N m] w)(hN:N≤53000000)(id:Int)(hid:inI id):Calls Tryz.prog 27 #[pp G 0,Ix id] w fun r w'=>∃e_,r= .returned (Ix e_)∧St β [actG (dropF X id) e_ G S X (playX X (.drop id)) N m] w':=by
 obtain⟨J,i,k,hso,hpw,hw⟩:=St.openGate hw
 refine enter (n:=24) Tryz.func27 rfl Tryz.ntmps27 rfl ?_ hw
 refine csr (bxi fun b1=> ?_)
 refine lE oai (lnf (cs2 (c_region (lE omp (l_call rfl rfl rfl (cl0 (vs:=[pp G 0]) uo0.ok rfl rfl) ?_)))))
 intro w hw
 replace hw:=hw.perm (L':=_::_::_::_::[]) (by exact((((perm_front 3 rfl).trans (perm_front 3 rfl)).trans (perm_front 2 rfl)).trans (perm_front 3 rfl)))
 obtain⟨β1,sb,kn,hw1,back⟩:=St.frame (L:=[_]) (M:=_::_::_::[]) hw
 refine(upV_ok β1 w G J X hw1).mono ?_
 rintro e w' ⟨rfl,hw'⟩
 refine⟨_,rfl,_,back _ _ hw',?_⟩
 clear hw hw1 hw' back kn sb
 refine lE oai (lnc (lE omi (lE onq (lnf (c_no rfl (csk (cs2 (c_region (lE omp (lE (oli 1) ?_))))))))))
 refine l_call rfl rfl rfl (cl0 (vs:=[pp G 0,Ix (id)]) uo3.ok rfl rfl) ?_
 intro w hw
 replace hw:=hw.perm (L':=_::_::_::_::[]) (by exact((((perm_front 3 rfl).trans (perm_front 3 rfl)).trans (perm_front 3 rfl)).trans (perm_front 3 rfl)))
 obtain⟨β1,sb,kn,hw1,back⟩:=St.frame (L:=[_]) (M:=_::_::_::[]) hw
 refine(hasV_ok β1 w G J X false hw1 id).mono ?_
 rintro e w' ⟨rfl,hw'⟩
 refine⟨_,rfl,_,back _ _ hw',?_⟩
 clear hw hw1 hw' back kn sb
 refine lE omt (lE oxb (lE oxb (lE oab (lE oab (lnc (lE omb (lE ont (lnf (c_ifb (!(hereB X id)) rfl (fun hc2=> ?_) (fun hc2=> ?_))))))))))
 ·refine csr (lE oai (lnf (c_ret (f_then_ret (ret1 Tryz.results27 rfl ?_)))))
  intro w hw
  replace hw:=hw.perm (L':=[gvR G J X false,jourR J S i false,storeR S k,pt b1 (.cells #[Ix (id)] 3)]) (by exact(perm_ix [0,2,3,1] 4 rfl (by kernel_rfl) (by kernel_rfl)))
  replace hw:=st_mask (L':=[gvR G J X false,jourR J S i false,storeR S k]) [true,true,true,false] rfl hw
  exact⟨6,rfl,St.actNo (show dropF X id=some 6 from(if_pos hc2)) (St.closeGate hso hpw hw)⟩
 refine csk (c_seq (c_pi [0,2,3,1] 4 rfl (by kernel_rfl) (c_closeGate (N:=N) (m:=m) (M:=[pt b1 (.cells #[Ix (id)] 3)]) rfl hso hpw (c_region ?_))))
 refine lE omp (lv (v:= .func (.func 55) #[] #[pp b1 0]) (e_func (u:=[]) (v:=[pp b1 0]) rfl rfl) ?_)
 refine l_call rfl rfl rfl (cl0 (vs:=[pp G 0,.int .i64 (2),.func (.func 55) #[] #[pp b1 0]]) uo11.ok rfl rfl) ?_
 intro w hw
 replace hw:=hw.perm (L':=_::_::[]) (by exact((perm_front 1 rfl).trans (perm_front 1 rfl)))
 obtain⟨β1,sb,kn,hw1,back⟩:=St.frame (L:=[_]) (M:=_::[]) hw
 refine(change_ok β1 w G S N X m hw1 hN (.drop id) (OpG.drop hid) _ (fdrop_ok _ b1 id (kn _ (k_pt 0 (o:=0) rfl rfl)) hid)).mono ?_
 rintro e w' ⟨e3,rfl,hw'⟩
 refine⟨_,rfl,_,back _ _ hw',?_⟩
 clear hw hw1 hw' back kn sb
 refine lE oai (lnf (c_ret (ret1 Tryz.results27 rfl ?_)))
 intro w hw
 replace hw:=st_mask (L':=[endG e3 G S X (playX X (.drop id)) (N+300) (N+262500) m]) [true,false] rfl hw
 exact⟨e3,rfl,St.actGo (show dropF X id=none from(if_neg (Bool.eq_false_iff.1 hc2))) hw⟩
set_option maxHeartbeats 4000000 in
theorem ggive_ok(β:Base)(w:World)(hG:GRng β)(G S N:Nat)(X:KG)(m:Bool)(hw:St β [gateR G S X N m] w)(hN:N≤53000000)(id to:Int)(hid:inI id)(hit:inI to):Calls Tryz.prog 13 #[pp G 0,Ix id,Ix to] w fun r w'=>∃e_,r= .returned (Ix e_)∧St β [actG (giveF X id to) e_ G S X (playX X (.give id to)) N m] w':=by
 obtain⟨J,i,k,hso,hpw,hw⟩:=St.openGate hw
 refine enter (n:=40) Tryz.func13 rfl Tryz.ntmps13 rfl ?_ hw
 refine csr (bxi fun b1=> ?_)
 refine bxi fun b2=> ?_
 refine lE oai (lnf (cs2 (c_region (lE omp (l_call rfl rfl rfl (cl0 (vs:=[pp G 0]) uo0.ok rfl rfl) ?_)))))
 intro w hw
 replace hw:=hw.perm (L':=_::_::_::_::_::[]) (by exact(((((perm_front 4 rfl).trans (perm_front 4 rfl)).trans (perm_front 3 rfl)).trans (perm_front 3 rfl)).trans (perm_front 4 rfl)))
 obtain⟨β1,sb,kn,hw1,back⟩:=St.frame (L:=[_]) (M:=_::_::_::_::[]) hw
 refine(upV_ok β1 w G J X hw1).mono ?_
 rintro e w' ⟨rfl,hw'⟩
 refine⟨_,rfl,_,back _ _ hw',?_⟩
 clear hw hw1 hw' back kn sb
 refine lE oai (lnc (lE omi (lE onq (lnf (c_no rfl (csk (csr (lE omp (lE (oli 2) (l_call rfl rfl rfl (cl0 (vs:=[pp G 0,Ix (id)]) uo3.ok rfl rfl) ?_))))))))))
 intro w hw
 replace hw:=hw.perm (L':=_::_::_::_::_::[]) (by exact(((((perm_front 4 rfl).trans (perm_front 4 rfl)).trans (perm_front 4 rfl)).trans (perm_front 4 rfl)).trans (perm_front 4 rfl)))
 obtain⟨β1,sb,kn,hw1,back⟩:=St.frame (L:=[_]) (M:=_::_::_::_::[]) hw
 refine(hasV_ok β1 w G J X false hw1 id).mono ?_
 rintro e w' ⟨rfl,hw'⟩
 refine⟨_,rfl,_,back _ _ hw',?_⟩
 clear hw hw1 hw' back kn sb
 refine lE omt (lE oxb (lE oxb (lE oab (lE oab (lnf (c_seq (c_block (csr (lE omp (lE (oli 1) ?_))))))))))
 refine l_call rfl rfl rfl (cl0 (vs:=[pp G 0,Ix (to)]) uo12.ok rfl rfl) ?_
 intro w hw
 replace hw:=hw.perm (L':=_::_::_::_::_::[]) (by exact(((((perm_front 4 rfl).trans (perm_front 4 rfl)).trans (perm_front 4 rfl)).trans (perm_front 4 rfl)).trans (perm_front 4 rfl)))
 obtain⟨β1,sb,kn,hw1,back⟩:=St.frame (L:=[_]) (M:=_::_::_::_::[]) hw
 refine(otherV_ok β1 w G J X false hw1 to).mono ?_
 rintro e w' ⟨rfl,hw'⟩
 refine⟨_,rfl,_,back _ _ hw',?_⟩
 clear hw hw1 hw' back kn sb
 refine lE ont (lE oab (lnf (c_ifb (!(otherB X.zone to)) rfl (fun hc3=> ?_) (fun hc3=> ?_))))
 ·refine csr (lE oai (lnf (c_ret (f_block_ret (f_then_ret (ret1 Tryz.results13 rfl ?_))))))
  intro w hw
  replace hw:=hw.perm (L':=[gvR G J X false,jourR J S i false,storeR S k,pt b2 (.cells #[Ix (to)] 3),pt b1 (.cells #[Ix (id)] 3)]) (by exact(perm_ix [0,3,4,1,2] 5 rfl (by kernel_rfl) (by kernel_rfl)))
  replace hw:=st_mask (L':=[gvR G J X false,jourR J S i false,storeR S k]) [true,true,true,false,false] rfl hw
  exact⟨2,rfl,St.actNo (show giveF X id to=some 2 from(if_pos hc3)) (St.closeGate hso hpw hw)⟩
 refine csr (lE omb (lE ont (lE oab (lnf (c_ifb (!(hereB X id)) rfl (fun hc4=> ?_) (fun hc4=> ?_))))))
 ·refine csr (lE oai (lnf (c_ret (f_block_ret (f_then_ret (ret1 Tryz.results13 rfl ?_))))))
  intro w hw
  replace hw:=hw.perm (L':=[gvR G J X false,jourR J S i false,storeR S k,pt b2 (.cells #[Ix (to)] 3),pt b1 (.cells #[Ix (id)] 3)]) (by exact(perm_ix [0,3,4,1,2] 5 rfl (by kernel_rfl) (by kernel_rfl)))
  replace hw:=st_mask (L':=[gvR G J X false,jourR J S i false,storeR S k]) [true,true,true,false,false] rfl hw
  exact⟨6,rfl,St.actNo (show giveF X id to=some 6 from((if_neg (Bool.eq_false_iff.1 hc3)).trans (if_pos hc4))) (St.closeGate hso hpw hw)⟩
 refine c_seq (c_openGv rfl fun m5 p6 c7 ks8 mz9 zs10 hk11=> ?_)
 have hkl:=hk11.klen
 have hmo:=hk11.mlen
 refine c_region (lE omp (lE onp (lE ofp (lE ofp (lE (ols 0) (lE oln (lE oge (lE oab (lnf (c_if _ rfl (fun hc12=> ?_) (fun hc12=> ?_)))))))))))
 ·refine c_seq ?_
  refine c_merge (L:=[pt G (.cells (gC (X.zone) J m5 p6 (mz9.length) c7 X.gv X.lv false) 77),mpR EnM m5 ks8,rowF MgF 38 p6 c7 (mz9.map Prod.fst),poolR zs10]) (M:=[pt b2 (.cells #[Ix (to)] 3),pt b1 (.cells #[Ix (id)] 3),jourR J S i false,storeR S k]) (r:=gvR G J X false) (gv_close hk11) ?_
  refine c_region (lE oai (lnf (c_ret (f_block_ret (f_then_ret (ret1 Tryz.results13 rfl ?_))))))
  intro w hw
  replace hw:=hw.perm (L':=[gvR G J X false,jourR J S i false,storeR S k,pt b2 (.cells #[Ix (to)] 3),pt b1 (.cells #[Ix (id)] 3)]) (by exact(perm_ix [0,3,4,1,2] 5 rfl (by kernel_rfl) (by kernel_rfl)))
  replace hw:=st_mask (L':=[gvR G J X false,jourR J S i false,storeR S k]) [true,true,true,false,false] rfl hw
  exact⟨4,rfl,St.actNo (show giveF X id to=some 4 from((if_neg (Bool.eq_false_iff.1 hc3)).trans ((if_neg (Bool.eq_false_iff.1 hc4)).trans (if_pos (by omega))))) (St.closeGate hso hpw hw)⟩
 refine c_skip (f_block (fts ?_))
 have hoz:otherB X.zone to=true:=by have:=hc3;simpa using this
 have hhe:hereB X id=true:=by have:=hc4;simpa using this
 refine c_merge (L:=[pt G (.cells (gC (X.zone) J m5 p6 (mz9.length) c7 X.gv X.lv false) 77),mpR EnM m5 ks8,rowF MgF 38 p6 c7 (mz9.map Prod.fst),poolR zs10]) (M:=[pt b2 (.cells #[Ix (to)] 3),pt b1 (.cells #[Ix (id)] 3),jourR J S i false,storeR S k]) (r:=gvR G J X false) (gv_close hk11) ?_
 refine c_pi [0,3,4,1,2] 5 rfl (by kernel_rfl) ?_
 refine c_closeGate (N:=N) (m:=m) (M:=[pt b2 (.cells #[Ix (to)] 3),pt b1 (.cells #[Ix (id)] 3)]) rfl hso hpw (c_region (lE omp ?_))
 refine lv (v:= .func (.func 44) #[] #[pp b1 0,pp b2 0]) (e_func (u:=[]) (v:=[pp b1 0,pp b2 0]) rfl rfl) ?_
 refine l_call rfl rfl rfl (cl0 (vs:=[pp G 0,.int .i64 (3),.func (.func 44) #[] #[pp b1 0,pp b2 0]]) uo11.ok rfl rfl) ?_
 intro w hw
 replace hw:=hw.perm (L':=_::_::_::[]) (by exact(((perm_front 2 rfl).trans (perm_front 2 rfl)).trans (perm_front 2 rfl)))
 obtain⟨β1,sb,kn,hw1,back⟩:=St.frame (L:=[_]) (M:=_::_::[]) hw
 refine(change_ok β1 w G S N X m hw1 hN (.give id to) (OpG.give hid hoz hhe (by omega)) _ (fgive_ok _ b1 b2 id to (kn _ (k_pt 1 (o:=0) rfl rfl)) hid (kn _ (k_pt 0 (o:=0) rfl rfl)) hit)).mono ?_
 rintro e w' ⟨e13,rfl,hw'⟩
 refine⟨_,rfl,_,back _ _ hw',?_⟩
 clear hw hw1 hw' back kn sb
 refine lE oai (lnf (c_ret (ret1 Tryz.results13 rfl ?_)))
 intro w hw
 replace hw:=st_mask (L':=[endG e13 G S X (playX X (.give id to)) (N+300) (N+262500) m]) [true,false,false] rfl hw
 exact⟨e13,rfl,St.actGo (show giveF X id to=none from((if_neg (Bool.eq_false_iff.1 hc3)).trans ((if_neg (Bool.eq_false_iff.1 hc4)).trans (if_neg (by omega))))) hw⟩
end Go.Proofs
namespace Go.Proofs
open Go Go.Sl Go.Hv Go.Jn
instance up0:CfC Tryz.prog 35:={}
instance up1:FldC Tryz.prog 38 1 1 1 false:={}
instance up2:TyC Tryz.prog 3 false 1:={}
instance up3:FldC Tryz.prog 77 0 0 1 false:={}
instance up4:FldC Tryz.prog 38 0 0 1 false:={}
instance up5:CfC Tryz.prog 43:={}
instance up6:FldC Tryz.prog 38 3 3 1 false:={}
instance up7:TyC Tryz.prog 4 false 1:={}
instance up8:FldC Tryz.prog 38 2 2 1 false:={}
instance up9:FldC Tryz.prog 77 2 2 16 true:={}
instance up10:FldC Tryz.prog 75 2 2 7 true:={}
instance up11:ArrC Tryz.prog 56 7 3 1:={}
instance up12:FldC Tryz.prog 75 1 1 1 false:={}
instance up13:TyC Tryz.prog 35 false 1:={}
instance up14:CfC Tryz.prog 46:={}
instance up15:CfC Tryz.prog 39:={}
instance up16:FldC Tryz.prog 38 4 4 2 true:={}
instance up17:FldC Tryz.prog 32 0 0 1 false:={}
instance up18:CfC Tryz.prog 36:={}
instance up19:FldC Tryz.prog 75 3 9 7 true:={}
instance up20:TyC Tryz.prog 32 true 2:={}
instance up21:CfC Tryz.prog 37:={}
instance up22:FldC Tryz.prog 75 0 0 1 false:={}
instance up23:TyC Tryz.prog 73 false 1:={}
instance up24:CfC Tryz.prog 38:={}
instance up25:ZerC Tryz.prog 32 (.agg #[.int .i64 (0),.slice none 0 0]):={}
set_option maxHeartbeats 4000000 in
theorem gtake_ok(β:Base)(w:World)(hG:GRng β)(G S N:Nat)(X:KG)(mq:Bool)(hw:St β [gateR G S X N mq] w)(hN:N≤53000000)(m:KMs)(v:Value)(hs:Sl CpF.R β.heap v m.e.comps):Calls Tryz.prog 15 #[pp G 0,.agg #[Ix m.src,Ix m.to,Ix m.number,.bool m.ack,Ix m.e.id,v]] w fun r w'=>∃e_,r= .returned (Ix e_)∧St β [actG (takeF X m) e_ G S X (playX X (takeO m)) N mq] w':=by
 obtain⟨J,i,k,hso,hpw,hw⟩:=St.openGate hw
 obtain⟨va,vc,rfl,vl,vm,ve⟩:=hs.get
 refine enter (n:=109) Tryz.func15 rfl Tryz.ntmps15 rfl ?_ hw
 refine csr (bxa fun b1=> ?_)
 refine lE oai (lnf (cs2 (c_region (lE omp (l_call rfl rfl rfl (cl0 (vs:=[pp G 0]) up0.ok rfl rfl) ?_)))))
 intro w hw
 replace hw:=hw.perm (L':=_::_::_::_::[]) (by exact((((perm_front 3 rfl).trans (perm_front 3 rfl)).trans (perm_front 2 rfl)).trans (perm_front 3 rfl)))
 obtain⟨β1,sb,kn,hw1,back⟩:=St.frame (L:=[_]) (M:=_::_::_::[]) hw
 refine(upV_ok β1 w G J X hw1).mono ?_
 rintro e w' ⟨rfl,hw'⟩
 refine⟨_,rfl,_,back _ _ hw',?_⟩
 clear hw hw1 hw' back kn sb
 refine lE oai (lnc (lE omi (lE onq (lnf (c_no rfl (csk (cs2 (c_openGv rfl fun m2 p3 c4 ks5 mz6 zs7 hk8=> ?_))))))))
 have hkl:=hk8.klen
 have hmo:=hk8.mlen
 refine c_quiet (by kernel_rfl) (by kernel_rfl) (qE ofp (qE (oli 4) (qE omp (qE onp (qE ofp (qE (oli 0) (qE onq ?_)))))))
 refine q_or5 (decide ((m.to)≠(X.zone))) (!(otherB X.zone m.src)) rfl (fun hb9 hk9=> ?_) (fun z10 z11 z12 z13 z14=> ?_)
 ·have hb9p:=of_decide_eq_false hb9
  refine rE omp (rE ofp (rE (oli 4) ?_))
  refine qg_call (v:= .bool (otherB X.zone m.src)) rfl rfl rfl rfl rfl (cl0 (vs:=[pp G 0,Ix (m.src)]) up5.ok rfl rfl) (fun w hw=> ?_) ?_
  ·obtain⟨β1,sb,kn,hw1,back⟩:=St.frame_all hw
   exact(other_ok β1 w hw1 G J m2 X.zone p3 mz6.length c4 X.gv X.lv false (kn _ (k_pt 0 (o:=0) rfl rfl)) m.src).mono (fun e w' ⟨he,hw'⟩=>⟨he,st_mask [true,true,true,true,true,true,true] rfl (back _ _ hw')⟩)
  refine rE ont (qE okfb ?_)
  exact hk9 _ _ _ _ _
 refine q_nil (f_then (c_ifb (((decide ((m.to)≠(X.zone)))||(!(otherB X.zone m.src)))) rfl (fun hc15=> ?_) (fun hc15=> ?_)))
 ·refine csr (lE oai (lnf (c_ret (f_then_ret (ret1 Tryz.results15 rfl ?_)))))
  intro w hw
  replace hw:=hw.perm (L':=[pt G (.cells (gC (X.zone) J m2 p3 (mz6.length) c4 X.gv X.lv false) 77),mpR EnM m2 ks5,rowF MgF 38 p3 c4 (mz6.map Prod.fst),poolR zs7,jourR J S i false,storeR S k,pt b1 (.cells #[Ix (m.src),Ix (m.to),Ix (m.number),.bool (m.ack),Ix (m.e.id),sB va m.e.comps (vc)] 38)]) (by exact(perm_ix [0,1,2,3,5,6,4] 7 rfl (by kernel_rfl) (by kernel_rfl)))
  replace hw:=st_mask (L':=[pt G (.cells (gC (X.zone) J m2 p3 (mz6.length) c4 X.gv X.lv false) 77),mpR EnM m2 ks5,rowF MgF 38 p3 c4 (mz6.map Prod.fst),poolR zs7,jourR J S i false,storeR S k]) [true,true,true,true,true,true,false] rfl hw
  exact⟨2,rfl,St.actNo (show takeF X m=some 2 from(if_pos hc15)) (St.closeGate hso hpw (St.closeGv (M:=[jourR J S i false,storeR S k]) hk8 hw))⟩
 refine csk (cs2 ?_)
 have hoz:otherB X.zone m.src=true:=by have:=hc15;simp at this;exact this.2
 obtain⟨hs1,hs6,hs0⟩:=other_iff.1 hoz
 have hsi:inI m.src:=⟨by omega,by omega⟩
 have hgv:=hso.ok.gv m.src.toNat (by omega)
 have hlv:=hso.ok.lv m.src.toNat (by omega)
 refine c_region (lE ofp (lE (olb 4) (lnf (c_ifb (m.ack) rfl (fun hc16=> ?_) (fun hc16=> ?_)))))
 ·refine c_seq (c_block (c_seq (c_quiet (by kernel_rfl) (by kernel_rfl) (qE ofp (qE (oli 4) (qE olt ?_))))))
  refine q_or11 (decide ((m.number)<(0:Int))) (decide ((X.gv.at ((m.src).toNat))<(m.number))) rfl (fun hb17 hk17=> ?_) (fun z18 z19 z20 z21 z22 z23 z24 z25 z26 z27 z28=> ?_)
  ·have hb17p:=of_decide_eq_false hb17
   refine rE ofp (rE (oli 4) (rE omp (rE ofp (rE (oli 4) (rE onp (rE ofp (rE ofp ?_)))))))
   refine qg_val (v:= .pointer (some ((⟨G,4,none⟩:Addr).add (((m.src).toNat)*1)))) rfl rfl rfl rfl rfl (e_indexArrI (a:=⟨G,4,none⟩) (k:=(m.src).toNat) rfl (show Ix (m.src)=Ix (((m.src).toNat:Nat):Int)from congrArg (Value.int .i64) (by omega)) up11.ok (by omega)) ?_
   refine qg_val (v:=Ix (X.gv.at ((m.src).toNat))) rfl rfl rfl rfl rfl (e_load1 up2.ok rfl (Knows.imp (k_pt 0 (o:=4) rfl rfl) fun _ h=>cs_fl (F:=IntF) (xs:=X.gv.toL) h (KN7.get (by omega)))) ?_
   refine rE ogt (qE okfb ?_)
   exact hk17 _ _ _ _ _ _ _ _ _ _ _
  refine qE oab (q_nil (f_then ?_))
  refine c_ifb (((decide ((m.number)<(0:Int)))||(decide ((X.gv.at ((m.src).toNat))<(m.number))))) rfl (fun hc29=> ?_) (fun hc29=> ?_)
  ·refine csr (lE oai (lnf (c_ret (f_block_ret (f_then_ret (f_then_ret (ret1 Tryz.results15 rfl ?_)))))))
   intro w hw
   replace hw:=hw.perm (L':=[pt G (.cells (gC (X.zone) J m2 p3 (mz6.length) c4 X.gv X.lv false) 77),mpR EnM m2 ks5,rowF MgF 38 p3 c4 (mz6.map Prod.fst),poolR zs7,jourR J S i false,storeR S k,pt b1 (.cells #[Ix (m.src),Ix (m.to),Ix (m.number),.bool (m.ack),Ix (m.e.id),sB va m.e.comps (vc)] 38)]) (by exact(perm_ix [0,1,2,3,5,6,4] 7 rfl (by kernel_rfl) (by kernel_rfl)))
   replace hw:=st_mask (L':=[pt G (.cells (gC (X.zone) J m2 p3 (mz6.length) c4 X.gv X.lv false) 77),mpR EnM m2 ks5,rowF MgF 38 p3 c4 (mz6.map Prod.fst),poolR zs7,jourR J S i false,storeR S k]) [true,true,true,true,true,true,false] rfl hw
   exact⟨2,rfl,St.actNo (show takeF X m=some 2 from((if_neg (Bool.eq_false_iff.1 hc15)).trans ((if_pos hc16).trans (if_pos hc29)))) (St.closeGate hso hpw (St.closeGv (M:=[jourR J S i false,storeR S k]) hk8 hw))⟩
  refine csr (lE omp (lE onp (lE ofp (lE ofp (lE (ols 0) (lv (v:= .func (.func 47) #[] #[pp b1 0]) (e_func (u:=[]) (v:=[pp b1 0]) rfl rfl) ?_))))))
  refine lcR clA (fun w β1 sb kn hw1=>containsM_ok β1 w hw1 _ _ (mz6.map Prod.fst) (kn _ (k_flN 2 (F:=MgF) (m:=mz6.length) rfl (List.length_map _).symm)) (fun z=>ackK m.src m.number z) (fnv_all (upto_fn _ b1 (⟨m.src,m.to,m.number,m.ack,m.e.id,va,m.e.comps.length,vc⟩:KMg) (kn _ (k_pt 4 (o:=0) rfl rfl))))) ?_
  refine lE ont (lE oab (lnf (c_ifb (!((mz6.map Prod.fst).any (fun z=>ackK m.src m.number z))) rfl (fun hc30=> ?_) (fun hc30=> ?_))))
  ·refine csr (lE oai (lnf (c_ret (f_block_ret (f_then_ret (f_then_ret (ret1 Tryz.results15 rfl ?_)))))))
   intro w hw
   replace hw:=hw.perm (L':=[pt G (.cells (gC (X.zone) J m2 p3 (mz6.length) c4 X.gv X.lv false) 77),mpR EnM m2 ks5,rowF MgF 38 p3 c4 (mz6.map Prod.fst),poolR zs7,jourR J S i false,storeR S k,pt b1 (.cells #[Ix (m.src),Ix (m.to),Ix (m.number),.bool (m.ack),Ix (m.e.id),sB va m.e.comps (vc)] 38)]) (by exact(perm_ix [0,1,2,3,5,6,4] 7 rfl (by kernel_rfl) (by kernel_rfl)))
   replace hw:=st_mask (L':=[pt G (.cells (gC (X.zone) J m2 p3 (mz6.length) c4 X.gv X.lv false) 77),mpR EnM m2 ks5,rowF MgF 38 p3 c4 (mz6.map Prod.fst),poolR zs7,jourR J S i false,storeR S k]) [true,true,true,true,true,true,false] rfl hw
   exact⟨0,rfl,St.actNo (show takeF X m=some 0 from((if_neg (Bool.eq_false_iff.1 hc15)).trans ((if_pos hc16).trans ((if_neg (Bool.eq_false_iff.1 hc29)).trans (if_pos (show(!X.out.any (ackB m.src m.number))=true from(by rw[←hk8.anyAck];exact hc30))))))) (St.closeGate hso hpw (St.closeGv (M:=[jourR J S i false,storeR S k]) hk8 hw))⟩
  refine c_skip (f_block (fts ?_))
  have hnb:0≤m.number∧m.number≤X.gv.at m.src.toNat:=by have:=hc29;simp at this;omega
  have hnu:inI m.number:=⟨by omega,by omega⟩
  refine c_merge (L:=[pt G (.cells (gC (X.zone) J m2 p3 (mz6.length) c4 X.gv X.lv false) 77),mpR EnM m2 ks5,rowF MgF 38 p3 c4 (mz6.map Prod.fst),poolR zs7]) (M:=[pt b1 (.cells #[Ix (m.src),Ix (m.to),Ix (m.number),.bool (m.ack),Ix (m.e.id),sB va m.e.comps (vc)] 38),jourR J S i false,storeR S k]) (r:=gvR G J X false) (gv_close hk8) ?_
  refine c_pi [0,2,3,1] 4 rfl (by kernel_rfl) ?_
  refine c_closeGate (N:=N) (m:=mq) (M:=[pt b1 (.cells #[Ix (m.src),Ix (m.to),Ix (m.number),.bool (m.ack),Ix (m.e.id),sB va m.e.comps (vc)] 38)]) rfl hso hpw ?_
  refine c_region (lE omp (lv (v:= .func (.func 48) #[] #[pp b1 0]) (e_func (u:=[]) (v:=[pp b1 0]) rfl rfl) ?_))
  refine l_call rfl rfl rfl (cl0 (vs:=[pp G 0,.int .i64 (5),.func (.func 48) #[] #[pp b1 0]]) up15.ok rfl rfl) ?_
  intro w hw
  replace hw:=hw.perm (L':=_::_::[]) (by exact((perm_front 1 rfl).trans (perm_front 1 rfl)))
  obtain⟨β1,sb,kn,hw1,back⟩:=St.frame (L:=[_]) (M:=_::[]) hw
  refine(change_ok β1 w G S N X mq hw1 hN (.ack m.src m.number) (OpG.ack hoz hnb.1 (by omega)) _ (fack_ok _ b1 (⟨m.src,m.to,m.number,m.ack,m.e.id,va,m.e.comps.length,vc⟩:KMg) (kn _ (k_pt 0 (o:=0) rfl rfl)) hsi hnu)).mono ?_
  rintro e w' ⟨e31,rfl,hw'⟩
  refine⟨_,rfl,_,back _ _ hw',?_⟩
  clear hw hw1 hw' back kn sb
  refine lE oai (lnf (c_ret (f_then_ret (ret1 Tryz.results15 rfl ?_))))
  intro w hw
  replace hw:=st_mask (L':=[endG e31 G S X (playX X (.ack m.src m.number)) (N+300) (N+262500) mq]) [true,false] rfl hw
  rw[show takeO m= .ack m.src m.number from if_pos hc16]
  exact⟨e31,rfl,St.actGo (show takeF X m=none from((if_neg (Bool.eq_false_iff.1 hc15)).trans ((if_pos hc16).trans ((if_neg (Bool.eq_false_iff.1 hc29)).trans (if_neg (Bool.eq_false_iff.1 (show(!X.out.any (ackB m.src m.number))=false from(by rw[←hk8.anyAck];exact hc30)))))))) hw⟩
 refine csk (c_seq ?_)
 refine c_merge (L:=[pt G (.cells (gC (X.zone) J m2 p3 (mz6.length) c4 X.gv X.lv false) 77),mpR EnM m2 ks5,rowF MgF 38 p3 c4 (mz6.map Prod.fst),poolR zs7]) (M:=[pt b1 (.cells #[Ix (m.src),Ix (m.to),Ix (m.number),.bool (m.ack),Ix (m.e.id),sB va m.e.comps (vc)] 38),jourR J S i false,storeR S k]) (r:=gvR G J X false) (gv_close hk8) ?_
 refine c_region (lE omp (lE ofp (lE ofp (lE (oli 1) (l_call rfl rfl rfl (cl0 (vs:=[pp G 0,Ix (m.e.id)]) up18.ok rfl rfl) ?_)))))
 intro w hw
 replace hw:=hw.perm (L':=_::_::_::_::[]) (by exact((((perm_front 3 rfl).trans (perm_front 3 rfl)).trans (perm_front 3 rfl)).trans (perm_front 3 rfl)))
 obtain⟨β1,sb,kn,hw1,back⟩:=St.frame (L:=[_]) (M:=_::_::_::[]) hw
 refine(hasV_ok β1 w G J X false hw1 m.e.id).mono ?_
 rintro e w' ⟨rfl,hw'⟩
 refine⟨_,rfl,_,back _ _ hw',?_⟩
 clear hw hw1 hw' back kn sb
 refine lE omt (lE oxb (lE oxb (lE oab (lE oab (lnf (cs2 (c_openGv rfl fun m32 p33 c34 ks35 mz36 zs37 hk38=> ?_)))))))
 have hkl:=hk38.klen
 refine c_quiet (by kernel_rfl) (by kernel_rfl) (qE omp (qE ofp (qE (oli 4) (qE onp (qE ofp (qE ofp ?_))))))
 refine q_val (v:= .pointer (some ((⟨G,11,none⟩:Addr).add (((m.src).toNat)*1)))) rfl rfl rfl (e_indexArrI (a:=⟨G,11,none⟩) (k:=(m.src).toNat) rfl (show Ix (m.src)=Ix (((m.src).toNat:Nat):Int)from congrArg (Value.int .i64) (by omega)) up11.ok (by omega)) ?_
 refine q_val (v:=Ix (X.lv.at ((m.src).toNat))) rfl rfl rfl (e_load1 up2.ok rfl (Knows.imp (k_pt 0 (o:=11) rfl rfl) fun _ h=>cs_fl (F:=IntF) (xs:=X.lv.toL) h (KN7.get (by omega)))) ?_
 refine qE oai (q_nil (f_then (c_block (csr (lE ofp (lE (oli 4) (lE omi (lE ole (lE oab (lnf (c_if _ rfl (fun hc39=> ?_) (fun hc39=> ?_))))))))))))
 ·refine csr (lE oai (lnf (c_ret (f_block_ret (f_then_ret (ret1 Tryz.results15 rfl ?_))))))
  intro w hw
  replace hw:=hw.perm (L':=[pt G (.cells (gC (X.zone) J m32 p33 (mz36.length) c34 X.gv X.lv false) 77),mpR EnM m32 ks35,rowF MgF 38 p33 c34 (mz36.map Prod.fst),poolR zs37,jourR J S i false,storeR S k,pt b1 (.cells #[Ix (m.src),Ix (m.to),Ix (m.number),.bool (m.ack),Ix (m.e.id),sB va m.e.comps (vc)] 38)]) (by exact(perm_ix [0,1,2,3,5,6,4] 7 rfl (by kernel_rfl) (by kernel_rfl)))
  replace hw:=st_mask (L':=[pt G (.cells (gC (X.zone) J m32 p33 (mz36.length) c34 X.gv X.lv false) 77),mpR EnM m32 ks35,rowF MgF 38 p33 c34 (mz36.map Prod.fst),poolR zs37,jourR J S i false,storeR S k]) [true,true,true,true,true,true,false] rfl hw
  exact⟨0,rfl,St.actNo (show takeF X m=some 0 from((if_neg (Bool.eq_false_iff.1 hc15)).trans ((if_neg (Bool.eq_false_iff.1 hc16)).trans (if_pos hc39)))) (St.closeGate hso hpw (St.closeGv (M:=[jourR J S i false,storeR S k]) hk38 hw))⟩
 refine csr (lE ofp (lE (oli 4) (lE omi (lE opl (lE ogt (lE oab (lnf (c_if _ rfl (fun hc40=> ?_) (fun hc40=> ?_)))))))))
 ·refine csr (lE oai (lnf (c_ret (f_block_ret (f_then_ret (ret1 Tryz.results15 rfl ?_))))))
  intro w hw
  replace hw:=hw.perm (L':=[pt G (.cells (gC (X.zone) J m32 p33 (mz36.length) c34 X.gv X.lv false) 77),mpR EnM m32 ks35,rowF MgF 38 p33 c34 (mz36.map Prod.fst),poolR zs37,jourR J S i false,storeR S k,pt b1 (.cells #[Ix (m.src),Ix (m.to),Ix (m.number),.bool (m.ack),Ix (m.e.id),sB va m.e.comps (vc)] 38)]) (by exact(perm_ix [0,1,2,3,5,6,4] 7 rfl (by kernel_rfl) (by kernel_rfl)))
  replace hw:=st_mask (L':=[pt G (.cells (gC (X.zone) J m32 p33 (mz36.length) c34 X.gv X.lv false) 77),mpR EnM m32 ks35,rowF MgF 38 p33 c34 (mz36.map Prod.fst),poolR zs37,jourR J S i false,storeR S k]) [true,true,true,true,true,true,false] rfl hw
  exact⟨320,rfl,St.actNo (show takeF X m=some 320 from((if_neg (Bool.eq_false_iff.1 hc15)).trans ((if_neg (Bool.eq_false_iff.1 hc16)).trans ((if_neg hc39).trans (if_pos hc40))))) (St.closeGate hso hpw (St.closeGv (M:=[jourR J S i false,storeR S k]) hk38 hw))⟩
 refine c_seq ?_
 refine c_merge (L:=[pt G (.cells (gC (X.zone) J m32 p33 (mz36.length) c34 X.gv X.lv false) 77),mpR EnM m32 ks35,rowF MgF 38 p33 c34 (mz36.map Prod.fst),poolR zs37]) (M:=[pt b1 (.cells #[Ix (m.src),Ix (m.to),Ix (m.number),.bool (m.ack),Ix (m.e.id),sB va m.e.comps (vc)] 38),jourR J S i false,storeR S k]) (r:=gvR G J X false) (gv_close hk38) ?_
 refine c_region (lE ofp (lE (olg 1) ?_))
 refine lcR clA (fun w β1 sb kn hw1=>right_ok β1 w hw1 (Cs.mono _ _ _ _ sb hG) m.e.id _ m.e.comps (Sl.mono _ _ _ _ _ sb (⟨⟨_,_,rfl,vl,vm,ve⟩⟩:Sl CpF.R _ _ m.e.comps))) ?_
 refine lE ont (l_or1 (!(rightE ⟨m.e.id,m.e.comps⟩)) (hereB X m.e.id) rfl (fun hb41 hk41=> ?_) (fun z42=> ?_))
 ·refine gE omb (lE okfb ?_)
  exact hk41 _
 refine lE oab (lnf (c_ifb (((!(rightE ⟨m.e.id,m.e.comps⟩))||(hereB X m.e.id))) rfl (fun hc43=> ?_) (fun hc43=> ?_)))
 ·refine csr (lE oai (lnf (c_ret (f_block_ret (f_then_ret (ret1 Tryz.results15 rfl ?_))))))
  intro w hw
  replace hw:=hw.perm (L':=[gvR G J X false,jourR J S i false,storeR S k,pt b1 (.cells #[Ix (m.src),Ix (m.to),Ix (m.number),.bool (m.ack),Ix (m.e.id),sB va m.e.comps (vc)] 38)]) (by exact(perm_ix [0,2,3,1] 4 rfl (by kernel_rfl) (by kernel_rfl)))
  replace hw:=st_mask (L':=[gvR G J X false,jourR J S i false,storeR S k]) [true,true,true,false] rfl hw
  exact⟨2,rfl,St.actNo (show takeF X m=some 2 from((if_neg (Bool.eq_false_iff.1 hc15)).trans ((if_neg (Bool.eq_false_iff.1 hc16)).trans ((if_neg hc39).trans ((if_neg hc40).trans (if_pos hc43)))))) (St.closeGate hso hpw hw)⟩
 refine c_seq (c_openGv rfl fun m44 p45 c46 ks47 mz48 zs49 hk50=> ?_)
 have hkl:=hk50.klen
 refine c_region (lE omp (lE onp (lE ofp (lE ofp (lv (v:= .map (some m44)) (e_load1 up23.ok rfl (k_pt 0 rfl rfl)) ?_)))))
 refine lv (v:=Nx (ks47.length)) (e_mlen (K:=EnM) (b:=m44) (ks:=ks47) rfl rfl (Knows.of_res 1 rfl (mpR.mono _ _ _) fun _ h=>h)) (lE oge ?_)
 refine lE oab (lnf (c_if _ rfl (fun hc51=> ?_) (fun hc51=> ?_)))
 ·refine csr (lE oai (lnf (c_ret (f_block_ret (f_then_ret (ret1 Tryz.results15 rfl ?_))))))
  intro w hw
  replace hw:=hw.perm (L':=[pt G (.cells (gC (X.zone) J m44 p45 (mz48.length) c46 X.gv X.lv false) 77),mpR EnM m44 ks47,rowF MgF 38 p45 c46 (mz48.map Prod.fst),poolR zs49,jourR J S i false,storeR S k,pt b1 (.cells #[Ix (m.src),Ix (m.to),Ix (m.number),.bool (m.ack),Ix (m.e.id),sB va m.e.comps (vc)] 38)]) (by exact(perm_ix [0,1,2,3,5,6,4] 7 rfl (by kernel_rfl) (by kernel_rfl)))
  replace hw:=st_mask (L':=[pt G (.cells (gC (X.zone) J m44 p45 (mz48.length) c46 X.gv X.lv false) 77),mpR EnM m44 ks47,rowF MgF 38 p45 c46 (mz48.map Prod.fst),poolR zs49,jourR J S i false,storeR S k]) [true,true,true,true,true,true,false] rfl hw
  exact⟨4,rfl,St.actNo (show takeF X m=some 4 from((if_neg (Bool.eq_false_iff.1 hc15)).trans ((if_neg (Bool.eq_false_iff.1 hc16)).trans ((if_neg hc39).trans ((if_neg hc40).trans ((if_neg (Bool.eq_false_iff.1 hc43)).trans (if_pos (by omega)))))))) (St.closeGate hso hpw (St.closeGv (M:=[jourR J S i false,storeR S k]) hk50 hw))⟩
 refine c_skip (f_block (fts ?_))
 have hre:rightE m.e=true:=by have:=hc43;simp at this;exact this.1
 have hel:=(right_of hre).len
 refine c_region (lE ofp (lE (olg 4) ?_))
 refine lcf (cl0 (vs:=[.agg #[Ix (m.e.id),sB va m.e.comps (vc)]]) up24.ok rfl rfl) rfl fun w β1 sb kn hw1 back=>(own_ok β1 w hw1 m.e.id _ m.e.comps (Sl.mono _ _ _ _ _ sb (⟨⟨_,_,rfl,vl,vm,ve⟩⟩:Sl CpF.R _ _ m.e.comps)) (by omega)).mono ?_
 rintro e w' ⟨p52,c53,rfl,hw'⟩
 refine⟨_,rfl,_,back _ _ hw',?_⟩
 clear hw1 hw' back kn sb
 refine alE fun b54=>lu (mS 0 (#[Ix (m.e.id),sB p52 m.e.comps c53])) (lnf (c_seq (c_pi [2,3,4,5,0,1,6,7,8] 9 rfl (by kernel_rfl) ?_)))
 refine c_merge (L:=[pt G (.cells (gC (X.zone) J m44 p45 (mz48.length) c46 X.gv X.lv false) 77),mpR EnM m44 ks47,rowF MgF 38 p45 c46 (mz48.map Prod.fst),poolR zs49]) (M:=[pt b54 (.cells #[Ix (m.e.id),sB p52 m.e.comps c53] 32),rowF CpF 100 p52 c53 m.e.comps,pt b1 (.cells #[Ix (m.src),Ix (m.to),Ix (m.number),.bool (m.ack),Ix (m.e.id),sB va m.e.comps (vc)] 38),jourR J S i false,storeR S k]) (r:=gvR G J X false) (gv_close hk50) ?_
 refine c_pi [0,4,5,1,2,3] 6 rfl (by kernel_rfl) ?_
 refine c_closeGate (N:=N) (m:=mq) (M:=[pt b54 (.cells #[Ix (m.e.id),sB p52 m.e.comps c53] 32),rowF CpF 100 p52 c53 m.e.comps,pt b1 (.cells #[Ix (m.src),Ix (m.to),Ix (m.number),.bool (m.ack),Ix (m.e.id),sB va m.e.comps (vc)] 38)]) rfl hso hpw ?_
 refine c_region (lE omp (lv (v:= .func (.func 49) #[] #[pp b1 0,pp b54 0]) (e_func (u:=[]) (v:=[pp b1 0,pp b54 0]) rfl rfl) ?_))
 refine l_call rfl rfl rfl (cl0 (vs:=[pp G 0,.int .i64 (4),.func (.func 49) #[] #[pp b1 0,pp b54 0]]) up15.ok rfl rfl) ?_
 intro w hw
 replace hw:=hw.perm (L':=_::_::_::_::[]) (by exact((((perm_front 3 rfl).trans (perm_front 3 rfl)).trans (perm_front 3 rfl)).trans (perm_front 3 rfl)))
 obtain⟨β1,sb,kn,hw1,back⟩:=St.frame (L:=[_]) (M:=_::_::_::[]) hw
 refine(change_ok β1 w G S N X mq hw1 hN (.take m.src (⟨m.e.id,m.e.comps⟩:KEnt)) (OpG.take hoz hre (by omega)) _ (ftake_ok _ b1 (⟨m.src,m.to,m.number,m.ack,m.e.id,va,m.e.comps.length,vc⟩:KMg) (kn _ (k_pt 2 (o:=0) rfl rfl)) hsi b54 (⟨m.e.id,p52,m.e.comps.length,c53⟩:KEh) (⟨m.e.id,m.e.comps⟩:KEnt) ⟨rfl,rfl⟩ (kn _ (k_pt 0 (o:=0) rfl rfl)) (kn _ (k_has 1 rfl)) (right_of hre))).mono ?_
 rintro e w' ⟨e55,rfl,hw'⟩
 refine⟨_,rfl,_,back _ _ hw',?_⟩
 clear hw hw1 hw' back kn sb
 refine lE oai (lnf (c_ret (ret1 Tryz.results15 rfl ?_)))
 intro w hw
 replace hw:=st_mask (L':=[endG e55 G S X (playX X (.take m.src (⟨m.e.id,m.e.comps⟩:KEnt))) (N+300) (N+262500) mq]) [true,false,false,false] rfl hw
 rw[show takeO m= .take m.src (⟨m.e.id,m.e.comps⟩:KEnt)from if_neg (Bool.eq_false_iff.1 hc16)]
 exact⟨e55,rfl,St.actGo (show takeF X m=none from((if_neg (Bool.eq_false_iff.1 hc15)).trans ((if_neg (Bool.eq_false_iff.1 hc16)).trans ((if_neg hc39).trans ((if_neg hc40).trans ((if_neg (Bool.eq_false_iff.1 hc43)).trans (if_neg (by omega)))))))) hw⟩
end Go.Proofs
namespace Go.Hv
open Go Go.Sl Go.Proofs
def BadUp(β:Base)(v:Value)(c:Int):Prop:=∀β₁:Base,Sub β.heap β₁.heap→∀w,St β₁ [] w→Calls Tryz.prog 35 #[v] w fun r w'=>r= .returned (Ix c)∧St β₁ [] w'
end Go.Hv
namespace Go.Proofs
open Go Go.Sl Go.Hv
instance uq0:CfC Tryz.prog 35:={}
theorem bdrop_ok(β:Base)(w:World)(hw:St β [] w)(v:Value)(c:Int)(hc:c≠0)(hb:BadUp β v c)(id:Int):Ret Tryz.prog 27 #[v,Ix id] β w (Ix c):=by
 refine enter (n:=24) Tryz.func27 rfl Tryz.ntmps27 rfl ?_ hw
 refine csr (bxi fun b1=> ?_)
 refine lE oai (lnf (cs2 (c_region (lv e_move (lcR clA (fun w β1 sb kn hw1=>hb β1 sb w hw1) (lE oai (lnc (lE omi (lE onq (lnf ?_))))))))))
 refine c_if _ rfl (fun hc2=> ?_) (fun hc2=> ?_)
 ·refine csr (lE omi (lE oai (lnf (c_ret (f_then_ret (ret1 Tryz.results27 rfl ?_))))))
  intro w hw
  exact⟨rfl,st_mask [false] rfl hw⟩
 exact absurd hc hc2
end Go.Proofs
