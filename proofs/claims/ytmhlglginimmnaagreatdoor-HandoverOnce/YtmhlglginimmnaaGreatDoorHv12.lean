/-
 Own work; plain Lean (Hv11, Hv12).
-/
import Derived.Test.YtmhlglginimmnaaGreatDoorHv10
set_option linter.all false
namespace Go.Proofs
open Go Go.Sl Go.Hv
theorem idxI_nat{α:Type}(p:α→Bool)(xs:List α):idxI p xs= -1∨∃k:Nat,idxI p xs=k:=by
 unfold idxI
 cases xs.findIdx? p with
 |none=>exact .inl rfl
 |some k=>exact .inr ⟨k,rfl⟩
instance uc0:TyC Tryz.prog 93 false 1:={}
instance uc1:CfC Tryz.prog 68:={}
instance uc2:ZerC Tryz.prog 32 (.agg #[.int .i64 (0),.slice none 0 0]):={}
instance uc3:CfC Tryz.prog 41:={}
instance uc4:TyC Tryz.prog 127 false 1:={}
instance uc5:FldC Tryz.prog 75 0 0 1 false:={}
instance uc6:TyC Tryz.prog 73 false 1:={}
instance uc7:FldC Tryz.prog 32 0 0 1 false:={}
instance uc8:TyC Tryz.prog 3 false 1:={}
instance uc9:TyC Tryz.prog 32 true 2:={}
instance uc10:FldC Tryz.prog 75 3 9 7 true:={}
instance uc11:ArrC Tryz.prog 56 7 3 1:={}
instance uc12:CfC Tryz.prog 86:={}
instance uc13:UndC Tryz.prog 35 38:={}
theorem uc14:slB Tryz.prog 35 38 6=true:=by kernel_rfl
instance uc15:TyC Tryz.prog 38 true 6:={}
instance uc16:ZerC Tryz.prog 38 (.agg #[.int .i64 (0),.int .i64 (0),.int .i64 (0),.bool false,.int .i64 (0),.slice none 0 0]):={}
instance uc17:FldC Tryz.prog 38 1 1 1 false:={}
instance uc18:FldC Tryz.prog 38 2 2 1 false:={}
instance uc19:ZerC Tryz.prog 3 (.int .i64 (0)):={}
instance uc20:FldC Tryz.prog 75 1 1 1 false:={}
instance uc21:TyC Tryz.prog 35 false 1:={}
instance uc22:CfC Tryz.prog 75:={}
set_option maxHeartbeats 4000000 in
theorem ptake_ok(β:Base)(w:World)(X:KG)(N:Int)(hX:XOk X N)(dn:Bool)(H:PHeap)(hH:Sub H β.heap)(T G J q6 q3 q4:Nat)(h6:Cs β.heap ⟨q6,0,none⟩ [pp T 0])(h3:Cs β.heap ⟨q3,0,none⟩ [pp G 2])(h4:Cs β.heap ⟨q4,0,none⟩ [Ix X.zone])(hN:N≤4611686018427387904)(frm:Int)(hf:1≤frm∧frm≤6)(e:KEnt)(hid:inI e.id)(hcl:e.comps.length≤10)(hci:∀x∈e.comps,CpI x)(hw:St β [tpR H T (vint frm++(entB e++[])),gvR G J X dn] w):Calls Tryz.prog 73 #[pp q6 0,pp q3 0] w fun r w'=>r= .returned (.tuple #[])∧St β [gvR G J (playX X (.take frm e)) dn] w':=by
 replace hw:=hw.perm (List.Perm.swap _ _ _)
 obtain⟨m,p,c,ks,mz,zs,hk,hw⟩:=St.openGv hw
 have hlv:=hX.lv frm.toNat (by omega)
 refine enter (n:=26) Tryz.func73 rfl Tryz.ntmps73 rfl ?_ hw
 refine csr (lv (v:=pp T 0) (e_load1 uc0.ok rfl (kB h6)) (l_call rfl rfl rfl (cl0 (vs:=[pp T 0]) uc1.ok rfl rfl) ?_))
 intro w hw
 replace hw:=hw.perm (L':=_::_::_::_::_::[]) (by exact(((((perm_front 3 rfl).trans (perm_front 3 rfl)).trans (perm_front 3 rfl)).trans (perm_front 3 rfl)).trans (perm_front 4 rfl)))
 obtain⟨β1,sb,kn,hw1,back⟩:=St.frame (L:=[_]) (M:=_::_::_::_::[]) hw
 refine(tget_ok β1 w H (hH.trans sb) T frm (by omega) (entB e++[]) hw1).mono ?_
 rintro e w' ⟨rfl,hw'⟩
 refine⟨_,rfl,_,back _ _ hw',?_⟩
 clear hw hw1 hw' back kn sb
 refine lE oai (lnc (alE fun b1=>lnc (lv (v:=pp T 0) (e_load1 uc0.ok rfl (kB h6)) ?_)))
 refine lv (v:= .func (.func 66) #[pp T 0] #[]) (e_func (u:=[pp T 0]) (v:=[]) rfl rfl) ?_
 refine l_call rfl rfl rfl (cl0 (vs:=[pp b1 0,.func (.func 66) #[pp T 0] #[]]) uc3.ok rfl rfl) ?_
 intro w hw
 replace hw:=hw.perm (L':=_::_::_::_::_::_::[]) (by exact((((((perm_front 5 rfl).trans (perm_front 5 rfl)).trans (perm_front 5 rfl)).trans (perm_front 5 rfl)).trans (perm_front 4 rfl)).trans (perm_front 5 rfl)))
 obtain⟨β1,sb,kn,hw1,back⟩:=St.frame (L:=[_,_]) (M:=_::_::_::_::[]) hw
 refine(entR2_ok β1 w H (hH.trans sb) T e [] _ _ (plc_pt b1 32) hw1 hid hcl hci).mono ?_
 rintro e w' ⟨p2,c3,rfl,hw'⟩
 refine⟨_,rfl,_,back _ _ hw',?_⟩
 clear hw hw1 hw' back kn sb
 refine lnf (c_seq ?_)
 refine cnz [sv 9 (pp G 2) [] [] [0],sv 10 (pp G 2) [0] [0] [],sv 11 (pp G 2) [0,1] [1] [],sv 12 (.map (some m)) [0,1,2] [2] [],sv 13 (pp b1 0) [] [] [1],sv 14 (Ix (e.id)) [4] [4] [],sv 15 (.agg #[Ix (e.id),sB p2 e.comps c3]) [] [] [1],⟨(List.range 7),[3,5,6],[],[],fun _=>True⟩] [u0,u1 [5,6],u0,u1 [3],(some 7,[7])] [⟨(some 7),none,[],[],fun _=>mpR EnM m (EnM.put ks (e.id) (⟨e.id,p2,e.comps.length,c3⟩:KEh))⟩] [(1,.pointer (some (⟨q3,0,none⟩))),(3,pp b1 0),(2,Ix (frm))] [0,2] ⟨rfl,rfl,rfl,trivial⟩ ⟨?_,?_,?_,?_,?_,?_,?_,?_,trivial⟩ ?_
 ·rintro f M-⟨i0,-⟩
  exact ob0 (up_cons (d:=1) rfl i0) rfl (e_load1 uc4.ok rfl (kB h3)) (.refl _)
 ·rintro f M ⟨k0,-⟩-
  exact obE onp
 ·rintro f M ⟨k0,-⟩-
  exact obE ofp
 ·rintro f M ⟨k0,-⟩-
  exact obv (L':=pt G (.cells (gC (X.zone) J m p (mz.length) c X.gv X.lv (dn)) 77)::M) (up_cons (d:=11) rfl k0) rfl (e_load1 uc6.ok rfl (k_pt 0 rfl rfl)) (perm_front 0 rfl) (by rfl)
 ·rintro f M-⟨i0,-⟩
  exact obE ofp
 ·rintro f M ⟨k0,-⟩-
  exact obE (oli 0)
 ·rintro f M-⟨i0,-⟩
  exact obE (olg 0)
 ·rintro f M ⟨k0,k1,k2,-⟩-
  refine obS (up_cons (d:=15) (up_cons (d:=14) (up_cons (d:=12) rfl k0) k1) k2) ?_
  refine lu (m_mput (K:=EnM) (b:=m) (ks:=ks) (k:=(e.id)) (v:=(⟨e.id,p2,e.comps.length,c3⟩:KEh)) 0 rfl rfl rfl rfl rfl) (l_nil ?_)
  exact f_owes_n (up_cons (d:=15) (up_cons (d:=14) (up_cons (d:=12) rfl k0) k1) k2) trivial (perm_front 0 rfl)
 rintro fa4 ⟨-,-,-,-,-,-,-,-,-⟩ ⟨j0,j1,-⟩
 refine fre ?_
 refine f_rebase (d:=1) j0 (f_rebase (d:=2) j1 (f_then ?_))
 refine cnz [sv 16 (pp G 2) [] [] [0],sv 17 (Ix (frm)) [] [] [1],sv 18 (pp G 2) [0] [0] [],sv 19 (pp G 11) [0,2] [2] [],sv 20 (.pointer (some ((⟨G,11,none⟩:Addr).add (((frm).toNat)*1)))) [0,1,2,3] [3,1] [],sv 21 (Ix (X.lv.at ((frm).toNat))) [0,1,2,3,4] [4] [],sv 22 (Ix ((X.lv.at ((frm).toNat))+(1:Int))) (List.range 6) [5] [],sv 23 (pp G 2) [0] [0] [],sv 24 (pp G 11) [0,7] [7] [],sv 25 (.pointer (some ((⟨G,11,none⟩:Addr).add (((frm).toNat)*1)))) (List.range 9) [8,1] [],⟨(List.range 10),[9,6],[],[],fun _=>True⟩] [u0,u0,u0,(some 10,[5,10])] [⟨(some 10),none,[],[],fun _=>pt G (.cells #[Ix (X.zone),pp J 0,.map (some m),sB p mz c,Ix (X.gv.n0),Ix (X.gv.n1),Ix (X.gv.n2),Ix (X.gv.n3),Ix (X.gv.n4),Ix (X.gv.n5),Ix (X.gv.n6),Ix ((X.lv.upd ((frm).toNat) ((X.lv.at ((frm).toNat))+(1:Int))).n0),Ix ((X.lv.upd ((frm).toNat) ((X.lv.at ((frm).toNat))+(1:Int))).n1),Ix ((X.lv.upd ((frm).toNat) ((X.lv.at ((frm).toNat))+(1:Int))).n2),Ix ((X.lv.upd ((frm).toNat) ((X.lv.at ((frm).toNat))+(1:Int))).n3),Ix ((X.lv.upd ((frm).toNat) ((X.lv.at ((frm).toNat))+(1:Int))).n4),Ix ((X.lv.upd ((frm).toNat) ((X.lv.at ((frm).toNat))+(1:Int))).n5),Ix ((X.lv.upd ((frm).toNat) ((X.lv.at ((frm).toNat))+(1:Int))).n6),.bool (dn)] 77)⟩] [(1,.pointer (some (⟨q3,0,none⟩))),(2,Ix (frm))] [] ⟨rfl,rfl,trivial⟩ ⟨?_,?_,?_,?_,?_,?_,?_,?_,?_,?_,?_,trivial⟩ ?_
 ·rintro f M-⟨i0,-⟩
  exact ob0 (up_cons (d:=1) rfl i0) rfl (e_load1 uc4.ok rfl (kB h3)) (.refl _)
 ·rintro f M-⟨i0,-⟩
  exact obE omi
 ·rintro f M ⟨k0,-⟩-
  exact obE onp
 ·rintro f M ⟨k0,-⟩-
  exact obE ofp
 ·rintro f M ⟨k0,k1,-⟩-
  exact ob0 (up_cons (d:=17) (up_cons (d:=19) rfl k0) k1) rfl (e_indexArrI (a:=⟨G,11,none⟩) (k:=(frm).toNat) rfl (show Ix (frm)=Ix (((frm).toNat:Nat):Int)from congrArg (Value.int .i64) (by omega)) uc11.ok (by omega)) (.refl _)
 ·rintro f M ⟨k0,-⟩-
  exact obv (L':=pt G (.cells (gC (X.zone) J m p (mz.length) c X.gv X.lv (dn)) 77)::M) (up_cons (d:=20) rfl k0) rfl (e_load1 uc8.ok rfl (Knows.imp (k_pt 0 (o:=11) rfl rfl) fun _ h=>cs_fl (F:=IntF) (xs:=X.lv.toL) h (KN7.get (by omega)))) (perm_front 0 rfl) (by rfl)
 ·rintro f M ⟨k0,-⟩-
  exact obE opl
 ·rintro f M ⟨k0,-⟩-
  exact obE onp
 ·rintro f M ⟨k0,-⟩-
  exact obE ofp
 ·rintro f M ⟨k0,k1,-⟩-
  exact ob0 (up_cons (d:=17) (up_cons (d:=24) rfl k0) k1) rfl (e_indexArrI (a:=⟨G,11,none⟩) (k:=(frm).toNat) rfl (show Ix (frm)=Ix (((frm).toNat:Nat):Int)from congrArg (Value.int .i64) (by omega)) uc11.ok (by omega)) (.refl _)
 ·rintro f M ⟨k0,k1,-⟩-
  refine obS (up_cons (d:=22) (up_cons (d:=25) rfl k0) k1) ?_
  refine lu (m_storeN (off:=11) (k:=(frm).toNat) (v:=(X.lv.at ((frm).toNat))+(1:Int)) 0 uc8.ok rfl rfl rfl (by show _≤19;omega) (over_lv (by omega))) ?_
  refine l_nil ?_
  exact f_owes_n (up_cons (d:=22) (up_cons (d:=25) rfl k0) k1) trivial (perm_front 0 rfl)
 rintro fa5 ⟨-,-,-,-,-,-,-,-,-,-,-,-⟩-
 refine fre ?_
 refine end0 Tryz.results73 ?_
 intro w hw
 replace hw:=hw.perm (L':=[rowF CpF 100 p2 c3 e.comps,poolR zs,pt G (.cells #[Ix (X.zone),pp J 0,.map (some m),sB p mz c,Ix (X.gv.n0),Ix (X.gv.n1),Ix (X.gv.n2),Ix (X.gv.n3),Ix (X.gv.n4),Ix (X.gv.n5),Ix (X.gv.n6),Ix ((X.lv.upd ((frm).toNat) ((X.lv.at ((frm).toNat))+(1:Int))).n0),Ix ((X.lv.upd ((frm).toNat) ((X.lv.at ((frm).toNat))+(1:Int))).n1),Ix ((X.lv.upd ((frm).toNat) ((X.lv.at ((frm).toNat))+(1:Int))).n2),Ix ((X.lv.upd ((frm).toNat) ((X.lv.at ((frm).toNat))+(1:Int))).n3),Ix ((X.lv.upd ((frm).toNat) ((X.lv.at ((frm).toNat))+(1:Int))).n4),Ix ((X.lv.upd ((frm).toNat) ((X.lv.at ((frm).toNat))+(1:Int))).n5),Ix ((X.lv.upd ((frm).toNat) ((X.lv.at ((frm).toNat))+(1:Int))).n6),.bool (dn)] 77),mpR EnM m (EnM.put ks (e.id) (⟨e.id,p2,e.comps.length,c3⟩:KEh)),rowF MgF 38 p c (mz.map Prod.fst),tpR H T [],pt b1 (.cells #[Ix (e.id),sB p2 e.comps c3] 32)]) (by exact(perm_ix [2,4,6,5,3,0,1] 7 rfl (by kernel_rfl) (by kernel_rfl)))
 replace hw:=st_mask (L':=[rowF CpF 100 p2 c3 e.comps,poolR zs,pt G (.cells #[Ix (X.zone),pp J 0,.map (some m),sB p mz c,Ix (X.gv.n0),Ix (X.gv.n1),Ix (X.gv.n2),Ix (X.gv.n3),Ix (X.gv.n4),Ix (X.gv.n5),Ix (X.gv.n6),Ix ((X.lv.upd ((frm).toNat) ((X.lv.at ((frm).toNat))+(1:Int))).n0),Ix ((X.lv.upd ((frm).toNat) ((X.lv.at ((frm).toNat))+(1:Int))).n1),Ix ((X.lv.upd ((frm).toNat) ((X.lv.at ((frm).toNat))+(1:Int))).n2),Ix ((X.lv.upd ((frm).toNat) ((X.lv.at ((frm).toNat))+(1:Int))).n3),Ix ((X.lv.upd ((frm).toNat) ((X.lv.at ((frm).toNat))+(1:Int))).n4),Ix ((X.lv.upd ((frm).toNat) ((X.lv.at ((frm).toNat))+(1:Int))).n5),Ix ((X.lv.upd ((frm).toNat) ((X.lv.at ((frm).toNat))+(1:Int))).n6),.bool (dn)] 77),mpR EnM m (EnM.put ks (e.id) (⟨e.id,p2,e.comps.length,c3⟩:KEh)),rowF MgF 38 p c (mz.map Prod.fst)]) [true,true,true,true,true,false,false] rfl hw
 replace hw:=St.merge (L:=[rowF CpF 100 p2 c3 e.comps,poolR zs]) (M:=[pt G (.cells #[Ix (X.zone),pp J 0,.map (some m),sB p mz c,Ix (X.gv.n0),Ix (X.gv.n1),Ix (X.gv.n2),Ix (X.gv.n3),Ix (X.gv.n4),Ix (X.gv.n5),Ix (X.gv.n6),Ix ((X.lv.upd ((frm).toNat) ((X.lv.at ((frm).toNat))+(1:Int))).n0),Ix ((X.lv.upd ((frm).toNat) ((X.lv.at ((frm).toNat))+(1:Int))).n1),Ix ((X.lv.upd ((frm).toNat) ((X.lv.at ((frm).toNat))+(1:Int))).n2),Ix ((X.lv.upd ((frm).toNat) ((X.lv.at ((frm).toNat))+(1:Int))).n3),Ix ((X.lv.upd ((frm).toNat) ((X.lv.at ((frm).toNat))+(1:Int))).n4),Ix ((X.lv.upd ((frm).toNat) ((X.lv.at ((frm).toNat))+(1:Int))).n5),Ix ((X.lv.upd ((frm).toNat) ((X.lv.at ((frm).toNat))+(1:Int))).n6),.bool (dn)] 77),mpR EnM m (EnM.put ks (e.id) (⟨e.id,p2,e.comps.length,c3⟩:KEh)),rowF MgF 38 p c (mz.map Prod.fst)]) hw (poolR_add (id:=e.id) rfl)
 replace hw:=hw.perm (perm_r3 _ _ _ _)
 exact⟨rfl,St.closeGv (M:=[]) ((hk.put hX.sort (hd:=⟨e.id,p2,e.comps.length,c3⟩) ⟨rfl,rfl⟩).setOut hk.out (fun z hz=>⟨(hk.mhd z hz).1,List.mem_append_left _ (hk.mhd z hz).2⟩) X.gv (X.lv.upd frm.toNat (X.lv.at frm.toNat+1))) hw⟩
set_option maxHeartbeats 4000000 in
theorem deleteM_ok(β:Base)(w:World)(q:Option Addr)(c:Nat)(xs:List KMg)(hw:St β [rowF MgF 38 q c xs] w)(hn:xs.length≤1048576)(fn:Value)(p:KMg→Bool)(hfn:FnV Tryz.prog β fn (fun z:KMg=>[.agg #[Ix (z.src),Ix (z.to),Ix (z.number),.bool (z.ack),Ix (z.id),.slice z.p (z.n) z.c]]) (fun _=>True) (fun z=> .bool (p z))):Calls Tryz.prog 75 #[sB q xs c,fn] w fun r w'=>r= .returned (sB q (xs.filter fun z=> !p z) c)∧St β [rowF MgF 38 q c (xs.filter fun z=> !p z)] w':=by
 have hfn0:=hfn
 obtain⟨gg,fst,cap,rfl,hcf,hf⟩:=hfn
 refine enter (n:=42) Tryz.func75 rfl Tryz.ntmps75 rfl ?_ hw
 refine c_seq (c_rowcap 0 rfl (fun hcl hcm=> ?_))
 refine c_region (lE oas (lnc (lE oms (lE omf ?_))))
 refine lcR clA (fun w β1 sb kn hw1=>indexM_ok β1 w hw1 _ _ xs (kn _ (k_flN 0 (F:=MgF) (m:=xs.length) rfl rfl)) p (fnv_all (hfn0.mono sb))) ?_
 refine lE oai (lnf (cs2 (c_region (lE omi (lE oeq_ (lnf (c_if _ rfl (fun hc1=> ?_) (fun hc1=> ?_))))))))
 ·refine csr (lE oms (lE oas (lnf (c_ret (f_then_ret (ret1 Tryz.results75 (v:=sB q xs c) rfl ?_))))))
  intro w hw
  have he:=filter_none hc1
  exact⟨by rw[he],by rw[he];exact st_mask [true] rfl hw⟩
 refine csk (cs2 ?_)
 obtain⟨kq,hkq⟩:∃k:Nat,idxI p xs=k:=(idxI_nat _ _).resolve_left hc1
 have hd0:=DelInv.start hkq
 have hd1:=hd0.lj
 refine rbs 5 (v:=Nx kq) (congrArg (fun z:Int=>Ix z) hkq) (c_region (lE omi ?_))
 refine lv (v:=Nx (kq+1)) (e_add rfl rfl (i64n (by omega) (by omega))) (lE oai (lnf (c_block ?_)))
 refine c_loop (fun(x_:Nat×Nat×List KMg) f L=>match x_ with|(i,j,ws)=>(f 0=sB q xs c∧f 1= .func (.func gg) fst.toArray cap.toArray∧f 5=Nx (i)∧f 6=Nx (j))∧L=[rowF MgF 38 q c ws]∧(DelInv p xs ws i j)) (fun(i,j,ws)=>xs.length-j) (kq,(kq+1),xs) ?_ ?_
 ·exact⟨⟨rfl,rfl,rfl,rfl⟩,rfl,hd0⟩
 rintro⟨i,j,ws⟩ f0 L0 ⟨⟨hs0,hs1,hs5,hs6⟩,hL,hd⟩
 subst L0
 refine rbs 0 hs0 (rbs 1 hs1 (rbs 5 hs5 (rbs 6 hs6 ?_)))
 have hdl:=hd.len
 have hde:=hd.le
 have hdj:=hd.lj
 refine cs2 (c_region (lE omi (lE oms (lE oln (lE olt (lnf (c_if _ rfl (fun hc2=> ?_) (fun hc2=> ?_))))))))
 ·refine csk (c_seq (c_block (csr (lE oms (lE omi ?_)))))
  refine lv (v:= .pointer (some ((ba q).add (j*6)))) (e_indexFlN 0 (F:=MgF) rfl (by omega) rfl uc14 (by omega) rfl) ?_
  obtain⟨x3,hx4⟩:∃x_,ws[j]? =some x_:=⟨_,List.getElem?_eq_getElem (by first|omega|decide)⟩
  refine lv (v:= .agg #[Ix (x3.src),Ix (x3.to),Ix (x3.number),.bool (x3.ack),Ix (x3.id),.slice x3.p (x3.n) x3.c]) (e_load uc15.ok rfl (k_flAt 0 (F:=MgF) rfl hx4) rfl) ?_
  refine alE fun b5=>lu (mS 0 (#[Ix (x3.src),Ix (x3.to),Ix (x3.number),.bool (x3.ack),Ix (x3.id),.slice x3.p (x3.n) x3.c])) (lnc (lE omf ?_))
  refine lE (olg 0) ?_
  refine l_call rfl rfl rfl (cl_value (fst:=fst) (cap:=cap) (vs:=[.agg #[Ix (x3.src),Ix (x3.to),Ix (x3.number),.bool (x3.ack),Ix (x3.id),.slice x3.p (x3.n) x3.c]]) (all:=fst++[.agg #[Ix (x3.src),Ix (x3.to),Ix (x3.number),.bool (x3.ack),Ix (x3.id),.slice x3.p (x3.n) x3.c]]++cap) hcf rfl rfl rfl) ?_
  intro w hw
  obtain⟨β1,sb,kn,hw1,back⟩:=St.frame_all hw
  refine(hf β1 sb x3 trivial w hw1).mono ?_
  rintro e w' ⟨rfl,hw'⟩
  refine⟨_,rfl,_,back _ _ hw',?_⟩
  clear hw hw1 hw' back kn sb
  refine lE ont (lnf (c_ifb (!(p x3)) rfl (fun hc6=> ?_) (fun hc6=> ?_)))
  ·refine csr (lE oms (lE omi (lE (olg 0) ?_)))
   refine lv (v:= .pointer (some ((ba q).add (i*6)))) (e_indexFlN 1 (F:=MgF) rfl (by omega) rfl uc14 (by omega) rfl) ?_
   refine lu (m_storeFl 1 (F:=MgF) (p:=q) (k:=i) (xs:=ws) (z:=x3) uc15.ok rfl rfl rfl rfl (by omega)) (lnr (lE omi ?_))
   refine lv (v:=Nx (i+1)) (e_add rfl rfl (i64n (by omega) (by omega))) (lE oai (l_nil (f_block (f_then (c_region (lE omi ?_))))))
   refine lv (v:=Nx (j+1)) (e_add rfl rfl (i64n (by omega) (by omega))) (lE oai (l_nil ?_))
   refine f_mask (L':=[rowF MgF 38 q c (ws.set i x3)]) [false,true] rfl ?_
   exact f_cut ⟨(i+1,j+1,(ws.set i x3)),⟨⟨rfl,rfl,rfl,rfl⟩,rfl,hd.keep hx4 (by simpa using hc6)⟩,(show xs.length-(j+1)<xs.length-j from by omega)⟩
  refine c_skip (f_block (f_then (c_region (lE omi ?_))))
  refine lv (v:=Nx (j+1)) (e_add (a:=((j:Nat):Int)) (b:=(1:Int)) rfl rfl (i64n (by omega) (by omega))) (lE oai (l_nil ?_))
  refine f_mask (L':=[rowF MgF 38 q c ws]) [false,true] rfl ?_
  exact f_cut ⟨(i,j+1,ws),⟨⟨rfl,rfl,rfl,rfl⟩,rfl,hd.skip hx4 (by simpa using hc6)⟩,(show xs.length-(j+1)<xs.length-j from by omega)⟩
 refine c_exit (f_then_exit (f_then_exit (f_exit (fts ?_))))
 have hdl:=hd.len
 have hde:=hd.le
 have hdj:=hd.lj
 refine c_region (lE oms (lE omi ?_))
 refine lv (v:= .slice (adv q c i 6) (ws.length-i) (c-i)) (ev_eq (by rw[show ws.length=xs.length by omega]) (e_slice_lo (a:=q) (len:=xs.length) (cap:=c) (l:=i) uc14 rfl rfl (by omega))) ?_
 refine l_mc rfl rfl (m_clearFl (F:=MgF) (p:=q) (c:=c) (k:=i) (xs:=ws) 0 uc14 uc16.ok rfl rfl rfl rfl (by omega)) ?_
 rintro _ _ ⟨rfl,rfl⟩
 refine lnc (lE oms (lE omi (lv (v:= .slice q (i) c) (e_slice_hi (a:=q) (len:=xs.length) (cap:=c) (h:=i) uc14 rfl rfl (by omega)) (lE oas ?_))))
 refine lnf (c_ret (ret1 Tryz.results75 (v:= .slice q (i) c) rfl ?_))
 intro w hw
 have he:=hd.done (by omega)
 have hil:i=(xs.filter fun z=> !p z).length:=by rw[←he,List.length_take];omega
 exact⟨by unfold sB;rw[←hil],by rw[←he];exact st_mask [true] rfl hw⟩
theorem deleteM2_ok(β:Base)(w:World)(q:Option Addr)(c:Nat)(xs:List KMg){m:Nat}(hw:St β [rowF MgF 38 q c xs] w)(hm:m=xs.length)(hn:xs.length≤1048576)(fn:Value)(p:KMg→Bool)(hfn:FnV Tryz.prog β fn (fun z:KMg=>[.agg #[Ix (z.src),Ix (z.to),Ix (z.number),.bool (z.ack),Ix (z.id),.slice z.p (z.n) z.c]]) (fun _=>True) (fun z=> .bool (p z))):Calls Tryz.prog 75 #[.slice q m c,fn] w fun r w'=>r= .returned (sB q (xs.filter fun z=> !p z) c)∧St β [rowF MgF 38 q c (xs.filter fun z=> !p z)] w':=by
 subst hm
 exact deleteM_ok β w q c xs hw hn fn p hfn
theorem ack1_fn(β:Base)(b b2:Nat)(frm n:Int)(hcn1:Cs β.heap ⟨b,0,none⟩ [Ix frm])(hcn2:Cs β.heap ⟨b2,0,none⟩ [Ix n]):FnV Tryz.prog β (.func (.func 76) #[] #[pp b 0,pp b2 0]) (fun z:KMg=>[.agg #[Ix (z.src),Ix (z.to),Ix (z.number),.bool (z.ack),Ix (z.id),.slice z.p (z.n) z.c]]) (fun _=>True) (fun z=> .bool (ackK frm n z)):=by
 refine⟨76,[],[pp b 0,pp b2 0],rfl,by kernel_rfl,fun β₁ sb0 z_ hz_ w hw=> ?_⟩
 obtain⟨x,hx⟩:∃x,x=z_:=⟨_,rfl⟩
 subst hx
 replace hcn1:=Cs.mono _ _ _ _ sb0 hcn1
 replace hcn2:=Cs.mono _ _ _ _ sb0 hcn2
 refine enter (n:=15) Tryz.func76 rfl Tryz.ntmps76 rfl ?_ hw
 refine csr (bxa fun b1=> ?_)
 refine lE oab (lnc (lE ofp (lE (oli 0) (lv (v:=Ix (frm)) (e_load1 uc8.ok rfl (kB hcn1)) (lE oeq_ ?_)))))
 refine l_and4 (decide ((x.to)=(frm))) (decide ((x.number)≤(n))) rfl (fun hb2 hk2=> ?_) (fun z3 z4 z5 z6=> ?_)
 ·have hb2p:=of_decide_eq_true hb2
  refine gE ofp (gE (oli 0) (g_val (v:=Ix (n)) rfl rfl rfl rfl rfl (e_load1 uc8.ok rfl (kB hcn2)) (gE ole (lE oktb ?_))))
  exact hk2 _ _ _ _
 refine lE oab (lnf (c_ret (ret1 Tryz.results76 rfl ?_)))
 intro w hw
 exact⟨congrArg (fun b:Bool=>Ending.returned (.bool b)) (show((decide ((x.to)=(frm)))&&(decide ((x.number)≤(n))))=ackK frm n x by unfold ackK;simp_all),st_mask [false] rfl hw⟩
set_option maxHeartbeats 4000000 in
theorem pack_ok(β:Base)(w:World)(X:KG)(N:Int)(hX:XOk X N)(dn:Bool)(H:PHeap)(hH:Sub H β.heap)(T G J q6 q3 q4:Nat)(h6:Cs β.heap ⟨q6,0,none⟩ [pp T 0])(h3:Cs β.heap ⟨q3,0,none⟩ [pp G 2])(h4:Cs β.heap ⟨q4,0,none⟩ [Ix X.zone])(frm n:Int)(hfr:inI frm)(hnr:inI n)(hw:St β [tpR H T (vint frm++(vint n++[])),gvR G J X dn] w):Calls Tryz.prog 74 #[pp q6 0,pp q3 0] w fun r w'=>r= .returned (.tuple #[])∧St β [gvR G J (playX X (.ack frm n)) dn] w':=by
 replace hw:=hw.perm (List.Perm.swap _ _ _)
 obtain⟨m,p,c,ks,mz,zs,hk,hw⟩:=St.openGv hw
 have hmf:(mz.map Prod.fst).length≤1048576:=by rw[List.length_map,hk.mlen];exact Nat.le_trans hX.ofew (by decide)
 refine enter (n:=17) Tryz.func74 rfl Tryz.ntmps74 rfl ?_ hw
 refine c_seq ?_
 refine cny [sv 4 (pp T 0) [] [] [0],sv 5 (Ix (frm)) [0] [0] [],sv 6 (pp T 0) [] [] [0],sv 7 (Ix (n)) [0,1,2] [2] [],⟨[],[],[],[2],fun f=>f 2= .pointer (some ⟨(blk (f 2)),0,none⟩)⟩,⟨[],[],[],[3],fun f=>f 3= .pointer (some ⟨(blk (f 3)),0,none⟩)⟩,⟨(List.range 6),[4,1],[],[],fun _=>True⟩,⟨(List.range 7),[5,3],[],[],fun _=>True⟩] [tk (pt G (.cells (gC (X.zone) J m p (mz.length) c X.gv X.lv (dn)) 77)) [],tk (mpR EnM m ks) [],tk (rowF MgF 38 p c (mz.map Prod.fst)) [],tk (poolR zs) [],⟨none,(some 1),[1],[],fun _=>tpR H T (vint frm++(vint n++[]))⟩,⟨(some 1),(some 3),[3],[],fun _=>tpR H T (vint n++[])⟩,⟨(some 3),none,[],[],fun _=>tpR H T []⟩,⟨(some 4),(some 6),[6],[2],fun f=>pt (blk (f 2)) (.cells #[.int .i64 (0)] 3)⟩,⟨(some 5),(some 7),[7],[3],fun f=>pt (blk (f 3)) (.cells #[.int .i64 (0)] 3)⟩,⟨(some 6),none,[],[2],fun f=>pt (blk (f 2)) (.cells #[Ix (frm)] 3)⟩,⟨(some 7),none,[],[3],fun f=>pt (blk (f 3)) (.cells #[Ix (n)] 3)⟩] [(0,.pointer (some (⟨q6,0,none⟩))),(1,.pointer (some (⟨q3,0,none⟩)))] [1] [] ⟨rfl,rfl,trivial⟩ ⟨?_,?_,?_,?_,?_,?_,?_,?_,trivial⟩ ?_
 ·rintro f M-⟨i0,-⟩
  exact ob0 (up_cons (d:=0) rfl i0) rfl (e_load1 uc0.ok rfl (kB h6)) (.refl _)
 ·rintro f M ⟨k0,-⟩-
  refine ob_start (L':=tpR H T (vint frm++(vint n++[]))::M) (by rfl) (up_cons (d:=4) rfl k0) ?_
  refine l_call rfl rfl rfl (cl0 (vs:=[pp T 0]) uc1.ok rfl rfl) ?_
  intro w hw
  replace hw:=hw.perm (L':=_::M) (by exact(perm_front 0 rfl))
  obtain⟨β1,sb,kn,hw1,back⟩:=St.frame (L:=[_]) (M:=M) hw
  refine(tget_ok β1 w H (hH.trans sb) T frm hfr (vint n++[]) hw1).mono ?_
  rintro e w' ⟨rfl,hw'⟩
  refine⟨_,rfl,_,back _ _ hw',?_⟩
  clear hw hw1 hw' back kn sb
  refine l_nil ?_
  exact f_owes_d (up_cons (d:=4) rfl k0) rfl (perm_front 0 rfl)
 ·rintro f M-⟨i0,-⟩
  exact ob0 (up_cons (d:=0) rfl i0) rfl (e_load1 uc0.ok rfl (kB h6)) (.refl _)
 ·rintro f M ⟨k0,-⟩-
  refine ob_start (L':=tpR H T (vint n++[])::M) (by rfl) (up_cons (d:=6) rfl k0) (l_call rfl rfl rfl (cl0 (vs:=[pp T 0]) uc1.ok rfl rfl) ?_)
  intro w hw
  replace hw:=hw.perm (L':=_::M) (by exact(perm_front 0 rfl))
  obtain⟨β1,sb,kn,hw1,back⟩:=St.frame (L:=[_]) (M:=M) hw
  refine(tget_ok β1 w H (hH.trans sb) T n hnr [] hw1).mono ?_
  rintro e w' ⟨rfl,hw'⟩
  refine⟨_,rfl,_,back _ _ hw',?_⟩
  clear hw hw1 hw' back kn sb
  refine l_nil ?_
  exact f_owes_d (up_cons (d:=6) rfl k0) rfl (perm_front 0 rfl)
 ·rintro f M- -
  refine obS rfl ?_
  refine alE fun b2=>l_nil ?_
  exact f_owes_d rfl rfl (perm_front 0 rfl)
 ·rintro f M- -
  refine obS rfl ?_
  refine alE fun b4=>l_nil ?_
  exact f_owes_d rfl rfl (perm_front 0 rfl)
 ·rintro f M ⟨k0,k1,-⟩-
  have hs2:f 2= .pointer (some ⟨(blk (f 2)),0,none⟩):=k0
  refine obS (up_cons (d:=5) (up_cons rfl hs2) k1) ?_
  refine lu (mS 0 (#[Ix (frm)])) (l_nil ?_)
  exact f_owes_n (up_cons (d:=5) (up_cons rfl hs2) k1) trivial (perm_front 0 rfl)
 ·rintro f M ⟨k0,k1,-⟩-
  have hs3:f 3= .pointer (some ⟨(blk (f 3)),0,none⟩):=k0
  refine obS (up_cons (d:=7) (up_cons rfl hs3) k1) ?_
  refine lu (mS 0 (#[Ix (n)])) (l_nil ?_)
  exact f_owes_n (up_cons (d:=7) (up_cons rfl hs3) k1) trivial (perm_front 0 rfl)
 rintro fa5 ⟨-,-,-,-,k4,k5,-,-,-⟩ ⟨j0,-⟩
 refine fre ?_
 refine f_rebase (d:=1) j0 (f_rebase (d:=2) k4 (f_rebase (d:=3) k5 (f_then ?_)))
 refine cnz [sv 8 (pp G 2) [] [] [0],sv 9 (pp G 2) [] [] [0],sv 10 (pp G 2) [1] [1] [],sv 11 (pp G 3) [1,2] [2] [],sv 12 (sB p mz c) [1,2,3] [3] [],sv 13 (.func (.func 76) #[] #[.pointer (some ⟨(blk (fa5 2)),0,none⟩),.pointer (some ⟨(blk (fa5 3)),0,none⟩)]) [] [] [1,2],sv 14 (sB p ((mz.map Prod.fst).filter fun z=> !ackK frm n z) c) [1,2,3,4,5] [4,5] [],sv 15 (pp G 2) (List.range 7) [0] [],sv 16 (pp G 3) (List.range 8) [7] [],⟨(List.range 9),[8,6],[],[],fun _=>True⟩] [(some 9,[4,9]),u0,(some 6,[6]),u0,u0,u1 [6],u1 [6]] [⟨(some 6),none,[],[],fun _=>rowF MgF 38 p c ((mz.map Prod.fst).filter fun z=> !ackK frm n z)⟩,⟨(some 9),none,[],[],fun _=>pt G (.cells (gC (X.zone) J m p (((mz.map Prod.fst).filter fun z=> !ackK frm n z).length) c X.gv X.lv (dn)) 77)⟩] [(1,.pointer (some (⟨q3,0,none⟩))),(2,.pointer (some ⟨(blk (fa5 2)),0,none⟩)),(3,.pointer (some ⟨(blk (fa5 3)),0,none⟩))] [] ⟨rfl,rfl,rfl,trivial⟩ ⟨?_,?_,?_,?_,?_,?_,?_,?_,?_,?_,trivial⟩ ?_
 ·rintro f M-⟨i0,-⟩
  exact ob0 (up_cons (d:=1) rfl i0) rfl (e_load1 uc4.ok rfl (kB h3)) (.refl _)
 ·rintro f M-⟨i0,-⟩
  exact ob0 (up_cons (d:=1) rfl i0) rfl (e_load1 uc4.ok rfl (kB h3)) (.refl _)
 ·rintro f M ⟨k0,-⟩-
  exact obE onp
 ·rintro f M ⟨k0,-⟩-
  exact obE ofp
 ·rintro f M ⟨k0,-⟩-
  exact obE (ols 0)
 ·rintro f M-⟨i0,i1,-⟩
  exact ob0 (up_cons (d:=3) (up_cons (d:=2) rfl i0) i1) rfl (e_func (u:=[]) (v:=[.pointer (some ⟨(blk (fa5 2)),0,none⟩),.pointer (some ⟨(blk (fa5 3)),0,none⟩)]) rfl rfl) (.refl _)
 ·rintro f M ⟨k0,k1,-⟩-
  refine obS (up_cons (d:=13) (up_cons (d:=12) rfl k0) k1) ?_
  refine l_call rfl rfl rfl (cl0 (vs:=[sB p mz c,.func (.func 76) #[] #[.pointer (some ⟨(blk (fa5 2)),0,none⟩),.pointer (some ⟨(blk (fa5 3)),0,none⟩)]]) uc22.ok rfl rfl) ?_
  intro w hw
  replace hw:=hw.perm (L':=_::_::_::M) (by exact(((perm_front 2 rfl).trans (perm_front 2 rfl)).trans (perm_front 2 rfl)))
  obtain⟨β1,sb,kn,hw1,back⟩:=St.frame (L:=[_]) (M:=_::_::M) hw
  refine(deleteM2_ok β1 w p c (mz.map Prod.fst) hw1 (List.length_map _).symm hmf _ (ackK frm n) (ack1_fn _ (blk (fa5 2)) (blk (fa5 3)) frm n (kn _ (k_pt 0 (o:=0) rfl rfl)) (kn _ (k_pt 1 (o:=0) rfl rfl)))).mono ?_
  rintro e w' ⟨rfl,hw'⟩
  refine⟨_,rfl,_,back _ _ hw',?_⟩
  clear hw hw1 hw' back kn sb
  refine l_nil ?_
  exact f_owes_d (up_cons (d:=13) (up_cons (d:=12) rfl k0) k1) rfl (((perm_front 0 rfl).trans (perm_front 2 rfl)).trans (perm_front 2 rfl))
 ·rintro f M ⟨k0,-⟩-
  exact obE onp
 ·rintro f M ⟨k0,-⟩-
  exact obE ofp
 ·rintro f M ⟨k0,k1,-⟩-
  refine obS (up_cons (d:=14) (up_cons (d:=16) rfl k0) k1) ?_
  refine lu (mS 0 (gC (X.zone) J m p (((mz.map Prod.fst).filter fun z=> !ackK frm n z).length) c X.gv X.lv (dn))) (l_nil ?_)
  exact f_owes_n (up_cons (d:=14) (up_cons (d:=16) rfl k0) k1) trivial (perm_front 0 rfl)
 rintro fa6 ⟨-,-,-,-,-,-,-,-,-,-,-⟩-
 refine fre ?_
 refine end0 Tryz.results74 ?_
 intro w hw
 obtain⟨nz,hnz,hk2⟩:=hk.ack frm n
 rw[←hnz]at hw
 rw[List.length_map]at hw
 replace hw:=hw.perm (L':=[pt G (.cells (gC (X.zone) J m p (nz.length) c X.gv X.lv (dn)) 77),mpR EnM m ks,rowF MgF 38 p c (nz.map Prod.fst),poolR zs,tpR H T [],pt (blk (fa5 2)) (.cells #[Ix (frm)] 3),pt (blk (fa5 3)) (.cells #[Ix (n)] 3)]) (by exact(perm_ix [6,0,5,1,2,3,4] 7 rfl (by kernel_rfl) (by kernel_rfl)))
 replace hw:=st_mask (L':=[pt G (.cells (gC (X.zone) J m p (nz.length) c X.gv X.lv (dn)) 77),mpR EnM m ks,rowF MgF 38 p c (nz.map Prod.fst),poolR zs]) [true,true,true,true,false,false,false] rfl hw
 exact⟨rfl,St.closeGv (M:=[]) hk2 hw⟩
end Go.Proofs
namespace Go.Hv
open Go Go.Sl
def BdM(m:KMg):Prop:=(-4611686018427387904≤m.to∧m.to≤4611686018427387903)∧(-4611686018427387904≤m.number∧m.number≤4611686018427387903)
def ordM(x y:KMg):Int:=orI [x.to-y.to,x.number-y.number]
end Go.Hv
namespace Go.Proofs
open Go Go.Sl Go.Hv
instance ud0:UndC Tryz.prog 81 3:={}
theorem ud1:slB Tryz.prog 81 3 1=true:=by kernel_rfl
instance ud2:TyC Tryz.prog 3 false 1:={}
instance ud3:FldC Tryz.prog 38 1 1 1 false:={}
instance ud4:FldC Tryz.prog 38 2 2 1 false:={}
instance ud5:ZerC Tryz.prog 3 (.int .i64 (0)):={}
instance ud6:CfC Tryz.prog 72:={}
set_option maxHeartbeats 4000000 in
theorem or_ok(β:Base)(w:World)(hw:St β [] w)(v:Value)(xs:List Int)(hs:Sl IntF.R β.heap v xs):Ret Tryz.prog 72 #[v] β w (Ix (orI xs)):=by
 obtain⟨va,vc,rfl,vl,vm,ve⟩:=hs.get
 refine enter (n:=18) Tryz.func72 rfl Tryz.ntmps72 rfl ?_ hw
 refine csr (lE oai (lnc (lE oai (lnf (cs2 (c_region (lE oms (lE oln (lE omi (lnf (c_block ?_)))))))))))
 refine c_loop (fun(k:Nat) f L=>(f 3= .int .i64 (0)∧f 6=sB va xs (vc)∧f 7=Nx (xs.length)∧f 8=Nx (k))∧L=[]∧(k≤xs.length∧∀y∈xs.take k,y=0)) (fun k=>xs.length-k) 0 ?_ ?_
 ·exact⟨⟨rfl,rfl,rfl,rfl⟩,rfl,⟨by omega,fun y hy=>by simp at hy⟩⟩
 rintro k f0 L0 ⟨⟨hs3,hs6,hs7,hs8⟩,hL,⟨hk,hp⟩⟩
 subst L0
 refine rbs 3 hs3 (rbs 6 hs6 (rbs 7 hs7 (rbs 8 hs8 (csr (lE olt (lnf (c_seq (c_if _ rfl (fun hc1=> ?_) (fun hc1=> ?_)))))))))
 ·refine csk (c_seq (c_block (csr ?_)))
  obtain⟨x2,hx2⟩:=getx xs k (by omega)
  obtain⟨ha4,cs5,hc6,rfl⟩:=ve _ _ hx2
  refine lE (oia ud1 ha4) (lv (v:=Ix (x2)) (e_load1 ud2.ok rfl (kB hc6)) (lE oai (lnc (lE omi (lE omi (lE onq (lnf ?_)))))))
  refine c_if _ rfl (fun hc8=> ?_) (fun hc8=> ?_)
  ·refine csr (lE omi (lE oai (lnf (c_ret (f_block_ret (f_then_ret (f_then_ret (f_block_ret (f_then_ret (ret1 Tryz.results72 rfl ?_))))))))))
   intro w hw
   exact⟨congrArg (fun z:Int=>Ending.returned (Ix z)) (orI_found hx2 hc8 hp).symm,st_mask [] rfl hw⟩
  refine c_skip (f_block (f_then (c_region (lv (v:=Nx (k+1)) (e_add rfl rfl (i64n (by omega) (by omega))) (lE omi (l_nil ?_))))))
  exact f_cut ⟨k+1,⟨⟨rfl,rfl,rfl,rfl⟩,rfl,⟨by omega,orI_next hx2 (Decidable.not_not.1 hc8) hp⟩⟩,(show xs.length-(k+1)<xs.length-k from by omega)⟩
 refine c_exit (f_then_exit (f_then_exit (f_exit (ftc (lE omi (lE oai (lnf (c_ret (ret1 Tryz.results72 rfl ?_)))))))))
 intro w hw
 exact⟨congrArg (fun z:Int=>Ending.returned (Ix z)) (orI_none (by omega) hp).symm,st_mask [] rfl hw⟩
theorem cmpM_ok(β:Base)(w:World)(hw:St β [] w)(x y:KMg)(hx:BdM x)(hy:BdM y):Ret Tryz.prog 71 #[.agg #[Ix (x.src),Ix (x.to),Ix (x.number),.bool (x.ack),Ix (x.id),.slice x.p (x.n) x.c],.agg #[Ix (y.src),Ix (y.to),Ix (y.number),.bool (y.ack),Ix (y.id),.slice y.p (y.n) y.c]] β w (Ix (ordM x y)):=by
 obtain⟨hx1,hx2⟩:=hx
 obtain⟨hy1,hy2⟩:=hy
 refine enter (n:=17) Tryz.func71 rfl Tryz.ntmps71 rfl ?_ hw
 refine csr (bxa fun b1=> ?_)
 refine bxa fun b2=> ?_
 refine lE oai (lnc (lE ofp (lE (oli 1) (lE ofp (lE (oli 0) (lE omn (lE ofp (lE (oli 1) (lE ofp (lE (oli 0) (lE omn ?_)))))))))))
 refine l_mv rfl rfl rfl (m_slices ud1 ud5.ok (cells:= #[Ix ((x.to)-(y.to)),Ix ((x.number)-(y.number))]) rfl rfl rfl rfl) ?_
 rintro _ _ ⟨b3,rfl,rfl⟩
 refine lcR clA (fun w β1 sb kn hw1=>or_ok β1 w hw1 _ [(x.to)-(y.to),(x.number)-(y.number)] (kn _ (k_ptFls (F:=IntF) 0 (m:=2) (xs:=[(x.to)-(y.to),(x.number)-(y.number)]) rfl rfl rfl (by simp)))) ?_
 refine lE oai (lnf (c_ret (ret1 Tryz.results71 rfl ?_)))
 intro w hw
 exact⟨rfl,st_mask [false,false,false] rfl hw⟩
end Go.Proofs
