/-
 Own work; plain Lean (Jn2, Jn3).
-/
import Derived.Test.YtmhlglginimmnaaGreatDoorJn1
set_option linter.all false
namespace Go.Proofs
open Go Go.Sl Go.Jn
theorem pl_le(p:Int)(j:Nat):pl p j≤p:=by unfold pl;split<;>omega
theorem pl_zero(p:Int):pl p 0=p:=by unfold pl;split<;>omega
theorem cutA_id{xs:Bs}{p:Int}{size:Nat}(h:xs.length≤size):cutA xs p size=xs:=by
 unfold cutA;split
 ·rfl
 exact List.take_of_length_le h
theorem cutP_id{xs:Bs}{p:Int}{size:Nat}(h:xs.length≤size):cutP xs p size=p:=if_neg (by omega)
def readyE(dn:Bool)(bs:Bs):Int:=if 65536<bs.length then 3 else if dn=true then 310 else 0
instance tf30:FldC Tryz.prog 120 0 0 1 false:={}
instance tf31:TyC Tryz.prog 27 false 1:={}
theorem tf32:stB Tryz.prog 157 []=true:=by kernel_rfl
instance tf33:ZerC Tryz.prog 157 (.agg #[]):={}
theorem tf34:ifcB Tryz.prog 157=true:=by kernel_rfl
instance tf35:CfC Tryz.prog 100:={}
theorem tf36:Tryz.prog.underlying 72=some (.pointer (Tryz.prog.pointee 72)):=by kernel_rfl
theorem tf37:Tryz.prog.underlying 27=some (.pointer (Tryz.prog.pointee 27)):=by kernel_rfl
instance tf38:CfC Tryz.prog 63:={}
instance tf39:FldC Tryz.prog 120 2 6 1 false:={}
instance tf40:TyC Tryz.prog 4 false 1:={}
theorem spend_ok(β:Base)(w:World)(J S:Nat)(hJ:Cs β.heap ⟨J,0,none⟩ [pp S 0])(x0 x1 x2:Value)(p:Int)(hp:p≤9223372036854775807)(hw:St β [pt S (.cells #[x0,x1,x2,Ix (p)] 60)] w):Calls Tryz.prog 100 #[pp J 0] w fun r w'=>(r= .panicked chP∧p=0∧St β [pt S (.cells #[x0,x1,x2,Ix (p)] 60)] w')∨(r= .returned (.tuple #[])∧p≠0∧St β [pt S (.cells #[x0,x1,x2,Ix (spendP p)] 60)] w'):=by
 refine enter (n:=32) Tryz.func100 rfl Tryz.ntmps100 rfl ?_ hw
 refine c_block (csr (lE omp (lE onp (lE ofa ?_))))
 refine lv (v:=pp S 0) (e_load1 tf31.ok rfl (Knows.imp (kB hJ) (fun _ h=>Cs.sub (vs:=[pp S 0]) 0 h rfl))) (lE onp (lE ofp (lE (oli 0) ?_)))
 refine lE oeq_ (lE oab (lnf (c_if _ rfl (fun hc1=> ?_) (fun hc1=> ?_))))
 ·refine c_region (lv (v:= .agg #[]) (e_build tf33.ok tf32 (vs:=[]) (cells:= #[]) rfl rfl) ?_)
  refine lv (v:= .iface 157 (.agg #[])) (e_iface (v:= .agg #[]) tf34 rfl) (l_panic (t:=157) (v:=(.agg #[])) rfl (f_block_panic (panR ?_)))
  intro w hw
  exact .inl ⟨rfl,by omega,st_mask [true] rfl hw⟩
 refine csr (lE omp (lE onp (lE ofa (lv (v:=pp S 0) (e_load1 tf31.ok rfl (Knows.imp (kB hJ) (fun _ h=>Cs.sub (vs:=[pp S 0]) 0 h rfl))) ?_))))
 refine lE onp (lE ofp (lE (oli 0) (lE ogt (lE oab (lnf (c_if _ rfl (fun hc2=> ?_) (fun hc2=> ?_)))))))
 ·refine c_region (lE omp (lE onp (lE ofa (lv (v:=pp S 0) (e_load1 tf31.ok rfl (Knows.imp (kB hJ) (fun _ h=>Cs.sub (vs:=[pp S 0]) 0 h rfl))) ?_))))
  refine lE onp (lE ofp (lE (oli 0) (lE omn (lE onp (lE ofp (lu (mS 0 (#[x0,x1,x2,Ix ((p)-(1:Int))])) (l_nil (f_block (end0 Tryz.results100 ?_)))))))))
  intro w hw
  exact .inr ⟨rfl,by omega,by unfold spendP;rw[if_pos (by omega)];exact st_mask [true] rfl hw⟩
 refine c_skip (f_block (end0 Tryz.results100 ?_))
 intro w hw
 exact .inr ⟨rfl,by omega,by unfold spendP;rw[if_neg (by omega)];exact st_mask [true] rfl hw⟩
set_option maxHeartbeats 4000000 in
theorem writeH_ok(β:Base)(w:World)(J S:Nat)(hJ:Cs β.heap ⟨J,0,none⟩ [pp S 0])(k:KS)(hk:k.head.length≤1048576∧k.a.length≤1048576∧k.b.length≤1048576∧k.power≤9223372036854775807)(at_:Nat)(hat:at_≤1048576)(bs:Bs)(v:Value)(hb:bs.length≤1048576)(hs:Sl U8R β.heap v bs)(hw:St β [storeR S k] w):Calls Tryz.prog 92 #[pp J 0,pp S 0,Nx at_,v] w fun r w'=>(r= .panicked chP∧¬wrOk k.power bs∧St β [storeR S {k with head:=wrA k.head k.power at_ bs,power:=pl k.power bs.length}] w')∨(r= .returned (.tuple #[])∧wrOk k.power bs∧St β [storeR S {k with head:=wrA k.head k.power at_ bs,power:=pl k.power bs.length}] w'):=by
 obtain⟨va,vc,rfl,vl,vm,ve⟩:=hs.get
 obtain⟨pH,pA,pB,cH,cA,cB,hw⟩:=St.openStore hw
 refine enter (n:=44) Tryz.func92 rfl Tryz.ntmps92 rfl ?_ hw
 refine csr (lE oms (lE oln (lE omi (lnf (c_block ?_)))))
 refine c_loop (fun(x_:Nat×Bs×Option Addr×Nat) f L=>match x_ with|(j,ys,p,c)=>(f 0= .pointer (some (⟨J,0,none⟩))∧f 1=pp S 0∧f 2=Nx (at_)∧f 10=sB va bs (vc)∧f 11=Nx (bs.length)∧f 12=Nx (j))∧L=[pt S (.cells #[sB p ys c,sB pA k.a cA,sB pB k.b cB,Ix (pl k.power j)] 60),rB p ys c,rB pA k.a cA,rB pB k.b cB]∧(j≤pw k.power bs.length∧ys=wr k.head at_ (bs.take j))) (fun(j,ys,p,c)=>bs.length-j) (0,k.head,pH,cH) ?_ ?_
 ·exact⟨⟨rfl,rfl,rfl,rfl,rfl,rfl⟩,(by rw[pl_zero];rfl),⟨by omega,by simp[wr]⟩⟩
 rintro⟨j,ys,p,c⟩ f0 L0 ⟨⟨hs0,hs1,hs2,hs10,hs11,hs12⟩,hL,⟨hj,hys⟩⟩
 subst L0
 refine rbs 0 hs0 (rbs 1 hs1 (rbs 2 hs2 (rbs 10 hs10 (rbs 11 hs11 (rbs 12 hs12 ?_)))))
 have hyl:ys.length≤k.head.length+bs.length:=by rw[hys];refine Nat.le_trans wr_length ?_;simp;omega
 refine csr (lE olt (lnf (c_seq (c_if _ rfl (fun hc1=> ?_) (fun hc1=> ?_)))))
 ·have hc_:j<bs.length:=by omega
  refine csk (c_seq (c_block (csr (lE omi ?_))))
  obtain⟨x2,hx3⟩:=getx bs j (by omega)
  obtain⟨ha4,cs5,hc6,rfl⟩:=ve _ _ hx3
  refine lE (oia tf12 ha4) (lv (v:=Bx (x2)) (e_load1 tf13.ok rfl (kB hc6)) (lE oai (lE oai (lnc (lE omp ?_)))))
  refine l_callP rfl rfl rfl (cl0 (vs:=[.pointer (some (⟨J,0,none⟩))]) tf35.ok rfl rfl) ?_
  intro w hw
  replace hw:=hw.perm (L':=_::_::_::_::[]) (by exact((((perm_front 3 rfl).trans (perm_front 3 rfl)).trans (perm_front 3 rfl)).trans (perm_front 3 rfl)))
  obtain⟨β1,sb,kn,hw1,back⟩:=St.frame (L:=[_]) (M:=_::_::_::[]) hw
  refine(spend_ok β1 w J S (Cs.mono _ _ _ _ sb hJ) (sB p ys c) (sB pA k.a cA) (sB pB k.b cB) (pl k.power j) (by have:=pl_le k.power j;omega) hw1).mono ?_
  rintro e w' (⟨rfl,hp8,hw'⟩|⟨rfl,hp8,hw'⟩)
  ·refine .inl ⟨_,rfl,_,back _ _ hw',?_⟩
   clear hw hw1 hw' back kn sb
   refine f_then_panic (f_block_panic (f_then_panic (f_then_panic (f_block_panic (panR ?_)))))
   intro w hw
   obtain⟨e1,e3⟩:=pw_stop hj hc_ hp8
   have e2:ys=wrA k.head k.power at_ bs:=by rw[hys,wrA,e1]
   subst e2
   rw[hp8,←e3]at hw
   exact .inl ⟨rfl,by unfold wrOk;omega,St.closeStore (k:={k with head:=wrA k.head k.power at_ bs,power:=pl k.power bs.length}) (st_mask [true,true,true,true] rfl hw)⟩
  refine .inr ⟨_,rfl,_,back _ _ hw',?_⟩
  clear hw hw1 hw' back kn sb
  refine lnf (c_seq ?_)
  have hpst:=pw_step hj hc_ hp8
  refine c_region (lE omi (lE omi (lE opn (lE omp (lE onp (lE (ols 0) (lE oln (lE olt (lnf (c_if _ rfl (fun hc9=> ?_) (fun hc9=> ?_)))))))))))
  ·refine c_region (lE omp (lE onp (lE (ols 0) (lE omi (lE omi (lE opn (lE omi ?_)))))))
   refine lv (v:= .pointer (some ((ba p).add ((at_+j)*1)))) (e_indexRow 1 (j:=at_+j) (len:=(ys).length) (cap:=c) (p:=p) rfl rfl tf12 (by omega) (by omega) rfl) ?_
   refine lu (m_storeRow 1 tf13.ok (o:=(at_+j)*1) (v:=Bx (x2)) rfl rfl rfl rfl rfl (by omega) (by omega)) ?_
   refine l_re (L':=[pt S (.cells #[.slice p ((ys.set (at_+j) x2)).length c,.slice pA (k.a).length cA,.slice pB (k.b).length cB,Ix (spendP (pl k.power j))] 60),row (.slice p ((ys.set (at_+j) x2)).length c) 5 1 (((ys.set (at_+j) x2)).length) (BX (ys.set (at_+j) x2)),row (.slice pA (k.a).length cA) 5 1 ((k.a).length) (BX k.a),row (.slice pB (k.b).length cB) 5 1 ((k.b).length) (BX k.b)]) (by show [pt S (.cells #[.slice p (ys).length c,.slice pA (k.a).length cA,.slice pB (k.b).length cB,Ix (spendP (pl k.power j))] 60),row (.slice p (ys).length c) 5 1 ((ys).length) ((overL (BX ys) ((at_+j)*1) [Bx (x2)])),row (.slice pA (k.a).length cA) 5 1 ((k.a).length) (BX k.a),row (.slice pB (k.b).length cB) 5 1 ((k.b).length) (BX k.b)]=_;rw[overL_bx (by omega)];simp only[List.length_set]) ?_
   refine l_nil (f_block (f_then (c_region (lv (v:=Nx (j+1)) (e_add rfl rfl (i64n (by omega) (by omega))) (lE omi (l_nil ?_))))))
   exact f_cut ⟨(j+1,(ys.set (at_+j) x2),p,c),⟨⟨rfl,rfl,rfl,rfl,rfl,rfl⟩,(by rw[hpst.2]),⟨hpst.1,by rw[hys,wr_take hx3,if_pos (by rw[←hys];omega)]⟩⟩,(show bs.length-(j+1)<bs.length-j from by omega)⟩
  refine c_region (lE omp (lE omp (lE onp (lE (ols 0) (lE omi (l_mv rfl rfl rfl (m_slices tf12 tf14.ok (cells:= #[Bx (x2)]) rfl rfl rfl rfl) ?_))))))
  rintro _ _ ⟨b10,rfl,rfl⟩
  refine l_mv rfl rfl rfl (m_appendE (enc:=fun c:UInt8=>Bx c) 2 bx_cell tf12 tf15 (v:=sB p ys c) (xs:=ys) (ys:=[x2]) (ao:=some ⟨b10,0,none⟩) (c:=1) rfl rfl (by first|rfl|simp) rfl (by first|rfl|simp) (k_ptE 0 (xs:=[x2]) rfl) (by first|omega|(simp only[List.length_append,List.length_nil,List.length_cons,be_length]at*;omega)) (by first|omega|(simp only[List.length_append,List.length_nil,List.length_cons,be_length]at*;omega))) ?_
  rintro _ _ ⟨rp11,rc12,rfl,rfl⟩
  refine lE onp (lu (mS 1 (#[sB rp11 (ys++[x2]) rc12,sB pA k.a cA,sB pB k.b cB,Ix (spendP (pl k.power j))])) (l_nil (f_block (f_then (c_region ?_)))))
  refine lv (v:=Nx (j+1)) (e_add rfl rfl (i64n (by omega) (by omega))) (lE omi (l_nil ?_))
  refine f_mask (L':=[pt S (.cells #[sB rp11 (ys++[x2]) rc12,sB pA k.a cA,sB pB k.b cB,Ix (spendP (pl k.power j))] 60),rB rp11 (ys++[x2]) rc12,rB pA k.a cA,rB pB k.b cB]) [false,true,true,true,true] rfl ?_
  exact f_cut ⟨(j+1,ys++[x2],rp11,rc12),⟨⟨rfl,rfl,rfl,rfl,rfl,rfl⟩,(by rw[hpst.2]),⟨hpst.1,by rw[hys,wr_take hx3,if_neg (by rw[←hys];omega)]⟩⟩,(show bs.length-(j+1)<bs.length-j from by omega)⟩
 refine c_exit (f_then_exit (f_then_exit (f_exit (end0 Tryz.results92 ?_))))
 intro w hw
 obtain⟨e1,rfl⟩:=pw_all hj (by omega)
 have e2:ys=wrA k.head k.power at_ bs:=by rw[hys,wrA,e1]
 subst e2
 exact .inr ⟨rfl,e1,St.closeStore (k:={k with head:=wrA k.head k.power at_ bs,power:=pl k.power bs.length}) (st_mask [true,true,true,true] rfl hw)⟩
set_option maxHeartbeats 4000000 in
theorem writeA_ok(β:Base)(w:World)(J S:Nat)(hJ:Cs β.heap ⟨J,0,none⟩ [pp S 0])(k:KS)(hk:k.head.length≤1048576∧k.a.length≤1048576∧k.b.length≤1048576∧k.power≤9223372036854775807)(at_:Nat)(hat:at_≤1048576)(bs:Bs)(v:Value)(hb:bs.length≤1048576)(hs:Sl U8R β.heap v bs)(hw:St β [storeR S k] w):Calls Tryz.prog 92 #[pp J 0,pp S 1,Nx at_,v] w fun r w'=>(r= .panicked chP∧¬wrOk k.power bs∧St β [storeR S {k with a:=wrA k.a k.power at_ bs,power:=pl k.power bs.length}] w')∨(r= .returned (.tuple #[])∧wrOk k.power bs∧St β [storeR S {k with a:=wrA k.a k.power at_ bs,power:=pl k.power bs.length}] w'):=by
 obtain⟨va,vc,rfl,vl,vm,ve⟩:=hs.get
 obtain⟨pH,pA,pB,cH,cA,cB,hw⟩:=St.openStore hw
 refine enter (n:=44) Tryz.func92 rfl Tryz.ntmps92 rfl ?_ hw
 refine csr (lE oms (lE oln (lE omi (lnf (c_block ?_)))))
 refine c_loop (fun(x_:Nat×Bs×Option Addr×Nat) f L=>match x_ with|(j,ys,p,c)=>(f 0= .pointer (some (⟨J,0,none⟩))∧f 1=pp S 1∧f 2=Nx (at_)∧f 10=sB va bs (vc)∧f 11=Nx (bs.length)∧f 12=Nx (j))∧L=[pt S (.cells #[sB pH k.head cH,sB p ys c,sB pB k.b cB,Ix (pl k.power j)] 60),rB pH k.head cH,rB p ys c,rB pB k.b cB]∧(j≤pw k.power bs.length∧ys=wr k.a at_ (bs.take j))) (fun(j,ys,p,c)=>bs.length-j) (0,k.a,pA,cA) ?_ ?_
 ·exact⟨⟨rfl,rfl,rfl,rfl,rfl,rfl⟩,(by rw[pl_zero];rfl),⟨by omega,by simp[wr]⟩⟩
 rintro⟨j,ys,p,c⟩ f0 L0 ⟨⟨hs0,hs1,hs2,hs10,hs11,hs12⟩,hL,⟨hj,hys⟩⟩
 subst L0
 refine rbs 0 hs0 (rbs 1 hs1 (rbs 2 hs2 (rbs 10 hs10 (rbs 11 hs11 (rbs 12 hs12 ?_)))))
 have hyl:ys.length≤k.a.length+bs.length:=by rw[hys];refine Nat.le_trans wr_length ?_;simp;omega
 refine csr (lE olt (lnf (c_seq (c_if _ rfl (fun hc1=> ?_) (fun hc1=> ?_)))))
 ·have hc_:j<bs.length:=by omega
  refine csk (c_seq (c_block (csr (lE omi ?_))))
  obtain⟨x2,hx3⟩:=getx bs j (by omega)
  obtain⟨ha4,cs5,hc6,rfl⟩:=ve _ _ hx3
  refine lE (oia tf12 ha4) (lv (v:=Bx (x2)) (e_load1 tf13.ok rfl (kB hc6)) (lE oai (lE oai (lnc (lE omp ?_)))))
  refine l_callP rfl rfl rfl (cl0 (vs:=[.pointer (some (⟨J,0,none⟩))]) tf35.ok rfl rfl) ?_
  intro w hw
  replace hw:=hw.perm (L':=_::_::_::_::[]) (by exact((((perm_front 3 rfl).trans (perm_front 3 rfl)).trans (perm_front 3 rfl)).trans (perm_front 3 rfl)))
  obtain⟨β1,sb,kn,hw1,back⟩:=St.frame (L:=[_]) (M:=_::_::_::[]) hw
  refine(spend_ok β1 w J S (Cs.mono _ _ _ _ sb hJ) (sB pH k.head cH) (sB p ys c) (sB pB k.b cB) (pl k.power j) (by have:=pl_le k.power j;omega) hw1).mono ?_
  rintro e w' (⟨rfl,hp8,hw'⟩|⟨rfl,hp8,hw'⟩)
  ·refine .inl ⟨_,rfl,_,back _ _ hw',?_⟩
   clear hw hw1 hw' back kn sb
   refine f_then_panic (f_block_panic (f_then_panic (f_then_panic (f_block_panic (panR ?_)))))
   intro w hw
   obtain⟨e1,e3⟩:=pw_stop hj hc_ hp8
   have e2:ys=wrA k.a k.power at_ bs:=by rw[hys,wrA,e1]
   subst e2
   rw[hp8,←e3]at hw
   exact .inl ⟨rfl,by unfold wrOk;omega,St.closeStore (k:={k with a:=wrA k.a k.power at_ bs,power:=pl k.power bs.length}) (st_mask [true,true,true,true] rfl hw)⟩
  refine .inr ⟨_,rfl,_,back _ _ hw',?_⟩
  clear hw hw1 hw' back kn sb
  refine lnf (c_seq ?_)
  have hpst:=pw_step hj hc_ hp8
  refine c_region (lE omi (lE omi (lE opn (lE omp (lE onp (lE (ols 0) (lE oln (lE olt (lnf (c_if _ rfl (fun hc9=> ?_) (fun hc9=> ?_)))))))))))
  ·refine c_region (lE omp (lE onp (lE (ols 0) (lE omi (lE omi (lE opn (lE omi ?_)))))))
   refine lv (v:= .pointer (some ((ba p).add ((at_+j)*1)))) (e_indexRow 2 (j:=at_+j) (len:=(ys).length) (cap:=c) (p:=p) rfl rfl tf12 (by omega) (by omega) rfl) ?_
   refine lu (m_storeRow 2 tf13.ok (o:=(at_+j)*1) (v:=Bx (x2)) rfl rfl rfl rfl rfl (by omega) (by omega)) ?_
   refine l_re (L':=[pt S (.cells #[.slice pH (k.head).length cH,.slice p ((ys.set (at_+j) x2)).length c,.slice pB (k.b).length cB,Ix (spendP (pl k.power j))] 60),row (.slice pH (k.head).length cH) 5 1 ((k.head).length) (BX k.head),row (.slice p ((ys.set (at_+j) x2)).length c) 5 1 (((ys.set (at_+j) x2)).length) (BX (ys.set (at_+j) x2)),row (.slice pB (k.b).length cB) 5 1 ((k.b).length) (BX k.b)]) (by show [pt S (.cells #[.slice pH (k.head).length cH,.slice p (ys).length c,.slice pB (k.b).length cB,Ix (spendP (pl k.power j))] 60),row (.slice pH (k.head).length cH) 5 1 ((k.head).length) (BX k.head),row (.slice p (ys).length c) 5 1 ((ys).length) ((overL (BX ys) ((at_+j)*1) [Bx (x2)])),row (.slice pB (k.b).length cB) 5 1 ((k.b).length) (BX k.b)]=_;rw[overL_bx (by omega)];simp only[List.length_set]) ?_
   refine l_nil (f_block (f_then (c_region (lv (v:=Nx (j+1)) (e_add rfl rfl (i64n (by omega) (by omega))) (lE omi (l_nil ?_))))))
   exact f_cut ⟨(j+1,(ys.set (at_+j) x2),p,c),⟨⟨rfl,rfl,rfl,rfl,rfl,rfl⟩,(by rw[hpst.2]),⟨hpst.1,by rw[hys,wr_take hx3,if_pos (by rw[←hys];omega)]⟩⟩,(show bs.length-(j+1)<bs.length-j from by omega)⟩
  refine c_region (lE omp (lE omp (lE onp (lE (ols 0) (lE omi (l_mv rfl rfl rfl (m_slices tf12 tf14.ok (cells:= #[Bx (x2)]) rfl rfl rfl rfl) ?_))))))
  rintro _ _ ⟨b10,rfl,rfl⟩
  refine l_mv rfl rfl rfl (m_appendE (enc:=fun c:UInt8=>Bx c) 3 bx_cell tf12 tf15 (v:=sB p ys c) (xs:=ys) (ys:=[x2]) (ao:=some ⟨b10,0,none⟩) (c:=1) rfl rfl (by first|rfl|simp) rfl (by first|rfl|simp) (k_ptE 0 (xs:=[x2]) rfl) (by first|omega|(simp only[List.length_append,List.length_nil,List.length_cons,be_length]at*;omega)) (by first|omega|(simp only[List.length_append,List.length_nil,List.length_cons,be_length]at*;omega))) ?_
  rintro _ _ ⟨rp11,rc12,rfl,rfl⟩
  refine lE onp (lu (mS 1 (#[sB pH k.head cH,sB rp11 (ys++[x2]) rc12,sB pB k.b cB,Ix (spendP (pl k.power j))])) (l_nil (f_block (f_then (c_region ?_)))))
  refine lv (v:=Nx (j+1)) (e_add rfl rfl (i64n (by omega) (by omega))) (lE omi (l_nil ?_))
  refine f_mask (L':=[pt S (.cells #[sB pH k.head cH,sB rp11 (ys++[x2]) rc12,sB pB k.b cB,Ix (spendP (pl k.power j))] 60),rB pH k.head cH,rB rp11 (ys++[x2]) rc12,rB pB k.b cB]) [false,true,true,true,true] rfl ?_
  exact f_cut ⟨(j+1,ys++[x2],rp11,rc12),⟨⟨rfl,rfl,rfl,rfl,rfl,rfl⟩,(by rw[hpst.2]),⟨hpst.1,by rw[hys,wr_take hx3,if_neg (by rw[←hys];omega)]⟩⟩,(show bs.length-(j+1)<bs.length-j from by omega)⟩
 refine c_exit (f_then_exit (f_then_exit (f_exit (end0 Tryz.results92 ?_))))
 intro w hw
 obtain⟨e1,rfl⟩:=pw_all hj (by omega)
 have e2:ys=wrA k.a k.power at_ bs:=by rw[hys,wrA,e1]
 subst e2
 exact .inr ⟨rfl,e1,St.closeStore (k:={k with a:=wrA k.a k.power at_ bs,power:=pl k.power bs.length}) (st_mask [true,true,true,true] rfl hw)⟩
set_option maxHeartbeats 4000000 in
theorem writeB_ok(β:Base)(w:World)(J S:Nat)(hJ:Cs β.heap ⟨J,0,none⟩ [pp S 0])(k:KS)(hk:k.head.length≤1048576∧k.a.length≤1048576∧k.b.length≤1048576∧k.power≤9223372036854775807)(at_:Nat)(hat:at_≤1048576)(bs:Bs)(v:Value)(hb:bs.length≤1048576)(hs:Sl U8R β.heap v bs)(hw:St β [storeR S k] w):Calls Tryz.prog 92 #[pp J 0,pp S 2,Nx at_,v] w fun r w'=>(r= .panicked chP∧¬wrOk k.power bs∧St β [storeR S {k with b:=wrA k.b k.power at_ bs,power:=pl k.power bs.length}] w')∨(r= .returned (.tuple #[])∧wrOk k.power bs∧St β [storeR S {k with b:=wrA k.b k.power at_ bs,power:=pl k.power bs.length}] w'):=by
 obtain⟨va,vc,rfl,vl,vm,ve⟩:=hs.get
 obtain⟨pH,pA,pB,cH,cA,cB,hw⟩:=St.openStore hw
 refine enter (n:=44) Tryz.func92 rfl Tryz.ntmps92 rfl ?_ hw
 refine csr (lE oms (lE oln (lE omi (lnf (c_block ?_)))))
 refine c_loop (fun(x_:Nat×Bs×Option Addr×Nat) f L=>match x_ with|(j,ys,p,c)=>(f 0= .pointer (some (⟨J,0,none⟩))∧f 1=pp S 2∧f 2=Nx (at_)∧f 10=sB va bs (vc)∧f 11=Nx (bs.length)∧f 12=Nx (j))∧L=[pt S (.cells #[sB pH k.head cH,sB pA k.a cA,sB p ys c,Ix (pl k.power j)] 60),rB pH k.head cH,rB pA k.a cA,rB p ys c]∧(j≤pw k.power bs.length∧ys=wr k.b at_ (bs.take j))) (fun(j,ys,p,c)=>bs.length-j) (0,k.b,pB,cB) ?_ ?_
 ·exact⟨⟨rfl,rfl,rfl,rfl,rfl,rfl⟩,(by rw[pl_zero];rfl),⟨by omega,by simp[wr]⟩⟩
 rintro⟨j,ys,p,c⟩ f0 L0 ⟨⟨hs0,hs1,hs2,hs10,hs11,hs12⟩,hL,⟨hj,hys⟩⟩
 subst L0
 refine rbs 0 hs0 (rbs 1 hs1 (rbs 2 hs2 (rbs 10 hs10 (rbs 11 hs11 (rbs 12 hs12 ?_)))))
 have hyl:ys.length≤k.b.length+bs.length:=by rw[hys];refine Nat.le_trans wr_length ?_;simp;omega
 refine csr (lE olt (lnf (c_seq (c_if _ rfl (fun hc1=> ?_) (fun hc1=> ?_)))))
 ·have hc_:j<bs.length:=by omega
  refine csk (c_seq (c_block (csr (lE omi ?_))))
  obtain⟨x2,hx3⟩:=getx bs j (by omega)
  obtain⟨ha4,cs5,hc6,rfl⟩:=ve _ _ hx3
  refine lE (oia tf12 ha4) (lv (v:=Bx (x2)) (e_load1 tf13.ok rfl (kB hc6)) (lE oai (lE oai (lnc (lE omp ?_)))))
  refine l_callP rfl rfl rfl (cl0 (vs:=[.pointer (some (⟨J,0,none⟩))]) tf35.ok rfl rfl) ?_
  intro w hw
  replace hw:=hw.perm (L':=_::_::_::_::[]) (by exact((((perm_front 3 rfl).trans (perm_front 3 rfl)).trans (perm_front 3 rfl)).trans (perm_front 3 rfl)))
  obtain⟨β1,sb,kn,hw1,back⟩:=St.frame (L:=[_]) (M:=_::_::_::[]) hw
  refine(spend_ok β1 w J S (Cs.mono _ _ _ _ sb hJ) (sB pH k.head cH) (sB pA k.a cA) (sB p ys c) (pl k.power j) (by have:=pl_le k.power j;omega) hw1).mono ?_
  rintro e w' (⟨rfl,hp8,hw'⟩|⟨rfl,hp8,hw'⟩)
  ·refine .inl ⟨_,rfl,_,back _ _ hw',?_⟩
   clear hw hw1 hw' back kn sb
   refine f_then_panic (f_block_panic (f_then_panic (f_then_panic (f_block_panic (panR ?_)))))
   intro w hw
   obtain⟨e1,e3⟩:=pw_stop hj hc_ hp8
   have e2:ys=wrA k.b k.power at_ bs:=by rw[hys,wrA,e1]
   subst e2
   rw[hp8,←e3]at hw
   exact .inl ⟨rfl,by unfold wrOk;omega,St.closeStore (k:={k with b:=wrA k.b k.power at_ bs,power:=pl k.power bs.length}) (st_mask [true,true,true,true] rfl hw)⟩
  refine .inr ⟨_,rfl,_,back _ _ hw',?_⟩
  clear hw hw1 hw' back kn sb
  refine lnf (c_seq ?_)
  have hpst:=pw_step hj hc_ hp8
  refine c_region (lE omi (lE omi (lE opn (lE omp (lE onp (lE (ols 0) (lE oln (lE olt (lnf (c_if _ rfl (fun hc9=> ?_) (fun hc9=> ?_)))))))))))
  ·refine c_region (lE omp (lE onp (lE (ols 0) (lE omi (lE omi (lE opn (lE omi ?_)))))))
   refine lv (v:= .pointer (some ((ba p).add ((at_+j)*1)))) (e_indexRow 3 (j:=at_+j) (len:=(ys).length) (cap:=c) (p:=p) rfl rfl tf12 (by omega) (by omega) rfl) ?_
   refine lu (m_storeRow 3 tf13.ok (o:=(at_+j)*1) (v:=Bx (x2)) rfl rfl rfl rfl rfl (by omega) (by omega)) ?_
   refine l_re (L':=[pt S (.cells #[.slice pH (k.head).length cH,.slice pA (k.a).length cA,.slice p ((ys.set (at_+j) x2)).length c,Ix (spendP (pl k.power j))] 60),row (.slice pH (k.head).length cH) 5 1 ((k.head).length) (BX k.head),row (.slice pA (k.a).length cA) 5 1 ((k.a).length) (BX k.a),row (.slice p ((ys.set (at_+j) x2)).length c) 5 1 (((ys.set (at_+j) x2)).length) (BX (ys.set (at_+j) x2))]) (by show [pt S (.cells #[.slice pH (k.head).length cH,.slice pA (k.a).length cA,.slice p (ys).length c,Ix (spendP (pl k.power j))] 60),row (.slice pH (k.head).length cH) 5 1 ((k.head).length) (BX k.head),row (.slice pA (k.a).length cA) 5 1 ((k.a).length) (BX k.a),row (.slice p (ys).length c) 5 1 ((ys).length) ((overL (BX ys) ((at_+j)*1) [Bx (x2)]))]=_;rw[overL_bx (by omega)];simp only[List.length_set]) ?_
   refine l_nil (f_block (f_then (c_region (lv (v:=Nx (j+1)) (e_add rfl rfl (i64n (by omega) (by omega))) (lE omi (l_nil ?_))))))
   exact f_cut ⟨(j+1,(ys.set (at_+j) x2),p,c),⟨⟨rfl,rfl,rfl,rfl,rfl,rfl⟩,(by rw[hpst.2]),⟨hpst.1,by rw[hys,wr_take hx3,if_pos (by rw[←hys];omega)]⟩⟩,(show bs.length-(j+1)<bs.length-j from by omega)⟩
  refine c_region (lE omp (lE omp (lE onp (lE (ols 0) (lE omi (l_mv rfl rfl rfl (m_slices tf12 tf14.ok (cells:= #[Bx (x2)]) rfl rfl rfl rfl) ?_))))))
  rintro _ _ ⟨b10,rfl,rfl⟩
  refine l_mv rfl rfl rfl (m_appendE (enc:=fun c:UInt8=>Bx c) 4 bx_cell tf12 tf15 (v:=sB p ys c) (xs:=ys) (ys:=[x2]) (ao:=some ⟨b10,0,none⟩) (c:=1) rfl rfl (by first|rfl|simp) rfl (by first|rfl|simp) (k_ptE 0 (xs:=[x2]) rfl) (by first|omega|(simp only[List.length_append,List.length_nil,List.length_cons,be_length]at*;omega)) (by first|omega|(simp only[List.length_append,List.length_nil,List.length_cons,be_length]at*;omega))) ?_
  rintro _ _ ⟨rp11,rc12,rfl,rfl⟩
  refine lE onp (lu (mS 1 (#[sB pH k.head cH,sB pA k.a cA,sB rp11 (ys++[x2]) rc12,Ix (spendP (pl k.power j))])) (l_nil (f_block (f_then (c_region ?_)))))
  refine lv (v:=Nx (j+1)) (e_add rfl rfl (i64n (by omega) (by omega))) (lE omi (l_nil ?_))
  refine f_mask (L':=[pt S (.cells #[sB pH k.head cH,sB pA k.a cA,sB rp11 (ys++[x2]) rc12,Ix (spendP (pl k.power j))] 60),rB pH k.head cH,rB pA k.a cA,rB rp11 (ys++[x2]) rc12]) [false,true,true,true,true] rfl ?_
  exact f_cut ⟨(j+1,ys++[x2],rp11,rc12),⟨⟨rfl,rfl,rfl,rfl,rfl,rfl⟩,(by rw[hpst.2]),⟨hpst.1,by rw[hys,wr_take hx3,if_neg (by rw[←hys];omega)]⟩⟩,(show bs.length-(j+1)<bs.length-j from by omega)⟩
 refine c_exit (f_then_exit (f_then_exit (f_exit (end0 Tryz.results92 ?_))))
 intro w hw
 obtain⟨e1,rfl⟩:=pw_all hj (by omega)
 have e2:ys=wrA k.b k.power at_ bs:=by rw[hys,wrA,e1]
 subst e2
 exact .inr ⟨rfl,e1,St.closeStore (k:={k with b:=wrA k.b k.power at_ bs,power:=pl k.power bs.length}) (st_mask [true,true,true,true] rfl hw)⟩
theorem cutA_ok(β:Base)(w:World)(J S:Nat)(hJ:Cs β.heap ⟨J,0,none⟩ [pp S 0])(k:KS)(hk:k.head.length≤1048576∧k.a.length≤1048576∧k.b.length≤1048576∧k.power≤9223372036854775807)(size:Nat)(hw:St β [storeR S k] w):Calls Tryz.prog 61 #[pp J 0,pp S 1,Nx size] w fun r w'=>(r= .panicked chP∧¬cutOk k.a k.power size∧k.power=0∧St β [storeR S k] w')∨(r= .returned (.tuple #[])∧cutOk k.a k.power size∧St β [storeR S {k with a:=cutA k.a k.power size,power:=cutP k.a k.power size}] w'):=by
 obtain⟨pH,pA,pB,cH,cA,cB,hw⟩:=St.openStore hw
 refine enter (n:=21) Tryz.func61 rfl Tryz.ntmps61 rfl ?_ hw
 refine csr (lE omp (lE onp (lE (ols 0) (lE oln (lE omi (lE ogt (lnf (c_if _ rfl (fun hc1=> ?_) (fun hc1=> ?_)))))))))
 ·refine csr (lE omp (l_callP rfl rfl rfl (cl0 (vs:=[.pointer (some (⟨J,0,none⟩))]) tf35.ok rfl rfl) ?_))
  intro w hw
  replace hw:=hw.perm (L':=_::_::_::_::[]) (by exact((((perm_front 3 rfl).trans (perm_front 3 rfl)).trans (perm_front 3 rfl)).trans (perm_front 3 rfl)))
  obtain⟨β1,sb,kn,hw1,back⟩:=St.frame (L:=[_]) (M:=_::_::_::[]) hw
  refine(spend_ok β1 w J S (Cs.mono _ _ _ _ sb hJ) (sB pH k.head cH) (sB pA k.a cA) (sB pB k.b cB) k.power (by have:=pl_le k.power;omega) hw1).mono ?_
  rintro e w' (⟨rfl,hp2,hw'⟩|⟨rfl,hp2,hw'⟩)
  ·refine .inl ⟨_,rfl,_,back _ _ hw',?_⟩
   clear hw hw1 hw' back kn sb
   refine f_then_panic (panR ?_)
   intro w hw
   exact .inl ⟨rfl,by unfold cutOk;omega,hp2,St.closeStore (k:=k) (st_mask [true,true,true,true] rfl hw)⟩
  refine .inr ⟨_,rfl,_,back _ _ hw',?_⟩
  clear hw hw1 hw' back kn sb
  refine lnf (c_rowcap 2 rfl (fun hcl hcm=> ?_))
  refine c_region (lE omp (lE omp (lE onp (lE (ols 0) (lE omi ?_)))))
  refine lv (v:= .slice pA (size) cA) (e_slice_hi (a:=pA) (len:=(k.a).length) (cap:=cA) (h:=size) tf12 rfl rfl (by omega)) (lE onp ?_)
  refine lu (mS 0 (#[sB pH k.head cH,.slice pA (size) cA,sB pB k.b cB,Ix (spendP (k.power))])) (l_nil (end0 Tryz.results61 ?_))
  intro w hw
  have hw:=hw.conseq_at 2 rfl (fun a h=>row_takeB (h:=size) h (by omega))
  have e0:(k.a.take size).length=size:=by simp;omega
  have e1:cutA k.a k.power size=k.a.take size:=if_neg hp2
  have e2:cutP k.a k.power size=spendP k.power:=if_pos (by omega)
  refine .inr ⟨rfl,.inr hp2,St.closeStore (k:={k with a:=cutA k.a k.power size,power:=cutP k.a k.power size}) (pH:=pH) (pA:=pA) (pB:=pB) (cH:=cH) (cA:=cA) (cB:=cB) ?_⟩
  show St β (Go.Jn.stL S pH pA pB cH cA cB {k with a:=cutA k.a k.power size,power:=cutP k.a k.power size}++[]) w
  rw[e1,e2]
  simp only[sB,rB,Go.Jn.stL,stCells,e0]
  simp only[sB,rB,e0]at hw
  exact st_mask [true,true,true,true] rfl hw
 refine c_skip (end0 Tryz.results61 ?_)
 intro w hw
 refine .inr ⟨rfl,.inl (by omega),?_⟩
 rw[cutA_id (by omega),cutP_id (by omega)]
 exact St.closeStore (k:=k) (st_mask [true,true,true,true] rfl hw)
theorem cutB_ok(β:Base)(w:World)(J S:Nat)(hJ:Cs β.heap ⟨J,0,none⟩ [pp S 0])(k:KS)(hk:k.head.length≤1048576∧k.a.length≤1048576∧k.b.length≤1048576∧k.power≤9223372036854775807)(size:Nat)(hw:St β [storeR S k] w):Calls Tryz.prog 61 #[pp J 0,pp S 2,Nx size] w fun r w'=>(r= .panicked chP∧¬cutOk k.b k.power size∧k.power=0∧St β [storeR S k] w')∨(r= .returned (.tuple #[])∧cutOk k.b k.power size∧St β [storeR S {k with b:=cutA k.b k.power size,power:=cutP k.b k.power size}] w'):=by
 obtain⟨pH,pA,pB,cH,cA,cB,hw⟩:=St.openStore hw
 refine enter (n:=21) Tryz.func61 rfl Tryz.ntmps61 rfl ?_ hw
 refine csr (lE omp (lE onp (lE (ols 0) (lE oln (lE omi (lE ogt (lnf (c_if _ rfl (fun hc1=> ?_) (fun hc1=> ?_)))))))))
 ·refine csr (lE omp (l_callP rfl rfl rfl (cl0 (vs:=[.pointer (some (⟨J,0,none⟩))]) tf35.ok rfl rfl) ?_))
  intro w hw
  replace hw:=hw.perm (L':=_::_::_::_::[]) (by exact((((perm_front 3 rfl).trans (perm_front 3 rfl)).trans (perm_front 3 rfl)).trans (perm_front 3 rfl)))
  obtain⟨β1,sb,kn,hw1,back⟩:=St.frame (L:=[_]) (M:=_::_::_::[]) hw
  refine(spend_ok β1 w J S (Cs.mono _ _ _ _ sb hJ) (sB pH k.head cH) (sB pA k.a cA) (sB pB k.b cB) k.power (by have:=pl_le k.power;omega) hw1).mono ?_
  rintro e w' (⟨rfl,hp2,hw'⟩|⟨rfl,hp2,hw'⟩)
  ·refine .inl ⟨_,rfl,_,back _ _ hw',?_⟩
   clear hw hw1 hw' back kn sb
   refine f_then_panic (panR ?_)
   intro w hw
   exact .inl ⟨rfl,by unfold cutOk;omega,hp2,St.closeStore (k:=k) (st_mask [true,true,true,true] rfl hw)⟩
  refine .inr ⟨_,rfl,_,back _ _ hw',?_⟩
  clear hw hw1 hw' back kn sb
  refine lnf (c_rowcap 3 rfl (fun hcl hcm=> ?_))
  refine c_region (lE omp (lE omp (lE onp (lE (ols 0) (lE omi ?_)))))
  refine lv (v:= .slice pB (size) cB) (e_slice_hi (a:=pB) (len:=(k.b).length) (cap:=cB) (h:=size) tf12 rfl rfl (by omega)) (lE onp ?_)
  refine lu (mS 0 (#[sB pH k.head cH,sB pA k.a cA,.slice pB (size) cB,Ix (spendP (k.power))])) (l_nil (end0 Tryz.results61 ?_))
  intro w hw
  have hw:=hw.conseq_at 3 rfl (fun a h=>row_takeB (h:=size) h (by omega))
  have e0:(k.b.take size).length=size:=by simp;omega
  have e1:cutA k.b k.power size=k.b.take size:=if_neg hp2
  have e2:cutP k.b k.power size=spendP k.power:=if_pos (by omega)
  refine .inr ⟨rfl,.inr hp2,St.closeStore (k:={k with b:=cutA k.b k.power size,power:=cutP k.b k.power size}) (pH:=pH) (pA:=pA) (pB:=pB) (cH:=cH) (cA:=cA) (cB:=cB) ?_⟩
  show St β (Go.Jn.stL S pH pA pB cH cA cB {k with b:=cutA k.b k.power size,power:=cutP k.b k.power size}++[]) w
  rw[e1,e2]
  simp only[sB,rB,Go.Jn.stL,stCells,e0]
  simp only[sB,rB,e0]at hw
  exact st_mask [true,true,true,true] rfl hw
 refine c_skip (end0 Tryz.results61 ?_)
 intro w hw
 refine .inr ⟨rfl,.inl (by omega),?_⟩
 rw[cutA_id (by omega),cutP_id (by omega)]
 exact St.closeStore (k:=k) (st_mask [true,true,true,true] rfl hw)
theorem there_ok(β:Base)(w:World)(hw:St β [] w)(J S:Nat)(hJ:Cs β.heap ⟨J,0,none⟩ [pp S 0]):Ret Tryz.prog 63 #[pp J 0] β w (.bool true):=by
 refine enter (n:=12) Tryz.func63 rfl Tryz.ntmps63 rfl ?_ hw
 refine csr (lE oab (lnc (lE omp (lv (v:= .bool true) (e_neq_pnil (p:=some (⟨J,0,none⟩)) rfl rfl tf36) (lE omb (gE omp (gE onp (gE ofa ?_))))))))
 refine g_val (v:=pp S 0) rfl rfl rfl rfl rfl (e_load1 tf31.ok rfl (Knows.imp (kB hJ) (fun _ h=>Cs.sub (vs:=[pp S 0]) 0 h rfl))) ?_
 refine g_val (v:= .bool true) rfl rfl rfl rfl rfl (e_neq_pnil (p:=some (⟨S,0,none⟩)) rfl rfl tf37) (lE oktb (lE oab (lnf (c_ret ?_))))
 refine ret1 Tryz.results63 rfl ?_
 intro w hw
 exact⟨rfl,st_mask [] rfl hw⟩
theorem there_nil(β:Base)(w:World)(hw:St β [] w):Ret Tryz.prog 63 #[.pointer none] β w (.bool false):=by
 refine enter (n:=12) Tryz.func63 rfl Tryz.ntmps63 rfl ?_ hw
 refine csr (lE oab (lnc (lE omp (lv (v:= .bool false) (e_neq_pnil (p:=none) rfl rfl tf36) (lE omb ?_)))))
 iterate 5 refine skE ?_
 refine lE okfb (lE oab (lnf (c_ret (ret1 Tryz.results63 rfl ?_))))
 intro w hw
 exact⟨rfl,st_mask [] rfl hw⟩
set_option maxHeartbeats 4000000 in
theorem ready_ok(β:Base)(w:World)(hw:St β [] w)(J S:Nat)(x1 x2 x3 x4 x5:Value)(dn:Bool)(hJ:Cs β.heap ⟨J,0,none⟩ [pp S 0,x1,x2,x3,x4,x5,.bool (dn)])(bs:Bs)(v:Value)(hs:Sl U8R β.heap v bs):Ret Tryz.prog 90 #[pp J 0,v] β w (.int .i64 (readyE dn bs)):=by
 obtain⟨va,vc,rfl,vl,vm,ve⟩:=hs.get
 refine enter (n:=18) Tryz.func90 rfl Tryz.ntmps90 rfl ?_ hw
 refine csr (lE oai (lnf (c_seq (c_block (csr (lE omp ?_))))))
 refine lcR clA (fun w β1 sb kn hw1=>there_ok β1 w hw1 J S (by have h0:=Cs.sub (vs:=[pp S 0]) 0 (Cs.mono _ _ _ _ sb hJ) rfl;rwa [Addr.add_zero']at h0)) ?_
 refine lE ont (lE oab (lnf (c_no rfl (csr (lE oms (lE oln (lE ogt (lE oab (lnf (c_if _ rfl (fun hc1=> ?_) (fun hc1=> ?_)))))))))))
 ·refine csr (lE oai (lnf (c_ret (f_block_ret (f_then_ret (ret1 Tryz.results90 rfl ?_))))))
  intro w hw
  exact⟨by rw[readyE,if_pos (by omega)]<;>rfl,st_mask [] rfl hw⟩
 refine csr (lE omp (lE onp (lE ofa ?_)))
 refine lv (v:= .bool (dn)) (e_load1 tf40.ok rfl (Knows.imp (kB hJ) (fun _ h=>Cs.sub (vs:=[.bool (dn)]) 6 h rfl))) (lE oab (lnf ?_))
 refine c_ifb (dn) rfl (fun hc2=> ?_) (fun hc2=> ?_)
 ·refine csr (lE oai (lnf (c_ret (f_block_ret (f_then_ret (ret1 Tryz.results90 rfl ?_))))))
  intro w hw
  exact⟨by rw[readyE,if_neg (by omega),if_pos hc2]<;>rfl,st_mask [] rfl hw⟩
 refine c_skip (f_block (ftc (lE oai (lnf (c_ret (ret1 Tryz.results90 rfl ?_))))))
 intro w hw
 exact⟨by rw[readyE,if_neg (by omega),if_neg (by rw[hc2];decide)]<;>rfl,st_mask [] rfl hw⟩
theorem ready_nil(β:Base)(w:World)(hw:St β [] w)(v:Value):Ret Tryz.prog 90 #[.pointer none,v] β w (.int .i64 1):=by
 refine enter (n:=18) Tryz.func90 rfl Tryz.ntmps90 rfl ?_ hw
 refine csr (lE oai (lnf (c_seq (c_block (csr (lE omp (lcR clA (fun w β1 sb kn hw1=>there_nil β1 w hw1) (lE ont (lE oab (lnf (c_yes rfl (csr ?_))))))))))))
 refine lE oai (lnf (c_ret (f_block_ret (f_then_ret (ret1 Tryz.results90 rfl ?_)))))
 intro w hw
 exact⟨rfl,st_mask [] rfl hw⟩
end Go.Proofs
namespace Go.Proofs
open Go Go.Sl Go.Jn
theorem at_init{fn:Func}{n:Nat}{args:Array Value}(hn:fn.ntmps=n)(hs:Nat.ble args.size n=true):At n [] (initF args) {tmps:=args++Array.replicate (fn.ntmps-args.size) undef,defers:=[]}:=by
 refine⟨rfl,?_,fun i=> ?_⟩
 ·rw[hn]
  have:args.size≤n:=by simpa using hs
  simp;omega
 simp only[sB,rB,initF,Array.getD_eq_getD_getElem?]
 by_cases hi:i<args.size
 ·rw[Array.getElem?_append_left hi]
 rw[Array.getElem?_append_right (by omega),Array.getElem?_eq_none (by omega:args.size≤i)]
 by_cases hj:i-args.size<fn.ntmps-args.size
 ·simp[hj]
 simp[hj]
theorem att_perm{a b c:Res}{K:List Res}:((a::K)++[b,c]).Perm ([c,b,a]++K):=by
 have h1:((a::K)++[b,c]).Perm ([b,c]++(a::K)):=List.perm_append_comm
 exact h1.trans (List.Perm.swap c b (a::K))
theorem tf41:ifB Tryz.prog 20=true:=by kernel_rfl
instance tf42:TyC Tryz.prog 157 true 0:={}
instance tf43:TyC Tryz.prog 72 false 1:={}
instance tf44:TyC Tryz.prog 24 false 1:={}
instance tf45:ZerC Tryz.prog 24 (.int .i64 (0)):={}
theorem att1_pan(β:Base)(w:World)(b2 b4 J:Nat)(y x0 x1 x2 x3 x4 x5 x6:Value)(hw:St β [pt b2 (.cells #[pp J 0] 72),pt b4 (.cells #[y] 24),pt J (.cells #[x0,x1,x2,x3,x4,x5,x6] 120)] w):CallsD Tryz.prog 99 #[pp b2 0,pp b4 0] (.panicking chP) w fun e u' w'=>
  e= .returned (.tuple #[])∧u'= .panicking [{v:= .iface 157 (.agg #[]),recovered:=true}]∧St β [pt b2 (.cells #[pp J 0] 72),pt b4 (.cells #[.int .i64 (310)] 24),pt J (.cells #[x0,x1,x2,x3,x4,x5,.bool true] 120)] w':=by
 refine callsD_of_wpS Tryz.func99 rfl fun c₀ cs hu=>wpS_seq ?_
 refine wpS_rec2 (n:=19) (ds:=[]) (f:=initF #[pp b2 0,pp b4 0]) (d0:=5) (d1:=2) (v:= .iface 157 (.agg #[])) (cs':={c₀ with mode:= .panicking [{v:= .iface 157 (.agg #[]),recovered:=true}]}::cs) (at_init Tryz.ntmps99 rfl) rfl rfl rfl rfl rfl rfl rfl rfl (.inl (by simp[recoverD,hu,chP])) (fun a' ha'=> ?_)
 refine wpS_run (L:=[pt b2 (.cells #[pp J 0] 72),pt b4 (.cells #[y] 24),pt J (.cells #[x0,x1,x2,x3,x4,x5,x6] 120)]) ?_ ha' hw
 refine csr (lv e_move (lv (v:= .bool true) (e_neq_if (u:=157) (v:=(.agg #[])) tf41 rfl) (lnf (c_yes rfl (cs2 (c_region (lv e_move ?_)))))))
 refine lv (v:= .tuple #[.agg #[],.bool true]) (e_tassert (v:= .agg #[]) rfl tf34) (lE omt (lE oxa (lE oxb (alE fun b1=>lu (mS 0 (#[])) (lE oab ?_)))))
 refine lnc (lE omb (lE ont (lnf (c_no rfl (csk (c_region (lE (olp 1) (lE onp (lE ofp (lu (mS 3 (#[x0,x1,x2,x3,x4,x5,.bool true])) ?_))))))))))
 refine lu (mS 2 (#[.int .i64 (310)])) (l_nil (finS Tryz.results99 ?_))
 intro w hw
 exact⟨rfl,rfl,st_mask [false,true,true,true] rfl hw⟩
theorem att1_ret(β:Base)(w:World)(b2 b4:Nat)(L:List Res)(hw:St β L w):CallsD Tryz.prog 99 #[pp b2 0,pp b4 0] .returning w fun e u' w'=>e= .returned (.tuple #[])∧u'= .returning∧St β L w':=by
 refine callsD_of_wpS Tryz.func99 rfl fun c₀ cs hu=>wpS_seq ?_
 refine wpS_rec2 (n:=19) (ds:=[]) (f:=initF #[pp b2 0,pp b4 0]) (d0:=5) (d1:=2) (v:= .nilIface) (cs':={c₀ with mode:= .returning}::cs) (at_init Tryz.ntmps99 rfl) rfl rfl rfl rfl rfl rfl rfl rfl (.inr ⟨by simp[recoverD,hu],rfl,by cases c₀;simp_all⟩) (fun a' ha'=> ?_)
 refine wpS_run (L:=L) ?_ ha' hw
 refine csr (lv e_move (lv (v:= .bool false) (e_neq_if0 tf41 rfl) (lnf (c_no rfl (c_skip (finS Tryz.results99 ?_))))))
 intro w hw
 exact⟨rfl,rfl,hw⟩
theorem attempt_ok(β:Base)(w:World)(J F:Nat)(cap:List Value)(x0 x1 x2 x3 x4 x5 x6:Value)(K0 K1 K2:List Res)(A B:Prop)(hF:cfB Tryz.prog F=true)(hw:St β (pt J (.cells #[x0,x1,x2,x3,x4,x5,x6] 120)::K0) w)
 (hdo:∀β',Sub β.heap β'.heap→∀w,St β' (pt J (.cells #[x0,x1,x2,x3,x4,x5,x6] 120)::K0) w→Calls Tryz.prog F cap.toArray w fun e w'=>(e= .panicked chP∧B∧St β' (pt J (.cells #[x0,x1,x2,x3,x4,x5,x6] 120)::K2) w')∨(e= .returned (.tuple #[])∧A∧St β' (pt J (.cells #[x0,x1,x2,x3,x4,x5,x6] 120)::K1) w')):
  Calls Tryz.prog 59 #[pp J 0,.func (.func F) #[] cap.toArray] w fun e w'=>(e= .returned (.int .i64 0)∧A∧St β (pt J (.cells #[x0,x1,x2,x3,x4,x5,x6] 120)::K1) w')∨(e= .returned (.int .i64 310)∧B∧St β (pt J (.cells #[x0,x1,x2,x3,x4,x5,.bool true] 120)::K2) w'):=by
 refine enterD (n:=8) Tryz.func59 rfl Tryz.ntmps59 rfl ?_ hw
 refine csr (bxp fun b1=> ?_)
 refine alE fun b2=>lnc (lv (v:= .func (.func 99) #[] #[pp b1 0,pp b2 0]) (e_func (u:=[]) (v:=[pp b1 0,pp b2 0]) rfl rfl) ?_)
 refine l_defer (dd:={target:= .fn (.func 99) #[pp b1 0,pp b2 0],args:= #[]}) rfl rfl (fun w=>by simp[execOp,resolve,ev,upd,Deferred.ofValue]) ?_
 refine lnc (lE omf (l_callP rfl rfl rfl (cl_value (fst:=[]) (cap:=cap) (vs:=[]) (all:=cap) hF rfl rfl rfl) ?_))
 intro w hw
 replace hw:=hw.perm (L':=(pt J (.cells #[x0,x1,x2,x3,x4,x5,x6] 120)::K0)++[pt b2 (.cells #[.int .i64 (0)] 24),pt b1 (.cells #[pp J 0] 72)]) (List.perm_append_comm (l₁:=[pt b2 (.cells #[.int .i64 (0)] 24),pt b1 (.cells #[pp J 0] 72)]))
 obtain⟨β1,sb,kn,hw1,back⟩:=St.frame hw
 refine(hdo β1 sb w hw1).mono ?_
 rintro e w' (⟨rfl,hB,hw'⟩|⟨rfl,hA,hw'⟩)
 ·refine .inl ⟨_,rfl,_,back _ _ hw',?_⟩
  refine f_then_panic ?_
  intro a w ha hw
  show Leaves _ _ a.tmps _ a.defers _ w
  rw[ha.defers]
  refine leaves_cons (f:=99) (args:= #[pp b1 0,pp b2 0]) (by simp) (by simp[invoke,run_callF (show cfB Tryz.prog 99=true from by kernel_rfl)]) ?_
  replace hw:=hw.perm (L':=[pt b1 (.cells #[pp J 0] 72),pt b2 (.cells #[.int .i64 (0)] 24),pt J (.cells #[x0,x1,x2,x3,x4,x5,x6] 120)]++K2) (by exact att_perm)
  obtain⟨β2,sb2,kn2,hw2,back2⟩:=St.frame hw
  refine(att1_pan β2 w b1 b2 J _ x0 x1 x2 x3 x4 x5 x6 hw2).mono ?_
  rintro e u' w2 ⟨rfl,rfl,hw3⟩
  have hw4:=back2 _ _ hw3
  refine⟨_,run_results (l:=[.cell 4 24]) (m:=[.int .i64 310]) Tryz.results59 ha.get hw4 ⟨rd_cell1 tf44.ok (v:= .int .i64 310) rfl (k_pt 1 rfl rfl),trivial⟩,.inr ⟨rfl,hB,?_⟩⟩
  exact hw4.drop (List.Sublist.cons _ (List.Sublist.cons _ (List.Sublist.refl _)))
 refine .inr ⟨_,rfl,_,back _ _ hw',?_⟩
 refine lnc ?_
 refine l_perm (L':=[pt b2 (.cells #[.int .i64 (0)] 24),pt b1 (.cells #[pp J 0] 72)]++(pt J (.cells #[x0,x1,x2,x3,x4,x5,x6] 120)::K1)) (by exact List.perm_append_comm) ?_
 refine lu (mS 0 (#[.int .i64 (0)])) (lnf (c_ret ?_))
 intro a w ha hw
 show Leaves _ _ a.tmps _ a.defers _ w
 rw[ha.defers]
 refine leaves_cons (f:=99) (args:= #[pp b1 0,pp b2 0]) (by simp) (by simp[invoke,run_callF (show cfB Tryz.prog 99=true from by kernel_rfl)]) ?_
 refine(att1_ret _ w b1 b2 _ hw).mono ?_
 rintro e u' w2 ⟨rfl,rfl,hw3⟩
 refine⟨_,run_results (l:=[.cell 4 24]) (m:=[.int .i64 0]) Tryz.results59 ha.get hw3 ⟨rd_cell1 tf44.ok (v:= .int .i64 0) rfl (k_pt 0 rfl rfl),trivial⟩,.inl ⟨rfl,hA,?_⟩⟩
 exact St.drop hw3 (List.Sublist.cons _ (List.Sublist.cons _ (List.Sublist.refl _)))
end Go.Proofs
