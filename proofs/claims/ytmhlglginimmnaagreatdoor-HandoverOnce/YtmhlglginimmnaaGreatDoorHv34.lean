/-
 A town: find: walked. Printed by a program of my own.
-/
import Derived.Test.YtmhlglginimmnaaGreatDoorHv33
set_option linter.all false
namespace Go.Proofs
open Go Go.Sl Go.Hv Go.Jn
instance vd0:ZerC Tryz.prog 32 (.agg #[.int .i64 (0),.slice none 0 0]):={}
instance vd1:FldC Tryz.prog 58 1 3 3 true:={}
instance vd2:TyC Tryz.prog 55 true 3:={}
instance vd3:ArrC Tryz.prog 55 3 23 1:={}
instance vd4:TyC Tryz.prog 23 false 1:={}
instance vd5:CfC Tryz.prog 16:={}
instance vd6:UndC Tryz.prog 40 32:={}
theorem vd7:slB Tryz.prog 40 32 2=true:=by kernel_rfl
instance vd8:TyC Tryz.prog 32 true 2:={}
instance vd9:FldC Tryz.prog 32 0 0 1 false:={}
instance vd10:TyC Tryz.prog 3 false 1:={}
instance vd11:CfC Tryz.prog 20:={}
instance vd12:UndC Tryz.prog 35 38:={}
theorem vd13:slB Tryz.prog 35 38 6=true:=by kernel_rfl
instance vd14:TyC Tryz.prog 38 true 6:={}
instance vd15:ZerC Tryz.prog 38 (.agg #[.int .i64 (0),.int .i64 (0),.int .i64 (0),.bool false,.int .i64 (0),.slice none 0 0]):={}
instance vd16:FldC Tryz.prog 38 4 4 2 true:={}
instance vd17:FldC Tryz.prog 38 0 0 1 false:={}
instance vd18:FldC Tryz.prog 38 1 1 1 false:={}
instance vd19:FldC Tryz.prog 38 2 2 1 false:={}
instance vd20:CfC Tryz.prog 17:={}
set_option maxHeartbeats 4000000 in
theorem tfind_ok(β:Base)(w:World)(T:Nat)(ss gs:P3)(p:Option Addr)(n c:Nat)(tg nx:KN7)(Gs Ss:List Nat)(Xs:List KG)(N:Nat)(hgl:Gs.length=3)(hsl:Ss.length=3)(hnet:Net 3 Xs)(hgs:∀k,k<3→gs.at k=Gs[k]?)(id:Int)(o:Option KEnt)(ho:o.toList=plA Xs id 3)(hw:St β [twR T ss gs p n c tg nx,netR Gs Ss Xs N false] w):Calls Tryz.prog 54 #[pp T 0,Ix id] w fun r w'=>∃hd:KEh,r= .returned (.tuple #[Nx o.toList.length,.agg #[Ix hd.id,.slice hd.p hd.n hd.c]])∧(∀e,o=some e→EHd (hd,e))∧St β [poolR (o.toList.map fun e=>(hd,e)),twR T ss gs p n c tg nx,netR Gs Ss Xs N false] w':=by
 refine enter (n:=87) Tryz.func54 rfl Tryz.ntmps54 rfl ?_ hw
 refine csr (lE oai (alE fun b1=>lnc (lE oai (lnc (alE fun b2=>lnf (cs2 (c_emp (r:=poolR []) (pool_nil _) ?_)))))))
 refine c_re (L':=[poolR [],pt b2 (.cells #[Ix ((⟨0,none,0,0⟩:KEh).id),.slice ((⟨0,none,0,0⟩:KEh).p) ((⟨0,none,0,0⟩:KEh).n) ((⟨0,none,0,0⟩:KEh).c)] 32),pt b1 (.cells #[.int .i64 (0),.slice none 0 0] 32),twR T ss gs p n c tg nx,netR Gs Ss Xs N false]) rfl ?_
 refine rbs 6 (v:=Nx ((none:Option KEnt).toList.length)) rfl (c_region (lE omp (lE onp (lE ofp ?_))))
 refine lv (v:= .agg (gs.toL.map ptv).toArray) (e_load vd2.ok (a:=⟨T,3,none⟩) rfl (k_twA 3 rfl) rfl) (lE omi (lnf (c_block ?_)))
 refine c_mask [true,true,true,true,true] rfl ?_
 refine c_loop (fun(x_:Nat×Option KEnt×KEh×EPool) f L=>match x_ with|(zg,oqz,hdz,zo)=>(f 0=pp T 0∧f 1=Ix (id)∧f 5=pp b1 0∧f 6=Nx (oqz.toList.length)∧f 7=pp b2 0∧f 17= .agg (gs.toL.map ptv).toArray∧f 18=Nx (zg))∧L=[poolR zo,pt b2 (.cells #[Ix (hdz.id),.slice hdz.p (hdz.n) hdz.c] 32),pt b1 (.cells #[.int .i64 (0),.slice none 0 0] 32),twR T ss gs p n c tg nx,netR Gs Ss Xs N false]∧(zg≤3∧FndOk oqz hdz zo∧oqz.toList=plA Xs id zg)) (fun(zg,oqz,hdz,zo)=>3-zg) (0,(none:Option KEnt),(⟨0,none,0,0⟩:KEh),([]:EPool)) ?_ ?_
 ·exact⟨⟨rfl,rfl,rfl,rfl,rfl,rfl,rfl⟩,rfl,⟨Nat.zero_le _,FndOk.none,plA_zero.symm⟩⟩
 rintro⟨zg,oqz,hdz,zo⟩ f0 L0 ⟨⟨hs0,hs1,hs5,hs6,hs7,hs17,hs18⟩,hL,⟨hz3,hfo,hpo⟩⟩
 subst L0
 refine rbs 0 hs0 (rbs 1 hs1 (rbs 5 hs5 (rbs 6 hs6 (rbs 7 hs7 (rbs 17 hs17 (rbs 18 hs18 (csr (lE olt (lnf (c_seq ?_))))))))))
 refine c_if _ rfl (fun hc3=> ?_) (fun hc3=> ?_)
 ·refine csk (c_seq (c_block (c_seq ?_)))
  obtain⟨G4,hg5⟩:∃q_,Gs[zg]? =some q_:=⟨_,List.getElem?_eq_getElem (by omega)⟩
  have hlh:=hnet.few (a:=zg) (by omega)
  obtain⟨⟨Nz,hxz⟩,hzz⟩:=hnet.ok zg (by omega)
  have hlo:=hxz.ofew
  refine c_region (lE omi ?_)
  refine lv (v:=pp G4 0) (e_index1 (xs:=gs.toL.map ptv) (k:=zg) rfl rfl vd3.ok (by rw[List.getElem?_map,P3.get (by omega),((hgs zg (by omega)).trans hg5)]<;>rfl) (by omega) vd4.ok) ?_
  refine lE oai (lE oap (lnf (cs2 (c_region (lE omp (l_call rfl rfl rfl (cl0 (vs:=[pp G4 0]) vd5.ok rfl rfl) ?_))))))
  intro w hw
  replace hw:=hw.perm (L':=_::_::_::_::_::[]) (by exact(((((perm_front 3 rfl).trans (perm_front 3 rfl)).trans (perm_front 3 rfl)).trans (perm_front 3 rfl)).trans (perm_front 4 rfl)))
  obtain⟨β1,sb,kn,hw1,back⟩:=St.frame (L:=[_]) (M:=_::_::_::_::[]) hw
  refine(net_keep (R:=fun p c=>entsR p c ((gt Xs zg).here)) hw1 ⟨hgl,hsl,hnet.len⟩ hg5 fun β2 w S hw2=>(hereG_ok β2 w G4 S N (gt Xs zg) false hw2).mono fun _ _ q_=>shownE (L':=(gt Xs zg).here) rfl q_).mono ?_
  rintro e w' ⟨p6,c7,rfl,hw'⟩
  refine⟨_,rfl,_,back _ _ hw',?_⟩
  clear hw hw1 hw' back kn sb
  refine lE oln (lE omi (lnf (c_block (c_openEnts rfl fun ez8 hez9 heh10=> ?_))))
  have hez9l:ez8.length=((gt Xs zg).here).length:=by rw[←hez9,List.length_map]
  have hez9k:(ez8.map Prod.fst).length=ez8.length:=List.length_map _
  refine rbs 23 (v:=sB p6 ez8 c7) (show(sB p6 ((gt Xs zg).here) c7:Value)=sB p6 ez8 c7 from congrArg (fun z=>Value.slice p6 z c7) hez9l.symm) ?_
  refine c_pi [3,1,0,2,4,5,6] 7 rfl (by kernel_rfl) ?_
  refine c_merge (L:=[poolR zo,poolR ez8]) (M:=[rowF EhF 32 p6 c7 (ez8.map Prod.fst),netR Gs Ss Xs N false,pt b2 (.cells #[Ix (hdz.id),.slice hdz.p (hdz.n) hdz.c] 32),pt b1 (.cells #[.int .i64 (0),.slice none 0 0] 32),twR T ss gs p n c tg nx]) (r:=poolR (zo++ez8)) poolR_app ?_
  refine c_mask [true,true,true,true,true,true] rfl ?_
  refine c_loop (fun(x_:Nat×Option KEnt×KEh) f L=>match x_ with|(ja,oqa,hda)=>(f 0=pp T 0∧f 1=Ix (id)∧f 5=pp b1 0∧f 6=Nx (oqa.toList.length)∧f 7=pp b2 0∧f 8=Nx (zg)∧f 9=pp G4 0∧f 17= .agg (gs.toL.map ptv).toArray∧f 18=Nx (zg)∧f 23=sB p6 ez8 c7∧f 24=Nx (((gt Xs zg).here).length)∧f 25=Nx (ja))∧L=[poolR (zo++ez8),rowF EhF 32 p6 c7 (ez8.map Prod.fst),netR Gs Ss Xs N false,pt b2 (.cells #[Ix (hda.id),.slice hda.p (hda.n) hda.c] 32),pt b1 (.cells #[.int .i64 (0),.slice none 0 0] 32),twR T ss gs p n c tg nx]∧(ja≤(gt Xs zg).here.length∧FndOk oqa hda (zo++ez8)∧oqa.toList=plA Xs id zg++plH id ((gt Xs zg).here.take ja))) (fun(ja,oqa,hda)=>(gt Xs zg).here.length-ja) (0,oqz,hdz) ?_ ?_
  ·exact⟨⟨rfl,rfl,rfl,rfl,rfl,rfl,rfl,rfl,rfl,rfl,rfl,rfl⟩,rfl,⟨Nat.zero_le _,hfo.app _,by rw[hpo];exact(List.append_nil _).symm⟩⟩
  rintro⟨ja,oqa,hda⟩ f0 L0 ⟨⟨hs0,hs1,hs5,hs6,hs7,hs8,hs9,hs17,hs18,hs23,hs24,hs25⟩,hL,⟨hj,hf2,hp2⟩⟩
  subst L0
  refine rbs 0 hs0 (rbs 1 hs1 (rbs 5 hs5 (rbs 6 hs6 (rbs 7 hs7 (rbs 8 hs8 (rbs 9 hs9 (rbs 17 hs17 (rbs 18 hs18 (rbs 23 hs23 (rbs 24 hs24 ?_))))))))))
  refine rbs 25 hs25 (csr (lE olt (lnf (c_seq (c_if _ rfl (fun hc11=> ?_) (fun hc11=> ?_))))))
  ·refine csk (c_seq (c_block (c_seq ?_)))
   obtain⟨x12,hx13⟩:∃x_,(ez8.map Prod.fst)[ja]? =some x_:=⟨_,List.getElem?_eq_getElem (by first|omega|decide)⟩
   obtain⟨e14,hs15,hm16,hp17⟩:=ent_at hez9 heh10 hx13
   have hol2:=opt_len oqa
   refine c_region (lv (v:= .pointer (some ((ba p6).add (ja*2)))) (e_indexFlN 1 (F:=EhF) rfl (List.length_map _).symm rfl vd7 (by omega) rfl) ?_)
   refine lv (v:= .agg #[Ix (x12.id),.slice x12.p (x12.n) x12.c]) (e_load vd8.ok rfl (k_flAt 1 (F:=EhF) rfl hx13) rfl) (alE fun b18=> ?_)
   refine lu (mS 0 (#[Ix (x12.id),.slice x12.p (x12.n) x12.c])) (lnc (lE ofp (lE (oli 0) (lE omi (lE oeq_ (lnf ?_))))))
   refine c_if _ rfl (fun hc19=> ?_) (fun hc19=> ?_)
   ·have hxe:e14.id=id:=hm16.id.symm.trans hc19
    have ho2:=fnd_newH hnet (by omega) hs15 hxe hp2
    refine cnz [sv 33 (Nx (oqa.toList.length)) [] [] [0],sv 34 (Nx (oqa.toList.length+1)) [0] [0] [],sv 35 (.agg #[Ix (x12.id),.slice x12.p (x12.n) x12.c]) [] [] [1],sv 6 (Nx (oqa.toList.length+1)) [0,1] [1] [],⟨[0,1,2,3],[2],[2],[],fun _=>True⟩] [u1 [2],u0,u0,u0,(some 4,[4])] [⟨(some 4),none,[],[],fun _=>pt b2 (.cells #[Ix (x12.id),.slice x12.p (x12.n) x12.c] 32)⟩] [(6,Nx (oqa.toList.length)),(11,pp b18 0),(7,pp b2 0),(0,pp T 0),(1,Ix (id)),(5,pp b1 0),(8,Nx (zg)),(9,pp G4 0),(17,.agg (gs.toL.map ptv).toArray),(18,Nx (zg)),(23,sB p6 ez8 c7),(24,Nx (((gt Xs zg).here).length)),(25,Nx (ja))] [3,4,5,2,6,7,8,9,10,11,12] ⟨rfl,rfl,rfl,rfl,rfl,rfl,rfl,rfl,rfl,rfl,rfl,rfl,rfl,trivial⟩ ⟨?_,?_,?_,?_,?_,trivial⟩ ?_
    ·rintro f M-⟨i0,-⟩
     exact obE omi
    ·rintro f M ⟨k0,-⟩-
     exact ob0 (up_cons (d:=33) rfl k0) rfl (e_add (a:=((oqa.toList.length:Nat):Int)) (b:=(1:Int)) rfl rfl (i64n (by omega) (by omega))) (.refl _)
    ·rintro f M-⟨i0,-⟩
     exact obE (olg 0)
    ·rintro f M ⟨k0,-⟩-
     exact obE oai
    ·rintro f M ⟨k0,-⟩ ⟨i0,-⟩
     refine obS (up_cons (d:=35) (up_cons (d:=7) rfl i0) k0) ?_
     refine lu (mS 0 (#[Ix (x12.id),.slice x12.p (x12.n) x12.c])) (l_nil ?_)
     exact f_owes_n (up_cons (d:=35) (up_cons (d:=7) rfl i0) k0) trivial (perm_front 0 rfl)
    rintro fa20 ⟨-,-,-,k3,-,-⟩ ⟨j0,j1,j2,j3,j4,j5,j6,j7,j8,j9,j10,-⟩
    refine fre ?_
    refine f_rebase (d:=0) j0 (f_rebase (d:=1) j1 (f_rebase (d:=5) j2 (f_rebase (d:=6) k3 (f_rebase (d:=7) j3 (f_rebase (d:=8) j4 ?_)))))
    refine f_rebase (d:=9) j5 (f_rebase (d:=17) j6 (f_rebase (d:=18) j7 (f_rebase (d:=23) j8 (f_rebase (d:=24) j9 (f_rebase (d:=25) j10 ?_)))))
    refine f_block (f_then (c_region (lv (v:=Nx (ja+1)) (e_add rfl rfl (i64n (by omega) (by omega))) (lE omi (l_nil (fpn [1,2,3,6,4,5,0] 7 ?_))))))
    refine f_mask [true,true,true,true,true,true,false] rfl ?_
    exact f_cut ⟨(ja+1,(some e14),x12),⟨⟨rfl,rfl,rfl,(congrArg (fun z:Nat=>Nx z) (by rw[ho2]<;>rfl)),rfl,rfl,rfl,rfl,rfl,rfl,rfl,rfl⟩,rfl,⟨by omega,FndOk.some hp17 hm16,by rw[plH_yes hs15 hxe,←List.append_assoc,←hp2,ho2]<;>rfl⟩⟩,(show(gt Xs zg).here.length-(ja+1)<(gt Xs zg).here.length-ja from by omega)⟩
   refine c_skip (f_block (f_then ?_))
   have hxe:¬e14.id=id:=fun q=>hc19 (hm16.id.trans q)
   refine c_region (lv (v:=Nx (ja+1)) (e_add rfl rfl (i64n (by omega) (by omega))) (lE omi (l_nil ?_)))
   refine f_mask [false,true,true,true,true,true,true] rfl ?_
   exact f_cut ⟨(ja+1,oqa,hda),⟨⟨rfl,rfl,rfl,rfl,rfl,rfl,rfl,rfl,rfl,rfl,rfl,rfl⟩,rfl,⟨by omega,hf2,by rw[plH_no hs15 hxe];exact hp2⟩⟩,(show(gt Xs zg).here.length-(ja+1)<(gt Xs zg).here.length-ja from by omega)⟩
  refine c_exit (f_then_exit (f_then_exit (f_exit (ftc (lE omp (l_call rfl rfl rfl (cl0 (vs:=[pp G4 0]) vd11.ok rfl rfl) ?_))))))
  intro w hw
  replace hw:=hw.perm (L':=_::_::_::_::_::_::[]) (by exact((((((perm_front 5 rfl).trans (perm_front 5 rfl)).trans (perm_front 5 rfl)).trans (perm_front 4 rfl)).trans (perm_front 4 rfl)).trans (perm_front 5 rfl)))
  obtain⟨β1,sb,kn,hw1,back⟩:=St.frame (L:=[_]) (M:=_::_::_::_::_::[]) hw
  refine(net_keep (R:=fun p c=>msgsR p c ((gt Xs zg).out)) hw1 ⟨hgl,hsl,hnet.len⟩ hg5 fun β2 w S hw2=>(outG_ok β2 w G4 S N (gt Xs zg) false hw2).mono fun _ _ q_=>shownM (L':=(gt Xs zg).out) rfl q_).mono ?_
  rintro e w' ⟨p21,c22,rfl,hw'⟩
  refine⟨_,rfl,_,back _ _ hw',?_⟩
  clear hw hw1 hw' back kn sb
  refine lE oln (lE omi (lnf (c_block (c_openMsgs rfl fun oz23 hoz24 hoh25=> ?_))))
  have hoz24l:oz23.length=((gt Xs zg).out).length:=by rw[←hoz24,List.length_map]
  have hoz24k:(oz23.map Prod.fst).length=oz23.length:=List.length_map _
  refine rbs 38 (v:=sB p21 oz23 c22) (show(sB p21 ((gt Xs zg).out) c22:Value)=sB p21 oz23 c22 from congrArg (fun z=>Value.slice p21 z c22) hoz24l.symm) ?_
  refine c_pi [3,1,0,2,4,5,6,7] 8 rfl (by kernel_rfl) ?_
  refine c_merge (L:=[poolR (zo++ez8),poolR (MPool.e oz23)]) (M:=[rowF MgF 38 p21 c22 (oz23.map Prod.fst),netR Gs Ss Xs N false,rowF EhF 32 p6 c7 (ez8.map Prod.fst),pt b2 (.cells #[Ix (hda.id),.slice hda.p (hda.n) hda.c] 32),pt b1 (.cells #[.int .i64 (0),.slice none 0 0] 32),twR T ss gs p n c tg nx]) (r:=poolR ((zo++ez8)++(MPool.e oz23))) poolR_app ?_
  refine c_mask [true,true,true,true,true,true,true] rfl ?_
  refine c_loop (fun(x_:Nat×Option KEnt×KEh) f L=>match x_ with|(jb,oqb,hdb)=>(f 0=pp T 0∧f 1=Ix (id)∧f 5=pp b1 0∧f 6=Nx (oqb.toList.length)∧f 7=pp b2 0∧f 8=Nx (zg)∧f 17= .agg (gs.toL.map ptv).toArray∧f 18=Nx (zg)∧f 38=sB p21 oz23 c22∧f 39=Nx (((gt Xs zg).out).length)∧f 40=Nx (jb))∧L=[poolR ((zo++ez8)++(MPool.e oz23)),rowF MgF 38 p21 c22 (oz23.map Prod.fst),netR Gs Ss Xs N false,rowF EhF 32 p6 c7 (ez8.map Prod.fst),pt b2 (.cells #[Ix (hdb.id),.slice hdb.p (hdb.n) hdb.c] 32),pt b1 (.cells #[.int .i64 (0),.slice none 0 0] 32),twR T ss gs p n c tg nx]∧(jb≤(gt Xs zg).out.length∧FndOk oqb hdb ((zo++ez8)++(MPool.e oz23))∧oqb.toList=plA Xs id zg++(plH id (gt Xs zg).here++plO Xs zg id ((gt Xs zg).out.take jb)))) (fun(jb,oqb,hdb)=>(gt Xs zg).out.length-jb) (0,oqa,hda) ?_ ?_
  ·exact⟨⟨rfl,rfl,rfl,rfl,rfl,rfl,rfl,rfl,rfl,rfl,rfl⟩,rfl,⟨Nat.zero_le _,hf2.app _,by rw[hp2,show ja=(gt Xs zg).here.length by omega,List.take_length];exact congrArg (plA Xs id zg++ ·) (List.append_nil _).symm⟩⟩
  rintro⟨jb,oqb,hdb⟩ f0 L0 ⟨⟨hs0,hs1,hs5,hs6,hs7,hs8,hs17,hs18,hs38,hs39,hs40⟩,hL,⟨hj3,hf3,hp3⟩⟩
  subst L0
  refine rbs 0 hs0 (rbs 1 hs1 (rbs 5 hs5 (rbs 6 hs6 (rbs 7 hs7 (rbs 8 hs8 (rbs 17 hs17 (rbs 18 hs18 (rbs 38 hs38 (rbs 39 hs39 (rbs 40 hs40 (csr ?_)))))))))))
  refine lE olt (lnf (c_seq (c_if _ rfl (fun hc26=> ?_) (fun hc26=> ?_))))
  ·refine csk (c_seq (c_block (c_seq ?_)))
   obtain⟨x27,hx28⟩:∃x_,(oz23.map Prod.fst)[jb]? =some x_:=⟨_,List.getElem?_eq_getElem (by first|omega|decide)⟩
   obtain⟨s29,hs30,hm31,hp32⟩:=msg_at hoz24 hoh25 hx28
   have hol3:=opt_len oqb
   obtain⟨b,hb3,hbz,hbt⟩:=hnet.to zg (by omega) s29 (List.mem_of_getElem? hs30)
   have hxs:x27.src=((zg+1:Nat):Int):=hm31.src.trans ((hxz.ohd s29 (List.mem_of_getElem? hs30)).1.trans hzz)
   have hxt:x27.to=((b+1:Nat):Int):=hm31.to.trans hbt
   refine c_region (lv (v:= .pointer (some ((ba p21).add (jb*6)))) (e_indexFlN 1 (F:=MgF) rfl (List.length_map _).symm rfl vd13 (by omega) rfl) ?_)
   refine lv (v:= .agg #[Ix (x27.src),Ix (x27.to),Ix (x27.number),.bool (x27.ack),Ix (x27.id),.slice x27.p (x27.n) x27.c]) (e_load vd14.ok rfl (k_flAt 1 (F:=MgF) rfl hx28) rfl) ?_
   refine alE fun b33=>lu (mS 0 (#[Ix (x27.src),Ix (x27.to),Ix (x27.number),.bool (x27.ack),Ix (x27.id),.slice x27.p (x27.n) x27.c])) (lnf (cs2 ?_))
   refine c_region (lE ofp (lE ofp (lE (oli 0) (lE omi (lE onq (lnf (c_if _ rfl (fun hc34=> ?_) (fun hc34=> ?_))))))))
   ·refine c_exit (f_then_exit (f_exit (f_then ?_)))
    have hxm:¬s29.e.id=id:=fun q=>hc34 (hm31.id.trans q)
    refine c_region (lv (v:=Nx (jb+1)) (e_add rfl rfl (i64n (by omega) (by omega))) (lE omi (l_nil ?_)))
    refine f_mask [false,true,true,true,true,true,true,true] rfl ?_
    exact f_cut ⟨(jb+1,oqb,hdb),⟨⟨rfl,rfl,rfl,rfl,rfl,rfl,rfl,rfl,rfl,rfl,rfl⟩,rfl,⟨by omega,hf3,by rw[plO_no hs30 (fun q=>hxm q.1)];exact hp3⟩⟩,(show(gt Xs zg).out.length-(jb+1)<(gt Xs zg).out.length-jb from by omega)⟩
   refine csk (cs2 ?_)
   have hxm:s29.e.id=id:=hm31.id.symm.trans (Decidable.not_not.1 hc34)
   refine c_region (lE ofp (lE (oli 0) (lE omi (lv (v:=Nx (zg+1)) (e_add rfl rfl (i64n (by omega) (by omega))) (lE onq (lE omb ?_))))))
   refine l_split (s:=54) rfl (fun h=> ?_) (fun h=> ?_)
   exact absurd h (by omega)
   refine gE ofp (gE (oli 0) (gE olt (lE okfb (lE omb (l_split (s:=59) rfl (fun h=> ?_) (fun h=> ?_))))))
   exact absurd h (by omega)
   refine gE ofp (gE (oli 0) (gE ogt (lE okfb (lnf (c_if _ rfl (fun hc35=> ?_) (fun hc35=> ?_))))))
   ·exact absurd hc35 (by omega)
   refine csk (c_seq ?_)
   obtain⟨G36,hg37⟩:∃q_,Gs[b]? =some q_:=⟨_,List.getElem?_eq_getElem (by omega)⟩
   refine cnz [sv 65 (pp b33 2) [] [] [0],sv 66 (Ix (x27.number)) [0] [0] [],sv 67 (pp T 0) [] [] [1],sv 68 (pp b33 1) [] [] [0],sv 69 (Ix (x27.to)) [3] [3] [],sv 70 (Ix ((x27.to)-(1:Int))) [3,4] [4] [],sv 71 (pp T 0) [2] [2] [],sv 72 (pp T 3) [2,6] [6] [],sv 73 (.pointer (some ((⟨T,3,none⟩:Addr).add (b*1)))) [2,3,4,5,6,7] [7,5] [],sv 74 (pp G36 0) [2,3,4,5,6,7,8] [8] [],sv 75 (pp b33 0) [] [] [0],sv 76 (Ix (x27.src)) [10] [10] [],sv 77 (Ix ((gt Xs b).lv.at (zg+1))) [2,3,4,5,6,7,8,9,10,11] [9,11] [],sv 78 (.bool (decide (((gt Xs b).lv.at (zg+1))<(x27.number)))) (List.range 13) [1,12] []] [u1 [1,4,11],u0,u0,u1 [12],u0,u0,u0,u1 [9]] [] [(13,pp b33 0),(0,pp T 0),(1,Ix (id)),(5,pp b1 0),(6,Nx (oqb.toList.length)),(7,pp b2 0),(8,Nx (zg)),(17,.agg (gs.toL.map ptv).toArray),(18,Nx (zg)),(38,sB p21 oz23 c22),(39,Nx (((gt Xs zg).out).length)),(40,Nx (jb))] [1,2,3,4,5,6,0,7,8,9,10,11] ⟨rfl,rfl,rfl,rfl,rfl,rfl,rfl,rfl,rfl,rfl,rfl,rfl,trivial⟩ ⟨?_,?_,?_,?_,?_,?_,?_,?_,?_,?_,?_,?_,?_,?_,trivial⟩ ?_
   ·rintro f M-⟨i0,-⟩
    exact obE ofp
   ·rintro f M ⟨k0,-⟩-
    exact obE (oli 0)
   ·rintro f M-⟨i0,-⟩
    exact obE omp
   ·rintro f M-⟨i0,-⟩
    exact obE ofp
   ·rintro f M ⟨k0,-⟩-
    exact obE (oli 0)
   ·rintro f M ⟨k0,-⟩-
    exact obE omn
   ·rintro f M ⟨k0,-⟩-
    exact obE onp
   ·rintro f M ⟨k0,-⟩-
    exact obE ofp
   ·rintro f M ⟨k0,k1,-⟩-
    exact ob0 (up_cons (d:=70) (up_cons (d:=72) rfl k0) k1) rfl (e_indexArrI (a:=⟨T,3,none⟩) (k:=b) rfl (show(Ix ((x27.to)-(1:Int)):Value)=Ix ((b:Nat):Int)from congrArg (Value.int .i64) (by omega)) vd3.ok (by omega)) (.refl _)
   ·rintro f M ⟨k0,-⟩-
    exact obv (L':=twR T ss gs p n c tg nx::M) (up_cons (d:=73) rfl k0) rfl (e_load1 vd4.ok rfl (k_twGe 0 rfl (by omega) ((hgs b (by omega)).trans hg37))) (perm_front 0 rfl) (by rfl)
   ·rintro f M-⟨i0,-⟩
    exact obE ofp
   ·rintro f M ⟨k0,-⟩-
    exact obE (oli 0)
   ·rintro f M ⟨k0,k1,-⟩-
    refine obS (up_cons (d:=76) (up_cons (d:=74) rfl k0) k1) ?_
    refine l_call rfl rfl rfl (cl0 (vs:=[pp G36 0,Ix (x27.src)]) vd20.ok rfl rfl) ?_
    intro w hw
    replace hw:=hw.perm (L':=_::M) (by exact(perm_front 0 rfl))
    obtain⟨β1,sb,kn,hw1,back⟩:=St.frame (L:=[_]) (M:=M) hw
    refine(net_same hw1 ⟨hgl,hsl,hnet.len⟩ hg37 fun β2 w S hw2=>(lastG_ok β2 w G36 S N (gt Xs b) false hw2 x27.src).mono fun _ _ q_=>shownL (b:=(gt Xs b).lv.at (zg+1)) (by rw[hxs];exact last_ix hnet hb3 (by omega) hbz) q_).mono ?_
    rintro e w' ⟨rfl,hw'⟩
    refine⟨_,rfl,_,back _ _ hw',?_⟩
    clear hw hw1 hw' back kn sb
    refine l_nil ?_
    exact f_owes_d (up_cons (d:=76) (up_cons (d:=74) rfl k0) k1) rfl (perm_front 0 rfl)
   ·rintro f M ⟨k0,k1,-⟩-
    exact obE ogt
   rintro fa38 ⟨-,-,-,-,-,-,-,-,-,-,-,-,-,k13,-⟩ ⟨j0,j1,j2,j3,j4,j5,j6,j7,j8,j9,j10,j11,-⟩
   refine fre ?_
   refine f_rebase (d:=0) j0 (f_rebase (d:=1) j1 (f_rebase (d:=5) j2 (f_rebase (d:=6) j3 (f_rebase (d:=7) j4 (f_rebase (d:=8) j5 ?_)))))
   refine f_rebase (d:=13) j6 (f_rebase (d:=17) j7 (f_rebase (d:=18) j8 (f_rebase (d:=38) j9 (f_rebase (d:=39) j10 (f_rebase (d:=40) j11 ?_)))))
   refine f_rebase (d:=78) k13 (f_then (c_if _ rfl (fun hc39=> ?_) (fun hc39=> ?_)))
   ·have hwy:(gt Xs b).lv.at (zg+1)<s29.number:=by have hnn:x27.number=s29.number:=hm31.number;have:=hc39;omega
    have ho3:=fnd_newO hnet (by omega) hs30 hxm (wayB_yes hbt hwy) hp3
    refine cnz [sv 79 (Nx (oqb.toList.length)) [] [] [0],sv 80 (Nx (oqb.toList.length+1)) [0] [0] [],sv 81 (pp b33 4) [] [] [1],sv 82 (.agg #[Ix (x27.id),.slice x27.p (x27.n) x27.c]) [2] [2] [],sv 6 (Nx (oqb.toList.length+1)) [0,1] [1] [],⟨[0,1,2,3,4],[3],[2],[],fun _=>True⟩] [u1 [3],u0,u0,u0,u0,(some 5,[5])] [⟨(some 5),none,[],[],fun _=>pt b2 (.cells #[Ix (x27.id),.slice x27.p (x27.n) x27.c] 32)⟩] [(6,Nx (oqb.toList.length)),(13,pp b33 0),(7,pp b2 0),(0,pp T 0),(1,Ix (id)),(5,pp b1 0),(8,Nx (zg)),(17,.agg (gs.toL.map ptv).toArray),(18,Nx (zg)),(38,sB p21 oz23 c22),(39,Nx (((gt Xs zg).out).length)),(40,Nx (jb))] [3,4,5,2,6,7,8,9,10,11] ⟨rfl,rfl,rfl,rfl,rfl,rfl,rfl,rfl,rfl,rfl,rfl,rfl,trivial⟩ ⟨?_,?_,?_,?_,?_,?_,trivial⟩ ?_
    ·rintro f M-⟨i0,-⟩
     exact obE omi
    ·rintro f M ⟨k0,-⟩-
     exact ob0 (up_cons (d:=79) rfl k0) rfl (e_add (a:=((oqb.toList.length:Nat):Int)) (b:=(1:Int)) rfl rfl (i64n (by omega) (by omega))) (.refl _)
    ·rintro f M-⟨i0,-⟩
     exact obE ofp
    ·rintro f M ⟨k0,-⟩-
     exact obE (olg 0)
    ·rintro f M ⟨k0,-⟩-
     exact obE oai
    ·rintro f M ⟨k0,-⟩ ⟨i0,-⟩
     refine obS (up_cons (d:=82) (up_cons (d:=7) rfl i0) k0) ?_
     refine lu (mS 0 (#[Ix (x27.id),.slice x27.p (x27.n) x27.c])) (l_nil ?_)
     exact f_owes_n (up_cons (d:=82) (up_cons (d:=7) rfl i0) k0) trivial (perm_front 0 rfl)
    rintro fa40 ⟨-,-,-,-,k4,-,-⟩ ⟨j0,j1,j2,j3,j4,j5,j6,j7,j8,j9,-⟩
    refine fre ?_
    refine f_rebase (d:=0) j0 (f_rebase (d:=1) j1 (f_rebase (d:=5) j2 (f_rebase (d:=6) k4 (f_rebase (d:=7) j3 (f_rebase (d:=8) j4 ?_)))))
    refine f_rebase (d:=17) j5 (f_rebase (d:=18) j6 (f_rebase (d:=38) j7 (f_rebase (d:=39) j8 (f_rebase (d:=40) j9 (f_block (f_then ?_))))))
    refine c_region (lv (v:=Nx (jb+1)) (e_add rfl rfl (i64n (by omega) (by omega))) (lE omi (l_nil (fpn [1,2,3,4,7,5,6,0] 8 ?_))))
    refine f_mask [true,true,true,true,true,true,true,false] rfl ?_
    exact f_cut ⟨(jb+1,(some s29.e),x27.eh),⟨⟨rfl,rfl,rfl,(congrArg (fun z:Nat=>Nx z) (by rw[ho3]<;>rfl)),rfl,rfl,rfl,rfl,rfl,rfl,rfl⟩,rfl,⟨by omega,FndOk.some hp32 hm31.eh,by rw[plO_yes hs30 hxm (wayB_yes hbt hwy),←List.append_assoc,←List.append_assoc,List.append_assoc (plA Xs id zg),←hp3,ho3]<;>rfl⟩⟩,(show(gt Xs zg).out.length-(jb+1)<(gt Xs zg).out.length-jb from by omega)⟩
   refine c_skip (f_block (f_then ?_))
   have hwy:¬(gt Xs b).lv.at (zg+1)<s29.number:=by have hnn:x27.number=s29.number:=hm31.number;have:=hc39;omega
   refine c_region (lv (v:=Nx (jb+1)) (e_add rfl rfl (i64n (by omega) (by omega))) (lE omi (l_nil ?_)))
   refine f_mask [false,true,true,true,true,true,true,true] rfl ?_
   exact f_cut ⟨(jb+1,oqb,hdb),⟨⟨rfl,rfl,rfl,rfl,rfl,rfl,rfl,rfl,rfl,rfl,rfl⟩,rfl,⟨by omega,hf3,by rw[plO_no hs30 (fun q=>wayB_no hbt hwy q.2)];exact hp3⟩⟩,(show(gt Xs zg).out.length-(jb+1)<(gt Xs zg).out.length-jb from by omega)⟩
  refine c_exit (f_then_exit (f_then_exit (f_exit (f_block (f_then (c_region (lv (v:=Nx (zg+1)) (e_add rfl rfl (i64n (by omega) (by omega))) ?_)))))))
  refine lE omi (l_nil (fpn [0,4,5,6,2,1,3] 7 ?_))
  refine f_mask [true,true,true,true,true,false,false] rfl ?_
  exact f_cut ⟨(zg+1,oqb,hdb,((zo++ez8)++(MPool.e oz23))),⟨⟨rfl,rfl,rfl,rfl,rfl,rfl,rfl⟩,rfl,⟨by omega,hf3,by rw[hp3,show jb=(gt Xs zg).out.length by omega,List.take_length,plA_succ]⟩⟩,(show 3-(zg+1)<3-zg from by omega)⟩
 refine c_exit (f_then_exit (f_then_exit (f_exit (fts ?_))))
 refine cnz [sv 85 (Nx (oqz.toList.length)) [] [] [0],sv 86 (.agg #[Ix (hdz.id),.slice hdz.p (hdz.n) hdz.c]) [] [] [1],sv 4 (Nx (oqz.toList.length)) [0] [0] [],⟨[0,1,2],[1],[2],[],fun _=>True⟩] [u0,u1 [1],(some 3,[3])] [⟨(some 3),none,[],[],fun _=>pt b1 (.cells #[Ix (hdz.id),.slice hdz.p (hdz.n) hdz.c] 32)⟩] [(6,Nx (oqz.toList.length)),(7,pp b2 0),(5,pp b1 0)] [2] ⟨rfl,rfl,rfl,trivial⟩ ⟨?_,?_,?_,?_,trivial⟩ ?_
 ·rintro f M-⟨i0,-⟩
  exact obE omi
 ·rintro f M-⟨i0,-⟩
  exact obE (olg 0)
 ·rintro f M ⟨k0,-⟩-
  exact obE oai
 ·rintro f M ⟨k0,-⟩ ⟨i0,-⟩
  refine obS (up_cons (d:=86) (up_cons (d:=5) rfl i0) k0) ?_
  refine lu (mS 0 (#[Ix (hdz.id),.slice hdz.p (hdz.n) hdz.c])) (l_nil ?_)
  exact f_owes_n (up_cons (d:=86) (up_cons (d:=5) rfl i0) k0) trivial (perm_front 0 rfl)
 rintro fa41 ⟨-,-,k2,-,-⟩ ⟨j0,-⟩
 refine fre ?_
 refine f_rebase (d:=4) k2 (f_rebase (d:=5) j0 (ftr ?_))
 refine retG (m:=[Nx (oqz.toList.length),.agg #[Ix (hdz.id),.slice hdz.p (hdz.n) hdz.c]]) Tryz.results54 ⟨rd_tmp (v:=Nx (oqz.toList.length)) rfl,rd_cell vd8.ok rfl (k_pt 4 rfl rfl) rfl,trivial⟩ rfl ?_
 intro w hw
 have hoo:oqz=o:=opt_inj (by rw[hpo,show zg=3 by omega];exact ho.symm)
 subst hoo
 exact⟨hdz,rfl,fun e q=>(hfo e q).2,(St.perm (st_mask [true,false,true,true,false] rfl hw) (perm_ix (L:=[poolR zo,twR T ss gs p n c tg nx,netR Gs Ss Xs N false]) (L':=[poolR zo,twR T ss gs p n c tg nx,netR Gs Ss Xs N false]) [0,1,2] 3 rfl (by kernel_rfl) (by kernel_rfl))).conseq (pool_pick hfo)⟩
end Go.Proofs
