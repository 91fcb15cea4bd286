/-
 Own work; plain Lean (Hv15, Hv16).
-/
import Derived.Test.YtmhlglginimmnaaGreatDoorHv14
set_option linter.all false
namespace Go.Sl
theorem St.re2{β:Base}{a b c:Res}{w:World}(h:St β [a,b] w)(e:b=c):St β [a,c] w:=by subst e;exact h
end Go.Sl
namespace Go.Hv
open Go Go.Sl Go.Proofs
theorem GOk.fill{X:KG}{Y:KG}{i:Nat}{kt:List (Int×KEh)}{nz:MPool}{zu:EPool}(h:GOk {X with out:=(Y.out.take i).map src0} kt nz zu){m:KMs}(hm:Y.out[i]? =some m)(hak:false=m.ack){p:Option Addr}{c:Nat}{hd:KMg}(hh:hd=⟨0,m.to,m.number,false,m.e.id,p,m.e.comps.length,c⟩):
  GOk {X with out:=(Y.out.take (i+1)).map src0} kt (nz++[(hd,src0 m)]) (zu++[(⟨m.e.id,p,m.e.comps.length,c⟩,⟨m.e.id,m.e.comps⟩)]):=by
 subst hh
 refine⟨h.keys,fun e he=> ?_,h.none_,all_snoc h.hdr ⟨rfl,rfl⟩,?_,fun z hz=> ?_⟩
 ·obtain⟨y,h1,h2⟩:=h.some_ e he;exact⟨y,h1,List.mem_append_left _ h2⟩
 ·rw[List.map_append,h.out,List.take_add_one,hm,List.map_append];rfl
 rcases List.mem_append.1 hz with hz|hz
 ·exact⟨(h.mhd z hz).1,List.mem_append_left _ (h.mhd z hz).2⟩
 rw[List.mem_singleton.1 hz]
 exact⟨⟨rfl,rfl,rfl,hak,rfl,rfl⟩,List.mem_append_right _ (List.mem_singleton.2 rfl)⟩
end Go.Hv
namespace Go.Proofs
open Go Go.Sl Go.Hv
open Go.Td (sortI sortI_perm sortI_eq sortI_sorted)
instance ug0:CfC Tryz.prog 68:={}
instance ug1:TyC Tryz.prog 3 false 1:={}
instance ug2:FldC Tryz.prog 75 0 0 1 false:={}
instance ug3:TyC Tryz.prog 73 false 1:={}
instance ug4:FldC Tryz.prog 75 1 1 1 false:={}
instance ug5:TyC Tryz.prog 35 false 1:={}
instance ug6:UndC Tryz.prog 35 38:={}
instance ug7:ZerC Tryz.prog 3 (.int .i64 (0)):={}
instance ug8:CfC Tryz.prog 66:={}
instance ug9:CfC Tryz.prog 51:={}
instance ug10:CfC Tryz.prog 50:={}
theorem ug11:stB Tryz.prog 32 [(0,1),(1,1)]=true:=by kernel_rfl
instance ug12:ZerC Tryz.prog 32 (.agg #[.int .i64 (0),.slice none 0 0]):={}
instance ug13:TyC Tryz.prog 32 true 2:={}
instance ug14:UndC Tryz.prog 81 3:={}
instance ug15:CfC Tryz.prog 41:={}
instance ug16:FldC Tryz.prog 32 0 0 1 false:={}
theorem ug17:stB Tryz.prog 38 [(0,1),(1,1),(2,1),(3,1),(4,2)]=true:=by kernel_rfl
instance ug18:ZerC Tryz.prog 38 (.agg #[.int .i64 (0),.int .i64 (0),.int .i64 (0),.bool false,.int .i64 (0),.slice none 0 0]):={}
theorem ug19:slB Tryz.prog 35 38 6=true:=by kernel_rfl
theorem ug20:elB Tryz.prog 38 6 64=true:=by kernel_rfl
instance ug21:FldC Tryz.prog 38 1 1 1 false:={}
instance ug22:FldC Tryz.prog 38 2 2 1 false:={}
instance ug23:FldC Tryz.prog 38 4 4 2 true:={}
instance ug24:FldC Tryz.prog 75 2 2 7 true:={}
instance ug25:ArrC Tryz.prog 56 7 3 1:={}
instance ug26:FldC Tryz.prog 75 3 9 7 true:={}
theorem treadC_ok(β:Base)(w:World)(H:PHeap)(hH:Sub H β.heap)(T:Nat)(n:Int)(hn: -9223372036854775808≤n∧n≤9223372036854775807)(rest:List UInt8)(q:Addr)(R:Int→Res)(hP:Cel q R)(m:Int)(hw:St β [tpR H T (vint n++rest),R m] w):Calls Tryz.prog 66 #[pp T 0,.pointer (some q)] w fun r w'=>r= .returned (.tuple #[])∧St β [tpR H T rest,R n] w':=by
 refine enter (n:=8) Tryz.func66 rfl Tryz.ntmps66 rfl ?_ hw
 refine c_region (lE omp (lE omp (l_call rfl rfl rfl (cl0 (vs:=[pp T 0]) ug0.ok rfl rfl) ?_)))
 intro w hw
 replace hw:=hw.perm (L':=_::_::[]) (by exact((perm_front 1 rfl).trans (perm_front 1 rfl)))
 obtain⟨β1,sb,kn,hw1,back⟩:=St.frame (L:=[_]) (M:=_::[]) hw
 refine(tget_ok β1 w H (hH.trans sb) T n hn rest hw1).mono ?_
 rintro e w' ⟨rfl,hw'⟩
 refine⟨_,rfl,_,back _ _ hw',?_⟩
 clear hw hw1 hw' back kn sb
 refine lE onp (lu (hP.st 1 ug1.ok rfl rfl rfl) (l_nil (end0 Tryz.results66 ?_)))
 intro w hw
 exact⟨rfl,hw⟩
set_option maxHeartbeats 4000000 in
theorem wholeR_ok(β:Base)(w:World)(H:PHeap)(hH:Sub H β.heap)(G J:Nat)(Y:KG)(N:Int)(hY:XOk Y N)(hN:N≤4611686018427387904)(dn:Bool)(T:Nat)(hw:St β [tpR H T (allB Y),gvR G J (freshG Y.zone) dn] w):Calls Tryz.prog 56 #[pp G 2,.func (.func 66) #[pp T 0] #[]] w fun r w'=>r= .returned (.tuple #[])∧St β [gvR G J (src0G Y) dn] w':=by
 replace hw:=hw.perm (List.Perm.swap _ _ _)
 obtain⟨m,p,c,ks,mz,zs,hk,hw⟩:=St.openGv hw
 obtain⟨rfl,rfl⟩:=fresh_open hk
 have hfe:=hY.few
 have hfo:=hY.ofew
 have hi1:=len_in (n:=Y.here.length) (by omega)
 have hi2:=len_in (n:=Y.out.length) (by omega)
 refine enter (n:=122) Tryz.func56 rfl Tryz.ntmps56 rfl ?_ hw
 refine c_seq ?_
 refine cnz [sv 12 (pp G 2) [] [] [0],sv 13 (pp G 2) [0] [0] [],sv 14 (pp G 2) [0,1] [1] [],sv 15 (.map (some m)) [0,1,2] [2] [],sv 16 (Nx (([]:List (Int×KEh)).length)) [0,1,2,3] [3] [],sv 17 (pp G 2) [] [] [0],sv 18 (pp G 2) [5] [5] [],sv 19 (pp G 3) [5,6] [6] [],sv 20 (sB p ([]:MPool) c) [5,6,7] [7] [],sv 21 (Nx (([]:MPool).length)) [5,6,7,8] [8] [],⟨[],[],[],[4],fun f=>f 4= .pointer (some ⟨(blk (f 4)),0,none⟩)⟩,⟨[],[],[],[5],fun f=>f 5= .pointer (some ⟨(blk (f 5)),0,none⟩)⟩,⟨[0,1,2,3,4,5,6,7,8,10,11],[10,4],[],[],fun _=>True⟩,⟨(List.range 13),[11,9],[],[],fun _=>True⟩] [u1 [3,8],u1 [4]] [⟨(some 10),(some 12),[12],[4],fun f=>pt (blk (f 4)) (.cells #[.int .i64 (0)] 3)⟩,⟨(some 11),(some 13),[13],[5],fun f=>pt (blk (f 5)) (.cells #[.int .i64 (0)] 3)⟩,⟨(some 12),none,[],[4],fun f=>pt (blk (f 4)) (.cells #[Nx (([]:List (Int×KEh)).length)] 3)⟩,⟨(some 13),none,[],[5],fun f=>pt (blk (f 5)) (.cells #[Nx (([]:MPool).length)] 3)⟩] [(0,pp G 2),(1,.func (.func 66) #[pp T 0] #[])] [0,1] ⟨rfl,rfl,trivial⟩ ⟨?_,?_,?_,?_,?_,?_,?_,?_,?_,?_,?_,?_,?_,?_,trivial⟩ ?_
 ·rintro f M-⟨i0,-⟩
  exact obE omp
 ·rintro f M ⟨k0,-⟩-
  exact obE onp
 ·rintro f M ⟨k0,-⟩-
  exact obE ofp
 ·rintro f M ⟨k0,-⟩-
  exact obv (L':=pt G (.cells #[Ix ((freshG Y.zone).zone),pp J 0,.map (some m),sB p ([]:MPool) c,Ix ((freshG Y.zone).gv.n0),Ix ((freshG Y.zone).gv.n1),Ix ((freshG Y.zone).gv.n2),Ix ((freshG Y.zone).gv.n3),Ix ((freshG Y.zone).gv.n4),Ix ((freshG Y.zone).gv.n5),Ix ((freshG Y.zone).gv.n6),Ix ((freshG Y.zone).lv.n0),Ix ((freshG Y.zone).lv.n1),Ix ((freshG Y.zone).lv.n2),Ix ((freshG Y.zone).lv.n3),Ix ((freshG Y.zone).lv.n4),Ix ((freshG Y.zone).lv.n5),Ix ((freshG Y.zone).lv.n6),.bool (dn)] 77)::M) (up_cons (d:=14) rfl k0) rfl (e_load1 ug3.ok rfl (k_pt 0 rfl rfl)) (perm_front 0 rfl) (by rfl)
 ·rintro f M ⟨k0,-⟩-
  exact obv (L':=mpR EnM m ([]:List (Int×KEh))::M) (up_cons (d:=15) rfl k0) rfl (e_mlen (K:=EnM) (b:=m) (ks:=([]:List (Int×KEh))) rfl rfl (Knows.of_res 0 rfl (mpR.mono _ _ _) fun _ h=>h)) (perm_front 0 rfl) (by rfl)
 ·rintro f M-⟨i0,-⟩
  exact obE omp
 ·rintro f M ⟨k0,-⟩-
  exact obE onp
 ·rintro f M ⟨k0,-⟩-
  exact obE ofp
 ·rintro f M ⟨k0,-⟩-
  exact obE (ols 0)
 ·rintro f M ⟨k0,-⟩-
  exact obE oln
 ·rintro f M- -
  refine obS rfl ?_
  refine alE fun b2=>l_nil ?_
  exact f_owes_d rfl rfl (perm_front 0 rfl)
 ·rintro f M- -
  refine obS rfl ?_
  refine alE fun b4=>l_nil ?_
  exact f_owes_d rfl rfl (perm_front 0 rfl)
 ·rintro f M ⟨k0,k1,-⟩-
  have hs4:f 4= .pointer (some ⟨(blk (f 4)),0,none⟩):=k0
  refine obS (up_cons (d:=16) (up_cons rfl hs4) k1) ?_
  refine lu (mS 0 (#[Nx (([]:List (Int×KEh)).length)])) (l_nil ?_)
  exact f_owes_n (up_cons (d:=16) (up_cons rfl hs4) k1) trivial (perm_front 0 rfl)
 ·rintro f M ⟨k0,k1,-⟩-
  have hs5:f 5= .pointer (some ⟨(blk (f 5)),0,none⟩):=k0
  refine obS (up_cons (d:=21) (up_cons rfl hs5) k1) ?_
  refine lu (mS 0 (#[Nx (([]:MPool).length)])) (l_nil ?_)
  exact f_owes_n (up_cons (d:=21) (up_cons rfl hs5) k1) trivial (perm_front 0 rfl)
 rintro fa5 ⟨-,-,-,-,-,-,-,-,-,-,k10,k11,-,-,-⟩ ⟨j0,j1,-⟩
 refine fre ?_
 refine f_rebase (d:=0) j0 (f_rebase (d:=1) j1 (f_rebase (d:=4) k10 (f_rebase (d:=5) k11 (ftc (lE omf ?_)))))
 refine l_call rfl rfl rfl (cl_value (fst:=[pp T 0]) (cap:=[]) (vs:=[.pointer (some ⟨(blk (fa5 4)),0,none⟩)]) (all:=[pp T 0,.pointer (some ⟨(blk (fa5 4)),0,none⟩)]) ug8.ok rfl rfl rfl) ?_
 intro w hw
 replace hw:=hw.perm (L':=_::_::_::_::_::_::_::[]) (by exact(((((((perm_front 6 rfl).trans (perm_front 4 rfl)).trans (perm_front 4 rfl)).trans (perm_front 4 rfl)).trans (perm_front 4 rfl)).trans (perm_front 6 rfl)).trans (perm_front 6 rfl)))
 obtain⟨β1,sb,kn,hw1,back⟩:=St.frame (L:=[_,_]) (M:=_::_::_::_::_::[]) hw
 refine(tread0_ok β1 w H (hH.trans sb) T ((Y.here.length:Nat):Int) hi1 (vint ((Y.out.length:Nat):Int)++(Y.here.flatMap entB++(Y.out.flatMap outMB++n7B Y.gv Y.lv))) (blk (fa5 4)) 3 _ hw1).mono ?_
 rintro e w' ⟨rfl,hw'⟩
 refine⟨_,rfl,_,back _ _ hw',?_⟩
 clear hw hw1 hw' back kn sb
 refine lnc (lE omf ?_)
 refine l_call rfl rfl rfl (cl_value (fst:=[pp T 0]) (cap:=[]) (vs:=[.pointer (some ⟨(blk (fa5 5)),0,none⟩)]) (all:=[pp T 0,.pointer (some ⟨(blk (fa5 5)),0,none⟩)]) ug8.ok rfl rfl rfl) ?_
 intro w hw
 replace hw:=hw.perm (L':=_::_::_::_::_::_::_::[]) (by exact(((((((perm_front 5 rfl).trans (perm_front 5 rfl)).trans (perm_front 5 rfl)).trans (perm_front 5 rfl)).trans (perm_front 5 rfl)).trans (perm_front 6 rfl)).trans (perm_front 6 rfl)))
 obtain⟨β1,sb,kn,hw1,back⟩:=St.frame (L:=[_,_]) (M:=_::_::_::_::_::[]) hw
 refine(tread0_ok β1 w H (hH.trans sb) T ((Y.out.length:Nat):Int) hi2 (Y.here.flatMap entB++(Y.out.flatMap outMB++n7B Y.gv Y.lv)) (blk (fa5 5)) 3 _ hw1).mono ?_
 rintro e w' ⟨rfl,hw'⟩
 refine⟨_,rfl,_,back _ _ hw',?_⟩
 clear hw hw1 hw' back kn sb
 refine lnc (lE omp (lE onp (lE ofp (lv (v:= .map (some m)) (e_load1 ug3.ok rfl (k_pt 3 rfl rfl)) ?_))))
 refine lcf (cl0 (vs:=[.map (some m)]) ug9.ok rfl rfl) rfl fun w β1 sb kn hw1 back=>(keysE_ok β1 w hw1 m).mono ?_
 rintro e w' ⟨b6,rfl,hw'⟩
 refine⟨_,rfl,_,back _ _ hw',?_⟩
 clear hw1 hw' back kn sb
 refine l_call rfl rfl rfl (cl0 (vs:=[.func (.func 89) #[] #[pp b6 0]]) ug10.ok rfl rfl) ?_
 intro w hw
 replace hw:=hw.perm (L':=_::_::_::_::_::_::_::_::[]) (by exact((((((((perm_front 7 rfl).trans (perm_front 7 rfl)).trans (perm_front 7 rfl)).trans (perm_front 7 rfl)).trans (perm_front 7 rfl)).trans (perm_front 7 rfl)).trans (perm_front 7 rfl)).trans (perm_front 7 rfl)))
 obtain⟨β1,sb,kn,hw1,back⟩:=St.frame (L:=[_]) (M:=_::_::_::_::_::_::_::[]) hw
 refine(sortedX_ok β1 w _ _ _ (keysE_seq β1 b6 m ([]:List (Int×KEh)) (kn _ (Knows.of_res 4 rfl (mpR.mono _ _ _) fun _ h=>h))) (by decide) sortI_nil hw1).mono ?_
 rintro e w' ⟨p7,c8,rfl,hw'⟩
 refine⟨_,rfl,_,back _ _ hw',?_⟩
 clear hw hw1 hw' back kn sb
 refine lE oas (lnf (cs2 (c_region (lE (oli 3) (lE omi (lnf (c_block (c_mask [true,true,true,true,true,true,true,true] rfl ?_))))))))
 refine c_loop (fun(x_:Nat×List (Int×KEh)×EPool) f L=>match x_ with|(k,kt,zt)=>(f 0=pp G 2∧f 1= .func (.func 66) #[pp T 0] #[]∧f 5= .pointer (some ⟨(blk (fa5 5)),0,none⟩)∧f 6=sB p7 ([]:List Int) c8∧f 32=Ix ((Y.here.length:Nat):Int)∧f 33=Nx (k))∧L=[rowF IntF 3 p7 c8 ([]:List Int),tpR H T ((Y.here.drop k).flatMap entB++(Y.out.flatMap outMB++n7B Y.gv Y.lv)),pt (blk (fa5 5)) (.cells #[Ix ((Y.out.length:Nat):Int)] 3),pt (blk (fa5 4)) (.cells #[Ix ((Y.here.length:Nat):Int)] 3),pt G (.cells #[Ix ((freshG Y.zone).zone),pp J 0,.map (some m),sB p ([]:MPool) c,Ix ((freshG Y.zone).gv.n0),Ix ((freshG Y.zone).gv.n1),Ix ((freshG Y.zone).gv.n2),Ix ((freshG Y.zone).gv.n3),Ix ((freshG Y.zone).gv.n4),Ix ((freshG Y.zone).gv.n5),Ix ((freshG Y.zone).gv.n6),Ix ((freshG Y.zone).lv.n0),Ix ((freshG Y.zone).lv.n1),Ix ((freshG Y.zone).lv.n2),Ix ((freshG Y.zone).lv.n3),Ix ((freshG Y.zone).lv.n4),Ix ((freshG Y.zone).lv.n5),Ix ((freshG Y.zone).lv.n6),.bool (dn)] 77),mpR EnM m kt,rowF MgF 38 p c (([]:MPool).map Prod.fst),poolR zt]∧(k≤Y.here.length∧GOk (hereG Y k) kt ([]:MPool) zt)) (fun(k,kt,zt)=>Y.here.length-k) (0,([]:List (Int×KEh)),zs) ?_ ?_
 ·exact⟨⟨rfl,rfl,rfl,rfl,rfl,rfl⟩,rfl,⟨Nat.zero_le _,hk⟩⟩
 rintro⟨k,kt,zt⟩ f0 L0 ⟨⟨hs0,hs1,hs5,hs6,hs32,hs33⟩,hL,⟨hkk,hkt⟩⟩
 subst L0
 refine rbs 0 hs0 (rbs 1 hs1 (rbs 5 hs5 (rbs 6 hs6 (rbs 32 hs32 (rbs 33 hs33 (csr (lE olt (lnf (c_seq (c_if _ rfl (fun hc9=> ?_) (fun hc9=> ?_)))))))))))
 ·refine csk (c_seq (c_block (csr (lE omi (lE oai (lnf (c_seq ?_)))))))
  obtain⟨e,he⟩:∃e_,Y.here[k]? =some e_:=⟨_,List.getElem?_eq_getElem (by omega)⟩
  have hER:=hY.right e (List.mem_of_getElem? he)
  refine c_re (L':=[rowF IntF 3 p7 c8 ([]:List Int),tpR H T (entB e++((Y.here.drop (k+1)).flatMap entB++(Y.out.flatMap outMB++n7B Y.gv Y.lv))),pt (blk (fa5 5)) (.cells #[Ix ((Y.out.length:Nat):Int)] 3),pt (blk (fa5 4)) (.cells #[Ix ((Y.here.length:Nat):Int)] 3),pt G (.cells #[Ix ((freshG Y.zone).zone),pp J 0,.map (some m),sB p ([]:MPool) c,Ix ((freshG Y.zone).gv.n0),Ix ((freshG Y.zone).gv.n1),Ix ((freshG Y.zone).gv.n2),Ix ((freshG Y.zone).gv.n3),Ix ((freshG Y.zone).gv.n4),Ix ((freshG Y.zone).gv.n5),Ix ((freshG Y.zone).gv.n6),Ix ((freshG Y.zone).lv.n0),Ix ((freshG Y.zone).lv.n1),Ix ((freshG Y.zone).lv.n2),Ix ((freshG Y.zone).lv.n3),Ix ((freshG Y.zone).lv.n4),Ix ((freshG Y.zone).lv.n5),Ix ((freshG Y.zone).lv.n6),.bool (dn)] 77),mpR EnM m kt,rowF MgF 38 p c (([]:MPool).map Prod.fst),poolR zt]) (by rw[ents_drop he,List.append_assoc]) ?_
  refine c_region ?_
  refine lv (v:= .agg #[.int .i64 (0),.slice none 0 0]) (e_build ug12.ok ug11 (vs:=[]) (cells:= #[.int .i64 (0),.slice none 0 0]) rfl rfl) ?_
  refine alE fun b10=>lu (mS 0 (#[.int .i64 (0),.slice none 0 0])) (lnf (cs2 (c_region (lE omi (lE oms (lE oln ?_))))))
  refine lv (v:= .bool false) (ev_f (by show ¬((k:Nat):Int)<0;omega) (e_lss (a:=((k:Nat):Int)) (b:=((([]:List Int).length:Nat):Int)) rfl rfl)) ?_
  refine lnf (c_no rfl (csk (csr (lE omf (l_call rfl rfl rfl (cl0 (vs:=[pp b10 0,.func (.func 66) #[pp T 0] #[]]) ug15.ok rfl rfl) ?_)))))
  intro w hw
  replace hw:=hw.perm (L':=_::_::_::_::_::_::_::_::_::[]) (by exact(((((((((perm_front 8 rfl).trans (perm_front 8 rfl)).trans (perm_front 8 rfl)).trans (perm_front 8 rfl)).trans (perm_front 8 rfl)).trans (perm_front 8 rfl)).trans (perm_front 7 rfl)).trans (perm_front 7 rfl)).trans (perm_front 8 rfl)))
  obtain⟨β1,sb,kn,hw1,back⟩:=St.frame (L:=[_,_]) (M:=_::_::_::_::_::_::_::[]) hw
  refine(entR2_ok β1 w H (hH.trans sb) T e ((Y.here.drop (k+1)).flatMap entB++(Y.out.flatMap outMB++n7B Y.gv Y.lv)) _ _ (plc_pt b10 32) hw1 hER.idI hER.len hER.cp).mono ?_
  rintro e w' ⟨p11,c12,rfl,hw'⟩
  refine⟨_,rfl,_,back _ _ hw',?_⟩
  clear hw hw1 hw' back kn sb
  refine lnf ?_
  refine cnz [sv 53 (pp G 2) [] [] [0],sv 54 (pp G 2) [0] [0] [],sv 55 (pp G 2) [0,1] [1] [],sv 56 (.map (some m)) [0,1,2] [2] [],sv 57 (pp b10 0) [] [] [1],sv 58 (Ix (e.id)) [4] [4] [],sv 59 (.agg #[Ix (e.id),sB p11 e.comps c12]) [] [] [1],⟨(List.range 7),[3,5,6],[],[],fun _=>True⟩] [u0,u1 [5,6],u0,u0,u0,u0,u1 [3],(some 7,[7])] [⟨(some 7),none,[],[],fun _=>mpR EnM m (EnM.put kt (e.id) (⟨e.id,p11,e.comps.length,c12⟩:KEh))⟩] [(0,pp G 2),(8,pp b10 0),(1,.func (.func 66) #[pp T 0] #[]),(5,.pointer (some ⟨(blk (fa5 5)),0,none⟩)),(6,sB p7 ([]:List Int) c8),(32,Ix ((Y.here.length:Nat):Int)),(33,Nx (k))] [0,2,3,4,5,6] ⟨rfl,rfl,rfl,rfl,rfl,rfl,rfl,trivial⟩ ⟨?_,?_,?_,?_,?_,?_,?_,?_,trivial⟩ ?_
  ·rintro f M-⟨i0,-⟩
   exact obE omp
  ·rintro f M ⟨k0,-⟩-
   exact obE onp
  ·rintro f M ⟨k0,-⟩-
   exact obE ofp
  ·rintro f M ⟨k0,-⟩-
   exact obv (L':=pt G (.cells #[Ix ((freshG Y.zone).zone),pp J 0,.map (some m),sB p ([]:MPool) c,Ix ((freshG Y.zone).gv.n0),Ix ((freshG Y.zone).gv.n1),Ix ((freshG Y.zone).gv.n2),Ix ((freshG Y.zone).gv.n3),Ix ((freshG Y.zone).gv.n4),Ix ((freshG Y.zone).gv.n5),Ix ((freshG Y.zone).gv.n6),Ix ((freshG Y.zone).lv.n0),Ix ((freshG Y.zone).lv.n1),Ix ((freshG Y.zone).lv.n2),Ix ((freshG Y.zone).lv.n3),Ix ((freshG Y.zone).lv.n4),Ix ((freshG Y.zone).lv.n5),Ix ((freshG Y.zone).lv.n6),.bool (dn)] 77)::M) (up_cons (d:=55) rfl k0) rfl (e_load1 ug3.ok rfl (k_pt 0 rfl rfl)) (perm_front 0 rfl) (by rfl)
  ·rintro f M-⟨i0,-⟩
   exact obE ofp
  ·rintro f M ⟨k0,-⟩-
   exact obE (oli 0)
  ·rintro f M-⟨i0,-⟩
   exact obE (olg 0)
  ·rintro f M ⟨k0,k1,k2,-⟩-
   refine obS (up_cons (d:=59) (up_cons (d:=58) (up_cons (d:=56) rfl k0) k1) k2) ?_
   refine lu (m_mput (K:=EnM) (b:=m) (ks:=kt) (k:=(e.id)) (v:=(⟨e.id,p11,e.comps.length,c12⟩:KEh)) 0 rfl rfl rfl rfl rfl) (l_nil ?_)
   exact f_owes_n (up_cons (d:=59) (up_cons (d:=58) (up_cons (d:=56) rfl k0) k1) k2) trivial (perm_front 0 rfl)
  rintro fa13 ⟨-,-,-,-,-,-,-,-,-⟩ ⟨j0,j1,j2,j3,j4,j5,-⟩
  refine fre ?_
  refine f_rebase (d:=0) j0 (f_rebase (d:=1) j1 (f_rebase (d:=5) j2 (f_rebase (d:=6) j3 (f_rebase (d:=32) j4 (f_rebase (d:=33) j5 ?_)))))
  refine f_block (f_then (c_region (lv (v:=Nx (k+1)) (e_add rfl rfl (i64n (by omega) (by omega))) (lE omi (l_nil ?_)))))
  refine f_pi [2,8,0,1,3,4,5,6,7,9] 10 rfl (by kernel_rfl) ?_
  refine f_merge (L:=[rowF CpF 100 p11 c12 e.comps,poolR zt]) (M:=[tpR H T ((Y.here.drop (k+1)).flatMap entB++(Y.out.flatMap outMB++n7B Y.gv Y.lv)),pt b10 (.cells #[Ix (e.id),sB p11 e.comps c12] 32),rowF IntF 3 p7 c8 ([]:List Int),pt (blk (fa5 5)) (.cells #[Ix ((Y.out.length:Nat):Int)] 3),pt (blk (fa5 4)) (.cells #[Ix ((Y.here.length:Nat):Int)] 3),pt G (.cells #[Ix ((freshG Y.zone).zone),pp J 0,.map (some m),sB p ([]:MPool) c,Ix ((freshG Y.zone).gv.n0),Ix ((freshG Y.zone).gv.n1),Ix ((freshG Y.zone).gv.n2),Ix ((freshG Y.zone).gv.n3),Ix ((freshG Y.zone).gv.n4),Ix ((freshG Y.zone).gv.n5),Ix ((freshG Y.zone).gv.n6),Ix ((freshG Y.zone).lv.n0),Ix ((freshG Y.zone).lv.n1),Ix ((freshG Y.zone).lv.n2),Ix ((freshG Y.zone).lv.n3),Ix ((freshG Y.zone).lv.n4),Ix ((freshG Y.zone).lv.n5),Ix ((freshG Y.zone).lv.n6),.bool (dn)] 77),rowF MgF 38 p c (([]:MPool).map Prod.fst),mpR EnM m (EnM.put kt (e.id) (⟨e.id,p11,e.comps.length,c12⟩:KEh))]) (r:=poolR (zt++[((⟨e.id,p11,e.comps.length,c12⟩:KEh),(⟨e.id,e.comps⟩:KEnt))])) (poolR_add (id:=e.id) rfl) ?_
  refine fpn [3,1,4,5,6,8,7,0,2] 9 ?_
  refine f_mask [true,true,true,true,true,true,true,true,false] rfl ?_
  exact f_cut ⟨(k+1,(EnM.put kt (e.id) (⟨e.id,p11,e.comps.length,c12⟩:KEh)),(zt++[((⟨e.id,p11,e.comps.length,c12⟩:KEh),(⟨e.id,e.comps⟩:KEnt))])),⟨⟨rfl,rfl,rfl,rfl,rfl,rfl⟩,rfl,⟨by omega,hkt.next hY.sort he⟩⟩,(show Y.here.length-(k+1)<Y.here.length-k from by omega)⟩
 refine c_exit (f_then_exit (f_then_exit (f_exit (f_then ?_))))
 have hke:k=Y.here.length:=by omega
 refine c_re (L':=[rowF IntF 3 p7 c8 ([]:List Int),tpR H T (Y.out.flatMap outMB++n7B Y.gv Y.lv),pt (blk (fa5 5)) (.cells #[Ix ((Y.out.length:Nat):Int)] 3),pt (blk (fa5 4)) (.cells #[Ix ((Y.here.length:Nat):Int)] 3),pt G (.cells #[Ix ((freshG Y.zone).zone),pp J 0,.map (some m),sB p (List.replicate 0 zeroMg) c,Ix ((freshG Y.zone).gv.n0),Ix ((freshG Y.zone).gv.n1),Ix ((freshG Y.zone).gv.n2),Ix ((freshG Y.zone).gv.n3),Ix ((freshG Y.zone).gv.n4),Ix ((freshG Y.zone).gv.n5),Ix ((freshG Y.zone).gv.n6),Ix ((freshG Y.zone).lv.n0),Ix ((freshG Y.zone).lv.n1),Ix ((freshG Y.zone).lv.n2),Ix ((freshG Y.zone).lv.n3),Ix ((freshG Y.zone).lv.n4),Ix ((freshG Y.zone).lv.n5),Ix ((freshG Y.zone).lv.n6),.bool (dn)] 77),mpR EnM m kt,rowF MgF 38 p c (List.replicate 0 zeroMg),poolR zt]) (by rw[hke,List.drop_length]<;>rfl) ?_
 refine c_seq (c_block (c_mask [true,true,true,true,true,true,true,true] rfl ?_))
 refine c_loop (fun(x_:Nat×Option Addr×Nat) f L=>match x_ with|(jj,p9,c9)=>(f 0=pp G 2∧f 1= .func (.func 66) #[pp T 0] #[]∧f 5= .pointer (some ⟨(blk (fa5 5)),0,none⟩))∧L=[rowF IntF 3 p7 c8 ([]:List Int),tpR H T (Y.out.flatMap outMB++n7B Y.gv Y.lv),pt (blk (fa5 5)) (.cells #[Ix ((Y.out.length:Nat):Int)] 3),pt (blk (fa5 4)) (.cells #[Ix ((Y.here.length:Nat):Int)] 3),pt G (.cells #[Ix ((freshG Y.zone).zone),pp J 0,.map (some m),sB p9 (List.replicate jj zeroMg) c9,Ix ((freshG Y.zone).gv.n0),Ix ((freshG Y.zone).gv.n1),Ix ((freshG Y.zone).gv.n2),Ix ((freshG Y.zone).gv.n3),Ix ((freshG Y.zone).gv.n4),Ix ((freshG Y.zone).gv.n5),Ix ((freshG Y.zone).gv.n6),Ix ((freshG Y.zone).lv.n0),Ix ((freshG Y.zone).lv.n1),Ix ((freshG Y.zone).lv.n2),Ix ((freshG Y.zone).lv.n3),Ix ((freshG Y.zone).lv.n4),Ix ((freshG Y.zone).lv.n5),Ix ((freshG Y.zone).lv.n6),.bool (dn)] 77),mpR EnM m kt,rowF MgF 38 p9 c9 (List.replicate jj zeroMg),poolR zt]∧(jj≤Y.out.length)) (fun(jj,p9,c9)=>Y.out.length-jj) (0,p,c) ?_ ?_
 ·exact⟨⟨rfl,rfl,rfl⟩,rfl,Nat.zero_le _⟩
 rintro⟨jj,p9,c9⟩ f0 L0 ⟨⟨hs0,hs1,hs5⟩,hL,hjj⟩
 subst L0
 refine rbs 0 hs0 (rbs 1 hs1 (rbs 5 hs5 ?_))
 have hrl:(List.replicate jj zeroMg).length=jj:=List.length_replicate
 refine cs2 (c_quiet (by kernel_rfl) (by kernel_rfl) (qE omp (qE onp (qE ofp (qE (ols 4) (qE oln (qE (oli 2) (qE olt (q_nil (f_then ?_))))))))))
 refine c_if ((((List.replicate jj zeroMg).length:Nat):Int)<((Y.out.length:Nat):Int)) rfl (fun hc14=> ?_) (fun hc14=> ?_)
 ·refine csk (c_block (c_region (lE omp (lE omp (lE onp (lE ofp (lE (ols 4) ?_)))))))
  refine lv (v:= .agg #[.int .i64 (0),.int .i64 (0),.int .i64 (0),.bool false,.int .i64 (0),.slice none 0 0]) (e_build ug18.ok ug17 (vs:=[]) (cells:= #[.int .i64 (0),.int .i64 (0),.int .i64 (0),.bool false,.int .i64 (0),.slice none 0 0]) rfl (by kernel_rfl)) ?_
  refine l_mv rfl rfl rfl (m_slices ug19 ug18.ok (cells:= #[.int .i64 (0),.int .i64 (0),.int .i64 (0),.bool false,.int .i64 (0),.slice none 0 0]) rfl rfl rfl (by kernel_rfl)) ?_
  rintro _ _ ⟨b15,rfl,rfl⟩
  refine l_mv rfl rfl rfl (m_appendFlN (F:=MgF) 7 ug19 ug20 (p:=p9) (m:=(List.replicate jj zeroMg).length) (xs:=(List.replicate jj zeroMg)) (ys:=[(⟨0,0,0,false,0,none,0,0⟩:KMg)]) (ao:=(some ⟨b15,0,none⟩)) (k:=1) (c:=1) rfl rfl rfl rfl rfl (k_ptFl (z:=(⟨0,0,0,false,0,none,0,0⟩:KMg)) 0 rfl rfl) (by first|omega|simp only[List.length_nil,List.length_cons,List.length_append,List.length_set];omega) (by first|omega|simp only[List.length_nil,List.length_cons,List.length_append,List.length_set];omega)) ?_
  rintro _ _ ⟨rp16,rc17,rfl,rfl⟩
  refine lE onp (lE ofp ?_)
  refine lu (m_store 5 ug5.ok (cs':= #[Ix ((freshG Y.zone).zone),pp J 0,.map (some m),sB rp16 ((List.replicate jj zeroMg)++[(⟨0,0,0,false,0,none,0,0⟩:KMg)]) rc17,Ix ((freshG Y.zone).gv.n0),Ix ((freshG Y.zone).gv.n1),Ix ((freshG Y.zone).gv.n2),Ix ((freshG Y.zone).gv.n3),Ix ((freshG Y.zone).gv.n4),Ix ((freshG Y.zone).gv.n5),Ix ((freshG Y.zone).gv.n6),Ix ((freshG Y.zone).lv.n0),Ix ((freshG Y.zone).lv.n1),Ix ((freshG Y.zone).lv.n2),Ix ((freshG Y.zone).lv.n3),Ix ((freshG Y.zone).lv.n4),Ix ((freshG Y.zone).lv.n5),Ix ((freshG Y.zone).lv.n6),.bool (dn)]) rfl rfl rfl rfl rfl rfl rfl) ?_
  refine l_nil (f_block ?_)
  refine f_re (L':=[pt b15 (.cells #[.int .i64 (0),.int .i64 (0),.int .i64 (0),.bool false,.int .i64 (0),.slice none 0 0] 38),rowF IntF 3 p7 c8 ([]:List Int),tpR H T (Y.out.flatMap outMB++n7B Y.gv Y.lv),pt (blk (fa5 5)) (.cells #[Ix ((Y.out.length:Nat):Int)] 3),pt (blk (fa5 4)) (.cells #[Ix ((Y.here.length:Nat):Int)] 3),pt G (.cells #[Ix ((freshG Y.zone).zone),pp J 0,.map (some m),sB rp16 (List.replicate (jj+1) zeroMg) rc17,Ix ((freshG Y.zone).gv.n0),Ix ((freshG Y.zone).gv.n1),Ix ((freshG Y.zone).gv.n2),Ix ((freshG Y.zone).gv.n3),Ix ((freshG Y.zone).gv.n4),Ix ((freshG Y.zone).gv.n5),Ix ((freshG Y.zone).gv.n6),Ix ((freshG Y.zone).lv.n0),Ix ((freshG Y.zone).lv.n1),Ix ((freshG Y.zone).lv.n2),Ix ((freshG Y.zone).lv.n3),Ix ((freshG Y.zone).lv.n4),Ix ((freshG Y.zone).lv.n5),Ix ((freshG Y.zone).lv.n6),.bool (dn)] 77),mpR EnM m kt,rowF MgF 38 rp16 rc17 (List.replicate (jj+1) zeroMg),poolR zt]) (by rw[List.replicate_succ']<;>rfl) ?_
  refine f_mask (L':=[rowF IntF 3 p7 c8 ([]:List Int),tpR H T (Y.out.flatMap outMB++n7B Y.gv Y.lv),pt (blk (fa5 5)) (.cells #[Ix ((Y.out.length:Nat):Int)] 3),pt (blk (fa5 4)) (.cells #[Ix ((Y.here.length:Nat):Int)] 3),pt G (.cells #[Ix ((freshG Y.zone).zone),pp J 0,.map (some m),sB rp16 (List.replicate (jj+1) zeroMg) rc17,Ix ((freshG Y.zone).gv.n0),Ix ((freshG Y.zone).gv.n1),Ix ((freshG Y.zone).gv.n2),Ix ((freshG Y.zone).gv.n3),Ix ((freshG Y.zone).gv.n4),Ix ((freshG Y.zone).gv.n5),Ix ((freshG Y.zone).gv.n6),Ix ((freshG Y.zone).lv.n0),Ix ((freshG Y.zone).lv.n1),Ix ((freshG Y.zone).lv.n2),Ix ((freshG Y.zone).lv.n3),Ix ((freshG Y.zone).lv.n4),Ix ((freshG Y.zone).lv.n5),Ix ((freshG Y.zone).lv.n6),.bool (dn)] 77),mpR EnM m kt,rowF MgF 38 rp16 rc17 (List.replicate (jj+1) zeroMg),poolR zt]) [false,true,true,true,true,true,true,true,true] rfl ?_
  exact f_cut ⟨(jj+1,rp16,rc17),⟨⟨rfl,rfl,rfl⟩,rfl,(by omega)⟩,(show Y.out.length-(jj+1)<Y.out.length-jj from by omega)⟩
 refine c_exit (f_then_exit (f_then_exit (f_exit (fts (c_seq ?_)))))
 have hrl:(List.replicate jj zeroMg).length=jj:=List.length_replicate
 have hje:jj=Y.out.length:=by omega
 refine c_re (L':=[rowF IntF 3 p7 c8 ([]:List Int),tpR H T ((Y.out.drop 0).flatMap outMB++n7B Y.gv Y.lv),pt (blk (fa5 5)) (.cells #[Ix ((Y.out.length:Nat):Int)] 3),pt (blk (fa5 4)) (.cells #[Ix ((Y.here.length:Nat):Int)] 3),pt G (.cells #[Ix ((freshG Y.zone).zone),pp J 0,.map (some m),sB p9 Y.out c9,Ix ((freshG Y.zone).gv.n0),Ix ((freshG Y.zone).gv.n1),Ix ((freshG Y.zone).gv.n2),Ix ((freshG Y.zone).gv.n3),Ix ((freshG Y.zone).gv.n4),Ix ((freshG Y.zone).gv.n5),Ix ((freshG Y.zone).gv.n6),Ix ((freshG Y.zone).lv.n0),Ix ((freshG Y.zone).lv.n1),Ix ((freshG Y.zone).lv.n2),Ix ((freshG Y.zone).lv.n3),Ix ((freshG Y.zone).lv.n4),Ix ((freshG Y.zone).lv.n5),Ix ((freshG Y.zone).lv.n6),.bool (dn)] 77),mpR EnM m kt,rowF MgF 38 p9 c9 (fillM [] (Y.out.length-0)),poolR zt]) (by unfold sB;rw[hje,List.length_replicate]<;>rfl) ?_
 refine c_region (lE (oli 2) (lE omi (lnf (c_block (c_mask [true,true,true,true,true,true,true,true] rfl ?_)))))
 refine c_loop (fun(x_:Nat×MPool×EPool) f L=>match x_ with|(i,nz,zu)=>(f 0=pp G 2∧f 1= .func (.func 66) #[pp T 0] #[]∧f 78=Ix ((Y.out.length:Nat):Int)∧f 79=Nx (i))∧L=[rowF IntF 3 p7 c8 ([]:List Int),tpR H T ((Y.out.drop i).flatMap outMB++n7B Y.gv Y.lv),pt (blk (fa5 5)) (.cells #[Ix ((Y.out.length:Nat):Int)] 3),pt (blk (fa5 4)) (.cells #[Ix ((Y.here.length:Nat):Int)] 3),pt G (.cells #[Ix ((freshG Y.zone).zone),pp J 0,.map (some m),sB p9 Y.out c9,Ix ((freshG Y.zone).gv.n0),Ix ((freshG Y.zone).gv.n1),Ix ((freshG Y.zone).gv.n2),Ix ((freshG Y.zone).gv.n3),Ix ((freshG Y.zone).gv.n4),Ix ((freshG Y.zone).gv.n5),Ix ((freshG Y.zone).gv.n6),Ix ((freshG Y.zone).lv.n0),Ix ((freshG Y.zone).lv.n1),Ix ((freshG Y.zone).lv.n2),Ix ((freshG Y.zone).lv.n3),Ix ((freshG Y.zone).lv.n4),Ix ((freshG Y.zone).lv.n5),Ix ((freshG Y.zone).lv.n6),.bool (dn)] 77),mpR EnM m kt,rowF MgF 38 p9 c9 (fillM nz (Y.out.length-i)),poolR zu]∧(i≤Y.out.length∧nz.length=i∧GOk {hereG Y k with out:=(Y.out.take i).map src0} kt nz zu)) (fun(i,nz,zu)=>Y.out.length-i) (0,[],zt) ?_ ?_
 ·exact⟨⟨rfl,rfl,rfl,rfl⟩,rfl,⟨Nat.zero_le _,rfl,hkt⟩⟩
 rintro⟨i,nz,zu⟩ f0 L0 ⟨⟨hs0,hs1,hs78,hs79⟩,hL,⟨hil,hnl,hku⟩⟩
 subst L0
 refine rbs 0 hs0 (rbs 1 hs1 (rbs 78 hs78 (rbs 79 hs79 ?_)))
 have hfl:(fillM nz (Y.out.length-i)).length=Y.out.length:=by rw[fillM_len];omega
 have hfo:=hY.ofew
 refine csr (lE olt (lnf (c_seq (c_if _ rfl (fun hc18=> ?_) (fun hc18=> ?_)))))
 ·refine csk (c_seq (c_block (csr (lE omi (lE oai (lnf (c_seq ?_)))))))
  obtain⟨sm,hm⟩:∃m_,Y.out[i]? =some m_:=⟨_,List.getElem?_eq_getElem (by omega)⟩
  have hom:=List.mem_of_getElem? hm
  have hER:=hY.oright sm hom
  obtain⟨_,hak,ht6,hn1,hn2⟩:=hY.ohd sm hom
  have hgt:=hY.gv sm.to.toNat (by omega)
  refine c_re (L':=[rowF IntF 3 p7 c8 ([]:List Int),tpR H T (vint sm.to++(vint sm.number++(entB sm.e++((Y.out.drop (i+1)).flatMap outMB++n7B Y.gv Y.lv)))),pt (blk (fa5 5)) (.cells #[Ix ((Y.out.length:Nat):Int)] 3),pt (blk (fa5 4)) (.cells #[Ix ((Y.here.length:Nat):Int)] 3),pt G (.cells #[Ix ((freshG Y.zone).zone),pp J 0,.map (some m),sB p9 Y.out c9,Ix ((freshG Y.zone).gv.n0),Ix ((freshG Y.zone).gv.n1),Ix ((freshG Y.zone).gv.n2),Ix ((freshG Y.zone).gv.n3),Ix ((freshG Y.zone).gv.n4),Ix ((freshG Y.zone).gv.n5),Ix ((freshG Y.zone).gv.n6),Ix ((freshG Y.zone).lv.n0),Ix ((freshG Y.zone).lv.n1),Ix ((freshG Y.zone).lv.n2),Ix ((freshG Y.zone).lv.n3),Ix ((freshG Y.zone).lv.n4),Ix ((freshG Y.zone).lv.n5),Ix ((freshG Y.zone).lv.n6),.bool (dn)] 77),mpR EnM m kt,rowF MgF 38 p9 c9 ((fillM nz (Y.out.length-i)).set i (⟨0,0,0,false,0,none,0,0⟩:KMg)),poolR zu]) (by rw[outs_drop hm,fillM_same hnl (by omega)];unfold outMB;simp only[List.append_assoc]) ?_
  have hfs:((fillM nz (Y.out.length-i)).set i (⟨0,0,0,false,0,none,0,0⟩:KMg)).length=Y.out.length:=by simp only[sB,List.length_set];exact hfl
  refine c_region (lE omp (lE onp (lE ofp (lE (ols 4) (lE omi ?_)))))
  refine lv (v:= .pointer (some ((ba p9).add (i*6)))) (e_indexFlN 6 (F:=MgF) rfl (by simp only[List.length_set]<;>omega) rfl ug19 (by omega) rfl) ?_
  refine lE oap (lnc (lE omf (lE omp (lE onp (lE ofd ?_)))))
  refine l_call rfl rfl rfl (cl_value (fst:=[pp T 0]) (cap:=[]) (vs:=[.pointer (some ((ba p9).add (i*6+1)))]) (all:=[pp T 0,.pointer (some ((ba p9).add (i*6+1)))]) ug8.ok rfl rfl rfl) ?_
  intro w hw
  replace hw:=hw.perm (L':=_::_::_::_::_::_::_::_::[]) (by exact((((((((perm_front 7 rfl).trans (perm_front 6 rfl)).trans (perm_front 6 rfl)).trans (perm_front 6 rfl)).trans (perm_front 6 rfl)).trans (perm_front 5 rfl)).trans (perm_front 7 rfl)).trans (perm_front 7 rfl)))
  obtain⟨β1,sb,kn,hw1,back⟩:=St.frame (L:=[_,_]) (M:=_::_::_::_::_::_::[]) hw
  refine(treadC_ok β1 w H (hH.trans sb) T sm.to ⟨by omega,by omega⟩ (vint sm.number++(entB sm.e++((Y.out.drop (i+1)).flatMap outMB++n7B Y.gv Y.lv))) _ _ (cel_to (T:=38) (C:=c9) (P0:=p9) (xs:=(fillM nz (Y.out.length-i))) (x:=(⟨0,0,0,false,0,none,0,0⟩:KMg)) (by omega)) 0 hw1).mono ?_
  rintro e w' ⟨rfl,hw'⟩
  refine⟨_,rfl,_,back _ _ hw',?_⟩
  clear hw hw1 hw' back kn sb
  refine lnc (lE omf (lE omp (lE onp (lE ofd ?_))))
  refine l_call rfl rfl rfl (cl_value (fst:=[pp T 0]) (cap:=[]) (vs:=[.pointer (some ((ba p9).add (i*6+2)))]) (all:=[pp T 0,.pointer (some ((ba p9).add (i*6+2)))]) ug8.ok rfl rfl rfl) ?_
  intro w hw
  replace hw:=hw.perm (L':=_::_::_::_::_::_::_::_::[]) (by exact((((((((perm_front 7 rfl).trans (perm_front 7 rfl)).trans (perm_front 7 rfl)).trans (perm_front 7 rfl)).trans (perm_front 7 rfl)).trans (perm_front 7 rfl)).trans (perm_front 7 rfl)).trans (perm_front 7 rfl)))
  obtain⟨β1,sb,kn,hw1,back⟩:=St.frame (L:=[_,_]) (M:=_::_::_::_::_::_::[]) hw
  refine(treadC_ok β1 w H (hH.trans sb) T sm.number ⟨by omega,by omega⟩ (entB sm.e++((Y.out.drop (i+1)).flatMap outMB++n7B Y.gv Y.lv)) _ _ (cel_num (T:=38) (C:=c9) (P0:=p9) (xs:=(fillM nz (Y.out.length-i))) (x:=(⟨0,sm.to,0,false,0,none,0,0⟩:KMg)) (by omega)) 0 hw1).mono ?_
  rintro e w' ⟨rfl,hw'⟩
  refine⟨_,rfl,_,back _ _ hw',?_⟩
  clear hw hw1 hw' back kn sb
  refine lnr (lE omp (lE onp ?_))
  refine lv (v:= .pointer (some ((ba p9).add (i*6+4)))) (ev_eq (congrArg (fun z=>Value.pointer (some z)) (show((ba p9).add (i*6):Addr).add 4=(ba p9).add (i*6+4) by rw[Addr.add_add'])) (e_fieldAddr (a:=(ba p9).add (i*6)) rfl ug23.ok)) ?_
  refine lE omf (l_call rfl rfl rfl (cl0 (vs:=[.pointer (some ((ba p9).add (i*6+4))),.func (.func 66) #[pp T 0] #[]]) ug15.ok rfl rfl) ?_)
  intro w hw
  replace hw:=hw.perm (L':=_::_::_::_::_::_::_::_::[]) (by exact((((((((perm_front 7 rfl).trans (perm_front 7 rfl)).trans (perm_front 7 rfl)).trans (perm_front 7 rfl)).trans (perm_front 7 rfl)).trans (perm_front 7 rfl)).trans (perm_front 7 rfl)).trans (perm_front 7 rfl)))
  obtain⟨β1,sb,kn,hw1,back⟩:=St.frame (L:=[_,_]) (M:=_::_::_::_::_::_::[]) hw
  refine(entR2_ok β1 w H (hH.trans sb) T sm.e ((Y.out.drop (i+1)).flatMap outMB++n7B Y.gv Y.lv) _ _ (plc_msg (T:=38) (C:=c9) (P0:=p9) (xs:=(fillM nz (Y.out.length-i))) (x:=(⟨0,sm.to,sm.number,false,0,none,0,0⟩:KMg)) (by omega)) hw1 hER.idI hER.len hER.cp).mono ?_
  rintro e w' ⟨p19,c20,rfl,hw'⟩
  refine⟨_,rfl,_,back _ _ hw',?_⟩
  clear hw hw1 hw' back kn sb
  refine l_nil (f_block (f_then (c_region ?_)))
  refine lv (v:=Nx (i+1)) (e_add (a:=((i:Nat):Int)) (b:=(1:Int)) rfl rfl (i64n (by omega) (by omega))) (lE omi (l_nil ?_))
  refine f_pi [2,8,0,1,3,4,5,6,7] 9 rfl (by kernel_rfl) ?_
  refine f_merge (L:=[rowF CpF 100 p19 c20 sm.e.comps,poolR zu]) (M:=[tpR H T ((Y.out.drop (i+1)).flatMap outMB++n7B Y.gv Y.lv),rowF MgF 38 p9 c9 ((fillM nz (Y.out.length-i)).set i (⟨0,sm.to,sm.number,false,sm.e.id,p19,sm.e.comps.length,c20⟩:KMg)),rowF IntF 3 p7 c8 ([]:List Int),pt (blk (fa5 5)) (.cells #[Ix ((Y.out.length:Nat):Int)] 3),pt (blk (fa5 4)) (.cells #[Ix ((Y.here.length:Nat):Int)] 3),pt G (.cells #[Ix ((freshG Y.zone).zone),pp J 0,.map (some m),sB p9 Y.out c9,Ix ((freshG Y.zone).gv.n0),Ix ((freshG Y.zone).gv.n1),Ix ((freshG Y.zone).gv.n2),Ix ((freshG Y.zone).gv.n3),Ix ((freshG Y.zone).gv.n4),Ix ((freshG Y.zone).gv.n5),Ix ((freshG Y.zone).gv.n6),Ix ((freshG Y.zone).lv.n0),Ix ((freshG Y.zone).lv.n1),Ix ((freshG Y.zone).lv.n2),Ix ((freshG Y.zone).lv.n3),Ix ((freshG Y.zone).lv.n4),Ix ((freshG Y.zone).lv.n5),Ix ((freshG Y.zone).lv.n6),.bool (dn)] 77),mpR EnM m kt]) (r:=poolR (zu++[((⟨sm.e.id,p19,sm.e.comps.length,c20⟩:KEh),(⟨sm.e.id,sm.e.comps⟩:KEnt))])) (poolR_add (id:=sm.e.id) rfl) ?_
  refine f_re (L':=[poolR (zu++[((⟨sm.e.id,p19,sm.e.comps.length,c20⟩:KEh),(⟨sm.e.id,sm.e.comps⟩:KEnt))]),tpR H T ((Y.out.drop (i+1)).flatMap outMB++n7B Y.gv Y.lv),rowF MgF 38 p9 c9 (fillM (nz++[((⟨0,sm.to,sm.number,false,sm.e.id,p19,sm.e.comps.length,c20⟩:KMg),src0 sm)]) (Y.out.length-(i+1))),rowF IntF 3 p7 c8 ([]:List Int),pt (blk (fa5 5)) (.cells #[Ix ((Y.out.length:Nat):Int)] 3),pt (blk (fa5 4)) (.cells #[Ix ((Y.here.length:Nat):Int)] 3),pt G (.cells #[Ix ((freshG Y.zone).zone),pp J 0,.map (some m),sB p9 Y.out c9,Ix ((freshG Y.zone).gv.n0),Ix ((freshG Y.zone).gv.n1),Ix ((freshG Y.zone).gv.n2),Ix ((freshG Y.zone).gv.n3),Ix ((freshG Y.zone).gv.n4),Ix ((freshG Y.zone).gv.n5),Ix ((freshG Y.zone).gv.n6),Ix ((freshG Y.zone).lv.n0),Ix ((freshG Y.zone).lv.n1),Ix ((freshG Y.zone).lv.n2),Ix ((freshG Y.zone).lv.n3),Ix ((freshG Y.zone).lv.n4),Ix ((freshG Y.zone).lv.n5),Ix ((freshG Y.zone).lv.n6),.bool (dn)] 77),mpR EnM m kt]) (by rw[show Y.out.length-i=(Y.out.length-(i+1))+1 by omega,fillM_step hnl _ (src0 sm)]) ?_
  refine f_perm (L':=[rowF IntF 3 p7 c8 ([]:List Int),tpR H T ((Y.out.drop (i+1)).flatMap outMB++n7B Y.gv Y.lv),pt (blk (fa5 5)) (.cells #[Ix ((Y.out.length:Nat):Int)] 3),pt (blk (fa5 4)) (.cells #[Ix ((Y.here.length:Nat):Int)] 3),pt G (.cells #[Ix ((freshG Y.zone).zone),pp J 0,.map (some m),sB p9 Y.out c9,Ix ((freshG Y.zone).gv.n0),Ix ((freshG Y.zone).gv.n1),Ix ((freshG Y.zone).gv.n2),Ix ((freshG Y.zone).gv.n3),Ix ((freshG Y.zone).gv.n4),Ix ((freshG Y.zone).gv.n5),Ix ((freshG Y.zone).gv.n6),Ix ((freshG Y.zone).lv.n0),Ix ((freshG Y.zone).lv.n1),Ix ((freshG Y.zone).lv.n2),Ix ((freshG Y.zone).lv.n3),Ix ((freshG Y.zone).lv.n4),Ix ((freshG Y.zone).lv.n5),Ix ((freshG Y.zone).lv.n6),.bool (dn)] 77),mpR EnM m kt,rowF MgF 38 p9 c9 (fillM (nz++[((⟨0,sm.to,sm.number,false,sm.e.id,p19,sm.e.comps.length,c20⟩:KMg),src0 sm)]) (Y.out.length-(i+1))),poolR (zu++[((⟨sm.e.id,p19,sm.e.comps.length,c20⟩:KEh),(⟨sm.e.id,sm.e.comps⟩:KEnt))])]) (perm_ix [3,1,4,5,6,7,2,0] 8 rfl (by kernel_rfl) (by kernel_rfl)) ?_
  exact f_cut ⟨(i+1,(nz++[((⟨0,sm.to,sm.number,false,sm.e.id,p19,sm.e.comps.length,c20⟩:KMg),src0 sm)]),(zu++[((⟨sm.e.id,p19,sm.e.comps.length,c20⟩:KEh),(⟨sm.e.id,sm.e.comps⟩:KEnt))])),⟨⟨rfl,rfl,rfl,rfl⟩,rfl,⟨by omega,by rw[List.length_append,hnl];rfl,hku.fill hm hak.symm rfl⟩⟩,(show Y.out.length-(i+1)<Y.out.length-i from by omega)⟩
 refine c_exit (f_then_exit (f_then_exit (f_exit (fts ?_))))
 have hie:i=Y.out.length:=by omega
 refine c_re (L':=[rowF IntF 3 p7 c8 ([]:List Int),tpR H T (n7D Y.gv Y.lv 0),pt (blk (fa5 5)) (.cells #[Ix ((Y.out.length:Nat):Int)] 3),pt (blk (fa5 4)) (.cells #[Ix ((Y.here.length:Nat):Int)] 3),pt G (.cells #[Ix ((freshG Y.zone).zone),pp J 0,.map (some m),sB p9 nz c9,Ix ((n7F Y.gv 0).n0),Ix ((n7F Y.gv 0).n1),Ix ((n7F Y.gv 0).n2),Ix ((n7F Y.gv 0).n3),Ix ((n7F Y.gv 0).n4),Ix ((n7F Y.gv 0).n5),Ix ((n7F Y.gv 0).n6),Ix ((n7F Y.lv 0).n0),Ix ((n7F Y.lv 0).n1),Ix ((n7F Y.lv 0).n2),Ix ((n7F Y.lv 0).n3),Ix ((n7F Y.lv 0).n4),Ix ((n7F Y.lv 0).n5),Ix ((n7F Y.lv 0).n6),.bool (dn)] 77),mpR EnM m kt,rowF MgF 38 p9 c9 (nz.map Prod.fst),poolR zu]) (by unfold sB;rw[hnl,hie,List.drop_length,Nat.sub_self];unfold fillM;rw[List.replicate_zero,List.append_nil]<;>rfl) ?_
 refine c_region (lE omi (lnf (c_block (c_mask [true,true,true,true,true,true,true,true] rfl ?_))))
 refine c_loop (fun(j:Nat) f L=>(f 0=pp G 2∧f 1= .func (.func 66) #[pp T 0] #[]∧f 104=Nx (j))∧L=[rowF IntF 3 p7 c8 ([]:List Int),tpR H T (n7D Y.gv Y.lv j),pt (blk (fa5 5)) (.cells #[Ix ((Y.out.length:Nat):Int)] 3),pt (blk (fa5 4)) (.cells #[Ix ((Y.here.length:Nat):Int)] 3),pt G (.cells #[Ix ((freshG Y.zone).zone),pp J 0,.map (some m),sB p9 nz c9,Ix ((n7F Y.gv j).n0),Ix ((n7F Y.gv j).n1),Ix ((n7F Y.gv j).n2),Ix ((n7F Y.gv j).n3),Ix ((n7F Y.gv j).n4),Ix ((n7F Y.gv j).n5),Ix ((n7F Y.gv j).n6),Ix ((n7F Y.lv j).n0),Ix ((n7F Y.lv j).n1),Ix ((n7F Y.lv j).n2),Ix ((n7F Y.lv j).n3),Ix ((n7F Y.lv j).n4),Ix ((n7F Y.lv j).n5),Ix ((n7F Y.lv j).n6),.bool (dn)] 77),mpR EnM m kt,rowF MgF 38 p9 c9 (nz.map Prod.fst),poolR zu]∧(j≤7)) (fun j=>7-j) 0 ?_ ?_
 ·exact⟨⟨rfl,rfl,rfl⟩,rfl,Nat.zero_le _⟩
 rintro j f0 L0 ⟨⟨hs0,hs1,hs104⟩,hL,hjl⟩
 subst L0
 refine rbs 0 hs0 (rbs 1 hs1 (rbs 104 hs104 ?_))
 have hgj:=fun h=>hY.gv j h
 have hlj:=fun h=>hY.lv j h
 refine csr (lE olt (lnf (c_seq (c_if _ rfl (fun hc21=> ?_) (fun hc21=> ?_)))))
 ·refine csk (c_seq (c_block (csr (lE omi (lE oai (lnf (c_seq ?_)))))))
  refine c_re (L':=[rowF IntF 3 p7 c8 ([]:List Int),tpR H T (vint (Y.gv.at j)++(vint (Y.lv.at j)++n7D Y.gv Y.lv (j+1))),pt (blk (fa5 5)) (.cells #[Ix ((Y.out.length:Nat):Int)] 3),pt (blk (fa5 4)) (.cells #[Ix ((Y.here.length:Nat):Int)] 3),pt G (.cells #[Ix ((freshG Y.zone).zone),pp J 0,.map (some m),sB p9 nz c9,Ix ((n7F Y.gv j).n0),Ix ((n7F Y.gv j).n1),Ix ((n7F Y.gv j).n2),Ix ((n7F Y.gv j).n3),Ix ((n7F Y.gv j).n4),Ix ((n7F Y.gv j).n5),Ix ((n7F Y.gv j).n6),Ix ((n7F Y.lv j).n0),Ix ((n7F Y.lv j).n1),Ix ((n7F Y.lv j).n2),Ix ((n7F Y.lv j).n3),Ix ((n7F Y.lv j).n4),Ix ((n7F Y.lv j).n5),Ix ((n7F Y.lv j).n6),.bool (dn)] 77),mpR EnM m kt,rowF MgF 38 p9 c9 (nz.map Prod.fst),poolR zu]) (by rw[n7D_cons _ _ (by omega)]) ?_
  refine c_region (lE omf (lE omp (lE omi (lE onp (lE ofp ?_)))))
  refine lv (v:= .pointer (some ((⟨G,4,none⟩:Addr).add (j*1)))) (e_indexArrI (a:=⟨G,4,none⟩) (k:=j) rfl rfl ug25.ok (by omega)) ?_
  refine l_call rfl rfl rfl (cl_value (fst:=[pp T 0]) (cap:=[]) (vs:=[.pointer (some ((⟨G,4,none⟩:Addr).add (j*1)))]) (all:=[pp T 0,.pointer (some ((⟨G,4,none⟩:Addr).add (j*1)))]) ug8.ok rfl rfl rfl) ?_
  intro w hw
  replace hw:=hw.perm (L':=_::_::_::_::_::_::_::_::[]) (by exact((((((((perm_front 7 rfl).trans (perm_front 7 rfl)).trans (perm_front 7 rfl)).trans (perm_front 6 rfl)).trans (perm_front 6 rfl)).trans (perm_front 5 rfl)).trans (perm_front 7 rfl)).trans (perm_front 7 rfl)))
  obtain⟨β1,sb,kn,hw1,back⟩:=St.frame (L:=[_,_]) (M:=_::_::_::_::_::_::[]) hw
  refine(treadC_ok β1 w H (hH.trans sb) T (Y.gv.at j) ⟨by have:=hgj (by omega);omega,by have:=hgj (by omega);omega⟩ (vint (Y.lv.at j)++n7D Y.gv Y.lv (j+1)) _ (fun v=>pt G (.cells (gC ((freshG Y.zone).zone) J m p9 nz.length c9 ((n7F Y.gv j).upd j v) (n7F Y.lv j) dn) 77)) (cel_gv (by omega)) 0 (hw1.re2 (by rw[n7F_at _ (by omega)]))).mono ?_
  rintro e w' ⟨rfl,hw'⟩
  refine⟨_,rfl,_,back _ _ hw',?_⟩
  clear hw hw1 hw' back kn sb
  refine lnr (lE omf (lE omp (lE omi (lE onp (lE ofp ?_)))))
  refine lv (v:= .pointer (some ((⟨G,11,none⟩:Addr).add (j*1)))) (e_indexArrI (a:=⟨G,11,none⟩) (k:=j) rfl rfl ug25.ok (by omega)) ?_
  refine l_call rfl rfl rfl (cl_value (fst:=[pp T 0]) (cap:=[]) (vs:=[.pointer (some ((⟨G,11,none⟩:Addr).add (j*1)))]) (all:=[pp T 0,.pointer (some ((⟨G,11,none⟩:Addr).add (j*1)))]) ug8.ok rfl rfl rfl) ?_
  intro w hw
  replace hw:=hw.perm (L':=_::_::_::_::_::_::_::_::[]) (by exact((((((((perm_front 7 rfl).trans (perm_front 7 rfl)).trans (perm_front 7 rfl)).trans (perm_front 7 rfl)).trans (perm_front 7 rfl)).trans (perm_front 7 rfl)).trans (perm_front 7 rfl)).trans (perm_front 7 rfl)))
  obtain⟨β1,sb,kn,hw1,back⟩:=St.frame (L:=[_,_]) (M:=_::_::_::_::_::_::[]) hw
  refine(treadC_ok β1 w H (hH.trans sb) T (Y.lv.at j) ⟨by have:=hlj (by omega);omega,by have:=hlj (by omega);omega⟩ (n7D Y.gv Y.lv (j+1)) _ (fun v=>pt G (.cells (gC ((freshG Y.zone).zone) J m p9 nz.length c9 ((n7F Y.gv j).upd j (Y.gv.at j)) ((n7F Y.lv j).upd j v) dn) 77)) (cel_lv (by omega)) 0 (hw1.re2 (by rw[n7F_at _ (by omega)]))).mono ?_
  rintro e w' ⟨rfl,hw'⟩
  refine⟨_,rfl,_,back _ _ hw',?_⟩
  clear hw hw1 hw' back kn sb
  refine l_nil (f_block (f_then (c_region (lv (v:=Nx (j+1)) (e_add rfl rfl (i64n (by omega) (by omega))) (lE omi (l_nil ?_))))))
  refine f_re (L':=[tpR H T (n7D Y.gv Y.lv (j+1)),pt G (.cells #[Ix ((freshG Y.zone).zone),pp J 0,.map (some m),sB p9 nz c9,Ix ((n7F Y.gv (j+1)).n0),Ix ((n7F Y.gv (j+1)).n1),Ix ((n7F Y.gv (j+1)).n2),Ix ((n7F Y.gv (j+1)).n3),Ix ((n7F Y.gv (j+1)).n4),Ix ((n7F Y.gv (j+1)).n5),Ix ((n7F Y.gv (j+1)).n6),Ix ((n7F Y.lv (j+1)).n0),Ix ((n7F Y.lv (j+1)).n1),Ix ((n7F Y.lv (j+1)).n2),Ix ((n7F Y.lv (j+1)).n3),Ix ((n7F Y.lv (j+1)).n4),Ix ((n7F Y.lv (j+1)).n5),Ix ((n7F Y.lv (j+1)).n6),.bool (dn)] 77),rowF IntF 3 p7 c8 ([]:List Int),pt (blk (fa5 5)) (.cells #[Ix ((Y.out.length:Nat):Int)] 3),pt (blk (fa5 4)) (.cells #[Ix ((Y.here.length:Nat):Int)] 3),mpR EnM m kt,rowF MgF 38 p9 c9 (nz.map Prod.fst),poolR zu]) (by rw[n7F_step _ (by omega),n7F_step _ (by omega)]<;>rfl) ?_
  refine fpn [2,0,3,4,1,5,6,7] 8 ?_
  exact f_cut ⟨j+1,⟨⟨rfl,rfl,rfl⟩,rfl,(by omega)⟩,(show 7-(j+1)<7-j from by omega)⟩
 refine c_exit (f_then_exit (f_then_exit (f_exit (end0 Tryz.results56 ?_))))
 intro w hw
 have hje:j=7:=by omega
 rw[hje]at hw
 rw[hke,hie]at hku
 have hfin:GOk (src0G Y) kt nz zu:=by have:=hku.setOut (out:=Y.out.map src0) (by rw[←List.take_length (l:=Y.out)];exact hku.out) hku.mhd Y.gv Y.lv;rw[show({hereG Y Y.here.length with out:=Y.out.map src0,gv:=Y.gv,lv:=Y.lv}:KG)=src0G Y by unfold src0G hereG;rw[List.take_length];rfl]at this;exact this
 replace hw:St β [rowF IntF 3 p7 c8 ([]:List Int),tpR H T (n7D Y.gv Y.lv 7),pt (blk (fa5 5)) (.cells #[Ix ((Y.out.length:Nat):Int)] 3),pt (blk (fa5 4)) (.cells #[Ix ((Y.here.length:Nat):Int)] 3),pt G (.cells #[Ix ((freshG Y.zone).zone),pp J 0,.map (some m),sB p9 nz c9,Ix (Y.gv.n0),Ix (Y.gv.n1),Ix (Y.gv.n2),Ix (Y.gv.n3),Ix (Y.gv.n4),Ix (Y.gv.n5),Ix (Y.gv.n6),Ix (Y.lv.n0),Ix (Y.lv.n1),Ix (Y.lv.n2),Ix (Y.lv.n3),Ix (Y.lv.n4),Ix (Y.lv.n5),Ix (Y.lv.n6),.bool (dn)] 77),mpR EnM m kt,rowF MgF 38 p9 c9 (nz.map Prod.fst),poolR zu] w:=hw
 replace hw:=hw.perm (L':=[pt G (.cells #[Ix ((freshG Y.zone).zone),pp J 0,.map (some m),sB p9 nz c9,Ix (Y.gv.n0),Ix (Y.gv.n1),Ix (Y.gv.n2),Ix (Y.gv.n3),Ix (Y.gv.n4),Ix (Y.gv.n5),Ix (Y.gv.n6),Ix (Y.lv.n0),Ix (Y.lv.n1),Ix (Y.lv.n2),Ix (Y.lv.n3),Ix (Y.lv.n4),Ix (Y.lv.n5),Ix (Y.lv.n6),.bool (dn)] 77),mpR EnM m kt,rowF MgF 38 p9 c9 (nz.map Prod.fst),poolR zu,rowF IntF 3 p7 c8 ([]:List Int),tpR H T (n7D Y.gv Y.lv 7),pt (blk (fa5 5)) (.cells #[Ix ((Y.out.length:Nat):Int)] 3),pt (blk (fa5 4)) (.cells #[Ix ((Y.here.length:Nat):Int)] 3)]) (by exact(perm_ix [4,5,6,7,0,1,2,3] 8 rfl (by kernel_rfl) (by kernel_rfl)))
 replace hw:=st_mask (L':=[pt G (.cells #[Ix ((freshG Y.zone).zone),pp J 0,.map (some m),sB p9 nz c9,Ix (Y.gv.n0),Ix (Y.gv.n1),Ix (Y.gv.n2),Ix (Y.gv.n3),Ix (Y.gv.n4),Ix (Y.gv.n5),Ix (Y.gv.n6),Ix (Y.lv.n0),Ix (Y.lv.n1),Ix (Y.lv.n2),Ix (Y.lv.n3),Ix (Y.lv.n4),Ix (Y.lv.n5),Ix (Y.lv.n6),.bool (dn)] 77),mpR EnM m kt,rowF MgF 38 p9 c9 (nz.map Prod.fst),poolR zu]) [true,true,true,true,false,false,false,false] rfl hw
 exact⟨rfl,St.closeGv (M:=[]) hfin hw⟩
end Go.Proofs
namespace Go.Proofs
open Go Go.Sl Go.Hv
instance uh0:TyC Tryz.prog 127 false 1:={}
instance uh1:TyC Tryz.prog 93 false 1:={}
instance uh2:CfC Tryz.prog 56:={}
instance uh3:FldC Tryz.prog 75 1 1 1 false:={}
instance uh4:TyC Tryz.prog 35 false 1:={}
instance uh5:UndC Tryz.prog 35 38:={}
instance uh6:TyC Tryz.prog 3 false 1:={}
theorem uh7:slB Tryz.prog 35 38 6=true:=by kernel_rfl
instance uh8:FldC Tryz.prog 38 0 0 1 false:={}
set_option maxHeartbeats 4000000 in
theorem pall_ok(β:Base)(w:World)(Y:KG)(N:Int)(hY:XOk Y N)(hN:N≤4611686018427387904)(dn:Bool)(H:PHeap)(hH:Sub H β.heap)(T G J q6 q3 q4:Nat)(h6:Cs β.heap ⟨q6,0,none⟩ [pp T 0])(h3:Cs β.heap ⟨q3,0,none⟩ [pp G 2])(h4:Cs β.heap ⟨q4,0,none⟩ [Ix Y.zone])(hw:St β [tpR H T (allB Y),gvR G J (freshG Y.zone) dn] w):Calls Tryz.prog 77 #[pp q3 0,pp q6 0,pp q4 0] w fun r w'=>r= .returned (.tuple #[])∧St β [gvR G J Y dn] w':=by
 refine enter (n:=25) Tryz.func77 rfl Tryz.ntmps77 rfl ?_ hw
 refine csr (lv (v:=pp G 2) (e_load1 uh0.ok rfl (kB h3)) (lv (v:=pp T 0) (e_load1 uh1.ok rfl (kB h6)) ?_))
 refine lv (v:= .func (.func 66) #[pp T 0] #[]) (e_func (u:=[pp T 0]) (v:=[]) rfl rfl) ?_
 refine l_call rfl rfl rfl (cl0 (vs:=[pp G 2,.func (.func 66) #[pp T 0] #[]]) uh2.ok rfl rfl) ?_
 intro w hw
 replace hw:=hw.perm (L':=_::_::[]) (by exact((perm_front 1 rfl).trans (perm_front 1 rfl)))
 obtain⟨β1,sb,kn,hw1,back⟩:=St.frame (L:=[_,_]) (M:=[]) hw
 refine(wholeR_ok β1 w H (hH.trans sb) G J Y _ hY hN dn T hw1).mono ?_
 rintro e w' ⟨rfl,hw'⟩
 refine⟨_,rfl,_,back _ _ hw',?_⟩
 clear hw hw1 hw' back kn sb
 refine lnf (c_seq (c_openGv rfl fun m p c ks mz zs hk=> ?_))
 have hmlm:(mz.map Prod.fst).length=mz.length:=List.length_map _
 have hmo:mz.length=Y.out.length:=by rw[hk.mlen];exact List.length_map _
 refine c_region (lv (v:=pp G 2) (e_load1 uh0.ok rfl (kB h3)) (lE onp (lE ofp (lE (ols 0) (lE oln (lE omi (lnf (c_block ?_))))))))
 refine c_mask [true,true,true,true] rfl ?_
 refine c_loop (fun(x_:Nat×MPool) f L=>match x_ with|(k,nz)=>(f 0= .pointer (some (⟨q3,0,none⟩))∧f 2= .pointer (some (⟨q4,0,none⟩))∧f 12=Nx (mz.length)∧f 13=Nx (k))∧L=[pt G (.cells #[Ix ((src0G Y).zone),pp J 0,.map (some m),sB p mz c,Ix ((src0G Y).gv.n0),Ix ((src0G Y).gv.n1),Ix ((src0G Y).gv.n2),Ix ((src0G Y).gv.n3),Ix ((src0G Y).gv.n4),Ix ((src0G Y).gv.n5),Ix ((src0G Y).gv.n6),Ix ((src0G Y).lv.n0),Ix ((src0G Y).lv.n1),Ix ((src0G Y).lv.n2),Ix ((src0G Y).lv.n3),Ix ((src0G Y).lv.n4),Ix ((src0G Y).lv.n5),Ix ((src0G Y).lv.n6),.bool (dn)] 77),mpR EnM m ks,rowF MgF 38 p c ((nz.map Prod.fst)++(mz.map Prod.fst).drop k),poolR zs]∧(k≤mz.length∧nz.map Prod.snd=Y.out.take k∧(∀z∈nz,MHd z∧(z.1.eh,z.2.e)∈zs)∧nz.length=k)) (fun(k,nz)=>mz.length-k) (0,[]) ?_ ?_
 ·exact⟨⟨rfl,rfl,rfl,rfl⟩,rfl,⟨Nat.zero_le _,rfl,(fun z hz=>by cases hz),rfl⟩⟩
 rintro⟨k,nz⟩ f0 L0 ⟨⟨hs0,hs2,hs12,hs13⟩,hL,⟨hkl,hys,hyh,hnl⟩⟩
 subst L0
 refine rbs 0 hs0 (rbs 2 hs2 (rbs 12 hs12 (rbs 13 hs13 ?_)))
 have hfl:((nz.map Prod.fst)++(mz.map Prod.fst).drop k).length=mz.length:=by rw[List.length_append,List.length_map,List.length_drop,List.length_map];omega
 have hfo:=hY.ofew
 refine csr (lE olt (lnf (c_seq (c_if _ rfl (fun hc1=> ?_) (fun hc1=> ?_)))))
 ·refine csk (c_seq (c_block (csr (lE omi (lE oai (lnf ?_))))))
  obtain⟨x2,hx3⟩:∃x_,((nz.map Prod.fst)++(mz.map Prod.fst).drop k)[k]? =some x_:=⟨_,List.getElem?_eq_getElem (by first|omega|decide)⟩
  obtain⟨z,hz,hzx⟩:=fill_get hnl hx3
  obtain⟨ho0,hmh,hez0,-⟩:=hk.outAt hz
  obtain⟨sm,ho,hsm⟩:=map_get ho0
  have hez:(x2.eh,sm.e)∈zs:=by rw[←hzx];rw[←hsm]at hez0;exact hez0
  have hsr:=(hY.ohd sm (List.mem_of_getElem? ho)).1
  have hmn:MHd (({x2 with src:=Y.zone}:KMg),sm):=by rw[←hzx];exact⟨hsr.symm,hmh.to.trans (show z.2.to=sm.to by rw[←hsm];rfl),hmh.number.trans (show z.2.number=sm.number by rw[←hsm];rfl),hmh.ack.trans (show z.2.ack=sm.ack by rw[←hsm];rfl),hmh.id.trans (show z.2.e.id=sm.e.id by rw[←hsm];rfl),hmh.n.trans (show z.2.e.comps.length=sm.e.comps.length by rw[←hsm];rfl)⟩
  refine cnz [sv 16 (pp G 2) [] [] [0],sv 17 (pp G 2) [0] [0] [],sv 18 (pp G 3) [0,1] [1] [],sv 19 (sB p mz c) [0,1,2] [2] [],sv 20 (Nx (k)) [] [] [1],sv 21 (Ix (Y.zone)) [] [] [2],sv 22 (.pointer (some ((ba p).add (k*6)))) (List.range 6) [3,4] [],sv 23 (.pointer (some ((ba p).add (k*6)))) (List.range 7) [6] [],⟨(List.range 8),[7,5],[],[],fun _=>True⟩] [u1 [3],u0,(some 8,[6,8])] [⟨(some 8),none,[],[],fun _=>rowF MgF 38 p c (((nz.map Prod.fst)++(mz.map Prod.fst).drop k).set k ({x2 with src:=Y.zone}:KMg))⟩] [(0,.pointer (some (⟨q3,0,none⟩))),(3,Nx (k)),(2,.pointer (some (⟨q4,0,none⟩))),(12,Nx (mz.length)),(13,Nx (k))] [0,2,3,4] ⟨rfl,rfl,rfl,rfl,rfl,trivial⟩ ⟨?_,?_,?_,?_,?_,?_,?_,?_,?_,trivial⟩ ?_
  ·rintro f M-⟨i0,-⟩
   exact ob0 (up_cons (d:=0) rfl i0) rfl (e_load1 uh0.ok rfl (kB h3)) (.refl _)
  ·rintro f M ⟨k0,-⟩-
   exact obE onp
  ·rintro f M ⟨k0,-⟩-
   exact obE ofp
  ·rintro f M ⟨k0,-⟩-
   exact obE (ols 0)
  ·rintro f M-⟨i0,-⟩
   exact obE omi
  ·rintro f M-⟨i0,-⟩
   exact ob0 (up_cons (d:=2) rfl i0) rfl (e_load1 uh6.ok rfl (kB h4)) (.refl _)
  ·rintro f M ⟨k0,k1,-⟩-
   exact obv (L':=rowF MgF 38 p c ((nz.map Prod.fst)++(mz.map Prod.fst).drop k)::M) (up_cons (d:=20) (up_cons (d:=19) rfl k0) k1) rfl (e_indexFlN 0 (F:=MgF) (j:=k) (m:=mz.length) (xs:=((nz.map Prod.fst)++(mz.map Prod.fst).drop k)) rfl (by omega) rfl uh7 (by omega) rfl) (perm_front 0 rfl) (by rfl)
  ·rintro f M ⟨k0,-⟩-
   exact ob0 (up_cons (d:=22) rfl k0) rfl (ev_eq (congrArg (fun z=>Value.pointer (some z)) (show((ba p).add (k*6):Addr).add 0=(ba p).add (k*6) by rw[Addr.add_add'];rfl)) (e_fieldAddr (a:=(ba p).add (k*6)) rfl uh8.ok)) (.refl _)
  ·rintro f M ⟨k0,k1,-⟩-
   refine ob_start (L':=rowF MgF 38 p c ((nz.map Prod.fst)++(mz.map Prod.fst).drop k)::M) (by rfl) (up_cons (d:=21) (up_cons (d:=23) rfl k0) k1) ?_
   refine lu (m_storeFlPart 0 (F:=MgF) (p:=p) (k:=k) (o:=0) (xs:=((nz.map Prod.fst)++(mz.map Prod.fst).drop k)) (z0:=x2) (z:=({x2 with src:=Y.zone}:KMg)) uh6.ok rfl rfl rfl rfl rfl hx3 (by decide) rfl) ?_
   refine l_nil ?_
   exact f_owes_n (up_cons (d:=21) (up_cons (d:=23) rfl k0) k1) trivial (perm_front 0 rfl)
  rintro fa4 ⟨-,-,-,-,-,-,-,-,-,-⟩ ⟨j0,j1,j2,j3,-⟩
  refine f_re (L':=[pt G (.cells #[Ix ((src0G Y).zone),pp J 0,.map (some m),sB p mz c,Ix ((src0G Y).gv.n0),Ix ((src0G Y).gv.n1),Ix ((src0G Y).gv.n2),Ix ((src0G Y).gv.n3),Ix ((src0G Y).gv.n4),Ix ((src0G Y).gv.n5),Ix ((src0G Y).gv.n6),Ix ((src0G Y).lv.n0),Ix ((src0G Y).lv.n1),Ix ((src0G Y).lv.n2),Ix ((src0G Y).lv.n3),Ix ((src0G Y).lv.n4),Ix ((src0G Y).lv.n5),Ix ((src0G Y).lv.n6),.bool (dn)] 77),mpR EnM m ks,poolR zs,rowF MgF 38 p c (((nz.map Prod.fst)++(mz.map Prod.fst).drop k).set k ({x2 with src:=Y.zone}:KMg))]) (by rfl) ?_
  refine f_rebase (d:=0) j0 (f_rebase (d:=2) j1 (f_rebase (d:=12) j2 (f_rebase (d:=13) j3 (f_block (f_then (c_region ?_))))))
  refine lv (v:=Nx (k+1)) (e_add (a:=((k:Nat):Int)) (b:=(1:Int)) rfl rfl (i64n (by omega) (by omega))) (lE omi (l_nil ?_))
  refine f_re (L':=[pt G (.cells #[Ix ((src0G Y).zone),pp J 0,.map (some m),sB p mz c,Ix ((src0G Y).gv.n0),Ix ((src0G Y).gv.n1),Ix ((src0G Y).gv.n2),Ix ((src0G Y).gv.n3),Ix ((src0G Y).gv.n4),Ix ((src0G Y).gv.n5),Ix ((src0G Y).gv.n6),Ix ((src0G Y).lv.n0),Ix ((src0G Y).lv.n1),Ix ((src0G Y).lv.n2),Ix ((src0G Y).lv.n3),Ix ((src0G Y).lv.n4),Ix ((src0G Y).lv.n5),Ix ((src0G Y).lv.n6),.bool (dn)] 77),mpR EnM m ks,poolR zs,rowF MgF 38 p c (((nz++[(({x2 with src:=Y.zone}:KMg),sm)]).map Prod.fst)++(mz.map Prod.fst).drop (k+1))]) (by rw[fill_step (s:=sm) hnl hz]) ?_
  refine f_perm (L':=[pt G (.cells #[Ix ((src0G Y).zone),pp J 0,.map (some m),sB p mz c,Ix ((src0G Y).gv.n0),Ix ((src0G Y).gv.n1),Ix ((src0G Y).gv.n2),Ix ((src0G Y).gv.n3),Ix ((src0G Y).gv.n4),Ix ((src0G Y).gv.n5),Ix ((src0G Y).gv.n6),Ix ((src0G Y).lv.n0),Ix ((src0G Y).lv.n1),Ix ((src0G Y).lv.n2),Ix ((src0G Y).lv.n3),Ix ((src0G Y).lv.n4),Ix ((src0G Y).lv.n5),Ix ((src0G Y).lv.n6),.bool (dn)] 77),mpR EnM m ks,rowF MgF 38 p c (((nz++[(({x2 with src:=Y.zone}:KMg),sm)]).map Prod.fst)++(mz.map Prod.fst).drop (k+1)),poolR zs]) (perm_ix [0,1,3,2] 4 rfl (by kernel_rfl) (by kernel_rfl)) ?_
  exact f_cut ⟨(k+1,(nz++[(({x2 with src:=Y.zone}:KMg),sm)])),⟨⟨rfl,rfl,rfl,rfl⟩,rfl,⟨by omega,take_snd hys ho,all_snoc hyh ⟨hmn,hez⟩,by rw[List.length_append,hnl];rfl⟩⟩,(show mz.length-(k+1)<mz.length-k from by omega)⟩
 refine c_exit (f_then_exit (f_then_exit (f_exit (end0 Tryz.results77 ?_))))
 intro w hw
 have hke:k=mz.length:=by omega
 have hye:nz.map Prod.snd=Y.out:=by rw[hys,List.take_of_length_le (by omega)]
 have hk2:GOk Y ks nz zs:=hk.setOut hye hyh Y.gv Y.lv
 have hfe:((nz.map Prod.fst)++(mz.map Prod.fst).drop k)=nz.map Prod.fst:=by rw[hke,List.drop_of_length_le (by omega),List.append_nil]
 have hnm:mz.length=nz.length:=by omega
 unfold sB at hw;rw[hfe,hnm]at hw
 replace hw:St β [pt G (.cells (gC (Y.zone) J m p (nz.length) c Y.gv Y.lv (dn)) 77),mpR EnM m ks,rowF MgF 38 p c (nz.map Prod.fst),poolR zs] w:=hw
 exact⟨rfl,St.closeGv (M:=[]) hk2 hw⟩
end Go.Proofs
