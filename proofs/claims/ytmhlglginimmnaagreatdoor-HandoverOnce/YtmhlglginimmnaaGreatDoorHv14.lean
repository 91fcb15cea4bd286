/-
 Own work; plain Lean (Hv13, Hv14).
-/
import Derived.Test.YtmhlglginimmnaaGreatDoorHvSort
set_option linter.all false
namespace Go.Proofs
open Go Go.Sl Go.Hv
instance ue0:TyC Tryz.prog 93 false 1:={}
instance ue1:CfC Tryz.prog 68:={}
instance ue2:TyC Tryz.prog 127 false 1:={}
instance ue3:FldC Tryz.prog 75 2 2 7 true:={}
instance ue4:ArrC Tryz.prog 56 7 3 1:={}
instance ue5:TyC Tryz.prog 3 false 1:={}
instance ue6:FldC Tryz.prog 75 1 1 1 false:={}
instance ue7:TyC Tryz.prog 35 false 1:={}
instance ue8:FldC Tryz.prog 75 0 0 1 false:={}
instance ue9:TyC Tryz.prog 73 false 1:={}
theorem ue10:stB Tryz.prog 38 [(0,1),(1,1),(2,1),(3,1),(4,2)]=true:=by kernel_rfl
instance ue11:ZerC Tryz.prog 38 (.agg #[.int .i64 (0),.int .i64 (0),.int .i64 (0),.bool false,.int .i64 (0),.slice none 0 0]):={}
theorem ue12:slB Tryz.prog 35 38 6=true:=by kernel_rfl
theorem ue13:elB Tryz.prog 38 6 64=true:=by kernel_rfl
instance ue14:CfC Tryz.prog 70:={}
set_option maxHeartbeats 4000000 in
theorem pgive_ok(β:Base)(w:World)(X:KG)(N:Int)(hX:XOk X N)(dn:Bool)(H:PHeap)(hH:Sub H β.heap)(T G J q6 q3 q4:Nat)(h6:Cs β.heap ⟨q6,0,none⟩ [pp T 0])(h3:Cs β.heap ⟨q3,0,none⟩ [pp G 2])(h4:Cs β.heap ⟨q4,0,none⟩ [Ix X.zone])(hN:N≤4611686018427387000)(id to:Int)(hid:inI id)(hh:∃e∈X.here,e.id=id)(ht:1≤to∧to≤6)(hof:X.out.length<64)(hw:St β [tpR H T (vint id++(vint to++[])),gvR G J X dn] w):Calls Tryz.prog 69 #[pp q6 0,pp q3 0,pp q4 0] w fun r w'=>r= .returned (.tuple #[])∧St β [gvR G J (playX X (.give id to)) dn] w':=by
 replace hw:=hw.perm (List.Perm.swap _ _ _)
 obtain⟨m,p,c,ks,mz,zs,hk,hw⟩:=St.openGv hw
 have hgv:=hX.gv to.toNat (by omega)
 refine enter (n:=53) Tryz.func69 rfl Tryz.ntmps69 rfl ?_ hw
 refine c_seq ?_
 refine cny [sv 5 (pp T 0) [] [] [0],sv 6 (Ix (id)) [0] [0] [],sv 7 (pp T 0) [] [] [0],sv 8 (Ix (to)) [0,1,2] [2] [],sv 3 (Ix (id)) [0,1,2,3] [1] [],sv 4 (Ix (to)) [0,1,2,3,4] [3] []] [tk (pt G (.cells (gC (X.zone) J m p (mz.length) c X.gv X.lv (dn)) 77)) [],tk (mpR EnM m ks) [],tk (rowF MgF 38 p c (mz.map Prod.fst)) [],tk (poolR zs) [],⟨none,(some 1),[1],[],fun _=>tpR H T (vint id++(vint to++[]))⟩,⟨(some 1),(some 3),[3],[],fun _=>tpR H T (vint to++[])⟩,⟨(some 3),none,[],[],fun _=>tpR H T []⟩] [(0,.pointer (some (⟨q6,0,none⟩))),(1,.pointer (some (⟨q3,0,none⟩))),(2,.pointer (some (⟨q4,0,none⟩)))] [1,2] [] ⟨rfl,rfl,rfl,trivial⟩ ⟨?_,?_,?_,?_,?_,?_,trivial⟩ ?_
 ·rintro f M-⟨i0,-⟩
  exact ob0 (up_cons (d:=0) rfl i0) rfl (e_load1 ue0.ok rfl (kB h6)) (.refl _)
 ·rintro f M ⟨k0,-⟩-
  refine ob_start (L':=tpR H T (vint id++(vint to++[]))::M) (by rfl) (up_cons (d:=5) rfl k0) ?_
  refine l_call rfl rfl rfl (cl0 (vs:=[pp T 0]) ue1.ok rfl rfl) ?_
  intro w hw
  replace hw:=hw.perm (L':=_::M) (by exact(perm_front 0 rfl))
  obtain⟨β1,sb,kn,hw1,back⟩:=St.frame (L:=[_]) (M:=M) hw
  refine(tget_ok β1 w H (hH.trans sb) T id hid (vint to++[]) hw1).mono ?_
  rintro e w' ⟨rfl,hw'⟩
  refine⟨_,rfl,_,back _ _ hw',?_⟩
  clear hw hw1 hw' back kn sb
  refine l_nil ?_
  exact f_owes_d (up_cons (d:=5) rfl k0) rfl (perm_front 0 rfl)
 ·rintro f M-⟨i0,-⟩
  exact ob0 (up_cons (d:=0) rfl i0) rfl (e_load1 ue0.ok rfl (kB h6)) (.refl _)
 ·rintro f M ⟨k0,-⟩-
  refine ob_start (L':=tpR H T (vint to++[])::M) (by rfl) (up_cons (d:=7) rfl k0) (l_call rfl rfl rfl (cl0 (vs:=[pp T 0]) ue1.ok rfl rfl) ?_)
  intro w hw
  replace hw:=hw.perm (L':=_::M) (by exact(perm_front 0 rfl))
  obtain⟨β1,sb,kn,hw1,back⟩:=St.frame (L:=[_]) (M:=M) hw
  refine(tget_ok β1 w H (hH.trans sb) T to (by omega) [] hw1).mono ?_
  rintro e w' ⟨rfl,hw'⟩
  refine⟨_,rfl,_,back _ _ hw',?_⟩
  clear hw hw1 hw' back kn sb
  refine l_nil ?_
  exact f_owes_d (up_cons (d:=7) rfl k0) rfl (perm_front 0 rfl)
 ·rintro f M ⟨k0,-⟩-
  exact obE oai
 ·rintro f M ⟨k0,-⟩-
  exact obE oai
 rintro fa1 ⟨-,-,-,-,k4,k5,-⟩ ⟨j0,j1,-⟩
 refine fre ?_
 refine f_rebase (d:=1) j0 (f_rebase (d:=2) j1 (f_rebase (d:=3) k4 (f_rebase (d:=4) k5 (fts ?_))))
 obtain⟨hem,hei⟩:=find_spec hh
 obtain⟨hd,hlk0,hez⟩:=hk.some_ _ hem
 have hlk:(EnM.look ks id).getD zeroEh=hd:=by rw[←hei,hlk0];rfl
 have hhd:=hk.hdr _ hez
 have hml:(mz.map Prod.fst).length≤1048575:=by rw[List.length_map,hk.mlen];omega
 have hml2:(mz.map Prod.fst).length=mz.length:=List.length_map _
 have hmol:=hk.mlen
 refine cnz [sv 9 (pp G 2) [] [] [0],sv 10 (Ix (to)) [] [] [1],sv 11 (pp G 2) [0] [0] [],sv 12 (pp G 4) [0,2] [2] [],sv 13 (.pointer (some ((⟨G,4,none⟩:Addr).add (((to).toNat)*1)))) [0,1,2,3] [3,1] [],sv 14 (Ix (X.gv.at ((to).toNat))) [0,1,2,3,4] [4] [],sv 15 (Ix ((X.gv.at ((to).toNat))+(1:Int))) (List.range 6) [5] [],sv 16 (pp G 2) [0] [0] [],sv 17 (pp G 4) [0,7] [7] [],sv 18 (.pointer (some ((⟨G,4,none⟩:Addr).add (((to).toNat)*1)))) (List.range 9) [8,1] [],⟨(List.range 10),[9,6],[],[],fun _=>True⟩] [(some 10,[5,10])] [⟨(some 10),none,[],[],fun _=>pt G (.cells #[Ix (X.zone),pp J 0,.map (some m),sB p mz c,Ix ((X.gv.upd ((to).toNat) ((X.gv.at ((to).toNat))+(1:Int))).n0),Ix ((X.gv.upd ((to).toNat) ((X.gv.at ((to).toNat))+(1:Int))).n1),Ix ((X.gv.upd ((to).toNat) ((X.gv.at ((to).toNat))+(1:Int))).n2),Ix ((X.gv.upd ((to).toNat) ((X.gv.at ((to).toNat))+(1:Int))).n3),Ix ((X.gv.upd ((to).toNat) ((X.gv.at ((to).toNat))+(1:Int))).n4),Ix ((X.gv.upd ((to).toNat) ((X.gv.at ((to).toNat))+(1:Int))).n5),Ix ((X.gv.upd ((to).toNat) ((X.gv.at ((to).toNat))+(1:Int))).n6),Ix (X.lv.n0),Ix (X.lv.n1),Ix (X.lv.n2),Ix (X.lv.n3),Ix (X.lv.n4),Ix (X.lv.n5),Ix (X.lv.n6),.bool (dn)] 77)⟩] [(1,.pointer (some (⟨q3,0,none⟩))),(4,Ix (to)),(2,.pointer (some (⟨q4,0,none⟩))),(3,Ix (id))] [0,2,3,1] ⟨rfl,rfl,rfl,rfl,trivial⟩ ⟨?_,?_,?_,?_,?_,?_,?_,?_,?_,?_,?_,trivial⟩ ?_
 ·rintro f M-⟨i0,-⟩
  exact ob0 (up_cons (d:=1) rfl i0) rfl (e_load1 ue2.ok rfl (kB h3)) (.refl _)
 ·rintro f M-⟨i0,-⟩
  exact obE omi
 ·rintro f M ⟨k0,-⟩-
  exact obE onp
 ·rintro f M ⟨k0,-⟩-
  exact obE ofp
 ·rintro f M ⟨k0,k1,-⟩-
  exact ob0 (up_cons (d:=10) (up_cons (d:=12) rfl k0) k1) rfl (e_indexArrI (a:=⟨G,4,none⟩) (k:=(to).toNat) rfl (show Ix (to)=Ix (((to).toNat:Nat):Int)from congrArg (Value.int .i64) (by omega)) ue4.ok (by omega)) (.refl _)
 ·rintro f M ⟨k0,-⟩-
  exact obv (L':=pt G (.cells (gC (X.zone) J m p (mz.length) c X.gv X.lv (dn)) 77)::M) (up_cons (d:=13) rfl k0) rfl (e_load1 ue5.ok rfl (Knows.imp (k_pt 0 (o:=4) rfl rfl) fun _ h=>cs_fl (F:=IntF) (xs:=X.gv.toL) h (KN7.get (by omega)))) (perm_front 0 rfl) (by rfl)
 ·rintro f M ⟨k0,-⟩-
  exact obE opl
 ·rintro f M ⟨k0,-⟩-
  exact obE onp
 ·rintro f M ⟨k0,-⟩-
  exact obE ofp
 ·rintro f M ⟨k0,k1,-⟩-
  exact ob0 (up_cons (d:=10) (up_cons (d:=17) rfl k0) k1) rfl (e_indexArrI (a:=⟨G,4,none⟩) (k:=(to).toNat) rfl (show Ix (to)=Ix (((to).toNat:Nat):Int)from congrArg (Value.int .i64) (by omega)) ue4.ok (by omega)) (.refl _)
 ·rintro f M ⟨k0,k1,-⟩-
  refine obS (up_cons (d:=15) (up_cons (d:=18) rfl k0) k1) ?_
  refine lu (m_storeN (off:=4) (k:=(to).toNat) (v:=(X.gv.at ((to).toNat))+(1:Int)) 0 ue5.ok rfl rfl rfl (by show _≤19;omega) (over_gv (by omega))) ?_
  refine l_nil ?_
  exact f_owes_n (up_cons (d:=15) (up_cons (d:=18) rfl k0) k1) trivial (perm_front 0 rfl)
 rintro fa2 ⟨-,-,-,-,-,-,-,-,-,-,-,-⟩ ⟨j0,j1,j2,j3,-⟩
 refine fre ?_
 refine f_rebase (d:=1) j0 (f_rebase (d:=2) j1 (f_rebase (d:=3) j2 (f_rebase (d:=4) j3 (fts ?_))))
 refine cnz [sv 19 (pp G 2) [] [] [0],sv 20 (pp G 2) [] [] [0],sv 21 (pp G 2) [1] [1] [],sv 22 (pp G 3) [1,2] [2] [],sv 23 (sB p mz c) [1,2,3] [3] [],sv 24 (Ix (X.zone)) [] [] [1],sv 25 (Ix (to)) [] [] [2],sv 26 (pp G 2) [] [] [0],sv 27 (Ix (to)) [] [] [2],sv 28 (pp G 2) [7] [7] [],sv 29 (pp G 4) [7,9] [9] [],sv 30 (.pointer (some ((⟨G,4,none⟩:Addr).add (((to).toNat)*1)))) [7,8,9,10] [10,8] [],sv 31 (Ix ((X.gv.upd ((to).toNat) ((X.gv.at ((to).toNat))+(1:Int))).at ((to).toNat))) [7,8,9,10,11] [11] [],sv 32 (pp G 2) [] [] [0],sv 33 (pp G 2) [13] [13] [],sv 34 (pp G 2) [13,14] [14] [],sv 35 (.map (some m)) [13,14,15] [15] [],sv 36 (Ix (id)) [] [] [3],sv 37 (.agg #[Ix (hd.id),.slice hd.p (hd.n) hd.c]) [13,14,15,16,17] [16,17] [],sv 38 (.agg #[Ix (X.zone),Ix (to),Ix ((X.gv.upd ((to).toNat) ((X.gv.at ((to).toNat))+(1:Int))).at ((to).toNat)),.bool false,Ix (hd.id),.slice hd.p (hd.n) hd.c]) [5,6,7,8,9,10,11,12,13,14,15,16,17,18] [5,6,12,18] [],⟨[5,6,7,8,9,10,11,12,13,14,15,16,17,18,19],[19],[],[39],fun f=>f 39= .slice (some ⟨(blk (f 39)),0,none⟩) 1 1⟩,⟨[1,2,3,4,5,6,7,8,9,10,11,12,13,14,15,16,17,18,19,20],[4,20],[],[40],fun f=>f 40=sB (sla (f 40)) ((mz.map Prod.fst)++[(⟨X.zone,to,(X.gv.upd ((to).toNat) ((X.gv.at ((to).toNat))+(1:Int))).at ((to).toNat),false,hd.id,hd.p,hd.n,hd.c⟩:KMg)]) (slc (f 40))⟩,sv 41 (pp G 2) (List.range 22) [0] [],sv 42 (pp G 3) (List.range 23) [22] [],⟨(List.range 24),[23,21],[],[],fun _=>True⟩] [u1 [18],(some 21,[21]),u0,u0,(some 24,[4,12,16,24])] [⟨(some 20),none,[21],[39],fun f=>pt (blk (f 39)) (.cells #[Ix (X.zone),Ix (to),Ix ((X.gv.upd ((to).toNat) ((X.gv.at ((to).toNat))+(1:Int))).at ((to).toNat)),.bool false,Ix (hd.id),.slice hd.p (hd.n) hd.c] 38)⟩,⟨(some 21),none,[],[40],fun f=>rowF MgF 38 (sla (f 40)) (slc (f 40)) ((mz.map Prod.fst)++[(⟨X.zone,to,(X.gv.upd ((to).toNat) ((X.gv.at ((to).toNat))+(1:Int))).at ((to).toNat),false,hd.id,hd.p,hd.n,hd.c⟩:KMg)])⟩,⟨(some 24),none,[],[40],fun f=>pt G (.cells #[Ix (X.zone),pp J 0,.map (some m),sB (sla (f 40)) ((mz.map Prod.fst)++[(⟨X.zone,to,(X.gv.upd ((to).toNat) ((X.gv.at ((to).toNat))+(1:Int))).at ((to).toNat),false,hd.id,hd.p,hd.n,hd.c⟩:KMg)]) (slc (f 40)),Ix ((X.gv.upd ((to).toNat) ((X.gv.at ((to).toNat))+(1:Int))).n0),Ix ((X.gv.upd ((to).toNat) ((X.gv.at ((to).toNat))+(1:Int))).n1),Ix ((X.gv.upd ((to).toNat) ((X.gv.at ((to).toNat))+(1:Int))).n2),Ix ((X.gv.upd ((to).toNat) ((X.gv.at ((to).toNat))+(1:Int))).n3),Ix ((X.gv.upd ((to).toNat) ((X.gv.at ((to).toNat))+(1:Int))).n4),Ix ((X.gv.upd ((to).toNat) ((X.gv.at ((to).toNat))+(1:Int))).n5),Ix ((X.gv.upd ((to).toNat) ((X.gv.at ((to).toNat))+(1:Int))).n6),Ix (X.lv.n0),Ix (X.lv.n1),Ix (X.lv.n2),Ix (X.lv.n3),Ix (X.lv.n4),Ix (X.lv.n5),Ix (X.lv.n6),.bool (dn)] 77)⟩] [(1,.pointer (some (⟨q3,0,none⟩))),(2,.pointer (some (⟨q4,0,none⟩))),(4,Ix (to)),(3,Ix (id))] [0,3] ⟨rfl,rfl,rfl,rfl,trivial⟩ ⟨?_,?_,?_,?_,?_,?_,?_,?_,?_,?_,?_,?_,?_,?_,?_,?_,?_,?_,?_,?_,?_,?_,?_,?_,?_,trivial⟩ ?_
 ·rintro f M-⟨i0,-⟩
  exact ob0 (up_cons (d:=1) rfl i0) rfl (e_load1 ue2.ok rfl (kB h3)) (.refl _)
 ·rintro f M-⟨i0,-⟩
  exact ob0 (up_cons (d:=1) rfl i0) rfl (e_load1 ue2.ok rfl (kB h3)) (.refl _)
 ·rintro f M ⟨k0,-⟩-
  exact obE onp
 ·rintro f M ⟨k0,-⟩-
  exact obE ofp
 ·rintro f M ⟨k0,-⟩-
  exact obE (ols 0)
 ·rintro f M-⟨i0,-⟩
  exact ob0 (up_cons (d:=2) rfl i0) rfl (e_load1 ue5.ok rfl (kB h4)) (.refl _)
 ·rintro f M-⟨i0,-⟩
  exact obE omi
 ·rintro f M-⟨i0,-⟩
  exact ob0 (up_cons (d:=1) rfl i0) rfl (e_load1 ue2.ok rfl (kB h3)) (.refl _)
 ·rintro f M-⟨i0,-⟩
  exact obE omi
 ·rintro f M ⟨k0,-⟩-
  exact obE onp
 ·rintro f M ⟨k0,-⟩-
  exact obE ofp
 ·rintro f M ⟨k0,k1,-⟩-
  exact ob0 (up_cons (d:=27) (up_cons (d:=29) rfl k0) k1) rfl (e_indexArrI (a:=⟨G,4,none⟩) (k:=(to).toNat) rfl (show Ix (to)=Ix (((to).toNat:Nat):Int)from congrArg (Value.int .i64) (by omega)) ue4.ok (by omega)) (.refl _)
 ·rintro f M ⟨k0,-⟩-
  exact obv (L':=pt G (.cells #[Ix (X.zone),pp J 0,.map (some m),sB p mz c,Ix ((X.gv.upd ((to).toNat) ((X.gv.at ((to).toNat))+(1:Int))).n0),Ix ((X.gv.upd ((to).toNat) ((X.gv.at ((to).toNat))+(1:Int))).n1),Ix ((X.gv.upd ((to).toNat) ((X.gv.at ((to).toNat))+(1:Int))).n2),Ix ((X.gv.upd ((to).toNat) ((X.gv.at ((to).toNat))+(1:Int))).n3),Ix ((X.gv.upd ((to).toNat) ((X.gv.at ((to).toNat))+(1:Int))).n4),Ix ((X.gv.upd ((to).toNat) ((X.gv.at ((to).toNat))+(1:Int))).n5),Ix ((X.gv.upd ((to).toNat) ((X.gv.at ((to).toNat))+(1:Int))).n6),Ix (X.lv.n0),Ix (X.lv.n1),Ix (X.lv.n2),Ix (X.lv.n3),Ix (X.lv.n4),Ix (X.lv.n5),Ix (X.lv.n6),.bool (dn)] 77)::M) (up_cons (d:=30) rfl k0) rfl (e_load1 ue5.ok rfl (Knows.imp (k_pt 0 (o:=4) rfl rfl) fun _ h=>cs_fl (F:=IntF) (xs:=(X.gv.upd ((to).toNat) ((X.gv.at ((to).toNat))+(1:Int))).toL) h (KN7.get (by omega)))) (perm_front 0 rfl) (by rfl)
 ·rintro f M-⟨i0,-⟩
  exact ob0 (up_cons (d:=1) rfl i0) rfl (e_load1 ue2.ok rfl (kB h3)) (.refl _)
 ·rintro f M ⟨k0,-⟩-
  exact obE onp
 ·rintro f M ⟨k0,-⟩-
  exact obE ofp
 ·rintro f M ⟨k0,-⟩-
  exact obv (L':=pt G (.cells #[Ix (X.zone),pp J 0,.map (some m),sB p mz c,Ix ((X.gv.upd ((to).toNat) ((X.gv.at ((to).toNat))+(1:Int))).n0),Ix ((X.gv.upd ((to).toNat) ((X.gv.at ((to).toNat))+(1:Int))).n1),Ix ((X.gv.upd ((to).toNat) ((X.gv.at ((to).toNat))+(1:Int))).n2),Ix ((X.gv.upd ((to).toNat) ((X.gv.at ((to).toNat))+(1:Int))).n3),Ix ((X.gv.upd ((to).toNat) ((X.gv.at ((to).toNat))+(1:Int))).n4),Ix ((X.gv.upd ((to).toNat) ((X.gv.at ((to).toNat))+(1:Int))).n5),Ix ((X.gv.upd ((to).toNat) ((X.gv.at ((to).toNat))+(1:Int))).n6),Ix (X.lv.n0),Ix (X.lv.n1),Ix (X.lv.n2),Ix (X.lv.n3),Ix (X.lv.n4),Ix (X.lv.n5),Ix (X.lv.n6),.bool (dn)] 77)::M) (up_cons (d:=34) rfl k0) rfl (e_load1 ue9.ok rfl (k_pt 0 rfl rfl)) (perm_front 0 rfl) (by rfl)
 ·rintro f M-⟨i0,-⟩
  exact obE omi
 ·rintro f M ⟨k0,k1,-⟩-
  exact obv (L':=mpR EnM m ks::M) (up_cons (d:=36) (up_cons (d:=35) rfl k0) k1) rfl (ev_eq (congrArg EnM.encv hlk) (e_look1 (K:=EnM) (b:=m) (ks:=ks) (k:=id) rfl rfl rfl (Knows.of_res 0 rfl (mpR.mono _ _ _) fun _ h=>h))) (perm_front 0 rfl) (by rfl)
 ·rintro f M ⟨k0,k1,k2,k3,-⟩-
  exact ob0 (up_cons (d:=37) (up_cons (d:=31) (up_cons (d:=25) (up_cons (d:=24) rfl k0) k1) k2) k3) rfl (e_build ue11.ok ue10 (vs:=[(0,Ix (X.zone)),(1,Ix (to)),(2,Ix ((X.gv.upd ((to).toNat) ((X.gv.at ((to).toNat))+(1:Int))).at ((to).toNat))),(4,.agg #[Ix (hd.id),.slice hd.p (hd.n) hd.c])]) (cells:= #[Ix (X.zone),Ix (to),Ix ((X.gv.upd ((to).toNat) ((X.gv.at ((to).toNat))+(1:Int))).at ((to).toNat)),.bool false,Ix (hd.id),.slice hd.p (hd.n) hd.c]) rfl (by kernel_rfl)) (.refl _)
 ·rintro f M ⟨k0,-⟩-
  refine obS (up_cons (d:=38) rfl k0) ?_
  refine l_mv rfl rfl rfl (m_slices ue12 ue11.ok (cells:= #[Ix (X.zone),Ix (to),Ix ((X.gv.upd ((to).toNat) ((X.gv.at ((to).toNat))+(1:Int))).at ((to).toNat)),.bool false,Ix (hd.id),.slice hd.p (hd.n) hd.c]) rfl rfl rfl (by kernel_rfl)) ?_
  rintro _ _ ⟨b4,rfl,rfl⟩
  refine l_nil ?_
  exact f_owes_d (up_cons (d:=38) rfl k0) rfl (perm_front 0 rfl)
 ·rintro f M ⟨k0,k1,-⟩-
  have hs39:f 39= .slice (some ⟨(blk (f 39)),0,none⟩) 1 1:=k1
  refine obS (up_cons (up_cons (d:=23) rfl k0) hs39) ?_
  refine l_mv rfl rfl rfl (m_appendFlN (F:=MgF) 0 ue12 ue13 (p:=p) (m:=mz.length) (xs:=(mz.map Prod.fst)) (ys:=[(⟨X.zone,to,(X.gv.upd ((to).toNat) ((X.gv.at ((to).toNat))+(1:Int))).at ((to).toNat),false,hd.id,hd.p,hd.n,hd.c⟩:KMg)]) (ao:=(some ⟨(blk (f 39)),0,none⟩)) (k:=1) (c:=1) rfl (List.length_map _).symm rfl rfl rfl (k_ptFl (z:=(⟨X.zone,to,(X.gv.upd ((to).toNat) ((X.gv.at ((to).toNat))+(1:Int))).at ((to).toNat),false,hd.id,hd.p,hd.n,hd.c⟩:KMg)) 1 rfl rfl) (by first|omega|simp only[List.length_nil,List.length_cons,List.length_append,List.length_set];omega) (by first|omega|simp only[List.length_nil,List.length_cons,List.length_append,List.length_set];omega)) ?_
  rintro _ _ ⟨rp7,rc8,rfl,rfl⟩
  refine l_nil ?_
  exact f_owes_d (up_cons (up_cons (d:=23) rfl k0) hs39) rfl ((perm_front 0 rfl).trans (perm_front 1 rfl))
 ·rintro f M ⟨k0,-⟩-
  exact obE onp
 ·rintro f M ⟨k0,-⟩-
  exact obE ofp
 ·rintro f M ⟨k0,k1,-⟩-
  have hs40:f 40=sB (sla (f 40)) ((mz.map Prod.fst)++[(⟨X.zone,to,(X.gv.upd ((to).toNat) ((X.gv.at ((to).toNat))+(1:Int))).at ((to).toNat),false,hd.id,hd.p,hd.n,hd.c⟩:KMg)]) (slc (f 40)):=k1
  refine obS (up_cons (up_cons (d:=42) rfl k0) hs40) ?_
  refine lu (mS 0 (#[Ix (X.zone),pp J 0,.map (some m),sB (sla (f 40)) ((mz.map Prod.fst)++[(⟨X.zone,to,(X.gv.upd ((to).toNat) ((X.gv.at ((to).toNat))+(1:Int))).at ((to).toNat),false,hd.id,hd.p,hd.n,hd.c⟩:KMg)]) (slc (f 40)),Ix ((X.gv.upd ((to).toNat) ((X.gv.at ((to).toNat))+(1:Int))).n0),Ix ((X.gv.upd ((to).toNat) ((X.gv.at ((to).toNat))+(1:Int))).n1),Ix ((X.gv.upd ((to).toNat) ((X.gv.at ((to).toNat))+(1:Int))).n2),Ix ((X.gv.upd ((to).toNat) ((X.gv.at ((to).toNat))+(1:Int))).n3),Ix ((X.gv.upd ((to).toNat) ((X.gv.at ((to).toNat))+(1:Int))).n4),Ix ((X.gv.upd ((to).toNat) ((X.gv.at ((to).toNat))+(1:Int))).n5),Ix ((X.gv.upd ((to).toNat) ((X.gv.at ((to).toNat))+(1:Int))).n6),Ix (X.lv.n0),Ix (X.lv.n1),Ix (X.lv.n2),Ix (X.lv.n3),Ix (X.lv.n4),Ix (X.lv.n5),Ix (X.lv.n6),.bool (dn)])) ?_
  refine l_nil ?_
  exact f_owes_n (up_cons (up_cons (d:=42) rfl k0) hs40) trivial (perm_front 0 rfl)
 rintro fa9 ⟨-,-,-,-,-,-,-,-,-,-,-,-,-,-,-,-,-,-,-,-,-,-,-,-,-,-⟩ ⟨j0,j1,-⟩
 refine f_re (L':=[mpR EnM m ks,poolR zs,tpR H T [],pt (blk (fa9 39)) (.cells #[Ix (X.zone),Ix (to),Ix ((X.gv.upd ((to).toNat) ((X.gv.at ((to).toNat))+(1:Int))).at ((to).toNat)),.bool false,Ix (hd.id),.slice hd.p (hd.n) hd.c] 38),rowF MgF 38 (sla (fa9 40)) (slc (fa9 40)) ((mz.map Prod.fst)++[(⟨X.zone,to,(X.gv.upd ((to).toNat) ((X.gv.at ((to).toNat))+(1:Int))).at ((to).toNat),false,hd.id,hd.p,hd.n,hd.c⟩:KMg)]),pt G (.cells #[Ix (X.zone),pp J 0,.map (some m),sB (sla (fa9 40)) ((mz.map Prod.fst)++[(⟨X.zone,to,(X.gv.upd ((to).toNat) ((X.gv.at ((to).toNat))+(1:Int))).at ((to).toNat),false,hd.id,hd.p,hd.n,hd.c⟩:KMg)]) (slc (fa9 40)),Ix ((X.gv.upd ((to).toNat) ((X.gv.at ((to).toNat))+(1:Int))).n0),Ix ((X.gv.upd ((to).toNat) ((X.gv.at ((to).toNat))+(1:Int))).n1),Ix ((X.gv.upd ((to).toNat) ((X.gv.at ((to).toNat))+(1:Int))).n2),Ix ((X.gv.upd ((to).toNat) ((X.gv.at ((to).toNat))+(1:Int))).n3),Ix ((X.gv.upd ((to).toNat) ((X.gv.at ((to).toNat))+(1:Int))).n4),Ix ((X.gv.upd ((to).toNat) ((X.gv.at ((to).toNat))+(1:Int))).n5),Ix ((X.gv.upd ((to).toNat) ((X.gv.at ((to).toNat))+(1:Int))).n6),Ix (X.lv.n0),Ix (X.lv.n1),Ix (X.lv.n2),Ix (X.lv.n3),Ix (X.lv.n4),Ix (X.lv.n5),Ix (X.lv.n6),.bool (dn)] 77)]) (by rfl) ?_
 refine f_rebase (d:=1) j0 (f_rebase (d:=3) j1 (fts ?_))
 have hmn:((⟨X.zone,to,(X.gv.upd ((to).toNat) ((X.gv.at ((to).toNat))+(1:Int))).at ((to).toNat),false,hd.id,hd.p,hd.n,hd.c⟩:KMg)).number=X.gv.at ((⟨X.zone,to,(X.gv.upd ((to).toNat) ((X.gv.at ((to).toNat))+(1:Int))).at ((to).toNat),false,hd.id,hd.p,hd.n,hd.c⟩:KMg)).to.toNat+1:=by show(X.gv.upd _ _).at _=_;rw[KN7.at_upd (by omega) (by omega),if_pos rfl]
 have hbd:∀x∈(mz.map Prod.fst)++[(⟨X.zone,to,(X.gv.upd ((to).toNat) ((X.gv.at ((to).toNat))+(1:Int))).at ((to).toNat),false,hd.id,hd.p,hd.n,hd.c⟩:KMg)],BdM x:=fun x hx=>by
  rcases List.mem_append.1 hx with hx|hx
  ·exact hk.bdm hX (by omega) x hx
  ·rw[List.mem_singleton.1 hx];exact⟨by show _≤to∧to≤_;omega,by rw[hmn];show _≤X.gv.at to.toNat+1∧X.gv.at to.toNat+1≤_;omega⟩
 refine c_region (lv (v:=pp G 2) (e_load1 ue2.ok rfl (kB h3)) (lE onp (lE ofp (lE (ols 5) ?_))))
 refine l_call rfl rfl rfl (cl0 (vs:=[sB (sla (fa9 40)) ((mz.map Prod.fst)++[(⟨X.zone,to,(X.gv.upd ((to).toNat) ((X.gv.at ((to).toNat))+(1:Int))).at ((to).toNat),false,hd.id,hd.p,hd.n,hd.c⟩:KMg)]) (slc (fa9 40)),.func (.func 71) #[] #[]]) ue14.ok rfl rfl) ?_
 intro w hw
 replace hw:=hw.perm (L':=_::_::_::_::_::_::[]) (by exact((((((perm_front 5 rfl).trans (perm_front 4 rfl)).trans (perm_front 4 rfl)).trans (perm_front 4 rfl)).trans (perm_front 4 rfl)).trans (perm_front 5 rfl)))
 obtain⟨β1,sb,kn,hw1,back⟩:=St.frame (L:=[_]) (M:=_::_::_::_::_::[]) hw
 refine(sortM2_ok β1 w (sla (fa9 40)) (slc (fa9 40)) (mz.map Prod.fst) (⟨X.zone,to,(X.gv.upd ((to).toNat) ((X.gv.at ((to).toNat))+(1:Int))).at ((to).toNat),false,hd.id,hd.p,hd.n,hd.c⟩:KMg) hw1 rfl hml hbd (hk.klt hX) (hk.ltm hX hmn)).mono ?_
 rintro e w' ⟨rfl,hw'⟩
 refine⟨_,rfl,_,back _ _ hw',?_⟩
 clear hw hw1 hw' back kn sb
 refine lnr (lv (v:=pp G 2) (e_load1 ue2.ok rfl (kB h3)) (lE onp (lE ofp (lv (v:= .map (some m)) (e_load1 ue9.ok rfl (k_pt 5 rfl rfl)) (lE omi ?_)))))
 refine l_mc rfl rfl (m_mdel (K:=EnM) (b:=m) (ks:=ks) (k:=(id)) 1 rfl rfl rfl rfl) ?_
 rintro _ _ ⟨rfl,rfl⟩
 refine l_nil (end0 Tryz.results69 ?_)
 intro w hw
 obtain⟨nz,hnz,hk2⟩:=hk.give (m:=(⟨X.zone,to,(X.gv.upd ((to).toNat) ((X.gv.at ((to).toNat))+(1:Int))).at ((to).toNat),false,hd.id,hd.p,hd.n,hd.c⟩:KMg)) (s:=gMsg X id to) ⟨rfl,rfl,hmn,rfl,hhd.id,hhd.n⟩ hez (X.gv.upd to.toNat (X.gv.at to.toNat+1))
 have hk3:=hk2.del (by exact hX.sort) id
 rw[←hnz]at hw
 unfold sB at hw
 rw[show((mz.map Prod.fst)++[(⟨X.zone,to,(X.gv.upd ((to).toNat) ((X.gv.at ((to).toNat))+(1:Int))).at ((to).toNat),false,hd.id,hd.p,hd.n,hd.c⟩:KMg)]).length=nz.length by rw[List.length_append,List.length_map];have h1:=congrArg List.length hnz;rw[List.length_map,insB_len,List.length_map]at h1;exact h1.symm]at hw
 replace hw:=hw.perm (L':=[pt G (.cells #[Ix (X.zone),pp J 0,.map (some m),sB (sla (fa9 40)) nz (slc (fa9 40)),Ix ((X.gv.upd ((to).toNat) ((X.gv.at ((to).toNat))+(1:Int))).n0),Ix ((X.gv.upd ((to).toNat) ((X.gv.at ((to).toNat))+(1:Int))).n1),Ix ((X.gv.upd ((to).toNat) ((X.gv.at ((to).toNat))+(1:Int))).n2),Ix ((X.gv.upd ((to).toNat) ((X.gv.at ((to).toNat))+(1:Int))).n3),Ix ((X.gv.upd ((to).toNat) ((X.gv.at ((to).toNat))+(1:Int))).n4),Ix ((X.gv.upd ((to).toNat) ((X.gv.at ((to).toNat))+(1:Int))).n5),Ix ((X.gv.upd ((to).toNat) ((X.gv.at ((to).toNat))+(1:Int))).n6),Ix (X.lv.n0),Ix (X.lv.n1),Ix (X.lv.n2),Ix (X.lv.n3),Ix (X.lv.n4),Ix (X.lv.n5),Ix (X.lv.n6),.bool (dn)] 77),mpR EnM m (EnM.del ks (id)),rowF MgF 38 (sla (fa9 40)) (slc (fa9 40)) (nz.map Prod.fst),poolR zs,tpR H T [],pt (blk (fa9 39)) (.cells #[Ix (X.zone),Ix (to),Ix ((X.gv.upd ((to).toNat) ((X.gv.at ((to).toNat))+(1:Int))).at ((to).toNat)),.bool false,Ix (hd.id),.slice hd.p (hd.n) hd.c] 38)]) (by exact(perm_ix [5,1,0,2,3,4] 6 rfl (by kernel_rfl) (by kernel_rfl)))
 replace hw:=st_mask (L':=[pt G (.cells #[Ix (X.zone),pp J 0,.map (some m),sB (sla (fa9 40)) nz (slc (fa9 40)),Ix ((X.gv.upd ((to).toNat) ((X.gv.at ((to).toNat))+(1:Int))).n0),Ix ((X.gv.upd ((to).toNat) ((X.gv.at ((to).toNat))+(1:Int))).n1),Ix ((X.gv.upd ((to).toNat) ((X.gv.at ((to).toNat))+(1:Int))).n2),Ix ((X.gv.upd ((to).toNat) ((X.gv.at ((to).toNat))+(1:Int))).n3),Ix ((X.gv.upd ((to).toNat) ((X.gv.at ((to).toNat))+(1:Int))).n4),Ix ((X.gv.upd ((to).toNat) ((X.gv.at ((to).toNat))+(1:Int))).n5),Ix ((X.gv.upd ((to).toNat) ((X.gv.at ((to).toNat))+(1:Int))).n6),Ix (X.lv.n0),Ix (X.lv.n1),Ix (X.lv.n2),Ix (X.lv.n3),Ix (X.lv.n4),Ix (X.lv.n5),Ix (X.lv.n6),.bool (dn)] 77),mpR EnM m (EnM.del ks (id)),rowF MgF 38 (sla (fa9 40)) (slc (fa9 40)) (nz.map Prod.fst),poolR zs]) [true,true,true,true,false,false] rfl hw
 exact⟨rfl,St.closeGv (M:=[]) hk3 hw⟩
end Go.Proofs
namespace Go.Proofs
open Go Go.Sl Go.Hv
open Go.Td (sortI sortI_perm sortI_eq sortI_sorted)
theorem perm_r1{α:Type _}(a b c:α):[a,b,c].Perm (c::[a,b]):=(List.perm_append_comm (l₁:=[a,b]) (l₂:=[c]))
instance uf0:FldC Tryz.prog 75 0 0 1 false:={}
instance uf1:TyC Tryz.prog 73 false 1:={}
instance uf2:FldC Tryz.prog 75 1 1 1 false:={}
instance uf3:TyC Tryz.prog 35 false 1:={}
instance uf4:UndC Tryz.prog 35 38:={}
instance uf5:ZerC Tryz.prog 3 (.int .i64 (0)):={}
instance uf6:TyC Tryz.prog 3 false 1:={}
instance uf7:CfC Tryz.prog 42:={}
instance uf8:CfC Tryz.prog 51:={}
instance uf9:CfC Tryz.prog 50:={}
theorem uf10:stB Tryz.prog 32 [(0,1),(1,1)]=true:=by kernel_rfl
instance uf11:ZerC Tryz.prog 32 (.agg #[.int .i64 (0),.slice none 0 0]):={}
instance uf12:TyC Tryz.prog 32 true 2:={}
instance uf13:UndC Tryz.prog 81 3:={}
theorem uf14:slB Tryz.prog 81 3 1=true:=by kernel_rfl
instance uf15:CfC Tryz.prog 38:={}
instance uf16:CfC Tryz.prog 41:={}
instance uf17:FldC Tryz.prog 32 0 0 1 false:={}
theorem uf18:slB Tryz.prog 35 38 6=true:=by kernel_rfl
instance uf19:FldC Tryz.prog 38 1 1 1 false:={}
instance uf20:FldC Tryz.prog 38 2 2 1 false:={}
instance uf21:FldC Tryz.prog 38 4 4 2 true:={}
instance uf22:FldC Tryz.prog 75 2 2 7 true:={}
instance uf23:ArrC Tryz.prog 56 7 3 1:={}
instance uf24:FldC Tryz.prog 75 3 9 7 true:={}
theorem entW2_ok(β:Base)(w:World)(T:Nat)(tp:Option Addr)(tc:Nat)(bad:Bool)(xs:List UInt8)(hw:St β [pt T (.cells #[sB tp xs tc,.bool bad] 112),rowF BytF 5 tp tc xs] w)(qe:Addr)(z:KEh×KEnt)(hz:EHd z)(hq:Cs β.heap qe [Ix z.1.id,.slice z.1.p z.1.n z.1.c])(hr:Has (rowF CpF 100 z.1.p z.1.c z.2.comps) β.heap)(hR:Right z.2)(hxl:xs.length≤100000):Calls Tryz.prog 41 #[.pointer (some qe),.func (.func 42) #[pp T 0] #[]] w fun r w'=>∃tp tc,r= .returned (.tuple #[])∧St β [pt T (.cells #[sB tp (xs++entB z.2) tc,.bool bad] 112),rowF BytF 5 tp tc (xs++entB z.2)] w':=by
 exact entW_ok β w T tp tc bad xs hw qe z.2.id z.1.p z.1.c z.2.comps (by unfold sB;rw[←hz.n,←hz.id];exact hq) hr hR.idI hR.len hR.cp hxl
set_option maxHeartbeats 4000000 in
theorem wholeW_ok(β:Base)(w:World)(G J:Nat)(X:KG)(N:Int)(hX:XOk X N)(hN:N≤4611686018427387904)(dn:Bool)(T:Nat)(tp:Option Addr)(tc:Nat)(bad:Bool)(xs:List UInt8)(hxl:xs.length≤1000)(hw:St β [pt T (.cells #[sB tp xs tc,.bool bad] 112),rowF BytF 5 tp tc xs,gvR G J X dn] w):Calls Tryz.prog 56 #[pp G 2,.func (.func 42) #[pp T 0] #[]] w fun r w'=>∃tp tc,r= .returned (.tuple #[])∧St β [pt T (.cells #[sB tp (xs++allB X) tc,.bool bad] 112),rowF BytF 5 tp tc (xs++allB X),gvR G J X dn] w':=by
 replace hw:=hw.perm (perm_r1 _ _ _)
 obtain⟨m,p,c,ks,mz,zs,hk,hw⟩:=St.openGv hw
 have hml:(X.here.map KEnt.id).length=X.here.length:=List.length_map _
 have hkl:=hk.klen
 have hol:=hk.mlen
 have hfe:=hX.few
 have hfo:=hX.ofew
 have hi1:=len_in (n:=X.here.length) (by omega)
 have hi2:=len_in (n:=X.out.length) (by omega)
 refine enter (n:=122) Tryz.func56 rfl Tryz.ntmps56 rfl ?_ hw
 refine c_seq ?_
 refine cnz [sv 12 (pp G 2) [] [] [0],sv 13 (pp G 2) [0] [0] [],sv 14 (pp G 2) [0,1] [1] [],sv 15 (.map (some m)) [0,1,2] [2] [],sv 16 (Nx (ks.length)) [0,1,2,3] [3] [],sv 17 (pp G 2) [] [] [0],sv 18 (pp G 2) [5] [5] [],sv 19 (pp G 3) [5,6] [6] [],sv 20 (sB p mz c) [5,6,7] [7] [],sv 21 (Nx (mz.length)) [5,6,7,8] [8] [],⟨[],[],[],[4],fun f=>f 4= .pointer (some ⟨(blk (f 4)),0,none⟩)⟩,⟨[],[],[],[5],fun f=>f 5= .pointer (some ⟨(blk (f 5)),0,none⟩)⟩,⟨[0,1,2,3,4,5,6,7,8,10,11],[10,4],[],[],fun _=>True⟩,⟨(List.range 13),[11,9],[],[],fun _=>True⟩] [u1 [3,8],u1 [4]] [⟨(some 10),(some 12),[12],[4],fun f=>pt (blk (f 4)) (.cells #[.int .i64 (0)] 3)⟩,⟨(some 11),(some 13),[13],[5],fun f=>pt (blk (f 5)) (.cells #[.int .i64 (0)] 3)⟩,⟨(some 12),none,[],[4],fun f=>pt (blk (f 4)) (.cells #[Nx (ks.length)] 3)⟩,⟨(some 13),none,[],[5],fun f=>pt (blk (f 5)) (.cells #[Nx (mz.length)] 3)⟩] [(0,pp G 2),(1,.func (.func 42) #[pp T 0] #[])] [0,1] ⟨rfl,rfl,trivial⟩ ⟨?_,?_,?_,?_,?_,?_,?_,?_,?_,?_,?_,?_,?_,?_,trivial⟩ ?_
 ·rintro f M-⟨i0,-⟩
  exact obE omp
 ·rintro f M ⟨k0,-⟩-
  exact obE onp
 ·rintro f M ⟨k0,-⟩-
  exact obE ofp
 ·rintro f M ⟨k0,-⟩-
  exact obv (L':=pt G (.cells (gC (X.zone) J m p (mz.length) c X.gv X.lv (dn)) 77)::M) (up_cons (d:=14) rfl k0) rfl (e_load1 uf1.ok rfl (k_pt 0 rfl rfl)) (perm_front 0 rfl) (by rfl)
 ·rintro f M ⟨k0,-⟩-
  exact obv (L':=mpR EnM m ks::M) (up_cons (d:=15) rfl k0) rfl (e_mlen (K:=EnM) (b:=m) (ks:=ks) rfl rfl (Knows.of_res 0 rfl (mpR.mono _ _ _) fun _ h=>h)) (perm_front 0 rfl) (by rfl)
 ·rintro f M-⟨i0,-⟩
  exact obE omp
 ·rintro f M ⟨k0,-⟩-
  exact obE onp
 ·rintro f M ⟨k0,-⟩-
  exact obE ofp
 ·rintro f M ⟨k0,-⟩-
  exact obE (ols 0)
 ·rintro f M ⟨k0,-⟩-
  exact obE oln
 ·rintro f M- -
  refine obS rfl ?_
  refine alE fun b2=>l_nil ?_
  exact f_owes_d rfl rfl (perm_front 0 rfl)
 ·rintro f M- -
  refine obS rfl ?_
  refine alE fun b4=>l_nil ?_
  exact f_owes_d rfl rfl (perm_front 0 rfl)
 ·rintro f M ⟨k0,k1,-⟩-
  have hs4:f 4= .pointer (some ⟨(blk (f 4)),0,none⟩):=k0
  refine obS (up_cons (d:=16) (up_cons rfl hs4) k1) ?_
  refine lu (mS 0 (#[Nx (ks.length)])) (l_nil ?_)
  exact f_owes_n (up_cons (d:=16) (up_cons rfl hs4) k1) trivial (perm_front 0 rfl)
 ·rintro f M ⟨k0,k1,-⟩-
  have hs5:f 5= .pointer (some ⟨(blk (f 5)),0,none⟩):=k0
  refine obS (up_cons (d:=21) (up_cons rfl hs5) k1) ?_
  refine lu (mS 0 (#[Nx (mz.length)])) (l_nil ?_)
  exact f_owes_n (up_cons (d:=21) (up_cons rfl hs5) k1) trivial (perm_front 0 rfl)
 rintro fa5 ⟨-,-,-,-,-,-,-,-,-,-,k10,k11,-,-,-⟩ ⟨j0,j1,-⟩
 refine fre ?_
 refine f_rebase (d:=0) j0 (f_rebase (d:=1) j1 (f_rebase (d:=4) k10 (f_rebase (d:=5) k11 (fts ?_))))
 refine c_re (L':=[pt G (.cells (gC (X.zone) J m p (mz.length) c X.gv X.lv (dn)) 77),mpR EnM m ks,rowF MgF 38 p c (mz.map Prod.fst),poolR zs,pt T (.cells #[sB tp xs tc,.bool (bad)] 112),rowF BytF 5 tp tc xs,pt (blk (fa5 4)) (.cells #[Nx (X.here.length)] 3),pt (blk (fa5 5)) (.cells #[Nx (X.out.length)] 3)]) (by rw[hkl,hol]<;>rfl) ?_
 refine c_region (lE omf ?_)
 refine l_call rfl rfl rfl (cl_value (fst:=[pp T 0]) (cap:=[]) (vs:=[.pointer (some ⟨(blk (fa5 4)),0,none⟩)]) (all:=[pp T 0,.pointer (some ⟨(blk (fa5 4)),0,none⟩)]) uf7.ok rfl rfl rfl) ?_
 intro w hw
 replace hw:=hw.perm (L':=_::_::_::_::_::_::_::_::[]) (by exact((((((((perm_front 7 rfl).trans (perm_front 7 rfl)).trans (perm_front 5 rfl)).trans (perm_front 5 rfl)).trans (perm_front 5 rfl)).trans (perm_front 5 rfl)).trans (perm_front 7 rfl)).trans (perm_front 7 rfl)))
 obtain⟨β1,sb,kn,hw1,back⟩:=St.frame (L:=[_,_]) (M:=_::_::_::_::_::_::[]) hw
 refine(twrite_ok β1 w T tp tc bad xs hw1 (by omega) _ ((X.here.length:Nat):Int) (kn _ (k_pt 4 (o:=0) rfl rfl)) hi1).mono ?_
 rintro e w' ⟨p6,c7,rfl,hw'⟩
 refine⟨_,rfl,_,back _ _ hw',?_⟩
 clear hw hw1 hw' back kn sb
 refine lnc (lE omf ?_)
 refine l_call rfl rfl rfl (cl_value (fst:=[pp T 0]) (cap:=[]) (vs:=[.pointer (some ⟨(blk (fa5 5)),0,none⟩)]) (all:=[pp T 0,.pointer (some ⟨(blk (fa5 5)),0,none⟩)]) uf7.ok rfl rfl rfl) ?_
 intro w hw
 replace hw:=hw.perm (L':=_::_::_::_::_::_::_::_::[]) (by exact((((((((perm_front 7 rfl).trans (perm_front 7 rfl)).trans (perm_front 7 rfl)).trans (perm_front 7 rfl)).trans (perm_front 7 rfl)).trans (perm_front 7 rfl)).trans (perm_front 7 rfl)).trans (perm_front 7 rfl)))
 obtain⟨β1,sb,kn,hw1,back⟩:=St.frame (L:=[_,_]) (M:=_::_::_::_::_::_::[]) hw
 refine(twrite_ok β1 w T p6 c7 bad (xs++vint ((X.here.length:Nat):Int)) hw1 (by simp only[List.length_append];have hf0:=vint_len10 (n:=((X.here.length:Nat):Int)) hi1;omega) _ ((X.out.length:Nat):Int) (kn _ (k_pt 5 (o:=0) rfl rfl)) hi2).mono ?_
 rintro e w' ⟨p8,c9,rfl,hw'⟩
 refine⟨_,rfl,_,back _ _ hw',?_⟩
 clear hw hw1 hw' back kn sb
 refine lnc (lE omp (lE onp (lE ofp (lv (v:= .map (some m)) (e_load1 uf1.ok rfl (k_pt 2 rfl rfl)) ?_))))
 refine lcf (cl0 (vs:=[.map (some m)]) uf8.ok rfl rfl) rfl fun w β1 sb kn hw1 back=>(keysE_ok β1 w hw1 m).mono ?_
 rintro e w' ⟨b10,rfl,hw'⟩
 refine⟨_,rfl,_,back _ _ hw',?_⟩
 clear hw1 hw' back kn sb
 refine l_call rfl rfl rfl (cl0 (vs:=[.func (.func 89) #[] #[pp b10 0]]) uf9.ok rfl rfl) ?_
 intro w hw
 replace hw:=hw.perm (L':=_::_::_::_::_::_::_::_::_::[]) (by exact(((((((((perm_front 8 rfl).trans (perm_front 8 rfl)).trans (perm_front 8 rfl)).trans (perm_front 8 rfl)).trans (perm_front 8 rfl)).trans (perm_front 8 rfl)).trans (perm_front 8 rfl)).trans (perm_front 8 rfl)).trans (perm_front 8 rfl)))
 obtain⟨β1,sb,kn,hw1,back⟩:=St.frame (L:=[_]) (M:=_::_::_::_::_::_::_::_::[]) hw
 refine(sortedX_ok β1 w _ _ _ (keysE_seq β1 b10 m ks (kn _ (Knows.of_res 3 rfl (mpR.mono _ _ _) fun _ h=>h))) (by rw[List.length_map,hk.klen];exact Nat.le_trans hX.few (by decide)) (hk.sorted hX) hw1).mono ?_
 rintro e w' ⟨p11,c12,rfl,hw'⟩
 refine⟨_,rfl,_,back _ _ hw',?_⟩
 clear hw hw1 hw' back kn sb
 refine lE oas (lnf (cs2 (c_region (lE (oli 7) (lE omi (lnf (c_block (c_mask [true,true,true,true,true,true,true,true,true] rfl ?_))))))))
 refine c_loop (fun(x_:Nat×List UInt8×Option Addr×Nat×List (Int×KEh)×EPool) f L=>match x_ with|(k,ys,q,d,kt,zt)=>(f 0=pp G 2∧f 1= .func (.func 42) #[pp T 0] #[]∧f 5= .pointer (some ⟨(blk (fa5 5)),0,none⟩)∧f 6=sB p11 (X.here.map KEnt.id) c12∧f 32=Nx (X.here.length)∧f 33=Nx (k))∧L=[rowF IntF 3 p11 c12 (X.here.map KEnt.id),pt T (.cells #[sB q ys d,.bool (bad)] 112),rowF BytF 5 q d ys,pt G (.cells (gC (X.zone) J m p (mz.length) c X.gv X.lv (dn)) 77),mpR EnM m kt,rowF MgF 38 p c (mz.map Prod.fst),poolR zt,pt (blk (fa5 4)) (.cells #[Nx (X.here.length)] 3),pt (blk (fa5 5)) (.cells #[Nx (X.out.length)] 3)]∧(k≤X.here.length∧ys=((xs++vint ((X.here.length:Nat):Int))++vint ((X.out.length:Nat):Int))++(X.here.take k).flatMap entB∧ys.length≤xs.length+20+214*k∧GOk X kt mz zt)) (fun(k,ys,q,d,kt,zt)=>X.here.length-k) (0,((xs++vint ((X.here.length:Nat):Int))++vint ((X.out.length:Nat):Int)),p8,c9,ks,zs) ?_ ?_
 ·exact⟨⟨rfl,rfl,rfl,rfl,rfl,rfl⟩,rfl,⟨Nat.zero_le _,(List.append_nil _).symm,by simp only[List.length_append];have h1:=vint_len10 hi1;have h2:=vint_len10 hi2;omega,hk⟩⟩
 rintro⟨k,ys,q,d,kt,zt⟩ f0 L0 ⟨⟨hs0,hs1,hs5,hs6,hs32,hs33⟩,hL,⟨hkk,hys,hyl,hkt⟩⟩
 subst L0
 refine rbs 0 hs0 (rbs 1 hs1 (rbs 5 hs5 (rbs 6 hs6 (rbs 32 hs32 (rbs 33 hs33 (csr (lE olt (lnf (c_seq (c_if _ rfl (fun hc13=> ?_) (fun hc13=> ?_)))))))))))
 ·refine csk (c_seq (c_block (csr (lE omi (lE oai (lnc ?_))))))
  refine lv (v:= .agg #[.int .i64 (0),.slice none 0 0]) (e_build uf11.ok uf10 (vs:=[]) (cells:= #[.int .i64 (0),.slice none 0 0]) rfl rfl) ?_
  refine alE fun b14=>lu (mS 0 (#[.int .i64 (0),.slice none 0 0])) (lnf (cs2 (c_region (lE omi (lE oms (lE oln ?_))))))
  refine lv (v:= .bool true) (ev_t (by omega) (e_lss (a:=((k:Nat):Int)) (b:=(((X.here.map KEnt.id).length:Nat):Int)) rfl rfl)) (lnf ?_)
  refine c_yes rfl ?_
  obtain⟨x15,hx16⟩:∃x_,(X.here.map KEnt.id)[k]? =some x_:=⟨_,List.getElem?_eq_getElem (by first|omega|decide)⟩
  obtain⟨e,hd,he,hem,hex,hlk,hez,hhd⟩:=hkt.here hx16
  have hel:=(hX.right e hem).len
  have he2:X.here[k]? =some (⟨hd.id,e.comps⟩:KEnt):=by rw[show hd.id=e.id from hhd.id];exact he
  have hER:Right ⟨hd.id,e.comps⟩:=hX.right _ (List.mem_of_getElem? he2)
  refine cnz [sv 41 (pp G 2) [] [] [0],sv 42 (pp G 2) [0] [0] [],sv 43 (pp G 2) [0,1] [1] [],sv 44 (.map (some m)) [0,1,2] [2] [],sv 45 (sB p11 (X.here.map KEnt.id) c12) [] [] [1],sv 46 (Nx (k)) [] [] [2],sv 47 (.pointer (some ((ba p11).add (k*1)))) [4,5] [4,5] [],sv 48 (Ix (x15)) [4,5,6] [6] [],sv 49 (.agg #[Ix (hd.id),.slice hd.p (hd.n) hd.c]) (List.range 8) [3,7] [],⟨(List.range 9),[8],[],[50],fun f=>f 50= .agg #[Ix (hd.id),sB (owA (f 50)) e.comps (owC (f 50))]⟩,⟨(List.range 10),[9],[3],[],fun _=>True⟩] [(some 10,[10]),u1 [6,7],u0,u0,u1 [3],u1 [8],u0,u1 [9]] [⟨(some 9),none,[],[50],fun f=>rowF CpF 100 (owA (f 50)) (owC (f 50)) e.comps⟩,⟨(some 10),none,[],[50],fun f=>pt b14 (.cells #[Ix (hd.id),sB (owA (f 50)) e.comps (owC (f 50))] 32)⟩] [(0,pp G 2),(6,sB p11 (X.here.map KEnt.id) c12),(7,Nx (k)),(8,pp b14 0),(1,.func (.func 42) #[pp T 0] #[]),(5,.pointer (some ⟨(blk (fa5 5)),0,none⟩)),(32,Nx (X.here.length)),(33,Nx (k))] [0,4,5,1,3,6,7] ⟨rfl,rfl,rfl,rfl,rfl,rfl,rfl,rfl,trivial⟩ ⟨?_,?_,?_,?_,?_,?_,?_,?_,?_,?_,?_,trivial⟩ ?_
  ·rintro f M-⟨i0,-⟩
   exact obE omp
  ·rintro f M ⟨k0,-⟩-
   exact obE onp
  ·rintro f M ⟨k0,-⟩-
   exact obE ofp
  ·rintro f M ⟨k0,-⟩-
   exact obv (L':=pt G (.cells (gC (X.zone) J m p (mz.length) c X.gv X.lv (dn)) 77)::M) (up_cons (d:=43) rfl k0) rfl (e_load1 uf1.ok rfl (k_pt 0 rfl rfl)) (perm_front 0 rfl) (by rfl)
  ·rintro f M-⟨i0,-⟩
   exact obE oms
  ·rintro f M-⟨i0,-⟩
   exact obE omi
  ·rintro f M ⟨k0,k1,-⟩-
   exact obv (L':=rowF IntF 3 p11 c12 (X.here.map KEnt.id)::M) (up_cons (d:=46) (up_cons (d:=45) rfl k0) k1) rfl (e_indexFlN 0 (F:=IntF) (j:=k) (m:=(X.here.map KEnt.id).length) (xs:=(X.here.map KEnt.id)) rfl rfl rfl uf14 (by omega) rfl) (perm_front 0 rfl) (by rfl)
  ·rintro f M ⟨k0,-⟩-
   exact obv (L':=rowF IntF 3 p11 c12 (X.here.map KEnt.id)::M) (up_cons (d:=47) rfl k0) rfl (e_load1 uf6.ok rfl (k_flAt 0 (F:=IntF) rfl hx16)) (perm_front 0 rfl) (by rfl)
  ·rintro f M ⟨k0,k1,-⟩-
   exact obv (L':=mpR EnM m kt::M) (up_cons (d:=48) (up_cons (d:=44) rfl k0) k1) rfl (ev_eq (congrArg EnM.encv hlk) (e_look1 (K:=EnM) (b:=m) (ks:=kt) (k:=x15) rfl rfl rfl (Knows.of_res 0 rfl (mpR.mono _ _ _) fun _ h=>h))) (perm_front 0 rfl) (by rfl)
  ·rintro f M ⟨k0,-⟩-
   refine obS (up_cons (d:=49) rfl k0) ?_
   refine lcf (cl0 (vs:=[.agg #[Ix (hd.id),.slice hd.p (hd.n) hd.c]]) uf15.ok rfl rfl) rfl fun w β1 sb kn hw1 back=>(own_ok β1 w hw1 hd.id _ e.comps (kn _ (k_poolS (zs:=zt) (z:=(hd,e)) 0 rfl hez hhd)) (by omega)).mono ?_
   rintro e w' ⟨p19,c20,rfl,hw'⟩
   refine⟨_,rfl,_,back _ _ hw',?_⟩
   clear hw1 hw' back kn sb
   refine l_nil ?_
   exact f_owes_d (up_cons (d:=49) rfl k0) rfl ((perm_front 0 rfl).trans (perm_front 1 rfl))
  ·rintro f M ⟨k0,-⟩ ⟨i0,-⟩
   have hs50:f 50= .agg #[Ix (hd.id),sB (owA (f 50)) e.comps (owC (f 50))]:=k0
   refine obS (up_cons (up_cons (d:=8) rfl i0) hs50) ?_
   refine lu (mS 0 (#[Ix (hd.id),sB (owA (f 50)) e.comps (owC (f 50))])) (l_nil ?_)
   exact f_owes_n (up_cons (up_cons (d:=8) rfl i0) hs50) trivial (perm_front 0 rfl)
  rintro fa21 ⟨-,-,-,-,-,-,-,-,-,-,-,-⟩ ⟨j0,j1,j2,j3,j4,j5,j6,-⟩
  refine fre ?_
  refine f_rebase (d:=0) j0 (f_rebase (d:=1) j1 (f_rebase (d:=5) j2 (f_rebase (d:=6) j3 (f_rebase (d:=8) j4 (f_rebase (d:=32) j5 ?_)))))
  refine f_rebase (d:=33) j6 (ftc (lE omf (l_call rfl rfl rfl (cl0 (vs:=[pp b14 0,.func (.func 42) #[pp T 0] #[]]) uf16.ok rfl rfl) ?_)))
  intro w hw
  replace hw:=hw.perm (L':=[pt T (.cells #[sB q ys d,.bool (bad)] 112),rowF BytF 5 q d ys,rowF IntF 3 p11 c12 (X.here.map KEnt.id),pt G (.cells (gC (X.zone) J m p (mz.length) c X.gv X.lv (dn)) 77),mpR EnM m kt,rowF MgF 38 p c (mz.map Prod.fst),poolR zt,pt (blk (fa5 4)) (.cells #[Nx (X.here.length)] 3),pt (blk (fa5 5)) (.cells #[Nx (X.out.length)] 3),rowF CpF 100 (owA (fa21 50)) (owC (fa21 50)) e.comps,pt b14 (.cells #[Ix (hd.id),sB (owA (fa21 50)) e.comps (owC (fa21 50))] 32)]) (by exact(perm_ix [1,2,0,3,4,5,6,7,8,9,10] 11 rfl (by kernel_rfl) (by kernel_rfl)))
  obtain⟨β1,sb,kn,hw1,back⟩:=St.frame (L:=[_,_]) (M:=_::_::_::_::_::_::_::_::_::[]) hw
  refine(entW2_ok β1 w T q d bad ys hw1 ⟨b14,0,none⟩ ((⟨hd.id,(owA (fa21 50)),e.comps.length,(owC (fa21 50))⟩:KEh),(⟨hd.id,e.comps⟩:KEnt)) ⟨rfl,rfl⟩ (kn _ (k_pt 8 (o:=0) rfl rfl)) (kn _ (k_has 7 rfl)) hER (by omega)).mono ?_
  rintro e w' ⟨p22,c23,rfl,hw'⟩
  refine⟨_,rfl,_,back _ _ hw',?_⟩
  clear hw hw1 hw' back kn sb
  refine lnf ?_
  refine cnz [sv 53 (pp G 2) [] [] [0],sv 54 (pp G 2) [0] [0] [],sv 55 (pp G 2) [0,1] [1] [],sv 56 (.map (some m)) [0,1,2] [2] [],sv 57 (pp b14 0) [] [] [1],sv 58 (Ix (hd.id)) [4] [4] [],sv 59 (.agg #[Ix (hd.id),sB (owA (fa21 50)) e.comps (owC (fa21 50))]) [] [] [1],⟨(List.range 7),[3,5,6],[],[],fun _=>True⟩] [u0,u0,u0,u1 [3],(some 7,[7]),u0,u0,u0,u0,u0,u1 [5,6]] [⟨(some 7),none,[],[],fun _=>mpR EnM m (EnM.put kt (hd.id) (⟨hd.id,(owA (fa21 50)),e.comps.length,(owC (fa21 50))⟩:KEh))⟩] [(0,pp G 2),(8,pp b14 0),(1,.func (.func 42) #[pp T 0] #[]),(5,.pointer (some ⟨(blk (fa5 5)),0,none⟩)),(6,sB p11 (X.here.map KEnt.id) c12),(32,Nx (X.here.length)),(33,Nx (k))] [0,2,3,4,5,6] ⟨rfl,rfl,rfl,rfl,rfl,rfl,rfl,trivial⟩ ⟨?_,?_,?_,?_,?_,?_,?_,?_,trivial⟩ ?_
  ·rintro f M-⟨i0,-⟩
   exact obE omp
  ·rintro f M ⟨k0,-⟩-
   exact obE onp
  ·rintro f M ⟨k0,-⟩-
   exact obE ofp
  ·rintro f M ⟨k0,-⟩-
   exact obv (L':=pt G (.cells (gC (X.zone) J m p (mz.length) c X.gv X.lv (dn)) 77)::M) (up_cons (d:=55) rfl k0) rfl (e_load1 uf1.ok rfl (k_pt 0 rfl rfl)) (perm_front 0 rfl) (by rfl)
  ·rintro f M-⟨i0,-⟩
   exact obE ofp
  ·rintro f M ⟨k0,-⟩-
   exact obE (oli 0)
  ·rintro f M-⟨i0,-⟩
   exact obE (olg 0)
  ·rintro f M ⟨k0,k1,k2,-⟩-
   refine obS (up_cons (d:=59) (up_cons (d:=58) (up_cons (d:=56) rfl k0) k1) k2) ?_
   refine lu (m_mput (K:=EnM) (b:=m) (ks:=kt) (k:=(hd.id)) (v:=(⟨hd.id,(owA (fa21 50)),e.comps.length,(owC (fa21 50))⟩:KEh)) 0 rfl rfl rfl rfl rfl) ?_
   refine l_nil ?_
   exact f_owes_n (up_cons (d:=59) (up_cons (d:=58) (up_cons (d:=56) rfl k0) k1) k2) trivial (perm_front 0 rfl)
  rintro fa24 ⟨-,-,-,-,-,-,-,-,-⟩ ⟨j0,j1,j2,j3,j4,j5,-⟩
  refine fre ?_
  refine f_rebase (d:=0) j0 (f_rebase (d:=1) j1 (f_rebase (d:=5) j2 (f_rebase (d:=6) j3 (f_rebase (d:=32) j4 (f_rebase (d:=33) j5 ?_)))))
  refine f_block (f_then (c_region (lv (v:=Nx (k+1)) (e_add rfl rfl (i64n (by omega) (by omega))) (lE omi (l_nil ?_)))))
  refine f_pi [8,5,0,1,2,3,4,6,7,9,10] 11 rfl (by kernel_rfl) ?_
  refine f_merge (L:=[rowF CpF 100 (owA (fa21 50)) (owC (fa21 50)) e.comps,poolR zt]) (M:=[pt T (.cells #[sB p22 (ys++entB (⟨hd.id,e.comps⟩:KEnt)) c23,.bool (bad)] 112),rowF BytF 5 p22 c23 (ys++entB (⟨hd.id,e.comps⟩:KEnt)),rowF IntF 3 p11 c12 (X.here.map KEnt.id),pt G (.cells (gC (X.zone) J m p (mz.length) c X.gv X.lv (dn)) 77),rowF MgF 38 p c (mz.map Prod.fst),pt (blk (fa5 4)) (.cells #[Nx (X.here.length)] 3),pt (blk (fa5 5)) (.cells #[Nx (X.out.length)] 3),pt b14 (.cells #[Ix (hd.id),sB (owA (fa21 50)) e.comps (owC (fa21 50))] 32),mpR EnM m (EnM.put kt (hd.id) (⟨hd.id,(owA (fa21 50)),e.comps.length,(owC (fa21 50))⟩:KEh))]) (r:=poolR (zt++[((⟨hd.id,(owA (fa21 50)),e.comps.length,(owC (fa21 50))⟩:KEh),(⟨hd.id,e.comps⟩:KEnt))])) (poolR_add (id:=hd.id) rfl) ?_
  refine fpn [3,1,2,4,9,5,0,6,7,8] 10 ?_
  refine f_mask [true,true,true,true,true,true,true,true,true,false] rfl ?_
  exact f_cut ⟨(k+1,(ys++entB (⟨hd.id,e.comps⟩:KEnt)),p22,c23,(EnM.put kt (hd.id) (⟨hd.id,(owA (fa21 50)),e.comps.length,(owC (fa21 50))⟩:KEh)),(zt++[((⟨hd.id,(owA (fa21 50)),e.comps.length,(owC (fa21 50))⟩:KEh),(⟨hd.id,e.comps⟩:KEnt))])),⟨⟨rfl,rfl,rfl,rfl,rfl,rfl⟩,rfl,⟨by omega,by rw[hys,ents_snoc he2,List.append_assoc]<;>rfl,by simp only[sB,rB,List.length_append];have:=hER.entB;omega,hkt.again hX.sort (hd:=⟨hd.id,(owA (fa21 50)),e.comps.length,(owC (fa21 50))⟩) (e:=⟨hd.id,e.comps⟩) ⟨rfl,rfl⟩ (List.mem_of_getElem? he2)⟩⟩,(show X.here.length-(k+1)<X.here.length-k from by omega)⟩
 refine c_exit (f_then_exit (f_then_exit (f_exit (fts (c_block (c_unroll 1 (un_succ 0 (cs2 (c_quiet (by kernel_rfl) (by kernel_rfl) (qE omp (qE onp ?_)))))))))))
 refine qE ofp (qE (ols 3) (qE oln (qE (oli 8) ?_)))
 refine q_val (v:= .bool false) rfl rfl rfl (ev_f (by omega) (e_lss (a:=((mz.length:Nat):Int)) (b:=((X.out.length:Nat):Int)) rfl rfl)) ?_
 refine q_nil (f_then (c_no rfl (c_exit (f_then_exit (f_then_exit (f_exit (fts (c_seq ?_))))))))
 have hke:k=X.here.length:=by omega
 have hmo:=hkt.mlen
 have hmlm:(mz.map Prod.fst).length=mz.length:=List.length_map _
 refine c_region (lE (oli 8) (lE omi (lnf (c_block (c_mask [true,true,true,true,true,true,true,true,true] rfl ?_)))))
 refine c_loop (fun(x_:Nat×List UInt8×Option Addr×Nat) f L=>match x_ with|(i,yt,q2,d2)=>(f 0=pp G 2∧f 1= .func (.func 42) #[pp T 0] #[]∧f 78=Nx (X.out.length)∧f 79=Nx (i))∧L=[rowF IntF 3 p11 c12 (X.here.map KEnt.id),pt T (.cells #[sB q2 yt d2,.bool (bad)] 112),rowF BytF 5 q2 d2 yt,pt G (.cells (gC (X.zone) J m p (mz.length) c X.gv X.lv (dn)) 77),mpR EnM m kt,rowF MgF 38 p c (mz.map Prod.fst),poolR zt,pt (blk (fa5 4)) (.cells #[Nx (X.here.length)] 3),pt (blk (fa5 5)) (.cells #[Nx (X.out.length)] 3)]∧(i≤X.out.length∧yt=ys++(X.out.take i).flatMap outMB∧yt.length≤ys.length+234*i)) (fun(i,yt,q2,d2)=>X.out.length-i) (0,ys,q,d) ?_ ?_
 ·exact⟨⟨rfl,rfl,rfl,rfl⟩,rfl,⟨Nat.zero_le _,(List.append_nil _).symm,by omega⟩⟩
 rintro⟨i,yt,q2,d2⟩ f0 L0 ⟨⟨hs0,hs1,hs78,hs79⟩,hL,⟨hil,hyt,hytl⟩⟩
 subst L0
 refine rbs 0 hs0 (rbs 1 hs1 (rbs 78 hs78 (rbs 79 hs79 ?_)))
 have hf:=hX.ofew
 have hf2:=hX.few
 refine csr (lE olt (lnf (c_seq (c_if _ rfl (fun hc25=> ?_) (fun hc25=> ?_)))))
 ·refine csk (c_seq (c_block (csr (lE omi (lE oai (lnf (c_seq ?_)))))))
  obtain⟨x26,hx27⟩:∃x_,(mz.map Prod.fst)[i]? =some x_:=⟨_,List.getElem?_eq_getElem (by first|omega|decide)⟩
  obtain⟨z,hz,hzx⟩:=map_get hx27
  obtain⟨ho,hmh,hez,hhd⟩:=hkt.outAt hz
  rw[hzx]at hez hhd
  have hom:=List.mem_of_getElem? ho
  have hER:=hX.oright _ hom
  obtain⟨_,_,ht6,hn1,hn2⟩:=hX.ohd _ hom
  have hgt:=hX.gv z.2.to.toNat (by omega)
  have hxt:x26.to=z.2.to:=by rw[←hzx];exact hmh.to
  have hxn:x26.number=z.2.number:=by rw[←hzx];exact hmh.number
  refine c_region (lE omp (lE onp (lE ofp (lE (ols 3) (lE omi ?_)))))
  refine lv (v:= .pointer (some ((ba p).add (i*6)))) (e_indexFlN 5 (F:=MgF) rfl (List.length_map _).symm rfl uf18 (by omega) rfl) (lE oap (lnc ?_))
  refine lE omf (lE omp (lE onp (lE ofd ?_)))
  refine l_call rfl rfl rfl (cl_value (fst:=[pp T 0]) (cap:=[]) (vs:=[.pointer (some ((ba p).add (i*6+1)))]) (all:=[pp T 0,.pointer (some ((ba p).add (i*6+1)))]) uf7.ok rfl rfl rfl) ?_
  intro w hw
  replace hw:=hw.perm (L':=_::_::_::_::_::_::_::_::_::[]) (by exact(((((((((perm_front 8 rfl).trans (perm_front 8 rfl)).trans (perm_front 8 rfl)).trans (perm_front 8 rfl)).trans (perm_front 8 rfl)).trans (perm_front 8 rfl)).trans (perm_front 6 rfl)).trans (perm_front 8 rfl)).trans (perm_front 8 rfl)))
  obtain⟨β1,sb,kn,hw1,back⟩:=St.frame (L:=[_,_]) (M:=_::_::_::_::_::_::_::[]) hw
  refine(twrite_ok β1 w T q2 d2 bad yt hw1 (by omega) _ x26.to (kn _ (k_flPart 3 (F:=MgF) (o:=1) (us:=[Ix (x26.to)]) rfl hx27 rfl)) ⟨by omega,by omega⟩).mono ?_
  rintro e w' ⟨p28,c29,rfl,hw'⟩
  refine⟨_,rfl,_,back _ _ hw',?_⟩
  clear hw hw1 hw' back kn sb
  refine lnc (lE omf (lE omp (lE onp (lE ofd ?_))))
  refine l_call rfl rfl rfl (cl_value (fst:=[pp T 0]) (cap:=[]) (vs:=[.pointer (some ((ba p).add (i*6+2)))]) (all:=[pp T 0,.pointer (some ((ba p).add (i*6+2)))]) uf7.ok rfl rfl rfl) ?_
  intro w hw
  replace hw:=hw.perm (L':=_::_::_::_::_::_::_::_::_::[]) (by exact(((((((((perm_front 8 rfl).trans (perm_front 8 rfl)).trans (perm_front 8 rfl)).trans (perm_front 8 rfl)).trans (perm_front 8 rfl)).trans (perm_front 8 rfl)).trans (perm_front 8 rfl)).trans (perm_front 8 rfl)).trans (perm_front 8 rfl)))
  obtain⟨β1,sb,kn,hw1,back⟩:=St.frame (L:=[_,_]) (M:=_::_::_::_::_::_::_::[]) hw
  refine(twrite_ok β1 w T p28 c29 bad (yt++vint x26.to) hw1 (by simp only[List.length_append];have hf0:=vint_len10 (n:=x26.to) ⟨by omega,by omega⟩;omega) _ x26.number (kn _ (k_flPart 3 (F:=MgF) (o:=2) (us:=[Ix (x26.number)]) rfl hx27 rfl)) ⟨by omega,by omega⟩).mono ?_
  rintro e w' ⟨p30,c31,rfl,hw'⟩
  refine⟨_,rfl,_,back _ _ hw',?_⟩
  clear hw hw1 hw' back kn sb
  refine lnr (lE omp (lE onp (lE ofd (lE omf ?_))))
  refine l_call rfl rfl rfl (cl0 (vs:=[.pointer (some ((ba p).add (i*6+4))),.func (.func 42) #[pp T 0] #[]]) uf16.ok rfl rfl) ?_
  intro w hw
  replace hw:=hw.perm (L':=_::_::_::_::_::_::_::_::_::[]) (by exact(((((((((perm_front 8 rfl).trans (perm_front 8 rfl)).trans (perm_front 8 rfl)).trans (perm_front 8 rfl)).trans (perm_front 8 rfl)).trans (perm_front 8 rfl)).trans (perm_front 8 rfl)).trans (perm_front 8 rfl)).trans (perm_front 8 rfl)))
  obtain⟨β1,sb,kn,hw1,back⟩:=St.frame (L:=[_,_]) (M:=_::_::_::_::_::_::_::[]) hw
  refine(entW2_ok β1 w T p30 c31 bad ((yt++vint x26.to)++vint x26.number) hw1 ((ba p).add (i*6+4)) (x26.eh,z.2.e) hhd (kn _ (k_flPart 3 (F:=MgF) (o:=4) (us:=[Ix x26.id,.slice x26.p x26.n x26.c]) rfl hx27 rfl)) (kn _ (k_poolH (zs:=zt) (z:=(x26.eh,z.2.e)) 4 rfl hez)) hER (by simp only[List.length_append];have hf0:=vint_len10 (n:=x26.to) ⟨by omega,by omega⟩;have hf1:=vint_len10 (n:=x26.number) ⟨by omega,by omega⟩;omega)).mono ?_
  rintro e w' ⟨p32,c33,rfl,hw'⟩
  refine⟨_,rfl,_,back _ _ hw',?_⟩
  clear hw hw1 hw' back kn sb
  refine l_nil (f_block (f_then (c_region (lv (v:=Nx (i+1)) (e_add rfl rfl (i64n (by omega) (by omega))) (lE omi (l_nil ?_))))))
  refine fpn [2,0,1,3,4,5,6,7,8] 9 ?_
  exact f_cut ⟨(i+1,(((yt++vint x26.to)++vint x26.number)++entB z.2.e),p32,c33),⟨⟨rfl,rfl,rfl,rfl⟩,rfl,⟨by omega,by rw[hyt,outs_snoc ho];unfold outMB;rw[←hmh.to,←hmh.number,hzx];simp only[sB,rB,List.append_assoc],by simp only[sB,rB,List.length_append];have hf0:=vint_len10 (n:=x26.to) ⟨by omega,by omega⟩;have hf1:=vint_len10 (n:=x26.number) ⟨by omega,by omega⟩;have hf2:=hER.entB;omega⟩⟩,(show X.out.length-(i+1)<X.out.length-i from by omega)⟩
 refine c_exit (f_then_exit (f_then_exit (f_exit (ftc (lE omi (lnf (c_block (c_mask [true,true,true,true,true,true,true,true,true] rfl ?_))))))))
 refine c_loop (fun(x_:Nat×List UInt8×Option Addr×Nat) f L=>match x_ with|(j,yu,q3,d3)=>(f 0=pp G 2∧f 1= .func (.func 42) #[pp T 0] #[]∧f 104=Nx (j))∧L=[rowF IntF 3 p11 c12 (X.here.map KEnt.id),pt T (.cells #[sB q3 yu d3,.bool (bad)] 112),rowF BytF 5 q3 d3 yu,pt G (.cells (gC (X.zone) J m p (mz.length) c X.gv X.lv (dn)) 77),mpR EnM m kt,rowF MgF 38 p c (mz.map Prod.fst),poolR zt,pt (blk (fa5 4)) (.cells #[Nx (X.here.length)] 3),pt (blk (fa5 5)) (.cells #[Nx (X.out.length)] 3)]∧(j≤7∧yu=yt++n7T X.gv X.lv j∧yu.length≤yt.length+20*j)) (fun(j,yu,q3,d3)=>7-j) (0,yt,q2,d2) ?_ ?_
 ·exact⟨⟨rfl,rfl,rfl⟩,rfl,⟨Nat.zero_le _,(List.append_nil _).symm,by omega⟩⟩
 rintro⟨j,yu,q3,d3⟩ f0 L0 ⟨⟨hs0,hs1,hs104⟩,hL,⟨hjl,hyu,hyul⟩⟩
 subst L0
 refine rbs 0 hs0 (rbs 1 hs1 (rbs 104 hs104 ?_))
 have hf:=hX.ofew
 have hf2:=hX.few
 have hgj:=fun h=>hX.gv j h
 have hlj:=fun h=>hX.lv j h
 refine csr (lE olt (lnf (c_seq (c_if _ rfl (fun hc34=> ?_) (fun hc34=> ?_)))))
 ·refine csk (c_seq (c_block (csr (lE omi (lE oai (lnc (lE omf (lE omp (lE omi (lE onp (lE ofp ?_)))))))))))
  refine lv (v:= .pointer (some ((⟨G,4,none⟩:Addr).add (j*1)))) (e_indexArrI (a:=⟨G,4,none⟩) (k:=j) rfl rfl uf23.ok (by omega)) ?_
  refine l_call rfl rfl rfl (cl_value (fst:=[pp T 0]) (cap:=[]) (vs:=[.pointer (some ((⟨G,4,none⟩:Addr).add (j*1)))]) (all:=[pp T 0,.pointer (some ((⟨G,4,none⟩:Addr).add (j*1)))]) uf7.ok rfl rfl rfl) ?_
  intro w hw
  replace hw:=hw.perm (L':=_::_::_::_::_::_::_::_::_::[]) (by exact(((((((((perm_front 8 rfl).trans (perm_front 8 rfl)).trans (perm_front 8 rfl)).trans (perm_front 8 rfl)).trans (perm_front 8 rfl)).trans (perm_front 8 rfl)).trans (perm_front 6 rfl)).trans (perm_front 8 rfl)).trans (perm_front 8 rfl)))
  obtain⟨β1,sb,kn,hw1,back⟩:=St.frame (L:=[_,_]) (M:=_::_::_::_::_::_::_::[]) hw
  refine(twrite_ok β1 w T q3 d3 bad yu hw1 (by omega) _ (X.gv.at j) (kn _ (Knows.imp (k_pt 1 (o:=4) rfl rfl) fun _ h=>cs_fl (F:=IntF) (xs:=X.gv.toL) h (KN7.get (by omega)))) ⟨by have:=hgj (by omega);omega,by have:=hgj (by omega);omega⟩).mono ?_
  rintro e w' ⟨p35,c36,rfl,hw'⟩
  refine⟨_,rfl,_,back _ _ hw',?_⟩
  clear hw hw1 hw' back kn sb
  refine lnr (lE omf (lE omp (lE omi (lE onp (lE ofp ?_)))))
  refine lv (v:= .pointer (some ((⟨G,11,none⟩:Addr).add (j*1)))) (e_indexArrI (a:=⟨G,11,none⟩) (k:=j) rfl rfl uf23.ok (by omega)) ?_
  refine l_call rfl rfl rfl (cl_value (fst:=[pp T 0]) (cap:=[]) (vs:=[.pointer (some ((⟨G,11,none⟩:Addr).add (j*1)))]) (all:=[pp T 0,.pointer (some ((⟨G,11,none⟩:Addr).add (j*1)))]) uf7.ok rfl rfl rfl) ?_
  intro w hw
  replace hw:=hw.perm (L':=_::_::_::_::_::_::_::_::_::[]) (by exact(((((((((perm_front 8 rfl).trans (perm_front 8 rfl)).trans (perm_front 8 rfl)).trans (perm_front 8 rfl)).trans (perm_front 8 rfl)).trans (perm_front 8 rfl)).trans (perm_front 8 rfl)).trans (perm_front 8 rfl)).trans (perm_front 8 rfl)))
  obtain⟨β1,sb,kn,hw1,back⟩:=St.frame (L:=[_,_]) (M:=_::_::_::_::_::_::_::[]) hw
  refine(twrite_ok β1 w T p35 c36 bad (yu++vint (X.gv.at j)) hw1 (by simp only[List.length_append];have hf0:=vint_len10 (n:=(X.gv.at j)) ⟨by have:=hgj (by omega);omega,by have:=hgj (by omega);omega⟩;omega) _ (X.lv.at j) (kn _ (Knows.imp (k_pt 1 (o:=11) rfl rfl) fun _ h=>cs_fl (F:=IntF) (xs:=X.lv.toL) h (KN7.get (by omega)))) ⟨by have:=hlj (by omega);omega,by have:=hlj (by omega);omega⟩).mono ?_
  rintro e w' ⟨p37,c38,rfl,hw'⟩
  refine⟨_,rfl,_,back _ _ hw',?_⟩
  clear hw hw1 hw' back kn sb
  refine l_nil (f_block (f_then (c_region (lv (v:=Nx (j+1)) (e_add rfl rfl (i64n (by omega) (by omega))) (lE omi (l_nil ?_))))))
  refine fpn [2,0,1,3,4,5,6,7,8] 9 ?_
  exact f_cut ⟨(j+1,((yu++vint (X.gv.at j))++vint (X.lv.at j)),p37,c38),⟨⟨rfl,rfl,rfl⟩,rfl,⟨by omega,by rw[hyu,n7T_succ];simp only[sB,rB,List.append_assoc],by simp only[sB,rB,List.length_append];have hf0:=vint_len10 (n:=(X.gv.at j)) ⟨by have:=hgj (by omega);omega,by have:=hgj (by omega);omega⟩;have hf1:=vint_len10 (n:=(X.lv.at j)) ⟨by have:=hlj (by omega);omega,by have:=hlj (by omega);omega⟩;omega⟩⟩,(show 7-(j+1)<7-j from by omega)⟩
 refine c_exit (f_then_exit (f_then_exit (f_exit (end0 Tryz.results56 ?_))))
 intro w hw
 have hie:i=X.out.length:=by omega
 have hje:j=7:=by omega
 have hall:yu=xs++allB X:=by rw[hyu,hyt,hys,hke,hie,hje,List.take_length,List.take_length];unfold allB;simp only[List.append_assoc];rfl
 rw[←hall]
 replace hw:=hw.perm (L':=[pt G (.cells (gC (X.zone) J m p (mz.length) c X.gv X.lv (dn)) 77),mpR EnM m kt,rowF MgF 38 p c (mz.map Prod.fst),poolR zt,pt T (.cells #[sB q3 yu d3,.bool (bad)] 112),rowF BytF 5 q3 d3 yu,rowF IntF 3 p11 c12 (X.here.map KEnt.id),pt (blk (fa5 4)) (.cells #[Nx (X.here.length)] 3),pt (blk (fa5 5)) (.cells #[Nx (X.out.length)] 3)]) (by exact(perm_ix [3,4,5,6,1,2,0,7,8] 9 rfl (by kernel_rfl) (by kernel_rfl)))
 replace hw:=st_mask (L':=[pt G (.cells (gC (X.zone) J m p (mz.length) c X.gv X.lv (dn)) 77),mpR EnM m kt,rowF MgF 38 p c (mz.map Prod.fst),poolR zt,pt T (.cells #[sB q3 yu d3,.bool (bad)] 112),rowF BytF 5 q3 d3 yu]) [true,true,true,true,true,true,false,false,false] rfl hw
 exact⟨_,_,rfl,(St.closeGv (M:=[pt T (.cells #[sB q3 yu d3,.bool (bad)] 112),rowF BytF 5 q3 d3 yu]) hkt hw).perm (perm_3 _ _ _)⟩
end Go.Proofs
