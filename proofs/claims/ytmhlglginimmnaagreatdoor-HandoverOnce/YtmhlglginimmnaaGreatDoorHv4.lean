/-
 Own work; plain Lean (Hv3, Hv4).
-/
import Derived.Test.YtmhlglginimmnaaGreatDoorHvDoor
set_option linter.all false
namespace Go.Proofs
open Go Go.Sl Go.Hv
instance vu13:FldC Tryz.prog 32 1 1 1 false:={}
instance vu14:TyC Tryz.prog 30 false 1:={}
instance vu15:UndC Tryz.prog 30 100:={}
instance vu16:ZerC Tryz.prog 3 (.int .i64 (0)):={}
instance vu17:FldC Tryz.prog 32 0 0 1 false:={}
instance vu18:CfC Tryz.prog 42:={}
theorem vu19:slB Tryz.prog 30 100 5=true:=by kernel_rfl
instance vu20:FldC Tryz.prog 100 0 0 1 false:={}
instance vu21:FldC Tryz.prog 100 1 1 4 true:={}
instance vu22:ArrC Tryz.prog 98 4 3 1:={}
theorem treadV0_ok(β:Base)(w:World)(H:PHeap)(hH:Sub H β.heap)(T:Nat)(n:Int)(hn: -9223372036854775808≤n∧n≤9223372036854775807)(rest:List UInt8)(p:Option Addr)(c i:Nat)(cs:List KComp)(x:KComp)(hx:cs[i]? =some x)(hw:St β [tpR H T (vint n++rest),rowF CpF 100 p c cs] w):Calls Tryz.prog 66 #[pp T 0,.pointer (some ((ba p).add (i*5+1)))] w fun r w'=>r= .returned (.tuple #[])∧St β [tpR H T rest,rowF CpF 100 p c (cs.set i {x with v0:=n})] w':=by
 have hil:=(List.getElem?_eq_some_iff.1 hx).1
 refine enter (n:=8) Tryz.func66 rfl Tryz.ntmps66 rfl ?_ hw
 refine c_region (lE omp (lE omp (l_call rfl rfl rfl (cl0 (vs:=[pp T 0]) vt12.ok rfl rfl) ?_)))
 intro w hw
 replace hw:=hw.perm (L':=_::_::[]) (by exact((perm_front 1 rfl).trans (perm_front 1 rfl)))
 obtain⟨β1,sb,kn,hw1,back⟩:=St.frame (L:=[_]) (M:=_::[]) hw
 refine(tget_ok β1 w H (hH.trans sb) T n hn rest hw1).mono ?_
 rintro e w' ⟨rfl,hw'⟩
 refine⟨_,rfl,_,back _ _ hw',?_⟩
 clear hw hw1 hw' back kn sb
 refine lE onp ?_
 refine lu (m_storeFlPart 1 (F:=CpF) (p:=p) (k:=i) (o:=1) (xs:=cs) (z0:=x) (z:=({x with v0:=n}:KComp)) vt10.ok rfl rfl rfl rfl rfl hx (by decide) rfl) ?_
 refine l_nil (end0 Tryz.results66 ?_)
 intro w hw
 exact⟨rfl,hw⟩
theorem treadV1_ok(β:Base)(w:World)(H:PHeap)(hH:Sub H β.heap)(T:Nat)(n:Int)(hn: -9223372036854775808≤n∧n≤9223372036854775807)(rest:List UInt8)(p:Option Addr)(c i:Nat)(cs:List KComp)(x:KComp)(hx:cs[i]? =some x)(hw:St β [tpR H T (vint n++rest),rowF CpF 100 p c cs] w):Calls Tryz.prog 66 #[pp T 0,.pointer (some ((ba p).add (i*5+2)))] w fun r w'=>r= .returned (.tuple #[])∧St β [tpR H T rest,rowF CpF 100 p c (cs.set i {x with v1:=n})] w':=by
 have hil:=(List.getElem?_eq_some_iff.1 hx).1
 refine enter (n:=8) Tryz.func66 rfl Tryz.ntmps66 rfl ?_ hw
 refine c_region (lE omp (lE omp (l_call rfl rfl rfl (cl0 (vs:=[pp T 0]) vt12.ok rfl rfl) ?_)))
 intro w hw
 replace hw:=hw.perm (L':=_::_::[]) (by exact((perm_front 1 rfl).trans (perm_front 1 rfl)))
 obtain⟨β1,sb,kn,hw1,back⟩:=St.frame (L:=[_]) (M:=_::[]) hw
 refine(tget_ok β1 w H (hH.trans sb) T n hn rest hw1).mono ?_
 rintro e w' ⟨rfl,hw'⟩
 refine⟨_,rfl,_,back _ _ hw',?_⟩
 clear hw hw1 hw' back kn sb
 refine lE onp ?_
 refine lu (m_storeFlPart 1 (F:=CpF) (p:=p) (k:=i) (o:=2) (xs:=cs) (z0:=x) (z:=({x with v1:=n}:KComp)) vt10.ok rfl rfl rfl rfl rfl hx (by decide) rfl) ?_
 refine l_nil (end0 Tryz.results66 ?_)
 intro w hw
 exact⟨rfl,hw⟩
theorem treadV2_ok(β:Base)(w:World)(H:PHeap)(hH:Sub H β.heap)(T:Nat)(n:Int)(hn: -9223372036854775808≤n∧n≤9223372036854775807)(rest:List UInt8)(p:Option Addr)(c i:Nat)(cs:List KComp)(x:KComp)(hx:cs[i]? =some x)(hw:St β [tpR H T (vint n++rest),rowF CpF 100 p c cs] w):Calls Tryz.prog 66 #[pp T 0,.pointer (some ((ba p).add (i*5+3)))] w fun r w'=>r= .returned (.tuple #[])∧St β [tpR H T rest,rowF CpF 100 p c (cs.set i {x with v2:=n})] w':=by
 have hil:=(List.getElem?_eq_some_iff.1 hx).1
 refine enter (n:=8) Tryz.func66 rfl Tryz.ntmps66 rfl ?_ hw
 refine c_region (lE omp (lE omp (l_call rfl rfl rfl (cl0 (vs:=[pp T 0]) vt12.ok rfl rfl) ?_)))
 intro w hw
 replace hw:=hw.perm (L':=_::_::[]) (by exact((perm_front 1 rfl).trans (perm_front 1 rfl)))
 obtain⟨β1,sb,kn,hw1,back⟩:=St.frame (L:=[_]) (M:=_::[]) hw
 refine(tget_ok β1 w H (hH.trans sb) T n hn rest hw1).mono ?_
 rintro e w' ⟨rfl,hw'⟩
 refine⟨_,rfl,_,back _ _ hw',?_⟩
 clear hw hw1 hw' back kn sb
 refine lE onp ?_
 refine lu (m_storeFlPart 1 (F:=CpF) (p:=p) (k:=i) (o:=3) (xs:=cs) (z0:=x) (z:=({x with v2:=n}:KComp)) vt10.ok rfl rfl rfl rfl rfl hx (by decide) rfl) ?_
 refine l_nil (end0 Tryz.results66 ?_)
 intro w hw
 exact⟨rfl,hw⟩
theorem treadV3_ok(β:Base)(w:World)(H:PHeap)(hH:Sub H β.heap)(T:Nat)(n:Int)(hn: -9223372036854775808≤n∧n≤9223372036854775807)(rest:List UInt8)(p:Option Addr)(c i:Nat)(cs:List KComp)(x:KComp)(hx:cs[i]? =some x)(hw:St β [tpR H T (vint n++rest),rowF CpF 100 p c cs] w):Calls Tryz.prog 66 #[pp T 0,.pointer (some ((ba p).add (i*5+4)))] w fun r w'=>r= .returned (.tuple #[])∧St β [tpR H T rest,rowF CpF 100 p c (cs.set i {x with v3:=n})] w':=by
 have hil:=(List.getElem?_eq_some_iff.1 hx).1
 refine enter (n:=8) Tryz.func66 rfl Tryz.ntmps66 rfl ?_ hw
 refine c_region (lE omp (lE omp (l_call rfl rfl rfl (cl0 (vs:=[pp T 0]) vt12.ok rfl rfl) ?_)))
 intro w hw
 replace hw:=hw.perm (L':=_::_::[]) (by exact((perm_front 1 rfl).trans (perm_front 1 rfl)))
 obtain⟨β1,sb,kn,hw1,back⟩:=St.frame (L:=[_]) (M:=_::[]) hw
 refine(tget_ok β1 w H (hH.trans sb) T n hn rest hw1).mono ?_
 rintro e w' ⟨rfl,hw'⟩
 refine⟨_,rfl,_,back _ _ hw',?_⟩
 clear hw hw1 hw' back kn sb
 refine lE onp ?_
 refine lu (m_storeFlPart 1 (F:=CpF) (p:=p) (k:=i) (o:=4) (xs:=cs) (z0:=x) (z:=({x with v3:=n}:KComp)) vt10.ok rfl rfl rfl rfl rfl hx (by decide) rfl) ?_
 refine l_nil (end0 Tryz.results66 ?_)
 intro w hw
 exact⟨rfl,hw⟩
set_option maxHeartbeats 4000000 in
theorem entW_ok(β:Base)(w:World)(T:Nat)(tp:Option Addr)(tc:Nat)(bad:Bool)(xs:List UInt8)(hw:St β [pt T (.cells #[sB tp xs tc,.bool bad] 112),rowF BytF 5 tp tc xs] w)(qe:Addr)(id:Int)(p:Option Addr)(c:Nat)(cs:List KComp)(hq:Cs β.heap qe [Ix id,sB p cs c])(hr:Has (rowF CpF 100 p c cs) β.heap)(hid:inI id)(hcl:cs.length≤10)(hci:∀x∈cs,CpI x)(hxl:xs.length≤100000):Calls Tryz.prog 41 #[.pointer (some qe),.func (.func 42) #[pp T 0] #[]] w fun r w'=>∃tp tc,r= .returned (.tuple #[])∧St β [pt T (.cells #[sB tp (xs++entB ⟨id,cs⟩) tc,.bool bad] 112),rowF BytF 5 tp tc (xs++entB ⟨id,cs⟩)] w':=by
 obtain⟨-,hrl,hrm,hre⟩:=sl_open hr.sl
 refine enter (n:=84) Tryz.func41 rfl Tryz.ntmps41 rfl ?_ hw
 refine csr (lE omp (lE onp (lE ofa ?_)))
 refine lv (v:=sB p cs (c)) (e_load1 vu14.ok rfl (Knows.imp (kB hq) (fun _ h=>Cs.sub (vs:=[sB p cs (c)]) 1 h rfl))) (lE oln (alE fun b1=> ?_))
 refine lu (mS 0 (#[Nx (cs.length)])) (lnc (lE omf (lE omp (lE onp (lE ofa ?_)))))
 refine l_call rfl rfl rfl (cl_value (fst:=[pp T 0]) (cap:=[]) (vs:=[.pointer (some ((qe:Addr).add 0))]) (all:=[pp T 0,.pointer (some ((qe:Addr).add 0))]) vu18.ok rfl rfl rfl) ?_
 intro w hw
 replace hw:=hw.perm (L':=_::_::_::[]) (by exact(((perm_front 0 rfl).trans (perm_front 2 rfl)).trans (perm_front 2 rfl)))
 obtain⟨β1,sb,kn,hw1,back⟩:=St.frame (L:=[_,_]) (M:=_::[]) hw
 refine(twrite_ok β1 w T tp tc bad xs hw1 (by omega) _ id (kn _ (Knows.imp (kB hq) (fun _ h=>Cs.sub (vs:=[Ix (id)]) 0 h rfl))) hid).mono ?_
 rintro e w' ⟨p2,c3,rfl,hw'⟩
 refine⟨_,rfl,_,back _ _ hw',?_⟩
 clear hw hw1 hw' back kn sb
 refine lnc (lE omf (l_call rfl rfl rfl (cl_value (fst:=[pp T 0]) (cap:=[]) (vs:=[pp b1 0]) (all:=[pp T 0,pp b1 0]) vu18.ok rfl rfl rfl) ?_))
 intro w hw
 replace hw:=hw.perm (L':=_::_::_::[]) (by exact(((perm_front 2 rfl).trans (perm_front 2 rfl)).trans (perm_front 2 rfl)))
 obtain⟨β1,sb,kn,hw1,back⟩:=St.frame (L:=[_,_]) (M:=_::[]) hw
 refine(twrite_ok β1 w T p2 c3 bad (xs++vint id) hw1 (by simp only[List.length_append];have hf0:=vint_len10 hid;omega) _ ((cs.length:Nat):Int) (kn _ (k_pt 0 (o:=0) rfl rfl)) (len_in (by omega))).mono ?_
 rintro e w' ⟨p4,c5,rfl,hw'⟩
 refine⟨_,rfl,_,back _ _ hw',?_⟩
 clear hw hw1 hw' back kn sb
 refine lnc (lE (oli 2) ?_)
 refine lv (v:=Nx (max cs.length 0)) (ev_eq (congrArg (Value.int .i64) (by omega)) (e_max (a:=((cs.length:Nat):Int)) (b:=(0:Int)) rfl rfl)) ?_
 refine lv (v:=Nx (min (max cs.length 0) 10)) (ev_eq (congrArg (Value.int .i64) (by omega)) (e_min (a:=((max cs.length 0:Nat):Int)) (b:=(10:Int)) rfl rfl)) ?_
 refine lu (mS 2 (#[Nx (min (max cs.length 0) 10)])) (lnf (c_seq (c_block (c_unroll 1 (un_succ 0 (cs2 (c_quiet (by kernel_rfl) (by kernel_rfl) ?_)))))))
 refine qE omp (qE onp (qE ofa ?_))
 refine q_val (v:=sB p cs (c)) rfl rfl rfl (e_load1 vu14.ok rfl (Knows.imp (kB hq) (fun _ h=>Cs.sub (vs:=[sB p cs (c)]) 1 h rfl))) (qE oln ?_)
 refine qE (oli 2) ?_
 refine q_val (v:= .bool false) rfl rfl rfl (ev_f (by omega) (e_lss (a:=((cs.length:Nat):Int)) (b:=((min (max cs.length 0) 10:Nat):Int)) rfl rfl)) ?_
 refine q_nil (f_then (c_no rfl (c_exit (f_then_exit (f_then_exit (f_exit (ftc (lE omp (lE onp (lE ofa ?_))))))))))
 refine lv (v:=sB p cs (c)) (e_load1 vu14.ok rfl (Knows.imp (kB hq) (fun _ h=>Cs.sub (vs:=[sB p cs (c)]) 1 h rfl))) (lE oln (lE omi (lnf ?_)))
 refine c_block (c_mask [true,true,false] rfl ?_)
 refine c_loop (fun(x_:Nat×List UInt8×Option Addr×Nat) f L=>match x_ with|(i,ys,q,d)=>(f 0= .pointer (some (qe))∧f 1= .func (.func 42) #[pp T 0] #[]∧f 44=Nx (cs.length)∧f 45=Nx (i))∧L=[pt T (.cells #[sB q ys d,.bool (bad)] 112),rowF BytF 5 q d ys]∧(i≤cs.length∧ys=((xs++vint id)++vint ((cs.length:Nat):Int))++cpsB (cs.take i)∧ys.length≤xs.length+20+50*i)) (fun(i,ys,q,d)=>cs.length-i) (0,((xs++vint id)++vint ((cs.length:Nat):Int)),p4,c5) ?_ ?_
 ·exact⟨⟨rfl,rfl,rfl,rfl⟩,rfl,⟨Nat.zero_le _,(List.append_nil _).symm,by simp only[List.length_append];have h1:=vint_len10 hid;have h2:=vint_len10 (len_in (n:=cs.length) (by omega));omega⟩⟩
 rintro⟨i,ys,q,d⟩ f0 L0 ⟨⟨hs0,hs1,hs44,hs45⟩,hL,⟨hi,hys,hyl⟩⟩
 subst L0
 refine rbs 0 hs0 (rbs 1 hs1 (rbs 44 hs44 (rbs 45 hs45 (csr (lE olt (lnf (c_seq (c_if _ rfl (fun hc6=> ?_) (fun hc6=> ?_)))))))))
 ·refine csk (c_seq (c_block (csr (lE omi (lE oai (lnc (lE omp (lE onp (lE ofa ?_)))))))))
  refine lv (v:=sB p cs (c)) (e_load1 vu14.ok rfl (Knows.imp (kB hq) (fun _ h=>Cs.sub (vs:=[sB p cs (c)]) 1 h rfl))) (lE omi ?_)
  obtain⟨x7,hx8⟩:=getx cs i (by omega)
  obtain⟨ha9,cs10,hc11,rfl⟩:=hre _ _ hx8
  refine lE (oia vu19 ha9) (lE ofa ?_)
  refine lv (v:=Bx (x7.kind)) (e_load1 vt9.ok rfl (Knows.imp (kB hc11) (fun _ h=>Cs.sub (vs:=[Bx (x7.kind)]) 0 h rfl))) ?_
  refine lv (v:=Nx (x7.kind.toNat)) (e_conv (a:=((x7.kind).toNat:Int)) rfl ⟨_,vt4⟩ vt0 (i64n rfl (by have:=(x7.kind).toNat_lt;omega))) ?_
  refine alE fun b13=>lu (mS 0 (#[Nx (x7.kind.toNat)])) (lnc (lE omf ?_))
  refine l_call rfl rfl rfl (cl_value (fst:=[pp T 0]) (cap:=[]) (vs:=[pp b13 0]) (all:=[pp T 0,pp b13 0]) vu18.ok rfl rfl rfl) ?_
  intro w hw
  replace hw:=hw.perm (L':=_::_::_::[]) (by exact(((perm_front 0 rfl).trans (perm_front 2 rfl)).trans (perm_front 2 rfl)))
  obtain⟨β1,sb,kn,hw1,back⟩:=St.frame (L:=[_,_]) (M:=_::[]) hw
  refine(twrite_ok β1 w T q d bad ys hw1 (by omega) _ ((x7.kind.toNat:Nat):Int) (kn _ (k_pt 0 (o:=0) rfl rfl)) (kind_in x7.kind)).mono ?_
  rintro e w' ⟨p14,c15,rfl,hw'⟩
  refine⟨_,rfl,_,back _ _ hw',?_⟩
  clear hw hw1 hw' back kn sb
  refine lnf (c_seq ?_)
  refine cnz [sv 59 (.pointer (some (qe))) [] [] [0],sv 60 (.pointer (some (qe))) [0] [0] [],sv 61 (.pointer (some ((qe:Addr).add 1))) [0,1] [1] [],sv 62 (sB p cs (c)) [0,1,2] [2] [],sv 63 (Nx (i)) [] [] [1],sv 64 (Nx (x7.kind.toNat)) [] [] [2],sv 65 (Bx (x7.kind)) [5] [5] [],sv 66 (.pointer (some ((ba p).add (i*5)))) (List.range 7) [3,4] [],sv 67 (.pointer (some (((ba p).add (i*5):Addr).add 0))) (List.range 8) [7] [],⟨(List.range 9),[8,6],[],[],fun _=>True⟩] [u0,u0,u1 [5]] [] [(0,.pointer (some (qe))),(5,Nx (i)),(6,pp b13 0),(1,.func (.func 42) #[pp T 0] #[]),(44,Nx (cs.length)),(45,Nx (i))] [0,3,1,4,5] ⟨rfl,rfl,rfl,rfl,rfl,rfl,trivial⟩ ⟨?_,?_,?_,?_,?_,?_,?_,?_,?_,?_,trivial⟩ ?_
  ·rintro f M-⟨i0,-⟩
   exact obE omp
  ·rintro f M ⟨k0,-⟩-
   exact obE onp
  ·rintro f M ⟨k0,-⟩-
   exact obE ofa
  ·rintro f M ⟨k0,-⟩-
   exact ob0 (up_cons (d:=61) rfl k0) rfl (e_load1 vu14.ok rfl (Knows.imp (kB hq) (fun _ h=>Cs.sub (vs:=[sB p cs (c)]) 1 h rfl))) (.refl _)
  ·rintro f M-⟨i0,-⟩
   exact obE omi
  ·rintro f M-⟨i0,-⟩
   exact obE (oli 0)
  ·rintro f M ⟨k0,-⟩-
   exact ob0 (up_cons (d:=64) rfl k0) rfl (e_conv (a:=(((x7.kind).toNat:Nat):Int)) rfl ⟨_,vt0⟩ vt4 (conv8 _)) (.refl _)
  ·rintro f M ⟨k0,k1,-⟩-
   exact ob0 (up_cons (d:=63) (up_cons (d:=62) rfl k0) k1) rfl (e_indexAddr rfl rfl vu19 (by omega) ha9) (.refl _)
  ·rintro f M ⟨k0,-⟩-
   exact obE ofa
  ·rintro f M ⟨k0,k1,-⟩-
   refine obS (up_cons (d:=65) (up_cons (d:=67) rfl k0) k1) ?_
   refine lu (m_sameFl (F:=CpF) (k:=i) (o:=0) (v:=Bx (x7.kind)) vt9.ok rfl rfl rfl (Knows.of_base (Has.mono _) hr) hx8 rfl rfl) (l_nil ?_)
   exact f_owes_n (up_cons (d:=65) (up_cons (d:=67) rfl k0) k1) trivial (List.Perm.refl _)
  rintro fa16 ⟨-,-,-,-,-,-,-,-,-,-,-⟩ ⟨j0,j1,j2,j3,j4,-⟩
  refine fre ?_
  refine f_rebase (d:=0) j0 (f_rebase (d:=1) j1 (f_rebase (d:=5) j2 (f_rebase (d:=44) j3 (f_rebase (d:=45) j4 (ftc (lE omi (lnf (c_block ?_))))))))
  refine c_unroll 5 (un_succ 4 (csr (lE olt (lnf (c_seq (c_yes rfl (csk (c_seq (c_block (csr (lE omi (lE oai (lnr (lE omf (lE omp (lE onp (lE ofa ?_)))))))))))))))))
  refine lv (v:=sB p cs (c)) (e_load1 vu14.ok rfl (Knows.imp (kB hq) (fun _ h=>Cs.sub (vs:=[sB p cs (c)]) 1 h rfl))) (lE omi (lE omi ?_))
  refine lE (oia vu19 ha9) (lE ofa ?_)
  refine lv (v:= .pointer (some ((((ba p).add (i*5):Addr).add 1:Addr).add (0*1)))) (e_indexArr (a:=((ba p).add (i*5):Addr).add 1) (k:=0) rfl rfl vu22.ok (by decide)) ?_
  refine l_call rfl rfl rfl (cl_value (fst:=[pp T 0]) (cap:=[]) (vs:=[.pointer (some ((((ba p).add (i*5):Addr).add 1:Addr).add (0*1)))]) (all:=[pp T 0,.pointer (some ((((ba p).add (i*5):Addr).add 1:Addr).add (0*1)))]) vu18.ok rfl rfl rfl) ?_
  intro w hw
  replace hw:=hw.perm (L':=_::_::_::[]) (by exact(((perm_front 2 rfl).trans (perm_front 2 rfl)).trans (perm_front 2 rfl)))
  obtain⟨β1,sb,kn,hw1,back⟩:=St.frame (L:=[_,_]) (M:=_::[]) hw
  refine(twrite_ok β1 w T p14 c15 bad (ys++vint ((x7.kind.toNat:Nat):Int)) hw1 (by simp only[List.length_append];have hf0:=vint_len10 (kind_in x7.kind);omega) _ x7.v0 (kn _ (Knows.imp (Knows.imp (kB hc11) (fun _ h=>Cs.sub (vs:=[Ix (x7.v0),Ix (x7.v1),Ix (x7.v2),Ix (x7.v3)]) 1 h rfl)) (fun _ h=>Cs.sub (vs:=[Ix (x7.v0)]) (0*1) h rfl))) (hci _ (List.mem_of_getElem? hx8)).v0).mono ?_
  rintro e w' ⟨p17,c18,rfl,hw'⟩
  refine⟨_,rfl,_,back _ _ hw',?_⟩
  clear hw hw1 hw' back kn sb
  refine l_nil (f_block (f_then (c_region (lE opl (lE omi (l_nil (f_cut (un_succ 3 (csr (lE olt (lnf (c_seq (c_yes rfl (csk (c_seq (c_block (csr ?_)))))))))))))))))
  refine lE omi (lE oai (lnr (lE omf (lE omp (lE onp (lE ofa ?_))))))
  refine lv (v:=sB p cs (c)) (e_load1 vu14.ok rfl (Knows.imp (kB hq) (fun _ h=>Cs.sub (vs:=[sB p cs (c)]) 1 h rfl))) (lE omi (lE omi ?_))
  refine lE (oia vu19 ha9) (lE ofa ?_)
  refine lv (v:= .pointer (some ((((ba p).add (i*5):Addr).add 1:Addr).add (1*1)))) (e_indexArr (a:=((ba p).add (i*5):Addr).add 1) (k:=1) rfl rfl vu22.ok (by decide)) ?_
  refine l_call rfl rfl rfl (cl_value (fst:=[pp T 0]) (cap:=[]) (vs:=[.pointer (some ((((ba p).add (i*5):Addr).add 1:Addr).add (1*1)))]) (all:=[pp T 0,.pointer (some ((((ba p).add (i*5):Addr).add 1:Addr).add (1*1)))]) vu18.ok rfl rfl rfl) ?_
  intro w hw
  replace hw:=hw.perm (L':=_::_::_::[]) (by exact(((perm_front 2 rfl).trans (perm_front 2 rfl)).trans (perm_front 2 rfl)))
  obtain⟨β1,sb,kn,hw1,back⟩:=St.frame (L:=[_,_]) (M:=_::[]) hw
  refine(twrite_ok β1 w T p17 c18 bad ((ys++vint ((x7.kind.toNat:Nat):Int))++vint x7.v0) hw1 (by simp only[List.length_append];have hf0:=vint_len10 (kind_in x7.kind);have hf1:=vint_len10 (hci _ (List.mem_of_getElem? hx8)).v0;omega) _ x7.v1 (kn _ (Knows.imp (Knows.imp (kB hc11) (fun _ h=>Cs.sub (vs:=[Ix (x7.v0),Ix (x7.v1),Ix (x7.v2),Ix (x7.v3)]) 1 h rfl)) (fun _ h=>Cs.sub (vs:=[Ix (x7.v1)]) (1*1) h rfl))) (hci _ (List.mem_of_getElem? hx8)).v1).mono ?_
  rintro e w' ⟨p19,c20,rfl,hw'⟩
  refine⟨_,rfl,_,back _ _ hw',?_⟩
  clear hw hw1 hw' back kn sb
  refine l_nil (f_block (f_then (c_region (lE opl (lE omi (l_nil (f_cut (un_succ 2 (csr (lE olt (lnf (c_seq (c_yes rfl (csk (c_seq (c_block (csr ?_)))))))))))))))))
  refine lE omi (lE oai (lnr (lE omf (lE omp (lE onp (lE ofa ?_))))))
  refine lv (v:=sB p cs (c)) (e_load1 vu14.ok rfl (Knows.imp (kB hq) (fun _ h=>Cs.sub (vs:=[sB p cs (c)]) 1 h rfl))) (lE omi (lE omi ?_))
  refine lE (oia vu19 ha9) (lE ofa ?_)
  refine lv (v:= .pointer (some ((((ba p).add (i*5):Addr).add 1:Addr).add (2*1)))) (e_indexArr (a:=((ba p).add (i*5):Addr).add 1) (k:=2) rfl rfl vu22.ok (by decide)) ?_
  refine l_call rfl rfl rfl (cl_value (fst:=[pp T 0]) (cap:=[]) (vs:=[.pointer (some ((((ba p).add (i*5):Addr).add 1:Addr).add (2*1)))]) (all:=[pp T 0,.pointer (some ((((ba p).add (i*5):Addr).add 1:Addr).add (2*1)))]) vu18.ok rfl rfl rfl) ?_
  intro w hw
  replace hw:=hw.perm (L':=_::_::_::[]) (by exact(((perm_front 2 rfl).trans (perm_front 2 rfl)).trans (perm_front 2 rfl)))
  obtain⟨β1,sb,kn,hw1,back⟩:=St.frame (L:=[_,_]) (M:=_::[]) hw
  refine(twrite_ok β1 w T p19 c20 bad (((ys++vint ((x7.kind.toNat:Nat):Int))++vint x7.v0)++vint x7.v1) hw1 (by simp only[List.length_append];have hf0:=vint_len10 (kind_in x7.kind);have hf1:=vint_len10 (hci _ (List.mem_of_getElem? hx8)).v0;have hf2:=vint_len10 (hci _ (List.mem_of_getElem? hx8)).v1;omega) _ x7.v2 (kn _ (Knows.imp (Knows.imp (kB hc11) (fun _ h=>Cs.sub (vs:=[Ix (x7.v0),Ix (x7.v1),Ix (x7.v2),Ix (x7.v3)]) 1 h rfl)) (fun _ h=>Cs.sub (vs:=[Ix (x7.v2)]) (2*1) h rfl))) (hci _ (List.mem_of_getElem? hx8)).v2).mono ?_
  rintro e w' ⟨p21,c22,rfl,hw'⟩
  refine⟨_,rfl,_,back _ _ hw',?_⟩
  clear hw hw1 hw' back kn sb
  refine l_nil (f_block (f_then (c_region (lE opl (lE omi (l_nil (f_cut (un_succ 1 (csr (lE olt (lnf (c_seq (c_yes rfl (csk (c_seq (c_block (csr ?_)))))))))))))))))
  refine lE omi (lE oai (lnr (lE omf (lE omp (lE onp (lE ofa ?_))))))
  refine lv (v:=sB p cs (c)) (e_load1 vu14.ok rfl (Knows.imp (kB hq) (fun _ h=>Cs.sub (vs:=[sB p cs (c)]) 1 h rfl))) (lE omi (lE omi ?_))
  refine lE (oia vu19 ha9) (lE ofa ?_)
  refine lv (v:= .pointer (some ((((ba p).add (i*5):Addr).add 1:Addr).add (3*1)))) (e_indexArr (a:=((ba p).add (i*5):Addr).add 1) (k:=3) rfl rfl vu22.ok (by decide)) ?_
  refine l_call rfl rfl rfl (cl_value (fst:=[pp T 0]) (cap:=[]) (vs:=[.pointer (some ((((ba p).add (i*5):Addr).add 1:Addr).add (3*1)))]) (all:=[pp T 0,.pointer (some ((((ba p).add (i*5):Addr).add 1:Addr).add (3*1)))]) vu18.ok rfl rfl rfl) ?_
  intro w hw
  replace hw:=hw.perm (L':=_::_::_::[]) (by exact(((perm_front 2 rfl).trans (perm_front 2 rfl)).trans (perm_front 2 rfl)))
  obtain⟨β1,sb,kn,hw1,back⟩:=St.frame (L:=[_,_]) (M:=_::[]) hw
  refine(twrite_ok β1 w T p21 c22 bad ((((ys++vint ((x7.kind.toNat:Nat):Int))++vint x7.v0)++vint x7.v1)++vint x7.v2) hw1 (by simp only[List.length_append];have hf0:=vint_len10 (kind_in x7.kind);have hf1:=vint_len10 (hci _ (List.mem_of_getElem? hx8)).v0;have hf2:=vint_len10 (hci _ (List.mem_of_getElem? hx8)).v1;have hf3:=vint_len10 (hci _ (List.mem_of_getElem? hx8)).v2;omega) _ x7.v3 (kn _ (Knows.imp (Knows.imp (kB hc11) (fun _ h=>Cs.sub (vs:=[Ix (x7.v0),Ix (x7.v1),Ix (x7.v2),Ix (x7.v3)]) 1 h rfl)) (fun _ h=>Cs.sub (vs:=[Ix (x7.v3)]) (3*1) h rfl))) (hci _ (List.mem_of_getElem? hx8)).v3).mono ?_
  rintro e w' ⟨p23,c24,rfl,hw'⟩
  refine⟨_,rfl,_,back _ _ hw',?_⟩
  clear hw hw1 hw' back kn sb
  refine l_nil (f_block (f_then (c_region (lE opl (lE omi (l_nil (f_cut (un_succ 0 (csr (lE olt (lnf (c_seq (c_no rfl (c_exit (f_then_exit ?_)))))))))))))))
  refine f_then_exit (f_exit (f_block (f_then (c_region (lv (v:=Nx (i+1)) (e_add rfl rfl (i64n (by omega) (by omega))) (lE omi (l_nil ?_)))))))
  refine f_mask [true,true,false] rfl ?_
  exact f_cut ⟨(i+1,(((((ys++vint ((x7.kind.toNat:Nat):Int))++vint x7.v0)++vint x7.v1)++vint x7.v2)++vint x7.v3),p23,c24),⟨⟨rfl,rfl,rfl,rfl⟩,rfl,⟨by omega,by rw[hys,cpsB_snoc hx8];simp only[sB,rB,cpB,kiB,List.append_assoc],by simp only[sB,rB,List.length_append];have hf0:=vint_len10 (kind_in x7.kind);have hf1:=vint_len10 (hci _ (List.mem_of_getElem? hx8)).v0;have hf2:=vint_len10 (hci _ (List.mem_of_getElem? hx8)).v1;have hf3:=vint_len10 (hci _ (List.mem_of_getElem? hx8)).v2;have hf4:=vint_len10 (hci _ (List.mem_of_getElem? hx8)).v3;omega⟩⟩,(show cs.length-(i+1)<cs.length-i from by omega)⟩
 refine c_exit (f_then_exit (f_then_exit (f_exit (end0 Tryz.results41 ?_))))
 intro w hw
 have he:ys=xs++entB ⟨id,cs⟩:=by rw[hys,List.take_of_length_le (by omega)];simp only[entB,List.append_assoc]
 subst he
 exact⟨_,_,rfl,hw⟩
end Go.Proofs
namespace Go.Proofs
open Go Go.Sl Go.Hv
instance vv0:CfC Tryz.prog 68:={}
instance vv1:TyC Tryz.prog 3 false 1:={}
instance vv2:FldC Tryz.prog 32 1 1 1 false:={}
instance vv3:TyC Tryz.prog 30 false 1:={}
instance vv4:UndC Tryz.prog 30 100:={}
instance vv5:ZerC Tryz.prog 3 (.int .i64 (0)):={}
instance vv6:FldC Tryz.prog 32 0 0 1 false:={}
instance vv7:CfC Tryz.prog 66:={}
theorem vv8:stB Tryz.prog 100 [(0,1),(1,4)]=true:=by kernel_rfl
instance vv9:ZerC Tryz.prog 100 (.agg #[.int .u8 (0),.int .i64 (0),.int .i64 (0),.int .i64 (0),.int .i64 (0)]):={}
theorem vv10:slB Tryz.prog 30 100 5=true:=by kernel_rfl
theorem vv11:elB Tryz.prog 100 5 40=true:=by kernel_rfl
instance vv12:FldC Tryz.prog 100 0 0 1 false:={}
instance vv13:TyC Tryz.prog 5 false 1:={}
theorem vv14:Tryz.prog.underlying 5=some (.int .u8):=by kernel_rfl
theorem vv15:Tryz.prog.underlying 3=some (.int .i64):=by kernel_rfl
instance vv16:FldC Tryz.prog 100 1 1 4 true:={}
instance vv17:ArrC Tryz.prog 98 4 3 1:={}
theorem treadP_ok(β:Base)(w:World)(H:PHeap)(hH:Sub H β.heap)(T:Nat)(n:Int)(hn: -9223372036854775808≤n∧n≤9223372036854775807)(rest:List UInt8)(q:Addr)(R:Int→Option Addr→Nat→Nat→Res)(hP:Plc q R)(m:Int)(p:Option Addr)(k c:Nat)(hw:St β [tpR H T (vint n++rest),R m p k c] w):Calls Tryz.prog 66 #[pp T 0,.pointer (some (q.add 0))] w fun r w'=>r= .returned (.tuple #[])∧St β [tpR H T rest,R n p k c] w':=by
 refine enter (n:=8) Tryz.func66 rfl Tryz.ntmps66 rfl ?_ hw
 refine c_region (lE omp (lE omp (l_call rfl rfl rfl (cl0 (vs:=[pp T 0]) vv0.ok rfl rfl) ?_)))
 intro w hw
 replace hw:=hw.perm (L':=_::_::[]) (by exact((perm_front 1 rfl).trans (perm_front 1 rfl)))
 obtain⟨β1,sb,kn,hw1,back⟩:=St.frame (L:=[_]) (M:=_::[]) hw
 refine(tget_ok β1 w H (hH.trans sb) T n hn rest hw1).mono ?_
 rintro e w' ⟨rfl,hw'⟩
 refine⟨_,rfl,_,back _ _ hw',?_⟩
 clear hw hw1 hw' back kn sb
 refine lE onp (lu (hP.st0 1 vv1.ok rfl rfl rfl) (l_nil (end0 Tryz.results66 ?_)))
 intro w hw
 exact⟨rfl,hw⟩
set_option maxHeartbeats 4000000 in
theorem entR_ok(β:Base)(w:World)(H:PHeap)(hH:Sub H β.heap)(T:Nat)(id:Int)(cs:List KComp)(rest:List UInt8)(q:Addr)(R:Int→Option Addr→Nat→Nat→Res)(hP:Plc q R)(hw:St β [tpR H T (vint id++(vint ((cs.length:Nat):Int)++(cpsB cs++rest))),R 0 none 0 0] w)(hid:inI id)(hcl:cs.length≤10)(hci:∀x∈cs,CpI x):Calls Tryz.prog 41 #[.pointer (some q),.func (.func 66) #[pp T 0] #[]] w fun r w'=>∃p c,r= .returned (.tuple #[])∧St β [tpR H T rest,R id p cs.length c,rowF CpF 100 p c cs] w':=by
 refine enter (n:=84) Tryz.func41 rfl Tryz.ntmps41 rfl ?_ hw
 refine csr (lE omp (lE onp (lE ofa ?_)))
 refine lv (v:= .slice none (0) 0) (e_load1 vv3.ok rfl (Knows.imp (Knows.of_res 1 rfl (Cs.mono _ _) fun _ h=>hP.know _ _ _ _ _ h) fun _ h=>Cs.sub (vs:=[.slice none (0) 0]) 1 h rfl)) ?_
 refine lE oln (alE fun b1=>lu (mS 0 (#[Nx (0)])) (lnc (lE omf (lE omp (lE onp (lE ofa ?_))))))
 refine l_call rfl rfl rfl (cl_value (fst:=[pp T 0]) (cap:=[]) (vs:=[.pointer (some (q.add 0))]) (all:=[pp T 0,.pointer (some (q.add 0))]) vv7.ok rfl rfl rfl) ?_
 intro w hw
 replace hw:=hw.perm (L':=_::_::_::[]) (by exact(((perm_front 0 rfl).trans (perm_front 2 rfl)).trans (perm_front 2 rfl)))
 obtain⟨β1,sb,kn,hw1,back⟩:=St.frame (L:=[_,_]) (M:=_::[]) hw
 refine(treadP_ok β1 w H (hH.trans sb) T id hid (vint ((cs.length:Nat):Int)++(cpsB cs++rest)) q R hP _ _ _ _ hw1).mono ?_
 rintro e w' ⟨rfl,hw'⟩
 refine⟨_,rfl,_,back _ _ hw',?_⟩
 clear hw hw1 hw' back kn sb
 refine lnc (lE omf (l_call rfl rfl rfl (cl_value (fst:=[pp T 0]) (cap:=[]) (vs:=[pp b1 0]) (all:=[pp T 0,pp b1 0]) vv7.ok rfl rfl rfl) ?_))
 intro w hw
 replace hw:=hw.perm (L':=_::_::_::[]) (by exact(((perm_front 1 rfl).trans (perm_front 2 rfl)).trans (perm_front 2 rfl)))
 obtain⟨β1,sb,kn,hw1,back⟩:=St.frame (L:=[_,_]) (M:=_::[]) hw
 refine(tread0_ok β1 w H (hH.trans sb) T ((cs.length:Nat):Int) (len_in (by omega)) (cpsB cs++rest) b1 3 _ hw1).mono ?_
 rintro e w' ⟨rfl,hw'⟩
 refine⟨_,rfl,_,back _ _ hw',?_⟩
 clear hw hw1 hw' back kn sb
 refine lnf (c_seq (c_emp (r:=rowF CpF 100 none 0 []) (row_nil _ _ _) (c_region (lE (oli 2) (lE omx (lE omz ?_))))))
 refine lu (mS 2 (#[Ix (min (max ((cs.length:Nat):Int) (0:Int)) (10:Int))])) (lnf (c_seq (c_block (c_mask [true,true,true,true] rfl ?_))))
 refine c_loop (fun(x_:Nat×Option Addr×Nat) f L=>match x_ with|(k,p,c)=>(f 0= .pointer (some (q))∧f 1= .func (.func 66) #[pp T 0] #[]∧f 4=pp b1 0)∧L=[rowF CpF 100 p c (List.replicate k zeroC),tpR H T (cpsB cs++rest),pt b1 (.cells #[Ix (min (max ((cs.length:Nat):Int) (0:Int)) (10:Int))] 3),R id p ((List.replicate k zeroC).length) c]∧(k≤cs.length)) (fun(k,p,c)=>cs.length-k) (0,none,0) ?_ ?_
 ·exact⟨⟨rfl,rfl,rfl⟩,rfl,Nat.zero_le _⟩
 rintro⟨k,p,c⟩ f0 L0 ⟨⟨hs0,hs1,hs4⟩,hL,hk⟩
 subst L0
 refine rbs 0 hs0 (rbs 1 hs1 (rbs 4 hs4 ?_))
 have hrl:(List.replicate k zeroC).length=k:=List.length_replicate
 refine cs2 (c_quiet (by kernel_rfl) (by kernel_rfl) (qE omp (qE onp (qE ofa ?_))))
 refine q_val (v:=sB p (List.replicate k zeroC) c) rfl rfl rfl (e_load1 vv3.ok rfl (Knows.imp (Knows.of_res 3 rfl (Cs.mono _ _) fun _ h=>hP.know _ _ _ _ _ h) fun _ h=>Cs.sub (vs:=[sB p (List.replicate k zeroC) c]) 1 h rfl)) ?_
 refine qE oln (qE (oli 2) (qE olt (q_nil (f_then (c_if _ rfl (fun hc2=> ?_) (fun hc2=> ?_))))))
 ·refine csk (c_block (c_region (lE omp (lE omp (lE onp (lE ofa ?_))))))
  refine lv (v:=sB p (List.replicate k zeroC) c) (e_load1 vv3.ok rfl (Knows.imp (Knows.of_res 3 rfl (Cs.mono _ _) fun _ h=>hP.know _ _ _ _ _ h) fun _ h=>Cs.sub (vs:=[sB p (List.replicate k zeroC) c]) 1 h rfl)) ?_
  refine lv (v:= .agg #[.int .u8 (0),.int .i64 (0),.int .i64 (0),.int .i64 (0),.int .i64 (0)]) (e_build vv9.ok vv8 (vs:=[]) (cells:= #[.int .u8 (0),.int .i64 (0),.int .i64 (0),.int .i64 (0),.int .i64 (0)]) rfl (by kernel_rfl)) ?_
  refine l_mv rfl rfl rfl (m_slices vv10 vv9.ok (cells:= #[.int .u8 (0),.int .i64 (0),.int .i64 (0),.int .i64 (0),.int .i64 (0)]) rfl rfl rfl (by kernel_rfl)) ?_
  rintro _ _ ⟨b3,rfl,rfl⟩
  refine l_mv rfl rfl rfl (m_appendFlN (F:=CpF) 1 vv10 vv11 (p:=p) (m:=(List.replicate k zeroC).length) (xs:=(List.replicate k zeroC)) (ys:=[zeroC]) (ao:=(some ⟨b3,0,none⟩)) (k:=1) (c:=1) rfl rfl rfl rfl rfl (k_ptFl (z:=zeroC) 0 rfl rfl) (by first|omega|simp only[List.length_nil,List.length_cons,List.length_append,List.length_set];omega) (by first|omega|simp only[List.length_nil,List.length_cons,List.length_append,List.length_set];omega)) ?_
  rintro _ _ ⟨rp4,rc5,rfl,rfl⟩
  refine lE onp (lE ofa (lu (hP.st1 4 vv3.ok rfl rfl rfl) (l_nil (f_block ?_))))
  refine f_re (L':=[pt b3 (.cells #[.int .u8 (0),.int .i64 (0),.int .i64 (0),.int .i64 (0),.int .i64 (0)] 100),rowF CpF 100 rp4 rc5 (List.replicate (k+1) zeroC),tpR H T (cpsB cs++rest),pt b1 (.cells #[Ix (min (max ((cs.length:Nat):Int) (0:Int)) (10:Int))] 3),R id rp4 ((List.replicate (k+1) zeroC).length) rc5]) (by rw[repl_next]<;>rfl) ?_
  refine f_mask [false,true,true,true,true] rfl ?_
  exact f_cut ⟨(k+1,rp4,rc5),⟨⟨rfl,rfl,rfl⟩,rfl,(by omega)⟩,(show cs.length-(k+1)<cs.length-k from by omega)⟩
 refine c_exit (f_then_exit (f_then_exit (f_exit (fts ?_))))
 have hke:k=cs.length:=by omega
 refine c_re (L':=[rowF CpF 100 p c (cs.take 0++List.replicate (cs.length-0) zeroC),tpR H T (cpsB cs++rest),pt b1 (.cells #[Ix (min (max ((cs.length:Nat):Int) (0:Int)) (10:Int))] 3),R id p cs.length c]) (by rw[hke];simp only[List.take_zero,List.nil_append,Nat.sub_zero,List.length_replicate]) ?_
 refine c_region (lE omp (lE onp (lE ofa ?_)))
 refine lv (v:=sB p cs c) (e_load1 vv3.ok rfl (Knows.imp (Knows.of_res 3 rfl (Cs.mono _ _) fun _ h=>hP.know _ _ _ _ _ h) fun _ h=>Cs.sub (vs:=[sB p cs c]) 1 h rfl)) ?_
 refine lE oln (lE omi (lnf (c_block (c_mask [true,true,false,true] rfl ?_))))
 refine c_loop (fun(i:Nat) f L=>(f 0= .pointer (some (q))∧f 1= .func (.func 66) #[pp T 0] #[]∧f 44=Nx (cs.length)∧f 45=Nx (i))∧L=[rowF CpF 100 p c (cs.take i++List.replicate (cs.length-i) zeroC),tpR H T (cpsB (cs.drop i)++rest),R id p cs.length c]∧(i≤cs.length)) (fun i=>cs.length-i) 0 ?_ ?_
 ·exact⟨⟨rfl,rfl,rfl,rfl⟩,rfl,Nat.zero_le _⟩
 rintro i f0 L0 ⟨⟨hs0,hs1,hs44,hs45⟩,hL,hi⟩
 subst L0
 refine rbs 0 hs0 (rbs 1 hs1 (rbs 44 hs44 (rbs 45 hs45 ?_)))
 have hfl:=fill_len (l:=cs) (k:=i) hi
 refine csr (lE olt (lnf (c_seq (c_if _ rfl (fun hc6=> ?_) (fun hc6=> ?_)))))
 ·refine csk (c_seq (c_block (c_seq ?_)))
  obtain⟨x7,hx8⟩:=getx cs i (by omega)
  have hxi:=hci _ (List.mem_of_getElem? hx8)
  refine c_re (L':=[rowF CpF 100 p c (cs.take i++List.replicate (cs.length-i) zeroC),tpR H T (vint ((x7.kind.toNat:Nat):Int)++(vint x7.v0++(vint x7.v1++(vint x7.v2++(vint x7.v3++(cpsB (cs.drop (i+1))++rest)))))),R id p cs.length c]) (by rw[cpsB_drop hx8];simp only[cpB,kiB,List.append_assoc]) ?_
  refine c_region (lE omi (lE oai (lnf (c_seq ?_))))
  obtain⟨zx,hzx,hzc⟩:∃z,z=zeroC∧(cs.take i++List.replicate (cs.length-i) zeroC)[i]? =some z:=⟨_,rfl,fill_at (by omega)⟩
  refine c_region (lE omp (lE onp (lE ofa ?_)))
  refine lv (v:=sB p cs c) (e_load1 vv3.ok rfl (Knows.imp (Knows.of_res 2 rfl (Cs.mono _ _) fun _ h=>hP.know _ _ _ _ _ h) fun _ h=>Cs.sub (vs:=[sB p cs c]) 1 h rfl)) ?_
  refine lE omi (lv (v:= .pointer (some ((ba p).add (i*5)))) (e_indexFlN 0 (F:=CpF) rfl (by omega) rfl vv10 (by omega) rfl) (lE ofd ?_))
  refine lv (v:=Bx (zx.kind)) (e_load1 vv13.ok rfl (k_flPart 0 (F:=CpF) (o:=0) (us:=[Bx (zx.kind)]) rfl hzc rfl)) ?_
  refine lv (v:=Nx (zx.kind.toNat)) (e_conv (a:=((zx.kind).toNat:Int)) rfl ⟨_,vv14⟩ vv15 (i64n rfl (by have:=(zx.kind).toNat_lt;omega))) ?_
  refine alE fun b9=>lu (mS 0 (#[Nx (zx.kind.toNat)])) (lnc (lE omf ?_))
  refine l_call rfl rfl rfl (cl_value (fst:=[pp T 0]) (cap:=[]) (vs:=[pp b9 0]) (all:=[pp T 0,pp b9 0]) vv7.ok rfl rfl rfl) ?_
  intro w hw
  replace hw:=hw.perm (L':=_::_::_::_::[]) (by exact((((perm_front 3 rfl).trans (perm_front 2 rfl)).trans (perm_front 2 rfl)).trans (perm_front 3 rfl)))
  obtain⟨β1,sb,kn,hw1,back⟩:=St.frame (L:=[_,_]) (M:=_::_::[]) hw
  refine(tread0_ok β1 w H (hH.trans sb) T ((x7.kind.toNat:Nat):Int) (kind_in x7.kind) (vint x7.v0++(vint x7.v1++(vint x7.v2++(vint x7.v3++(cpsB (cs.drop (i+1))++rest))))) b9 3 _ hw1).mono ?_
  rintro e w' ⟨rfl,hw'⟩
  refine⟨_,rfl,_,back _ _ hw',?_⟩
  clear hw hw1 hw' back kn sb
  refine lnf (c_seq ?_)
  refine cnz [sv 59 (.pointer (some (q))) [] [] [0],sv 60 (.pointer (some (q))) [0] [0] [],sv 61 (.pointer (some (q.add 1))) [0,1] [1] [],sv 62 (sB p cs c) [0,1,2] [2] [],sv 63 (Nx (i)) [] [] [1],sv 64 (Ix ((x7.kind.toNat:Nat):Int)) [] [] [2],sv 65 (Bx (x7.kind)) [5] [5] [],sv 66 (.pointer (some ((ba p).add (i*5)))) (List.range 7) [3,4] [],sv 67 (.pointer (some ((ba p).add (i*5)))) (List.range 8) [7] [],⟨(List.range 9),[8,6],[],[],fun _=>True⟩] [u0,u1 [5],(some 9,[7,9]),u1 [3]] [⟨(some 9),none,[],[],fun _=>rowF CpF 100 p c ((cs.take i++List.replicate (cs.length-i) zeroC).set i ({zx with kind:=x7.kind}:KComp))⟩] [(0,.pointer (some (q))),(5,Nx (i)),(6,pp b9 0),(1,.func (.func 66) #[pp T 0] #[]),(44,Nx (cs.length)),(45,Nx (i))] [0,3,1,4,5] ⟨rfl,rfl,rfl,rfl,rfl,rfl,trivial⟩ ⟨?_,?_,?_,?_,?_,?_,?_,?_,?_,?_,trivial⟩ ?_
  ·rintro f M-⟨i0,-⟩
   exact obE omp
  ·rintro f M ⟨k0,-⟩-
   exact obE onp
  ·rintro f M ⟨k0,-⟩-
   exact obE ofa
  ·rintro f M ⟨k0,-⟩-
   exact obv (L':=R id p cs.length c::M) (up_cons (d:=61) rfl k0) rfl (e_load1 vv3.ok rfl (Knows.imp (Knows.of_res 0 rfl (Cs.mono _ _) fun _ h=>hP.know _ _ _ _ _ h) fun _ h=>Cs.sub (vs:=[sB p cs c]) 1 h rfl)) (perm_front 0 rfl) (by rfl)
  ·rintro f M-⟨i0,-⟩
   exact obE omi
  ·rintro f M-⟨i0,-⟩
   exact obE (oli 0)
  ·rintro f M ⟨k0,-⟩-
   exact ob0 (up_cons (d:=64) rfl k0) rfl (e_conv (a:=(((x7.kind).toNat:Nat):Int)) rfl ⟨_,vv15⟩ vv14 (conv8 _)) (.refl _)
  ·rintro f M ⟨k0,k1,-⟩-
   exact obv (L':=rowF CpF 100 p c (cs.take i++List.replicate (cs.length-i) zeroC)::M) (up_cons (d:=63) (up_cons (d:=62) rfl k0) k1) rfl (e_indexFlN 0 (F:=CpF) (j:=i) (m:=cs.length) (xs:=(cs.take i++List.replicate (cs.length-i) zeroC)) rfl (by omega) rfl vv10 (by omega) rfl) (perm_front 0 rfl) (by rfl)
  ·rintro f M ⟨k0,-⟩-
   exact ob0 (up_cons (d:=66) rfl k0) rfl (ev_eq (congrArg (fun z=>Value.pointer (some z)) (show((ba p).add (i*5):Addr).add 0=(ba p).add (i*5) by rw[Addr.add_add'];rfl)) (e_fieldAddr (a:=(ba p).add (i*5)) rfl vv12.ok)) (.refl _)
  ·rintro f M ⟨k0,k1,-⟩-
   refine obS (up_cons (d:=65) (up_cons (d:=67) rfl k0) k1) ?_
   refine lu (m_storeFlPart 0 (F:=CpF) (p:=p) (k:=i) (o:=0) (xs:=(cs.take i++List.replicate (cs.length-i) zeroC)) (z0:=zx) (z:=({zx with kind:=x7.kind}:KComp)) vv13.ok rfl rfl rfl rfl rfl hzc (by decide) rfl) ?_
   refine l_nil ?_
   exact f_owes_n (up_cons (d:=65) (up_cons (d:=67) rfl k0) k1) trivial (perm_front 0 rfl)
  rintro fa10 ⟨-,-,-,-,-,-,-,-,-,-,-⟩ ⟨j0,j1,j2,j3,j4,-⟩
  refine fre ?_
  refine f_rebase (d:=0) j0 (f_rebase (d:=1) j1 (f_rebase (d:=5) j2 (f_rebase (d:=44) j3 (f_rebase (d:=45) j4 (ftc (lE omi (lnf (c_block ?_))))))))
  refine c_unroll 5 (un_succ 4 (csr (lE olt (lnf (c_seq (c_yes rfl (csk (c_seq (c_block (csr (lE omi (lE oai (lnr (lE omf (lE omp (lE onp (lE ofa ?_)))))))))))))))))
  refine lv (v:=sB p cs c) (e_load1 vv3.ok rfl (Knows.imp (Knows.of_res 2 rfl (Cs.mono _ _) fun _ h=>hP.know _ _ _ _ _ h) fun _ h=>Cs.sub (vs:=[sB p cs c]) 1 h rfl)) ?_
  refine lE omi (lE omi ?_)
  refine lv (v:= .pointer (some ((ba p).add (i*5)))) (e_indexFlN 3 (F:=CpF) rfl (by simp only[List.length_set]<;>omega) rfl vv10 (by omega) rfl) ?_
  refine lE ofd (lE (oxd 0) ?_)
  obtain⟨y11,hy12,hy12k⟩:∃y_,y_=({zx with kind:=x7.kind}:KComp)∧((cs.take i++List.replicate (cs.length-i) zeroC).set i ({zx with kind:=x7.kind}:KComp))[i]? =some y_:=⟨_,rfl,List.getElem?_set_self (by first|omega|(simp only[List.length_set];omega))⟩
  refine l_call rfl rfl rfl (cl_value (fst:=[pp T 0]) (cap:=[]) (vs:=[.pointer (some ((ba p).add (i*5+1)))]) (all:=[pp T 0,.pointer (some ((ba p).add (i*5+1)))]) vv7.ok rfl rfl rfl) ?_
  intro w hw
  replace hw:=hw.perm (L':=_::_::_::_::[]) (by exact((((perm_front 2 rfl).trans (perm_front 2 rfl)).trans (perm_front 3 rfl)).trans (perm_front 3 rfl)))
  obtain⟨β1,sb,kn,hw1,back⟩:=St.frame (L:=[_,_]) (M:=_::_::[]) hw
  refine(treadV0_ok β1 w H (hH.trans sb) T x7.v0 hxi.v0 (vint x7.v1++(vint x7.v2++(vint x7.v3++(cpsB (cs.drop (i+1))++rest)))) p c i ((cs.take i++List.replicate (cs.length-i) zeroC).set i ({zx with kind:=x7.kind}:KComp)) y11 hy12k hw1).mono ?_
  rintro e w' ⟨rfl,hw'⟩
  refine⟨_,rfl,_,back _ _ hw',?_⟩
  clear hw hw1 hw' back kn sb
  refine l_nil (f_block (f_then (c_region (lE opl (lE omi (l_nil (f_cut (un_succ 3 (csr (lE olt (lnf (c_seq (c_yes rfl (csk (c_seq (c_block (csr ?_)))))))))))))))))
  refine lE omi (lE oai (lnr (lE omf (lE omp (lE onp (lE ofa ?_))))))
  refine lv (v:=sB p cs c) (e_load1 vv3.ok rfl (Knows.imp (Knows.of_res 3 rfl (Cs.mono _ _) fun _ h=>hP.know _ _ _ _ _ h) fun _ h=>Cs.sub (vs:=[sB p cs c]) 1 h rfl)) ?_
  refine lE omi (lE omi ?_)
  refine lv (v:= .pointer (some ((ba p).add (i*5)))) (e_indexFlN 1 (F:=CpF) rfl (by simp only[List.length_set]<;>omega) rfl vv10 (by omega) rfl) ?_
  refine lE ofd (lE (oxd 1) ?_)
  obtain⟨y13,hy14,hy14k⟩:∃y_,y_=({y11 with v0:=x7.v0}:KComp)∧(((cs.take i++List.replicate (cs.length-i) zeroC).set i ({zx with kind:=x7.kind}:KComp)).set i ({y11 with v0:=x7.v0}:KComp))[i]? =some y_:=⟨_,rfl,List.getElem?_set_self (by first|omega|(simp only[List.length_set];omega))⟩
  refine l_call rfl rfl rfl (cl_value (fst:=[pp T 0]) (cap:=[]) (vs:=[.pointer (some ((ba p).add (i*5+2)))]) (all:=[pp T 0,.pointer (some ((ba p).add (i*5+2)))]) vv7.ok rfl rfl rfl) ?_
  intro w hw
  replace hw:=hw.perm (L':=_::_::_::_::[]) (by exact((((perm_front 3 rfl).trans (perm_front 3 rfl)).trans (perm_front 3 rfl)).trans (perm_front 3 rfl)))
  obtain⟨β1,sb,kn,hw1,back⟩:=St.frame (L:=[_,_]) (M:=_::_::[]) hw
  refine(treadV1_ok β1 w H (hH.trans sb) T x7.v1 hxi.v1 (vint x7.v2++(vint x7.v3++(cpsB (cs.drop (i+1))++rest))) p c i (((cs.take i++List.replicate (cs.length-i) zeroC).set i ({zx with kind:=x7.kind}:KComp)).set i ({y11 with v0:=x7.v0}:KComp)) y13 hy14k hw1).mono ?_
  rintro e w' ⟨rfl,hw'⟩
  refine⟨_,rfl,_,back _ _ hw',?_⟩
  clear hw hw1 hw' back kn sb
  refine l_nil (f_block (f_then (c_region (lE opl (lE omi (l_nil (f_cut (un_succ 2 (csr (lE olt (lnf (c_seq (c_yes rfl (csk (c_seq (c_block (csr ?_)))))))))))))))))
  refine lE omi (lE oai (lnr (lE omf (lE omp (lE onp (lE ofa ?_))))))
  refine lv (v:=sB p cs c) (e_load1 vv3.ok rfl (Knows.imp (Knows.of_res 3 rfl (Cs.mono _ _) fun _ h=>hP.know _ _ _ _ _ h) fun _ h=>Cs.sub (vs:=[sB p cs c]) 1 h rfl)) ?_
  refine lE omi (lE omi ?_)
  refine lv (v:= .pointer (some ((ba p).add (i*5)))) (e_indexFlN 1 (F:=CpF) rfl (by simp only[List.length_set]<;>omega) rfl vv10 (by omega) rfl) ?_
  refine lE ofd (lE (oxd 2) ?_)
  obtain⟨y15,hy16,hy16k⟩:∃y_,y_=({y13 with v1:=x7.v1}:KComp)∧((((cs.take i++List.replicate (cs.length-i) zeroC).set i ({zx with kind:=x7.kind}:KComp)).set i ({y11 with v0:=x7.v0}:KComp)).set i ({y13 with v1:=x7.v1}:KComp))[i]? =some y_:=⟨_,rfl,List.getElem?_set_self (by first|omega|(simp only[List.length_set];omega))⟩
  refine l_call rfl rfl rfl (cl_value (fst:=[pp T 0]) (cap:=[]) (vs:=[.pointer (some ((ba p).add (i*5+3)))]) (all:=[pp T 0,.pointer (some ((ba p).add (i*5+3)))]) vv7.ok rfl rfl rfl) ?_
  intro w hw
  replace hw:=hw.perm (L':=_::_::_::_::[]) (by exact((((perm_front 3 rfl).trans (perm_front 3 rfl)).trans (perm_front 3 rfl)).trans (perm_front 3 rfl)))
  obtain⟨β1,sb,kn,hw1,back⟩:=St.frame (L:=[_,_]) (M:=_::_::[]) hw
  refine(treadV2_ok β1 w H (hH.trans sb) T x7.v2 hxi.v2 (vint x7.v3++(cpsB (cs.drop (i+1))++rest)) p c i ((((cs.take i++List.replicate (cs.length-i) zeroC).set i ({zx with kind:=x7.kind}:KComp)).set i ({y11 with v0:=x7.v0}:KComp)).set i ({y13 with v1:=x7.v1}:KComp)) y15 hy16k hw1).mono ?_
  rintro e w' ⟨rfl,hw'⟩
  refine⟨_,rfl,_,back _ _ hw',?_⟩
  clear hw hw1 hw' back kn sb
  refine l_nil (f_block (f_then (c_region (lE opl (lE omi (l_nil (f_cut (un_succ 1 (csr (lE olt (lnf (c_seq (c_yes rfl (csk (c_seq (c_block (csr ?_)))))))))))))))))
  refine lE omi (lE oai (lnr (lE omf (lE omp (lE onp (lE ofa ?_))))))
  refine lv (v:=sB p cs c) (e_load1 vv3.ok rfl (Knows.imp (Knows.of_res 3 rfl (Cs.mono _ _) fun _ h=>hP.know _ _ _ _ _ h) fun _ h=>Cs.sub (vs:=[sB p cs c]) 1 h rfl)) ?_
  refine lE omi (lE omi ?_)
  refine lv (v:= .pointer (some ((ba p).add (i*5)))) (e_indexFlN 1 (F:=CpF) rfl (by simp only[List.length_set]<;>omega) rfl vv10 (by omega) rfl) ?_
  refine lE ofd (lE (oxd 3) ?_)
  obtain⟨y17,hy18,hy18k⟩:∃y_,y_=({y15 with v2:=x7.v2}:KComp)∧(((((cs.take i++List.replicate (cs.length-i) zeroC).set i ({zx with kind:=x7.kind}:KComp)).set i ({y11 with v0:=x7.v0}:KComp)).set i ({y13 with v1:=x7.v1}:KComp)).set i ({y15 with v2:=x7.v2}:KComp))[i]? =some y_:=⟨_,rfl,List.getElem?_set_self (by first|omega|(simp only[List.length_set];omega))⟩
  refine l_call rfl rfl rfl (cl_value (fst:=[pp T 0]) (cap:=[]) (vs:=[.pointer (some ((ba p).add (i*5+4)))]) (all:=[pp T 0,.pointer (some ((ba p).add (i*5+4)))]) vv7.ok rfl rfl rfl) ?_
  intro w hw
  replace hw:=hw.perm (L':=_::_::_::_::[]) (by exact((((perm_front 3 rfl).trans (perm_front 3 rfl)).trans (perm_front 3 rfl)).trans (perm_front 3 rfl)))
  obtain⟨β1,sb,kn,hw1,back⟩:=St.frame (L:=[_,_]) (M:=_::_::[]) hw
  refine(treadV3_ok β1 w H (hH.trans sb) T x7.v3 hxi.v3 (cpsB (cs.drop (i+1))++rest) p c i (((((cs.take i++List.replicate (cs.length-i) zeroC).set i ({zx with kind:=x7.kind}:KComp)).set i ({y11 with v0:=x7.v0}:KComp)).set i ({y13 with v1:=x7.v1}:KComp)).set i ({y15 with v2:=x7.v2}:KComp)) y17 hy18k hw1).mono ?_
  rintro e w' ⟨rfl,hw'⟩
  refine⟨_,rfl,_,back _ _ hw',?_⟩
  clear hw hw1 hw' back kn sb
  refine l_nil (f_block (f_then (c_region (lE opl (lE omi (l_nil (f_cut (un_succ 0 (csr (lE olt (lnf (c_seq (c_no rfl (c_exit (f_then_exit ?_)))))))))))))))
  refine f_then_exit (f_exit (f_block (f_then (c_region (lv (v:=Nx (i+1)) (e_add rfl rfl (i64n (by omega) (by omega))) (lE omi (l_nil ?_)))))))
  refine f_re (L':=[tpR H T (cpsB (cs.drop (i+1))++rest),rowF CpF 100 p c (cs.take (i+1)++List.replicate (cs.length-(i+1)) zeroC),pt b9 (.cells #[Ix ((x7.kind.toNat:Nat):Int)] 3),R id p cs.length c]) (by rw[hy18,hy16,hy14,hy12];simp only[set_set'];rw[show({kind:=x7.kind,v0:=x7.v0,v1:=x7.v1,v2:=x7.v2,v3:=x7.v3}:KComp)=x7 from rfl,fill_set hx8]<;>rfl) ?_
  refine fpn [1,0,3,2] 4 ?_
  refine f_mask [true,true,true,false] rfl ?_
  exact f_cut ⟨i+1,⟨⟨rfl,rfl,rfl,rfl⟩,rfl,(by omega)⟩,(show cs.length-(i+1)<cs.length-i from by omega)⟩
 refine c_exit (f_then_exit (f_then_exit (f_exit (end0 Tryz.results41 ?_))))
 intro w hw
 replace hw:=hw.perm (L':=[tpR H T (cpsB (cs.drop i)++rest),R id p cs.length c,rowF CpF 100 p c (cs.take i++List.replicate (cs.length-i) zeroC)]) (by exact(perm_ix [1,2,0] 3 rfl (by kernel_rfl) (by kernel_rfl)))
 have hie:i=cs.length:=by omega
 have hl1:(cs.take i++List.replicate (cs.length-i) zeroC)=cs:=by rw[hie,List.take_length,Nat.sub_self];simp
 have hd1:cpsB (cs.drop i)++rest=rest:=by rw[hie,List.drop_length];rfl
 rw[hl1,hd1]at hw
 exact⟨_,_,rfl,hw⟩
end Go.Proofs
