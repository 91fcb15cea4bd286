/-
 Own work; plain Lean (Hv5, Hv6, Hv7).
-/
import Derived.Test.YtmhlglginimmnaaGreatDoorHv4
set_option linter.all false
namespace Go.Hv
open Go Go.Sl
theorem nil_empty{α:Type}{R:Rp α}{h:PHeap}{a:Option Addr}{xs:List α}(he:Elems R h a xs)(hn:a.isNone=true):xs=[]:=by
 cases xs with
 |nil=>rfl
 |cons x xs=>rw[(he 0 x rfl).1]at hn;cases hn
def owA:Value→Option Addr| .agg #[_,.slice p _ _]=>p|_=>none
def owC:Value→Nat| .agg #[_,.slice _ _ c]=>c|_=>0
def RisTo(xs:List KComp)(k:Nat):Prop:=∀i x y,i+1<k→xs[i]? =some x→xs[i+1]? =some y→x.kind.toNat<y.kind.toNat
theorem risTo_one{xs:List KComp}:RisTo xs 1:=fun i x y h=>by omega
theorem ris_done{xs:List KComp}{k:Nat}(hk:xs.length≤k)(h:RisTo xs k):risB xs=true:=
 risB_iff.2 fun i x y hx hy=>h i x y (by have:=(List.getElem?_eq_some_iff.1 hy).1;omega) hx hy
theorem ris_no{xs:List KComp}{k:Nat}(hk:1≤k){x y:KComp}(hx:xs[k-1]? =some x)(hy:xs[k]? =some y)(h:(y.kind.toNat:Int)≤(x.kind.toNat:Int)):risB xs=false:=by
 refine Bool.eq_false_iff.2 fun hr=> ?_
 have:=risB_iff.1 hr (k-1) x y hx (by rw[Nat.sub_add_cancel hk];exact hy)
 omega
theorem risTo_next{xs:List KComp}{k:Nat}(hk:1≤k){x y:KComp}(hx:xs[k-1]? =some x)(hy:xs[k]? =some y)(h:¬(y.kind.toNat:Int)≤(x.kind.toNat:Int))(hp:RisTo xs k):RisTo xs (k+1):=fun i a b hi ha hb=>by
 by_cases e:i+1=k
 ·have e2:i=k-1:=by omega
  subst e2
  rw[hx]at ha;rw[Nat.sub_add_cancel hk,hy]at hb
  injection ha with ha;injection hb with hb;subst ha;subst hb;omega
 exact hp i a b (by omega) ha hb
end Go.Hv
namespace Go.Proofs
open Go Go.Sl Go.Hv
instance vw0:UndC Tryz.prog 30 100:={}
theorem vw1:slB Tryz.prog 30 100 5=true:=by kernel_rfl
theorem vw2:elB Tryz.prog 100 5 40=true:=by kernel_rfl
instance vw3:ZerC Tryz.prog 32 (.agg #[.int .i64 (0),.slice none 0 0]):={}
instance vw4:FldC Tryz.prog 32 0 0 1 false:={}
instance vw5:TyC Tryz.prog 3 false 1:={}
instance vw6:FldC Tryz.prog 32 1 1 1 false:={}
instance vw7:TyC Tryz.prog 30 false 1:={}
instance vw8:CfC Tryz.prog 84:={}
theorem vw9:stB Tryz.prog 32 [(0,1),(1,1)]=true:=by kernel_rfl
instance vw10:TyC Tryz.prog 32 true 2:={}
instance vw11:FldC Tryz.prog 100 0 0 1 false:={}
instance vw12:TyC Tryz.prog 5 false 1:={}
instance vw13:TyC Tryz.prog 100 true 5:={}
theorem cloneC_ok(β:Base)(w:World)(hw:St β [] w)(v:Value)(xs:List KComp)(hs:Sl CpF.R β.heap v xs)(hn:xs.length≤1048576):Calls Tryz.prog 84 #[v] w fun r w'=>∃p c,r= .returned (sB p xs c)∧St β [rowF CpF 100 p c xs] w':=by
 obtain⟨va,vc,rfl,vl,vm,ve⟩:=hs.get
 refine enter (n:=8) Tryz.func84 rfl Tryz.ntmps84 rfl ?_ hw
 refine csr (lE oas (lnf (cs2 (c_region (lE oms (lv (v:= .bool (va.isNone)) (e_eql_snil (a:=va) rfl rfl vw0.ok) (lnf ?_)))))))
 refine c_ifb (va.isNone) rfl (fun hc1=> ?_) (fun hc1=> ?_)
 ·refine csr (lE oas (lnf (c_ret (f_then_ret (ret1 Tryz.results84 rfl ?_)))))
  intro w hw
  obtain rfl:=nil_empty ve hc1
  exact⟨none,0,rfl,(st_mask [] rfl hw).emp (row_nil _ _ _)⟩
 refine csk (csr (l_mv rfl rfl rfl (m_slice0 vw1) ?_))
 rintro _ _ ⟨b2,rfl,rfl⟩
 refine l_conseq 0 rfl (r':=rowF CpF 100 (some ⟨b2,0,none⟩) 0 []) (fun a h=>pt_rowF (F:=CpF) (xs:=[]) rfl (by decide) a h) (lE oms ?_)
 refine l_mv rfl rfl rfl (m_appendFlN (F:=CpF) 0 vw1 vw2 (p:=(some ⟨b2,0,none⟩)) (m:=0) (xs:=[]) (ys:=xs) (ao:=va) (k:=xs.length) (c:=vc) rfl rfl rfl rfl rfl (Knows.of_base (Elems.mono _ _ _) ve) (by first|omega|simp only[List.length_nil,List.length_cons,List.length_append,List.length_set];omega) (by first|omega|simp only[List.length_nil,List.length_cons,List.length_append,List.length_set];omega)) ?_
 rintro _ _ ⟨rp3,rc4,rfl,rfl⟩
 refine lE oas (lnf (c_ret (ret1 Tryz.results84 rfl ?_)))
 intro w hw
 exact⟨_,_,rfl,st_mask (L':=[rowF CpF 100 rp3 rc4 xs]) [true] rfl hw⟩
theorem own_ok(β:Base)(w:World)(hw:St β [] w)(id:Int)(v:Value)(cs:List KComp)(hs:Sl CpF.R β.heap v cs)(hn:cs.length≤1048576):Calls Tryz.prog 38 #[.agg #[Ix id,v]] w fun r w'=>∃p c,r= .returned (.agg #[Ix id,sB p cs c])∧St β [rowF CpF 100 p c cs] w':=by
 obtain⟨va,vc,rfl,vl,vm,ve⟩:=hs.get
 refine enter (n:=9) Tryz.func38 rfl Tryz.ntmps38 rfl ?_ hw
 refine csr (bxa fun b1=> ?_)
 refine alE fun b2=>lnf (c_seq ?_)
 refine cnz [sv 3 (pp b1 0) [] [] [0],sv 4 (Ix (id)) [0] [0] [],sv 5 (pp b1 1) [] [] [0],sv 6 (sB va cs (vc)) [2] [2] [],⟨[2,3],[3],[],[7],fun f=>f 7=sB (sla (f 7)) cs (slc (f 7))⟩,⟨[0,1,2,3,4],[1,4],[],[7,8],fun f=>f 8= .agg #[Ix (id),sB (sla (f 7)) cs (slc (f 7))]⟩,⟨(List.range 6),[5],[1],[],fun _=>True⟩] [(some 6,[6]),u1 [1,3]] [⟨(some 4),none,[],[7],fun f=>rowF CpF 100 (sla (f 7)) (slc (f 7)) cs⟩,⟨(some 6),none,[],[7],fun f=>pt b2 (.cells #[Ix (id),sB (sla (f 7)) cs (slc (f 7))] 32)⟩] [(1,pp b1 0),(2,pp b2 0)] [1] ⟨rfl,rfl,trivial⟩ ⟨?_,?_,?_,?_,?_,?_,?_,trivial⟩ ?_
 ·rintro f M-⟨i0,-⟩
  exact obE ofp
 ·rintro f M ⟨k0,-⟩-
  exact obE (oli 0)
 ·rintro f M-⟨i0,-⟩
  exact obE ofp
 ·rintro f M ⟨k0,-⟩-
  exact obE (ols 0)
 ·rintro f M ⟨k0,-⟩-
  refine obS (up_cons (d:=6) rfl k0) ?_
  refine lcf (cl0 (vs:=[sB va cs (vc)]) vw8.ok rfl rfl) rfl fun w β1 sb kn hw1 back=>(cloneC_ok β1 w hw1 _ cs (Sl.mono _ _ _ _ _ sb (⟨⟨_,_,rfl,vl,vm,ve⟩⟩:Sl CpF.R _ _ cs)) (by omega)).mono ?_
  rintro e w' ⟨p5,c6,rfl,hw'⟩
  refine⟨_,rfl,_,back _ _ hw',?_⟩
  clear hw1 hw' back kn sb
  refine l_nil ?_
  exact f_owes_d (up_cons (d:=6) rfl k0) rfl (perm_front 0 rfl)
 ·rintro f M ⟨k0,k1,-⟩-
  have hs7:f 7=sB (sla (f 7)) cs (slc (f 7)):=k1
  exact ob0 (up_cons (up_cons (d:=4) rfl k0) hs7) rfl (e_build vw3.ok vw9 (vs:=[(0,Ix (id)),(1,sB (sla (f 7)) cs (slc (f 7)))]) (cells:= #[Ix (id),sB (sla (f 7)) cs (slc (f 7))]) rfl rfl) (.refl _)
 ·rintro f M ⟨k0,-⟩ ⟨i0,-⟩
  have hs8:f 8= .agg #[Ix (id),sB (sla (f 7)) cs (slc (f 7))]:=k0
  refine obS (up_cons (up_cons (d:=2) rfl i0) hs8) ?_
  refine lu (mS 0 (#[Ix (id),sB (sla (f 7)) cs (slc (f 7))])) (l_nil ?_)
  exact f_owes_n (up_cons (up_cons (d:=2) rfl i0) hs8) trivial (perm_front 0 rfl)
 rintro fa7 ⟨-,-,-,-,-,-,-,-⟩ ⟨j0,-⟩
 refine fre ?_
 refine f_rebase (d:=2) j0 (ftr ?_)
 refine retG (m:=[.agg #[Ix (id),sB (sla (fa7 7)) cs (slc (fa7 7))]]) Tryz.results38 ⟨rd_cell vw10.ok rfl (k_pt 2 rfl rfl) rfl,trivial⟩ rfl ?_
 intro w hw
 replace hw:=hw.perm (L':=[rowF CpF 100 (sla (fa7 7)) (slc (fa7 7)) cs,pt b1 (.cells #[Ix (id),sB va cs (vc)] 32),pt b2 (.cells #[Ix (id),sB (sla (fa7 7)) cs (slc (fa7 7))] 32)]) (by exact(perm_ix [1,0,2] 3 rfl (by kernel_rfl) (by kernel_rfl)))
 replace hw:=st_mask (L':=[rowF CpF 100 (sla (fa7 7)) (slc (fa7 7)) cs]) [true,false,false] rfl hw
 exact⟨_,_,rfl,hw⟩
theorem kindOf_fn(β:Base):FnV Tryz.prog β (.func (.func 80) #[] #[]) (fun z:KComp=>[.agg #[Bx (z.kind),Ix (z.v0),Ix (z.v1),Ix (z.v2),Ix (z.v3)]]) (fun _=>True) (fun z=>Bx z.kind):=by
 refine⟨80,[],[],rfl,by kernel_rfl,fun β₁ sb0 z_ hz_ w hw=> ?_⟩
 obtain⟨x,hx⟩:∃x,x=z_:=⟨_,rfl⟩
 subst hx
 refine enter (n:=5) Tryz.func80 rfl Tryz.ntmps80 rfl ?_ hw
 refine csr (bxa fun b1=> ?_)
 refine lE oai (lnc (lE ofp (lE (oli 0) (lE oai (lnf (c_ret (ret1 Tryz.results80 rfl ?_)))))))
 intro w hw
 exact⟨rfl,st_mask [false] rfl hw⟩
set_option maxHeartbeats 4000000 in
theorem rising_ok(β:Base)(w:World)(hw:St β [] w)(v fn:Value)(xs:List KComp)(hs:Sl CpF.R β.heap v xs)(hfn:FnV Tryz.prog β fn (fun z:KComp=>[.agg #[Bx (z.kind),Ix (z.v0),Ix (z.v1),Ix (z.v2),Ix (z.v3)]]) (· ∈xs) (fun z=>Bx z.kind)):Ret Tryz.prog 79 #[v,fn] β w (.bool (risB xs)):=by
 obtain⟨va,vc,rfl,vl,vm,ve⟩:=hs.get
 obtain⟨gg,fst,cap,rfl,hcf,hf⟩:=hfn
 refine enter (n:=26) Tryz.func79 rfl Tryz.ntmps79 rfl ?_ hw
 refine csr (lE oab (lnf (cs2 (c_region (lE oai (lnf (c_block ?_)))))))
 refine c_loop (fun(k:Nat) f L=>(f 0=sB va xs (vc)∧f 1= .func (.func gg) fst.toArray cap.toArray∧f 5=Nx (k))∧L=[]∧((1≤k∧(k≤xs.length∨k=1))∧RisTo xs k)) (fun k=>xs.length-k) 1 ?_ ?_
 ·exact⟨⟨rfl,rfl,rfl⟩,rfl,⟨⟨by omega,.inr rfl⟩,risTo_one⟩⟩
 rintro k f0 L0 ⟨⟨hs0,hs1,hs5⟩,hL,⟨hk,hp⟩⟩
 subst L0
 refine rbs 0 hs0 (rbs 1 hs1 (rbs 5 hs5 (cs2 (c_region (lE omi (lE oms (lE oln (lE olt (lnf (c_if _ rfl (fun hc1=> ?_) (fun hc1=> ?_)))))))))))
 ·refine csk (c_seq (c_block (c_seq ?_)))
  obtain⟨x2,hx2⟩:=getx xs (k-1) (by omega)
  obtain⟨ha4,cs5,hc6,rfl⟩:=ve _ _ hx2
  obtain⟨x8,hx8⟩:=getx xs k (by omega)
  obtain⟨ha10,cs11,hc12,rfl⟩:=ve _ _ hx8
  refine cnz [sv 12 (.func (.func gg) fst.toArray cap.toArray) [] [] [0],sv 13 (sB va xs (vc)) [] [] [1],sv 14 (Nx (k)) [] [] [2],sv 15 (Nx (k-1)) [2] [2] [],sv 16 (.pointer (some ((ba va).add ((k-1)*5)))) [1,2,3] [1,3] [],sv 17 (.agg #[Bx (x2.kind),Ix (x2.v0),Ix (x2.v1),Ix (x2.v2),Ix (x2.v3)]) [1,2,3,4] [4] [],sv 18 (Bx (x2.kind)) (List.range 6) [0,5] [],sv 19 (.func (.func gg) fst.toArray cap.toArray) [] [] [0],sv 20 (sB va xs (vc)) [] [] [1],sv 21 (Nx (k)) [] [] [2],sv 22 (.pointer (some ((ba va).add (k*5)))) [8,9] [8,9] [],sv 23 (.agg #[Bx (x8.kind),Ix (x8.v0),Ix (x8.v1),Ix (x8.v2),Ix (x8.v3)]) [8,9,10] [10] [],sv 24 (Bx (x8.kind)) (List.range 12) [7,11] [],sv 25 (.bool (decide (((x8.kind).toNat:Int)≤((x2.kind).toNat:Int)))) (List.range 13) [6,12] []] [] [] [(1,.func (.func gg) fst.toArray cap.toArray),(0,sB va xs (vc)),(5,Nx (k))] [1,0,2] ⟨rfl,rfl,rfl,trivial⟩ ⟨?_,?_,?_,?_,?_,?_,?_,?_,?_,?_,?_,?_,?_,?_,trivial⟩ ?_
  ·rintro f M-⟨i0,-⟩
   exact obE omf
  ·rintro f M-⟨i0,-⟩
   exact obE oms
  ·rintro f M-⟨i0,-⟩
   exact obE omi
  ·rintro f M ⟨k0,-⟩-
   exact ob0 (up_cons (d:=14) rfl k0) rfl (ev_eq (congrArg (fun z:Int=>Ix z) (show(((k:Nat):Int)-(1:Int))=((k-1:Nat):Int) by omega)) (e_sub (a:=((k:Nat):Int)) (b:=(1:Int)) rfl rfl (i64w (by omega)))) (.refl _)
  ·rintro f M ⟨k0,k1,-⟩-
   exact ob0 (up_cons (d:=15) (up_cons (d:=13) rfl k0) k1) rfl (e_indexAddr rfl rfl vw1 (by omega) ha4) (.refl _)
  ·rintro f M ⟨k0,-⟩-
   exact ob0 (up_cons (d:=16) rfl k0) rfl (e_load vw13.ok rfl (kB hc6) rfl) (.refl _)
  ·rintro f M ⟨k0,k1,-⟩-
   refine obS (up_cons (d:=17) (up_cons (d:=12) rfl k0) k1) ?_
   refine l_call rfl rfl rfl (cl_value (fst:=fst) (cap:=cap) (vs:=[.agg #[Bx (x2.kind),Ix (x2.v0),Ix (x2.v1),Ix (x2.v2),Ix (x2.v3)]]) (all:=fst++[.agg #[Bx (x2.kind),Ix (x2.v0),Ix (x2.v1),Ix (x2.v2),Ix (x2.v3)]]++cap) hcf rfl rfl rfl) ?_
   intro w hw
   obtain⟨β1,sb,kn,hw1,back⟩:=St.frame_all hw
   refine(hf β1 sb x2 (List.mem_of_getElem? hx2) w hw1).mono ?_
   rintro e w' ⟨rfl,hw'⟩
   refine⟨_,rfl,_,back _ _ hw',?_⟩
   clear hw hw1 hw' back kn sb
   refine l_nil ?_
   exact f_owes_d (up_cons (d:=17) (up_cons (d:=12) rfl k0) k1) rfl (List.Perm.refl _)
  ·rintro f M-⟨i0,-⟩
   exact obE omf
  ·rintro f M-⟨i0,-⟩
   exact obE oms
  ·rintro f M-⟨i0,-⟩
   exact obE omi
  ·rintro f M ⟨k0,k1,-⟩-
   exact ob0 (up_cons (d:=21) (up_cons (d:=20) rfl k0) k1) rfl (e_indexAddr rfl rfl vw1 (by omega) ha10) (.refl _)
  ·rintro f M ⟨k0,-⟩-
   exact ob0 (up_cons (d:=22) rfl k0) rfl (e_load vw13.ok rfl (kB hc12) rfl) (.refl _)
  ·rintro f M ⟨k0,k1,-⟩-
   refine obS (up_cons (d:=23) (up_cons (d:=19) rfl k0) k1) ?_
   refine l_call rfl rfl rfl (cl_value (fst:=fst) (cap:=cap) (vs:=[.agg #[Bx (x8.kind),Ix (x8.v0),Ix (x8.v1),Ix (x8.v2),Ix (x8.v3)]]) (all:=fst++[.agg #[Bx (x8.kind),Ix (x8.v0),Ix (x8.v1),Ix (x8.v2),Ix (x8.v3)]]++cap) hcf rfl rfl rfl) ?_
   intro w hw
   obtain⟨β1,sb,kn,hw1,back⟩:=St.frame_all hw
   refine(hf β1 sb x8 (List.mem_of_getElem? hx8) w hw1).mono ?_
   rintro e w' ⟨rfl,hw'⟩
   refine⟨_,rfl,_,back _ _ hw',?_⟩
   clear hw hw1 hw' back kn sb
   refine l_nil ?_
   exact f_owes_d (up_cons (d:=23) (up_cons (d:=19) rfl k0) k1) rfl (List.Perm.refl _)
  ·rintro f M ⟨k0,k1,-⟩-
   exact obE oge
  rintro fa14 ⟨-,-,-,-,-,-,-,-,-,-,-,-,-,k13,-⟩ ⟨j0,j1,j2,-⟩
  refine fre ?_
  refine f_rebase (d:=0) j0 (f_rebase (d:=1) j1 (f_rebase (d:=5) j2 (f_rebase (d:=25) k13 (f_then (c_if _ rfl (fun hc15=> ?_) (fun hc15=> ?_))))))
  ·refine csr (lE oab (lnf (c_ret (f_block_ret (f_then_ret (f_then_ret (f_block_ret (f_then_ret (ret1 Tryz.results79 rfl ?_)))))))))
   intro w hw
   exact⟨congrArg (fun b:Bool=>Ending.returned (.bool b)) (ris_no hk.1 hx2 hx8 hc15).symm,st_mask [] rfl hw⟩
  refine c_skip (f_block (f_then (c_region (lE omi (lv (v:=Nx (k+1)) (e_add rfl rfl (i64n (by omega) (by omega))) (lE oai (l_nil ?_)))))))
  exact f_cut ⟨k+1,⟨⟨rfl,rfl,rfl⟩,rfl,⟨by omega,risTo_next hk.1 hx2 hx8 hc15 hp⟩⟩,(show xs.length-(k+1)<xs.length-k from by omega)⟩
 refine c_exit (f_then_exit (f_then_exit (f_exit (ftc (lE oab (lnf (c_ret (ret1 Tryz.results79 rfl ?_))))))))
 intro w hw
 exact⟨congrArg (fun b:Bool=>Ending.returned (.bool b)) (ris_done (by omega) hp).symm,st_mask [] rfl hw⟩
end Go.Proofs
namespace Go.Hv
open Go Go.Sl
abbrev SpF:Fl (Int×Int):=⟨2,fun x=>[Ix x.1,Ix x.2],fun _=>rfl,fun _=>rfl,by decide⟩
abbrev spL(z:KRg):List (Int×Int):=[(z.l0,z.h0),(z.l1,z.h1),(z.l2,z.h2),(z.l3,z.h3)]
theorem fitC_z{c:KComp}{z:KRg}(hz:rngL[c.kind.toNat]? =some z)(hk:1≤(c.kind.toNat:Int)∧(c.kind.toNat:Int)≤10):fitC c=fitK z c:=by
 unfold fitC
 rw[if_neg (by omega),hz]
theorem fitC_out{c:KComp}(h:(c.kind.toNat:Int)<1∨10<(c.kind.toNat:Int)):fitC c=false:=by
 unfold fitC
 rw[if_pos (by omega)]
end Go.Hv
namespace Go.Proofs
open Go Go.Sl Go.Hv
instance vx14:ArrC Tryz.prog 165 11 164 8:={}
instance vx15:TyC Tryz.prog 164 true 8:={}
instance vx16:ArrC Tryz.prog 164 4 163 2:={}
instance vx17:TyC Tryz.prog 163 true 2:={}
instance vx18:ZerC Tryz.prog 163 (.agg #[.int .i64 (0),.int .i64 (0)]):={}
instance vx19:FldC Tryz.prog 100 1 1 4 true:={}
instance vx20:ArrC Tryz.prog 98 4 3 1:={}
instance vx21:FldC Tryz.prog 163 0 0 1 false:={}
instance vx22:FldC Tryz.prog 163 1 1 1 false:={}
instance vx23:CfC Tryz.prog 83:={}
instance vx24:CfC Tryz.prog 103:={}
instance vx25:CfC Tryz.prog 79:={}
instance vx26:CfC Tryz.prog 81:={}
set_option maxHeartbeats 4000000 in
theorem gfits_ok(β:Base)(w:World)(hw:St β [] w)(hG:GRng β)(x:KComp):Ret Tryz.prog 83 #[.agg #[Bx (x.kind),Ix (x.v0),Ix (x.v1),Ix (x.v2),Ix (x.v3)]] β w (.bool (fitC x)):=by
 refine enter (n:=62) Tryz.func83 rfl Tryz.ntmps83 rfl ?_ hw
 refine csr (bxa fun b1=> ?_)
 refine lE oab (lnf (cs2 (c_region (lE ofp (lE (oli 0) (lE olt (lE omb (l_split (s:=8) rfl (fun hg2=> ?_) (fun hg2=> ?_)))))))))
 ·refine skE (skE (skE (lE oktb (lnf (c_yes rfl (csr (lE oab (lnf (c_ret (f_then_ret (ret1 Tryz.results83 rfl ?_)))))))))))
  intro w hw
  exact⟨congrArg (fun b:Bool=>Ending.returned (.bool b)) (show false=fitC x from(fitC_out (by have:=hg2;omega)).symm),st_mask [false] rfl hw⟩
 refine gE ofp (gE (oli 0) (gE ogt (lE okfb (lnf (c_if _ rfl (fun hc3=> ?_) (fun hc3=> ?_))))))
 ·refine csr (lE oab (lnf (c_ret (f_then_ret (ret1 Tryz.results83 rfl ?_)))))
  intro w hw
  exact⟨congrArg (fun b:Bool=>Ending.returned (.bool b)) (show false=fitC x from(fitC_out (by have:=hc3;omega)).symm),st_mask [false] rfl hw⟩
 refine csk (cs2 ?_)
 have hk1:¬(x.kind.toNat:Int)<1:=by first|exact hg2|(intro hh;simp_all)
 obtain⟨z,hz⟩:=rng_get (k:=x.kind.toNat) (by have:=hc3;omega)
 refine c_region (lE ofp (lE (oli 0) ?_))
 refine lv (v:= .pointer (some ((⟨0,0,none⟩:Addr).add (x.kind.toNat*8)))) (e_indexArrI (a:=⟨0,0,none⟩) (k:=x.kind.toNat) rfl rfl vx14.ok (by omega)) ?_
 refine lv (v:= .agg #[Ix (z.l0),Ix (z.h0),Ix (z.l1),Ix (z.h1),Ix (z.l2),Ix (z.h2),Ix (z.l3),Ix (z.h3)]) (e_load vx15.ok rfl (Knows.of_base (Cs.mono _ _) (cs_fl (F:=RgF) hG hz)) rfl) ?_
 refine lE omi (lnf (c_block (c_unroll 5 (un_succ 4 (csr (lE olt (lnf (c_seq (c_yes rfl (csk (c_seq (c_block (csr (lE omi ?_))))))))))))))
 refine lv (v:= .agg #[Ix (z.l0),Ix (z.h0)]) (e_indexF (F:=SpF) (xs:=spL z) (k:=0) (z:=(z.l0,z.h0)) rfl rfl vx16.ok rfl (by decide) vx17.ok) ?_
 refine alE fun b4=>lE oai (lu (mS 0 (#[Ix (z.l0),Ix (z.h0)])) (lnf (c_seq (c_quiet (by kernel_rfl) (by kernel_rfl) (qE omi (qE ofp ?_))))))
 refine q_val (v:=pp b1 1) rfl rfl rfl (e_indexArrK (b:=b1) (o:=1) (k:=0) rfl rfl vx20.ok (by decide)) (qE (oli 1) (qE ofp (qE (oli 0) ?_)))
 refine qE olt (qE omb (q_split (s:=28) rfl (fun hg5=> ?_) (fun hg5=> ?_)))
 ·iterate 7 refine qsE ?_
  refine qE oktb (q_nil (f_then (c_yes rfl (csr (lE oab (lnf (c_ret (f_block_ret (f_then_ret (f_then_ret (f_block_ret (f_then_ret ?_))))))))))))
  refine ret1 Tryz.results83 rfl ?_
  intro w hw
  exact⟨congrArg (fun b:Bool=>Ending.returned (.bool b)) (show false=fitC x from(by rw[fitC_z hz (by have:=hc3;omega)];unfold fitK outR;simp only[if_neg hg2,decide_eq_true hg5,Bool.or_true,Bool.true_or,Bool.or_false,Bool.false_or,Bool.not_true,Bool.not_false,Bool.and_true,Bool.true_and,Bool.false_and,Bool.and_false,if_true,if_false,Bool.false_eq_true,not_true_eq_false,not_false_eq_true,↓reduceIte])),st_mask [false,false] rfl hw⟩
 refine rE omi (rE ofp (qg_val (v:=pp b1 1) rfl rfl rfl rfl rfl (e_indexArrK (b:=b1) (o:=1) (k:=0) rfl rfl vx20.ok (by decide)) (rE (oli 1) ?_)))
 refine rE ofp (rE (oli 0) (rE ogt (qE okfb (q_nil (f_then (c_if _ rfl (fun hc6=> ?_) (fun hc6=> ?_)))))))
 ·refine csr (lE oab (lnf (c_ret (f_block_ret (f_then_ret (f_then_ret (f_block_ret (f_then_ret (ret1 Tryz.results83 rfl ?_)))))))))
  intro w hw
  exact⟨congrArg (fun b:Bool=>Ending.returned (.bool b)) (show false=fitC x from(by rw[fitC_z hz (by have:=hc3;omega)];unfold fitK outR;simp only[if_neg hg2,decide_eq_false hg5,decide_eq_true hc6,Bool.or_true,Bool.true_or,Bool.or_false,Bool.false_or,Bool.not_true,Bool.not_false,Bool.and_true,Bool.true_and,Bool.false_and,Bool.and_false,if_true,if_false,Bool.false_eq_true,not_true_eq_false,not_false_eq_true,↓reduceIte])),st_mask [false,false] rfl hw⟩
 refine c_skip (f_block (f_then (c_region (lE opl (lE omi (l_nil (f_cut (un_succ 3 (csr (lE olt (lnf (c_seq (c_yes rfl (csk (c_seq (c_block (csr ?_)))))))))))))))))
 refine lE omi ?_
 refine lv (v:= .agg #[Ix (z.l1),Ix (z.h1)]) (e_indexF (F:=SpF) (xs:=spL z) (k:=1) (z:=(z.l1,z.h1)) rfl rfl vx16.ok rfl (by decide) vx17.ok) ?_
 refine alE fun b7=>lE oai (lu (mS 0 (#[Ix (z.l1),Ix (z.h1)])) (lnf (c_seq (c_quiet (by kernel_rfl) (by kernel_rfl) (qE omi (qE ofp ?_))))))
 refine q_val (v:=pp b1 2) rfl rfl rfl (e_indexArrK (b:=b1) (o:=1) (k:=1) rfl rfl vx20.ok (by decide)) (qE (oli 2) (qE ofp (qE (oli 0) ?_)))
 refine qE olt (qE omb (q_split (s:=28) rfl (fun hg8=> ?_) (fun hg8=> ?_)))
 ·iterate 7 refine qsE ?_
  refine qE oktb (q_nil (f_then (c_yes rfl (csr (lE oab (lnf (c_ret (f_block_ret (f_then_ret (f_then_ret (f_block_ret (f_then_ret ?_))))))))))))
  refine ret1 Tryz.results83 rfl ?_
  intro w hw
  exact⟨congrArg (fun b:Bool=>Ending.returned (.bool b)) (show false=fitC x from(by rw[fitC_z hz (by have:=hc3;omega)];unfold fitK outR;simp only[if_neg hg2,decide_eq_false hg5,decide_eq_false hc6,decide_eq_true hg8,Bool.or_true,Bool.true_or,Bool.or_false,Bool.false_or,Bool.not_true,Bool.not_false,Bool.and_true,Bool.true_and,Bool.false_and,Bool.and_false,if_true,if_false,Bool.false_eq_true,not_true_eq_false,not_false_eq_true,↓reduceIte])),st_mask [false,false,false] rfl hw⟩
 refine rE omi (rE ofp (qg_val (v:=pp b1 2) rfl rfl rfl rfl rfl (e_indexArrK (b:=b1) (o:=1) (k:=1) rfl rfl vx20.ok (by decide)) (rE (oli 2) ?_)))
 refine rE ofp (rE (oli 0) (rE ogt (qE okfb (q_nil (f_then (c_if _ rfl (fun hc9=> ?_) (fun hc9=> ?_)))))))
 ·refine csr (lE oab (lnf (c_ret (f_block_ret (f_then_ret (f_then_ret (f_block_ret (f_then_ret (ret1 Tryz.results83 rfl ?_)))))))))
  intro w hw
  exact⟨congrArg (fun b:Bool=>Ending.returned (.bool b)) (show false=fitC x from(by rw[fitC_z hz (by have:=hc3;omega)];unfold fitK outR;simp only[if_neg hg2,decide_eq_false hg5,decide_eq_false hc6,decide_eq_false hg8,decide_eq_true hc9,Bool.or_true,Bool.true_or,Bool.or_false,Bool.false_or,Bool.not_true,Bool.not_false,Bool.and_true,Bool.true_and,Bool.false_and,Bool.and_false,if_true,if_false,Bool.false_eq_true,not_true_eq_false,not_false_eq_true,↓reduceIte])),st_mask [false,false,false] rfl hw⟩
 refine c_skip (f_block (f_then (c_region (lE opl (lE omi (l_nil (f_cut (un_succ 2 (csr (lE olt (lnf (c_seq (c_yes rfl (csk (c_seq (c_block (csr ?_)))))))))))))))))
 refine lE omi ?_
 refine lv (v:= .agg #[Ix (z.l2),Ix (z.h2)]) (e_indexF (F:=SpF) (xs:=spL z) (k:=2) (z:=(z.l2,z.h2)) rfl rfl vx16.ok rfl (by decide) vx17.ok) ?_
 refine alE fun b10=>lE oai (lu (mS 0 (#[Ix (z.l2),Ix (z.h2)])) (lnf (c_seq (c_quiet (by kernel_rfl) (by kernel_rfl) (qE omi (qE ofp ?_))))))
 refine q_val (v:=pp b1 3) rfl rfl rfl (e_indexArrK (b:=b1) (o:=1) (k:=2) rfl rfl vx20.ok (by decide)) (qE (oli 3) (qE ofp (qE (oli 0) ?_)))
 refine qE olt (qE omb (q_split (s:=28) rfl (fun hg11=> ?_) (fun hg11=> ?_)))
 ·iterate 7 refine qsE ?_
  refine qE oktb (q_nil (f_then (c_yes rfl (csr (lE oab (lnf (c_ret (f_block_ret (f_then_ret (f_then_ret (f_block_ret (f_then_ret ?_))))))))))))
  refine ret1 Tryz.results83 rfl ?_
  intro w hw
  exact⟨congrArg (fun b:Bool=>Ending.returned (.bool b)) (show false=fitC x from(by rw[fitC_z hz (by have:=hc3;omega)];unfold fitK outR;simp only[if_neg hg2,decide_eq_false hg5,decide_eq_false hc6,decide_eq_false hg8,decide_eq_false hc9,decide_eq_true hg11,Bool.or_true,Bool.true_or,Bool.or_false,Bool.false_or,Bool.not_true,Bool.not_false,Bool.and_true,Bool.true_and,Bool.false_and,Bool.and_false,if_true,if_false,Bool.false_eq_true,not_true_eq_false,not_false_eq_true,↓reduceIte])),st_mask [false,false,false,false] rfl hw⟩
 refine rE omi (rE ofp (qg_val (v:=pp b1 3) rfl rfl rfl rfl rfl (e_indexArrK (b:=b1) (o:=1) (k:=2) rfl rfl vx20.ok (by decide)) (rE (oli 3) ?_)))
 refine rE ofp (rE (oli 0) (rE ogt (qE okfb (q_nil (f_then (c_if _ rfl (fun hc12=> ?_) (fun hc12=> ?_)))))))
 ·refine csr (lE oab (lnf (c_ret (f_block_ret (f_then_ret (f_then_ret (f_block_ret (f_then_ret (ret1 Tryz.results83 rfl ?_)))))))))
  intro w hw
  exact⟨congrArg (fun b:Bool=>Ending.returned (.bool b)) (show false=fitC x from(by rw[fitC_z hz (by have:=hc3;omega)];unfold fitK outR;simp only[if_neg hg2,decide_eq_false hg5,decide_eq_false hc6,decide_eq_false hg8,decide_eq_false hc9,decide_eq_false hg11,decide_eq_true hc12,Bool.or_true,Bool.true_or,Bool.or_false,Bool.false_or,Bool.not_true,Bool.not_false,Bool.and_true,Bool.true_and,Bool.false_and,Bool.and_false,if_true,if_false,Bool.false_eq_true,not_true_eq_false,not_false_eq_true,↓reduceIte])),st_mask [false,false,false,false] rfl hw⟩
 refine c_skip (f_block (f_then (c_region (lE opl (lE omi (l_nil (f_cut (un_succ 1 (csr (lE olt (lnf (c_seq (c_yes rfl (csk (c_seq (c_block (csr ?_)))))))))))))))))
 refine lE omi ?_
 refine lv (v:= .agg #[Ix (z.l3),Ix (z.h3)]) (e_indexF (F:=SpF) (xs:=spL z) (k:=3) (z:=(z.l3,z.h3)) rfl rfl vx16.ok rfl (by decide) vx17.ok) ?_
 refine alE fun b13=>lE oai (lu (mS 0 (#[Ix (z.l3),Ix (z.h3)])) (lnf (c_seq (c_quiet (by kernel_rfl) (by kernel_rfl) (qE omi (qE ofp ?_))))))
 refine q_val (v:=pp b1 4) rfl rfl rfl (e_indexArrK (b:=b1) (o:=1) (k:=3) rfl rfl vx20.ok (by decide)) (qE (oli 4) (qE ofp (qE (oli 0) ?_)))
 refine qE olt (qE omb (q_split (s:=28) rfl (fun hg14=> ?_) (fun hg14=> ?_)))
 ·iterate 7 refine qsE ?_
  refine qE oktb (q_nil (f_then (c_yes rfl (csr (lE oab (lnf (c_ret (f_block_ret (f_then_ret (f_then_ret (f_block_ret (f_then_ret ?_))))))))))))
  refine ret1 Tryz.results83 rfl ?_
  intro w hw
  exact⟨congrArg (fun b:Bool=>Ending.returned (.bool b)) (show false=fitC x from(by rw[fitC_z hz (by have:=hc3;omega)];unfold fitK outR;simp only[if_neg hg2,decide_eq_false hg5,decide_eq_false hc6,decide_eq_false hg8,decide_eq_false hc9,decide_eq_false hg11,decide_eq_false hc12,decide_eq_true hg14,Bool.or_true,Bool.true_or,Bool.or_false,Bool.false_or,Bool.not_true,Bool.not_false,Bool.and_true,Bool.true_and,Bool.false_and,Bool.and_false,if_true,if_false,Bool.false_eq_true,not_true_eq_false,not_false_eq_true,↓reduceIte])),st_mask [false,false,false,false,false] rfl hw⟩
 refine rE omi (rE ofp (qg_val (v:=pp b1 4) rfl rfl rfl rfl rfl (e_indexArrK (b:=b1) (o:=1) (k:=3) rfl rfl vx20.ok (by decide)) (rE (oli 4) ?_)))
 refine rE ofp (rE (oli 0) (rE ogt (qE okfb (q_nil (f_then (c_if _ rfl (fun hc15=> ?_) (fun hc15=> ?_)))))))
 ·refine csr (lE oab (lnf (c_ret (f_block_ret (f_then_ret (f_then_ret (f_block_ret (f_then_ret (ret1 Tryz.results83 rfl ?_)))))))))
  intro w hw
  exact⟨congrArg (fun b:Bool=>Ending.returned (.bool b)) (show false=fitC x from(by rw[fitC_z hz (by have:=hc3;omega)];unfold fitK outR;simp only[if_neg hg2,decide_eq_false hg5,decide_eq_false hc6,decide_eq_false hg8,decide_eq_false hc9,decide_eq_false hg11,decide_eq_false hc12,decide_eq_false hg14,decide_eq_true hc15,Bool.or_true,Bool.true_or,Bool.or_false,Bool.false_or,Bool.not_true,Bool.not_false,Bool.and_true,Bool.true_and,Bool.false_and,Bool.and_false,if_true,if_false,Bool.false_eq_true,not_true_eq_false,not_false_eq_true,↓reduceIte])),st_mask [false,false,false,false,false] rfl hw⟩
 refine c_skip (f_block (f_then (c_region (lE opl (lE omi (l_nil (f_cut (un_succ 0 (csr (lE olt (lnf (c_seq (c_no rfl (c_exit (f_then_exit ?_)))))))))))))))
 refine f_then_exit (f_exit (fts (csr (lE ofp (lE (oli 4) (lnf (c_block (csr (lE oeq_ (lE oab (lnf (c_if _ rfl (fun hc16=> ?_) (fun hc16=> ?_)))))))))))))
 ·refine csr (lE ofp (lv (v:=pp b1 3) (e_indexArrK (b:=b1) (o:=1) (k:=2) rfl rfl vx20.ok (by decide)) (lE (oli 4) (lE oeq_ (lE omb ?_)))))
  refine l_split (s:=46) rfl (fun hg17=> ?_) (fun hg17=> ?_)
  ·iterate 7 refine skE ?_
   refine lE oktb (lE oab (lnf (c_ret (f_block_ret (f_then_ret (ret1 Tryz.results83 rfl ?_))))))
   intro w hw
   exact⟨congrArg (fun b:Bool=>Ending.returned (.bool b)) (show true=fitC x from(by rw[fitC_z hz (by have:=hc3;omega)];unfold fitK outR;simp only[if_neg hg2,decide_eq_false hg5,decide_eq_false hc6,decide_eq_false hg8,decide_eq_false hc9,decide_eq_false hg11,decide_eq_false hc12,decide_eq_false hg14,decide_eq_false hc15,if_pos hc16,decide_eq_true hg17,Bool.or_true,Bool.true_or,Bool.or_false,Bool.false_or,Bool.not_true,Bool.not_false,Bool.and_true,Bool.true_and,Bool.false_and,Bool.and_false,if_true,if_false,Bool.false_eq_true,not_true_eq_false,not_false_eq_true,↓reduceIte])),st_mask [false,false,false,false,false] rfl hw⟩
  refine gE ofp (g_val (v:=pp b1 1) rfl rfl rfl rfl rfl (e_indexArrK (b:=b1) (o:=1) (k:=0) rfl rfl vx20.ok (by decide)) (gE (oli 4) (gE ofp ?_)))
  refine g_val (v:=pp b1 2) rfl rfl rfl rfl rfl (e_indexArrK (b:=b1) (o:=1) (k:=1) rfl rfl vx20.ok (by decide)) (gE (oli 4) (gE oeq_ ?_))
  refine lE okfb (lE oab (lnf (c_ret (f_block_ret (f_then_ret (ret1 Tryz.results83 rfl ?_))))))
  intro w hw
  exact⟨congrArg (fun b:Bool=>Ending.returned (.bool b)) (show decide ((x.v0)=(x.v1))=fitC x from(by rw[fitC_z hz (by have:=hc3;omega)];unfold fitK outR;simp only[if_neg hg2,decide_eq_false hg5,decide_eq_false hc6,decide_eq_false hg8,decide_eq_false hc9,decide_eq_false hg11,decide_eq_false hc12,decide_eq_false hg14,decide_eq_false hc15,if_pos hc16,decide_eq_false hg17,Bool.or_true,Bool.true_or,Bool.or_false,Bool.false_or,Bool.not_true,Bool.not_false,Bool.and_true,Bool.true_and,Bool.false_and,Bool.and_false,if_true,if_false,Bool.false_eq_true,not_true_eq_false,not_false_eq_true,↓reduceIte])),st_mask [false,false,false,false,false] rfl hw⟩
 refine csr (lE oeq_ (lE oab (lnf (c_if _ rfl (fun hc18=> ?_) (fun hc18=> ?_)))))
 ·refine csr (lE ofp (lv (v:=pp b1 1) (e_indexArrK (b:=b1) (o:=1) (k:=0) rfl rfl vx20.ok (by decide)) (lE (oli 4) ?_)))
  refine lv (v:=Ix (Int.tmod (x.v0) 2)) (e_rem (a:=(x.v0)) (b:=(2:Int)) rfl rfl (by decide) rfl) (lE oeq_ (lE oab (lnf (c_ret (f_block_ret ?_)))))
  refine f_then_ret (ret1 Tryz.results83 rfl ?_)
  intro w hw
  exact⟨congrArg (fun b:Bool=>Ending.returned (.bool b)) (show decide ((Int.tmod (x.v0) 2)=(0:Int))=fitC x from(by rw[fitC_z hz (by have:=hc3;omega)];unfold fitK outR;simp only[if_neg hg2,decide_eq_false hg5,decide_eq_false hc6,decide_eq_false hg8,decide_eq_false hc9,decide_eq_false hg11,decide_eq_false hc12,decide_eq_false hg14,decide_eq_false hc15,if_neg hc16,if_pos hc18,Bool.or_true,Bool.true_or,Bool.or_false,Bool.false_or,Bool.not_true,Bool.not_false,Bool.and_true,Bool.true_and,Bool.false_and,Bool.and_false,if_true,if_false,Bool.false_eq_true,not_true_eq_false,not_false_eq_true,↓reduceIte])),st_mask [false,false,false,false,false] rfl hw⟩
 refine c_skip (f_block (ftc (lE oab (lnf (c_ret (ret1 Tryz.results83 rfl ?_))))))
 intro w hw
 exact⟨congrArg (fun b:Bool=>Ending.returned (.bool b)) (show true=fitC x from(by rw[fitC_z hz (by have:=hc3;omega)];unfold fitK outR;simp only[if_neg hg2,decide_eq_false hg5,decide_eq_false hc6,decide_eq_false hg8,decide_eq_false hc9,decide_eq_false hg11,decide_eq_false hc12,decide_eq_false hg14,decide_eq_false hc15,if_neg hc16,if_neg hc18,Bool.or_true,Bool.true_or,Bool.or_false,Bool.false_or,Bool.not_true,Bool.not_false,Bool.and_true,Bool.true_and,Bool.false_and,Bool.and_false,if_true,if_false,Bool.false_eq_true,not_true_eq_false,not_false_eq_true,↓reduceIte])),st_mask [false,false,false,false,false] rfl hw⟩
theorem fit1_fn(β:Base)(hG:GRng β):FnV Tryz.prog β (.func (.func 82) #[] #[]) (fun z:KComp=>[.agg #[Bx (z.kind),Ix (z.v0),Ix (z.v1),Ix (z.v2),Ix (z.v3)]]) (fun _=>True) (fun z=> .bool (!fitC z)):=by
 refine⟨82,[],[],rfl,by kernel_rfl,fun β₁ sb0 z_ hz_ w hw=> ?_⟩
 obtain⟨x,hx⟩:∃x,x=z_:=⟨_,rfl⟩
 subst hx
 replace hG:=Cs.mono _ _ _ _ sb0 hG
 refine enter (n:=6) Tryz.func82 rfl Tryz.ntmps82 rfl ?_ hw
 refine csr (bxa fun b1=> ?_)
 refine lE oab (lnc (lE (olg 0) (lcR clA (fun w β1 sb kn hw1=>gfits_ok β1 w hw1 (Cs.mono _ _ _ _ sb hG) x) (lE ont (lE oab (lnf (c_ret ?_)))))))
 refine ret1 Tryz.results82 rfl ?_
 intro w hw
 exact⟨rfl,st_mask [false] rfl hw⟩
set_option maxHeartbeats 4000000 in
theorem indexC_ok(β:Base)(w:World)(hw:St β [] w)(v fn:Value)(xs:List KComp)(hs:Sl CpF.R β.heap v xs)(p:KComp→Bool)(hfn:FnV Tryz.prog β fn (fun z:KComp=>[.agg #[Bx (z.kind),Ix (z.v0),Ix (z.v1),Ix (z.v2),Ix (z.v3)]]) (· ∈xs) (fun z=> .bool (p z))):Ret Tryz.prog 103 #[v,fn] β w (Ix (idxI p xs)):=by
 obtain⟨va,vc,rfl,vl,vm,ve⟩:=hs.get
 obtain⟨gg,fst,cap,rfl,hcf,hf⟩:=hfn
 refine enter (n:=19) Tryz.func103 rfl Tryz.ntmps103 rfl ?_ hw
 refine csr (lE oai (lnf (cs2 (c_region (lE oms (lE oln (lE omi (lnf (c_block ?_)))))))))
 refine c_loop (fun(k:Nat) f L=>(f 0=sB va xs (vc)∧f 1= .func (.func gg) fst.toArray cap.toArray∧f 7=Nx (xs.length)∧f 8=Nx (k))∧L=[]∧(k≤xs.length∧∀y∈xs.take k,p y=false)) (fun k=>xs.length-k) 0 ?_ ?_
 ·exact⟨⟨rfl,rfl,rfl,rfl⟩,rfl,⟨by omega,fun y hy=>by simp at hy⟩⟩
 rintro k f0 L0 ⟨⟨hs0,hs1,hs7,hs8⟩,hL,⟨hk,hp⟩⟩
 subst L0
 refine rbs 0 hs0 (rbs 1 hs1 (rbs 7 hs7 (rbs 8 hs8 (csr (lE olt (lnf (c_seq (c_if _ rfl (fun hc1=> ?_) (fun hc1=> ?_)))))))))
 ·refine csk (c_seq (c_block (csr (lE omi (lE oai (lnc (lE omf (lE oms (lE omi ?_)))))))))
  obtain⟨x2,hx2⟩:=getx xs k (by omega)
  obtain⟨ha4,cs5,hc6,rfl⟩:=ve _ _ hx2
  refine lE (oia vw1 ha4) (lv (v:= .agg #[Bx (x2.kind),Ix (x2.v0),Ix (x2.v1),Ix (x2.v2),Ix (x2.v3)]) (e_load vw13.ok rfl (kB hc6) rfl) ?_)
  refine l_call rfl rfl rfl (cl_value (fst:=fst) (cap:=cap) (vs:=[.agg #[Bx (x2.kind),Ix (x2.v0),Ix (x2.v1),Ix (x2.v2),Ix (x2.v3)]]) (all:=fst++[.agg #[Bx (x2.kind),Ix (x2.v0),Ix (x2.v1),Ix (x2.v2),Ix (x2.v3)]]++cap) hcf rfl rfl rfl) ?_
  intro w hw
  obtain⟨β1,sb,kn,hw1,back⟩:=St.frame_all hw
  refine(hf β1 sb x2 (List.mem_of_getElem? hx2) w hw1).mono ?_
  rintro e w' ⟨rfl,hw'⟩
  refine⟨_,rfl,_,back _ _ hw',?_⟩
  clear hw hw1 hw' back kn sb
  refine lnf (c_ifb (p x2) rfl (fun hc8=> ?_) (fun hc8=> ?_))
  ·refine csr (lE omi (lE oai (lnf (c_ret (f_block_ret (f_then_ret (f_then_ret (f_block_ret (f_then_ret (ret1 Tryz.results103 rfl ?_))))))))))
   intro w hw
   exact⟨congrArg (fun z:Int=>Ending.returned (Ix z)) (idx_found hx2 hc8 hp).symm,st_mask [] rfl hw⟩
  refine c_skip (f_block (f_then (c_region (lv (v:=Nx (k+1)) (e_add rfl rfl (i64n (by omega) (by omega))) (lE omi (l_nil ?_))))))
  exact f_cut ⟨k+1,⟨⟨rfl,rfl,rfl,rfl⟩,rfl,⟨by omega,idx_next hx2 hc8 hp⟩⟩,(show xs.length-(k+1)<xs.length-k from by omega)⟩
 refine c_exit (f_then_exit (f_then_exit (f_exit (ftc (lE oai (lnf (c_ret (ret1 Tryz.results103 rfl ?_))))))))
 intro w hw
 exact⟨congrArg (fun z:Int=>Ending.returned (Ix z)) (idx_none (by omega) hp).symm,st_mask [] rfl hw⟩
theorem containsC_ok(β:Base)(w:World)(hw:St β [] w)(v fn:Value)(xs:List KComp)(hs:Sl CpF.R β.heap v xs)(p:KComp→Bool)(hfn:FnV Tryz.prog β fn (fun z:KComp=>[.agg #[Bx (z.kind),Ix (z.v0),Ix (z.v1),Ix (z.v2),Ix (z.v3)]]) (· ∈xs) (fun z=> .bool (p z))):Ret Tryz.prog 81 #[v,fn] β w (.bool (xs.any p)):=by
 refine enter (n:=9) Tryz.func81 rfl Tryz.ntmps81 rfl ?_ hw
 refine csr (lE oab (lnc (lv e_move (lv e_move (lcR clA (fun w β1 sb kn hw1=>indexC_ok β1 w hw1 _ _ xs (Sl.mono _ _ _ _ _ sb hs) p (hfn.mono sb)) ?_)))))
 refine lE oge (lE oab (lnf (c_ret (ret1 Tryz.results81 rfl ?_))))
 intro w hw
 exact⟨congrArg Ending.returned (congrArg Value.bool (idx_any p xs)),st_mask [] rfl hw⟩
theorem right_ok(β:Base)(w:World)(hw:St β [] w)(hG:GRng β)(id:Int)(v:Value)(cs:List KComp)(hs:Sl CpF.R β.heap v cs):Ret Tryz.prog 37 #[.agg #[Ix id,v]] β w (.bool (rightE ⟨id,cs⟩)):=by
 obtain⟨va,vc,rfl,vl,vm,ve⟩:=hs.get
 refine enter (n:=22) Tryz.func37 rfl Tryz.ntmps37 rfl ?_ hw
 refine csr (bxa fun b1=> ?_)
 refine lE oab (lnc (lE ofp (lE (oli 0) (lE oge ?_))))
 refine l_and3 (decide ((1:Int)≤(id))) (decide ((id)≤(65536:Int))) rfl (fun hb2 hk2=> ?_) (fun z3 z4 z5=> ?_)
 ·have hb2p:=of_decide_eq_true hb2
  refine gE ofp (gE (oli 0) (gE ole (lE oktb ?_)))
  exact hk2 _ _ _
 refine l_and3 ((decide ((1:Int)≤(id)))&&(decide ((id)≤(65536:Int)))) (risB cs) rfl (fun hb6 hk6=> ?_) (fun z7 z8 z9=> ?_)
 ·refine gE ofp (gE (ols 0) (g_call rfl rfl rfl rfl rfl (cl0 (vs:=[sB va cs (vc),.func (.func 80) #[] #[]]) vx25.ok rfl rfl) ?_))
  intro w hw
  obtain⟨β1,sb,kn,hw1,back⟩:=St.frame_all hw
  refine(rising_ok β1 w hw1 _ _ cs (Sl.mono _ _ _ _ _ sb (⟨⟨_,_,rfl,vl,vm,ve⟩⟩:Sl CpF.R _ _ cs)) (fnv_all (kindOf_fn _))).mono ?_
  rintro e w' ⟨rfl,hw'⟩
  refine⟨_,rfl,_,back _ _ hw',?_⟩
  clear hw hw1 hw' back kn sb
  refine lE oktb ?_
  exact hk6 _ _ _
 refine l_and4 (((decide ((1:Int)≤(id)))&&(decide ((id)≤(65536:Int))))&&(risB cs)) (!(cs.any (fun z=> !fitC z))) rfl (fun hb10 hk10=> ?_) (fun z11 z12 z13 z14=> ?_)
 ·refine gE ofp (gE (ols 0) (g_call rfl rfl rfl rfl rfl (cl0 (vs:=[sB va cs (vc),.func (.func 82) #[] #[]]) vx26.ok rfl rfl) ?_))
  intro w hw
  obtain⟨β1,sb,kn,hw1,back⟩:=St.frame_all hw
  refine(containsC_ok β1 w hw1 _ _ cs (Sl.mono _ _ _ _ _ sb (⟨⟨_,_,rfl,vl,vm,ve⟩⟩:Sl CpF.R _ _ cs)) (fun z=> !fitC z) (fnv_all (fit1_fn _ (Cs.mono _ _ _ _ sb hG)))).mono ?_
  rintro e w' ⟨rfl,hw'⟩
  refine⟨_,rfl,_,back _ _ hw',?_⟩
  clear hw hw1 hw' back kn sb
  refine gE ont (lE oktb ?_)
  exact hk10 _ _ _ _
 refine lE oab (lnf (c_ret (ret1 Tryz.results37 rfl ?_)))
 intro w hw
 exact⟨congrArg Ending.returned rfl,st_mask [false] rfl hw⟩
end Go.Proofs
namespace Go.Proofs
open Go Go.Sl Go.Hv
theorem vy0:Tryz.prog.underlying 23=some (.pointer (Tryz.prog.pointee 23)):=by kernel_rfl
instance vy1:FldC Tryz.prog 77 1 1 1 false:={}
instance vy2:TyC Tryz.prog 72 false 1:={}
theorem vy3:Tryz.prog.underlying 72=some (.pointer (Tryz.prog.pointee 72)):=by kernel_rfl
instance vy4:FldC Tryz.prog 77 3 18 1 false:={}
instance vy5:TyC Tryz.prog 4 false 1:={}
instance vy6:FldC Tryz.prog 77 0 0 1 false:={}
instance vy7:TyC Tryz.prog 3 false 1:={}
instance vy8:UndC Tryz.prog 35 38:={}
theorem vy9:slB Tryz.prog 35 38 6=true:=by kernel_rfl
instance vy10:TyC Tryz.prog 38 true 6:={}
instance vy11:CfC Tryz.prog 86:={}
instance vy12:FldC Tryz.prog 38 4 4 2 true:={}
instance vy13:FldC Tryz.prog 32 0 0 1 false:={}
instance vy14:FldC Tryz.prog 77 2 2 16 true:={}
instance vy15:FldC Tryz.prog 75 0 0 1 false:={}
instance vy16:TyC Tryz.prog 73 false 1:={}
instance vy17:ZerC Tryz.prog 32 (.agg #[.int .i64 (0),.slice none 0 0]):={}
instance vy18:TyC Tryz.prog 32 true 2:={}
instance vy19:FldC Tryz.prog 75 1 1 1 false:={}
instance vy20:TyC Tryz.prog 35 false 1:={}
instance vy21:CfC Tryz.prog 46:={}
theorem up_ok(β:Base)(w:World)(hw:St β [] w)(G J m:Nat)(zone:Int)(p:Option Addr)(n c:Nat)(gv lw:KN7)(hc:Cs β.heap ⟨G,0,none⟩ (gC zone J m p n c gv lw false).toList):Ret Tryz.prog 35 #[pp G 0] β w (Ix 0):=by
 refine enter (n:=18) Tryz.func35 rfl Tryz.ntmps35 rfl ?_ hw
 refine csr (lE oai (lnf (c_seq (c_block (csr (lE omp (lv (v:= .bool false) (e_eql_pnil (p:=some (⟨G,0,none⟩)) rfl rfl vy0) (lE omb (gE omp ?_)))))))))
 refine gE onp (gE ofa ?_)
 refine g_val (v:=pp J 0) rfl rfl rfl rfl rfl (e_load1 vy2.ok rfl (Knows.imp (kB hc) (fun _ h=>Cs.sub (vs:=[pp J 0]) 1 h rfl))) ?_
 refine g_val (v:= .bool false) rfl rfl rfl rfl rfl (e_eql_pnil (p:=some (⟨J,0,none⟩)) rfl rfl vy3) (lE okfb (lE oab (lnf (c_no rfl (csr (lE omp ?_))))))
 refine lE onp (lE ofa (lv (v:= .bool false) (e_load1 vy5.ok rfl (Knows.imp (kB hc) (fun _ h=>Cs.sub (vs:=[.bool false]) 18 h rfl))) (lE oab ?_)))
 refine lnf (c_no rfl (c_skip (f_block (ftc (lE oai (lnf (c_ret (ret1 Tryz.results35 rfl ?_))))))))
 intro w hw
 exact⟨congrArg Ending.returned rfl,st_mask [] rfl hw⟩
theorem up_down(β:Base)(w:World)(hw:St β [] w)(G J m:Nat)(zone:Int)(p:Option Addr)(n c:Nat)(gv lw:KN7)(hc:Cs β.heap ⟨G,0,none⟩ (gC zone J m p n c gv lw true).toList):Ret Tryz.prog 35 #[pp G 0] β w (Ix 310):=by
 refine enter (n:=18) Tryz.func35 rfl Tryz.ntmps35 rfl ?_ hw
 refine csr (lE oai (lnf (c_seq (c_block (csr (lE omp (lv (v:= .bool false) (e_eql_pnil (p:=some (⟨G,0,none⟩)) rfl rfl vy0) (lE omb (gE omp ?_)))))))))
 refine gE onp (gE ofa ?_)
 refine g_val (v:=pp J 0) rfl rfl rfl rfl rfl (e_load1 vy2.ok rfl (Knows.imp (kB hc) (fun _ h=>Cs.sub (vs:=[pp J 0]) 1 h rfl))) ?_
 refine g_val (v:= .bool false) rfl rfl rfl rfl rfl (e_eql_pnil (p:=some (⟨J,0,none⟩)) rfl rfl vy3) (lE okfb (lE oab (lnf (c_no rfl (csr (lE omp ?_))))))
 refine lE onp (lE ofa (lv (v:= .bool true) (e_load1 vy5.ok rfl (Knows.imp (kB hc) (fun _ h=>Cs.sub (vs:=[.bool true]) 18 h rfl))) (lE oab ?_)))
 refine lnf (c_yes rfl (csr (lE oai (lnf (c_ret (f_block_ret (f_then_ret (ret1 Tryz.results35 rfl ?_))))))))
 intro w hw
 exact⟨congrArg Ending.returned rfl,st_mask [] rfl hw⟩
theorem other_ok(β:Base)(w:World)(hw:St β [] w)(G J m:Nat)(zone:Int)(p:Option Addr)(n c:Nat)(gv lw:KN7)(dn:Bool)(hc:Cs β.heap ⟨G,0,none⟩ (gC zone J m p n c gv lw dn).toList)(k:Int):Ret Tryz.prog 43 #[pp G 0,Ix k] β w (.bool (otherB zone k)):=by
 refine enter (n:=19) Tryz.func43 rfl Tryz.ntmps43 rfl ?_ hw
 refine csr (lE oab (lnc (lE omi (lE oge (l_and2 (decide ((1:Int)≤(k))) (decide ((k)≤(6:Int))) rfl (fun hb1 hk1=> ?_) (fun z2 z3=> ?_))))))
 ·have hb1p:=of_decide_eq_true hb1
  refine gE omi (gE ole (lE oktb ?_))
  exact hk1 _ _
 refine l_and6 ((decide ((1:Int)≤(k)))&&(decide ((k)≤(6:Int)))) (decide ((k)≠(zone))) rfl (fun hb4 hk4=> ?_) (fun z5 z6 z7 z8 z9 z10=> ?_)
 ·refine gE omi (gE omp (gE onp (gE ofa ?_)))
  refine g_val (v:=Ix (zone)) rfl rfl rfl rfl rfl (e_load1 vy7.ok rfl (Knows.imp (kB hc) (fun _ h=>Cs.sub (vs:=[Ix (zone)]) 0 h rfl))) (gE onq ?_)
  refine lE oktb ?_
  exact hk4 _ _ _ _ _ _
 refine lE oab (lnf (c_ret (ret1 Tryz.results43 rfl ?_)))
 intro w hw
 exact⟨congrArg (fun b:Bool=>Ending.returned (.bool b)) (show(((decide ((1:Int)≤(k)))&&(decide ((k)≤(6:Int))))&&(decide ((k)≠(zone))))=otherB zone k by unfold otherB;simp_all),st_mask [] rfl hw⟩
set_option maxHeartbeats 4000000 in
theorem indexM_ok(β:Base)(w:World)(hw:St β [] w)(v fn:Value)(xs:List KMg)(hs:Sl MgF.R β.heap v xs)(p:KMg→Bool)(hfn:FnV Tryz.prog β fn (fun z:KMg=>[.agg #[Ix (z.src),Ix (z.to),Ix (z.number),.bool (z.ack),Ix (z.id),.slice z.p (z.n) z.c]]) (· ∈xs) (fun z=> .bool (p z))):Ret Tryz.prog 86 #[v,fn] β w (Ix (idxI p xs)):=by
 obtain⟨va,vc,rfl,vl,vm,ve⟩:=hs.get
 obtain⟨gg,fst,cap,rfl,hcf,hf⟩:=hfn
 refine enter (n:=19) Tryz.func86 rfl Tryz.ntmps86 rfl ?_ hw
 refine csr (lE oai (lnf (cs2 (c_region (lE oms (lE oln (lE omi (lnf (c_block ?_)))))))))
 refine c_loop (fun(k:Nat) f L=>(f 0=sB va xs (vc)∧f 1= .func (.func gg) fst.toArray cap.toArray∧f 7=Nx (xs.length)∧f 8=Nx (k))∧L=[]∧(k≤xs.length∧∀y∈xs.take k,p y=false)) (fun k=>xs.length-k) 0 ?_ ?_
 ·exact⟨⟨rfl,rfl,rfl,rfl⟩,rfl,⟨by omega,fun y hy=>by simp at hy⟩⟩
 rintro k f0 L0 ⟨⟨hs0,hs1,hs7,hs8⟩,hL,⟨hk,hp⟩⟩
 subst L0
 refine rbs 0 hs0 (rbs 1 hs1 (rbs 7 hs7 (rbs 8 hs8 (csr (lE olt (lnf (c_seq (c_if _ rfl (fun hc1=> ?_) (fun hc1=> ?_)))))))))
 ·refine csk (c_seq (c_block (csr (lE omi (lE oai (lnc (lE omf (lE oms (lE omi ?_)))))))))
  obtain⟨x2,hx2⟩:=getx xs k (by omega)
  obtain⟨ha4,cs5,hc6,rfl⟩:=ve _ _ hx2
  refine lE (oia vy9 ha4) ?_
  refine lv (v:= .agg #[Ix (x2.src),Ix (x2.to),Ix (x2.number),.bool (x2.ack),Ix (x2.id),.slice x2.p (x2.n) x2.c]) (e_load vy10.ok rfl (kB hc6) rfl) ?_
  refine l_call rfl rfl rfl (cl_value (fst:=fst) (cap:=cap) (vs:=[.agg #[Ix (x2.src),Ix (x2.to),Ix (x2.number),.bool (x2.ack),Ix (x2.id),.slice x2.p (x2.n) x2.c]]) (all:=fst++[.agg #[Ix (x2.src),Ix (x2.to),Ix (x2.number),.bool (x2.ack),Ix (x2.id),.slice x2.p (x2.n) x2.c]]++cap) hcf rfl rfl rfl) ?_
  intro w hw
  obtain⟨β1,sb,kn,hw1,back⟩:=St.frame_all hw
  refine(hf β1 sb x2 (List.mem_of_getElem? hx2) w hw1).mono ?_
  rintro e w' ⟨rfl,hw'⟩
  refine⟨_,rfl,_,back _ _ hw',?_⟩
  clear hw hw1 hw' back kn sb
  refine lnf (c_ifb (p x2) rfl (fun hc8=> ?_) (fun hc8=> ?_))
  ·refine csr (lE omi (lE oai (lnf (c_ret (f_block_ret (f_then_ret (f_then_ret (f_block_ret (f_then_ret (ret1 Tryz.results86 rfl ?_))))))))))
   intro w hw
   exact⟨congrArg (fun z:Int=>Ending.returned (Ix z)) (idx_found hx2 hc8 hp).symm,st_mask [] rfl hw⟩
  refine c_skip (f_block (f_then (c_region (lv (v:=Nx (k+1)) (e_add rfl rfl (i64n (by omega) (by omega))) (lE omi (l_nil ?_))))))
  exact f_cut ⟨k+1,⟨⟨rfl,rfl,rfl,rfl⟩,rfl,⟨by omega,idx_next hx2 hc8 hp⟩⟩,(show xs.length-(k+1)<xs.length-k from by omega)⟩
 refine c_exit (f_then_exit (f_then_exit (f_exit (ftc (lE oai (lnf (c_ret (ret1 Tryz.results86 rfl ?_))))))))
 intro w hw
 exact⟨congrArg (fun z:Int=>Ending.returned (Ix z)) (idx_none (by omega) hp).symm,st_mask [] rfl hw⟩
theorem containsM_ok(β:Base)(w:World)(hw:St β [] w)(v fn:Value)(xs:List KMg)(hs:Sl MgF.R β.heap v xs)(p:KMg→Bool)(hfn:FnV Tryz.prog β fn (fun z:KMg=>[.agg #[Ix (z.src),Ix (z.to),Ix (z.number),.bool (z.ack),Ix (z.id),.slice z.p (z.n) z.c]]) (· ∈xs) (fun z=> .bool (p z))):Ret Tryz.prog 46 #[v,fn] β w (.bool (xs.any p)):=by
 refine enter (n:=9) Tryz.func46 rfl Tryz.ntmps46 rfl ?_ hw
 refine csr (lE oab (lnc (lv e_move (lv e_move (lcR clA (fun w β1 sb kn hw1=>indexM_ok β1 w hw1 _ _ xs (Sl.mono _ _ _ _ _ sb hs) p (hfn.mono sb)) ?_)))))
 refine lE oge (lE oab (lnf (c_ret (ret1 Tryz.results46 rfl ?_))))
 intro w hw
 exact⟨congrArg Ending.returned (congrArg Value.bool (idx_any p xs)),st_mask [] rfl hw⟩
theorem has1_fn(β:Base)(b:Nat)(id:Int)(hb:Cs β.heap ⟨b,0,none⟩ [Ix id]):FnV Tryz.prog β (.func (.func 78) #[] #[pp b 0]) (fun z:KMg=>[.agg #[Ix (z.src),Ix (z.to),Ix (z.number),.bool (z.ack),Ix (z.id),.slice z.p (z.n) z.c]]) (fun _=>True) (fun z=> .bool (decide (z.id=id))):=by
 refine⟨78,[],[pp b 0],rfl,by kernel_rfl,fun β₁ sb0 z_ hz_ w hw=> ?_⟩
 obtain⟨x,hx⟩:∃x,x=z_:=⟨_,rfl⟩
 subst hx
 replace hb:=Cs.mono _ _ _ _ sb0 hb
 refine enter (n:=9) Tryz.func78 rfl Tryz.ntmps78 rfl ?_ hw
 refine csr (bxa fun b1=> ?_)
 refine lE oab (lnc (lE ofp (lE ofp (lE (oli 0) (lv (v:=Ix (id)) (e_load1 vy7.ok rfl (kB hb)) (lE oeq_ (lE oab (lnf (c_ret ?_)))))))))
 refine ret1 Tryz.results78 rfl ?_
 intro w hw
 exact⟨rfl,st_mask [false] rfl hw⟩
set_option maxHeartbeats 4000000 in
theorem has_ok(β:Base)(w:World)(hw:St β [] w)(G J m:Nat)(zone:Int)(p:Option Addr)(c:Nat)(gv lw:KN7)(dn:Bool)(ks:List (Int×KEh))(ms:List KMg)(hm:mpR EnM m ks β.heap)(hs:Sl MgF.R β.heap (sB p ms c) ms)(hc:Cs β.heap ⟨G,0,none⟩ (gC zone J m p ms.length c gv lw dn).toList)(id:Int):Ret Tryz.prog 36 #[pp G 0,Ix id] β w (.tuple #[.bool (EnM.look ks id).isSome,.bool (ms.any (fun z=>decide (z.id=id)))]):=by
 obtain⟨-,hsl,hsm,hse⟩:=sl_open hs
 refine enter (n:=26) Tryz.func36 rfl Tryz.ntmps36 rfl ?_ hw
 refine csr (bxi fun b1=> ?_)
 refine lE oab (lE oab (lnf (c_seq ?_)))
 refine cnz [sv 9 (.pointer (some (⟨G,0,none⟩))) [] [] [0],sv 10 (.pointer (some (⟨G,0,none⟩))) [0] [0] [],sv 11 (.pointer (some ((⟨G,0,none⟩:Addr).add 2))) [0,1] [1] [],sv 12 (.pointer (some (((⟨G,0,none⟩:Addr).add 2:Addr).add 0))) [0,1,2] [2] [],sv 13 (.map (some m)) [0,1,2,3] [3] [],sv 14 (Ix (id)) [] [] [1],sv 15 (.tuple #[.agg #[Ix (((EnM.look ks (id)).getD zeroEh).id),.slice (((EnM.look ks (id)).getD zeroEh).p) (((EnM.look ks (id)).getD zeroEh).n) (((EnM.look ks (id)).getD zeroEh).c)],.bool ((EnM.look ks (id)).isSome)]) (List.range 6) [4,5] [],sv 8 (.tuple #[.agg #[Ix (((EnM.look ks (id)).getD zeroEh).id),.slice (((EnM.look ks (id)).getD zeroEh).p) (((EnM.look ks (id)).getD zeroEh).n) (((EnM.look ks (id)).getD zeroEh).c)],.bool ((EnM.look ks (id)).isSome)]) (List.range 7) [6] [],sv 16 (.agg #[Ix (((EnM.look ks (id)).getD zeroEh).id),.slice (((EnM.look ks (id)).getD zeroEh).p) (((EnM.look ks (id)).getD zeroEh).n) (((EnM.look ks (id)).getD zeroEh).c)]) (List.range 8) [7] [],sv 17 (.bool ((EnM.look ks (id)).isSome)) (List.range 8) [7] [],⟨[],[],[],[6],fun f=>f 6= .pointer (some ⟨(blk (f 6)),0,none⟩)⟩,⟨[0,1,2,3,4,5,6,7,8,10],[10,8],[],[],fun _=>True⟩,sv 7 (.bool ((EnM.look ks (id)).isSome)) (List.range 12) [9] []] [u1 [5]] [⟨(some 10),(some 11),[11],[6],fun f=>pt (blk (f 6)) (.cells #[.int .i64 (0),.slice none 0 0] 32)⟩,⟨(some 11),none,[],[6],fun f=>pt (blk (f 6)) (.cells #[Ix (((EnM.look ks (id)).getD zeroEh).id),.slice (((EnM.look ks (id)).getD zeroEh).p) (((EnM.look ks (id)).getD zeroEh).n) (((EnM.look ks (id)).getD zeroEh).c)] 32)⟩] [(0,.pointer (some (⟨G,0,none⟩))),(3,pp b1 0)] [0,1] ⟨rfl,rfl,trivial⟩ ⟨?_,?_,?_,?_,?_,?_,?_,?_,?_,?_,?_,?_,?_,trivial⟩ ?_
 ·rintro f M-⟨i0,-⟩
  exact obE omp
 ·rintro f M ⟨k0,-⟩-
  exact obE onp
 ·rintro f M ⟨k0,-⟩-
  exact obE ofa
 ·rintro f M ⟨k0,-⟩-
  exact obE ofa
 ·rintro f M ⟨k0,-⟩-
  exact ob0 (up_cons (d:=12) rfl k0) rfl (e_load1 vy16.ok rfl (Knows.imp (Knows.imp (kB hc) (fun _ h=>Cs.sub (vs:=[.map (some m),sB p ms (c),Ix (gv.n0),Ix (gv.n1),Ix (gv.n2),Ix (gv.n3),Ix (gv.n4),Ix (gv.n5),Ix (gv.n6),Ix (lw.n0),Ix (lw.n1),Ix (lw.n2),Ix (lw.n3),Ix (lw.n4),Ix (lw.n5),Ix (lw.n6)]) 2 h rfl)) (fun _ h=>Cs.sub (vs:=[.map (some m)]) 0 h rfl))) (.refl _)
 ·rintro f M-⟨i0,-⟩
  exact obE (oli 0)
 ·rintro f M ⟨k0,k1,-⟩-
  exact ob0 (up_cons (d:=14) (up_cons (d:=13) rfl k0) k1) rfl (e_look2 (K:=EnM) (b:=m) (ks:=ks) (k:=(id)) rfl rfl rfl (Knows.of_base (mpR.mono _ _ _) hm)) (.refl _)
 ·rintro f M ⟨k0,-⟩-
  exact obE omt
 ·rintro f M ⟨k0,-⟩-
  exact obE oxa
 ·rintro f M ⟨k0,-⟩-
  exact obE oxb
 ·rintro f M- -
  refine obS rfl ?_
  refine alE fun b3=>l_nil ?_
  exact f_owes_d rfl rfl (perm_front 0 rfl)
 ·rintro f M ⟨k0,k1,-⟩-
  have hs6:f 6= .pointer (some ⟨(blk (f 6)),0,none⟩):=k0
  refine obS (up_cons (d:=16) (up_cons rfl hs6) k1) ?_
  refine lu (mS 0 (#[Ix (((EnM.look ks (id)).getD zeroEh).id),.slice (((EnM.look ks (id)).getD zeroEh).p) (((EnM.look ks (id)).getD zeroEh).n) (((EnM.look ks (id)).getD zeroEh).c)])) ?_
  refine l_nil ?_
  exact f_owes_n (up_cons (d:=16) (up_cons rfl hs6) k1) trivial (perm_front 0 rfl)
 ·rintro f M ⟨k0,-⟩-
  exact obE oab
 rintro fa4 ⟨-,-,-,-,-,-,-,-,-,-,-,-,k12,-⟩ ⟨j0,j1,-⟩
 refine fre ?_
 refine f_rebase (d:=0) j0 (f_rebase (d:=3) j1 (f_rebase (d:=7) k12 (ftc (lE omb (lE omp (lE onp (lE ofa (lE ofa ?_))))))))
 refine lv (v:=sB p ms (c)) (e_load1 vy20.ok rfl (Knows.imp (Knows.imp (kB hc) (fun _ h=>Cs.sub (vs:=[.map (some m),sB p ms (c),Ix (gv.n0),Ix (gv.n1),Ix (gv.n2),Ix (gv.n3),Ix (gv.n4),Ix (gv.n5),Ix (gv.n6),Ix (lw.n0),Ix (lw.n1),Ix (lw.n2),Ix (lw.n3),Ix (lw.n4),Ix (lw.n5),Ix (lw.n6)]) 2 h rfl)) (fun _ h=>Cs.sub (vs:=[sB p ms (c)]) 1 h rfl))) ?_
 refine lv (v:= .func (.func 78) #[] #[pp b1 0]) (e_func (u:=[]) (v:=[pp b1 0]) rfl rfl) ?_
 refine lcR clA (fun w β1 sb kn hw1=>containsM_ok β1 w hw1 _ _ ms (Sl.mono _ _ _ _ _ sb hs) (fun z=>decide (z.id=id)) (fnv_all (has1_fn _ b1 id (kn _ (k_pt 0 (o:=0) rfl rfl))))) ?_
 refine lE oab (lE oab (lnf (c_ret ?_)))
 refine ret2 (v:= .bool ((EnM.look ks (id)).isSome)) (v':= .bool (ms.any (fun z=>decide (z.id=id)))) Tryz.results36 rfl rfl ?_
 intro w hw
 exact⟨congrArg Ending.returned rfl,st_mask [false,false] rfl hw⟩
end Go.Proofs
