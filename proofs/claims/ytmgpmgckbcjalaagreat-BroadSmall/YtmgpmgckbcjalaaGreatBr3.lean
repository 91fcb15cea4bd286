/-
 The sweep as a sequence of pairs; pairs collected and sorted. Printed by a program of my own.
-/
import Derived.Test.YtmgpmgckbcjalaaGreatBrSort
import Derived.Test.YtmgpmgckbcjalaaGreatBrSweep
namespace Go.Proofs
open Go Go.Sl Go.Brd
theorem deleteK_ok(β:Base)(w:World)(q:Option Addr)(c:Nat)(os:List KT)(hw:St β [rowF ThingF 87 q c os] w)(hn:os.length≤1048576)(b:Nat)(x:KT)(hc:Cs β.heap ⟨b,0,none⟩ [Ix (x.id),Ix (x.ar.lx),Ix (x.ar.ly),Ix (x.ar.hx),Ix (x.ar.hy)]):
  Calls Tryz.prog 65 #[.slice q os.length c,.func (.func 66) #[] #[.pointer (some ⟨b,0,none⟩)]] w fun r w'=>r= .returned (.slice q (keepT x os).length c)∧St β [rowF ThingF 87 q c (keepT x os)] w':=
 deleteT_ok β w q c os hw hn _ (fun z=>decide (z.ar.hx<x.ar.lx)) (left_fn β b x hc)
theorem tf28:tyB Tryz.prog 85 false 1=true:=by kernel_rfl
theorem tf29:cfB Tryz.prog 63=true:=by kernel_rfl
theorem tf30:cfB Tryz.prog 65=true:=by kernel_rfl
theorem tf31:fldB Tryz.prog 87 0 0 1 false=true:=by kernel_rfl
theorem tf32:stB Tryz.prog 55 [(0,1),(1,1)]=true:=by kernel_rfl
theorem tf33:(Tryz.prog.info? 55).bind (·.zero)=some (.agg #[.int .i64 (0),.int .i64 (0)]):=by kernel_rfl
theorem tf34:elB Tryz.prog 87 5 40=true:=by kernel_rfl
theorem sweep_seq(β:Base)(b:Nat)(p:Option Addr)(c:Nat)(xs:List KT)(hn:xs.length≤1048576)(hv:∀x∈xs,x.ar.lx≤x.ar.hx):SeqK Tryz.prog β (.func (.func 62) #[] #[.pointer (some ⟨b,0,none⟩)]) (fun z:KP=>[.agg #[Ix (z.a),Ix (z.b)]]) (fun l=>l.Perm (pairsT xs)) [pt b (.cells #[.slice p xs.length c] 85),rowF ThingF 87 p c xs]:=by
 refine⟨62,[],[.pointer (some ⟨b,0,none⟩)],rfl,by kernel_rfl,fun β₁ ext l J X hY M w hJ hw=> ?_⟩
 replace hw:=hw.perm (List.perm_append_comm)
 refine enter (n:=67) Tryz.func62 rfl Tryz.ntmps62 rfl ?_ hw
 refine c_seq ?_
 refine c_rowcap 1 rfl (fun hcl hcm=> ?_)
 refine c_region ?_
 refine l_val (v:= .slice p (xs.length) c) rfl rfl rfl (e_load1 tf28 (v:= .slice p (xs.length) c) rfl (k_pt 0 (cs:= #[.slice p (xs.length) c]) (vs:=[.slice p (xs.length) c]) rfl rfl)) ?_
 refine l_call rfl rfl rfl (cl_value (fst:=[]) (cap:=[]) (vs:=[.slice p (xs.length) c,.func (.func 64) #[] #[]]) (all:=[.slice p (xs.length) c,.func (.func 64) #[] #[]]) tf29 rfl rfl rfl) ?_
 intro w hw
 replace hw:=hw.perm (L':=_::_::M) (by exact((perm_front 0 rfl).trans (perm_front 1 rfl)))
 obtain⟨β1,sb,kn,hw1,back⟩:=St.frame (L:=[_]) (M:=_::M) hw
 refine(sortT_ok β1 w _ _ xs hw1 (by omega)).mono ?_
 rintro e w' ⟨rfl,ys1,hyp1,hys1,hw'⟩
 refine⟨_,rfl,_,back _ _ hw',?_⟩
 clear hw hw1 hw' back kn sb
 refine l_nil ?_
 refine f_then ?_
 refine c_seq ?_
 refine c_region ?_
 refine l_val (v:= .slice none 0 0) rfl rfl rfl (e_assign) ?_
 refine l_nil ?_
 refine f_then ?_
 refine c_seq ?_
 refine c_emp (r:=rowF ThingF 87 none 0 []) (row_nil _ _ _) ?_
 have hyl:ys1.length=xs.length:=hyp1.length_eq
 refine c_region ?_
 refine l_val (v:= .slice p (xs.length) c) rfl rfl rfl (e_load1 tf28 (v:= .slice p (xs.length) c) rfl (k_pt 2 (cs:= #[.slice p (xs.length) c]) (vs:=[.slice p (xs.length) c]) rfl rfl)) ?_
 refine l_val (v:=Nx (xs.length)) rfl rfl rfl (e_len (a:=p) (n:=xs.length) (c:=c) rfl tf23) ?_
 refine l_val (v:= .int .i64 (0)) rfl rfl rfl (e_move) ?_
 refine l_nil ?_
 refine f_then ?_
 refine c_block ?_
 refine c_loop (fun(x_:Nat×List KT×Option Addr×Nat×List Res) (f:Fm) (L:List Res)=>match x_ with|(k,os,op,oc,M)=>(f 0=yfn l∧f 3= .slice op (os.length) oc∧f 10= .slice p (xs.length) c∧f 11=Nx (xs.length)∧f 12=Nx (k))∧L=(rowF ThingF 87 op oc os::rowF ThingF 87 p c ys1::pt b (.cells #[.slice p (xs.length) c] 85)::M)∧(k≤xs.length∧os=opsT ys1 k∧J (outsT ys1 k) M)) (fun(x_:Nat×List KT×Option Addr×Nat×List Res)=>match x_ with|(k,os,op,oc,M)=>xs.length-k) (0,[],none,0,M) ?_ ?_
 ·exact⟨⟨rfl,rfl,rfl,rfl,rfl⟩,rfl,⟨by omega,rfl,hJ⟩⟩
 rintro⟨k,os,op,oc,M⟩ f0 L0 ⟨⟨hs0,hs3,hs10,hs11,hs12⟩,hL,⟨hk,ho,hJ⟩⟩
 subst L0
 refine rebase (d:=0) hs0 ?_
 refine rebase (d:=3) hs3 ?_
 refine rebase (d:=10) hs10 ?_
 refine rebase (d:=11) hs11 ?_
 refine rebase (d:=12) hs12 ?_
 clear hs0 hs3 hs10 hs11 hs12
 have hol:os.length≤k:=by rw[ho];exact ops_len _ _
 refine c_seq ?_
 refine c_region ?_
 refine l_val (v:= .bool (decide (((k:Nat):Int)<((xs.length:Nat):Int)))) rfl rfl rfl (e_lss (a:=((k:Nat):Int)) (b:=((xs.length:Nat):Int)) rfl rfl) ?_
 refine l_nil ?_
 refine f_then ?_
 refine c_seq ?_
 refine c_if (((k:Nat):Int)<((xs.length:Nat):Int)) rfl (fun hc4=> ?_) (fun hc4=> ?_)
 ·
  refine c_skip ?_
  refine f_then ?_
  refine c_seq ?_
  refine c_block ?_
  refine c_seq ?_
  refine c_region ?_
  refine l_val (v:= .pointer (some ((ba p).add (k*5)))) rfl rfl rfl (e_indexFlN 1 (F:=ThingF) (j:=k) (m:=xs.length) (xs:=ys1) rfl (by omega) rfl tf24 (by omega) rfl) ?_
  obtain⟨x5,hx6⟩:∃x_,ys1[k]? =some x_:=⟨_,List.getElem?_eq_getElem (by omega)⟩
  refine l_val (v:= .agg #[Ix (x5.id),Ix (x5.ar.lx),Ix (x5.ar.ly),Ix (x5.ar.hx),Ix (x5.ar.hy)]) rfl rfl rfl (e_load tf25 (cs:=[Ix (x5.id),Ix (x5.ar.lx),Ix (x5.ar.ly),Ix (x5.ar.hx),Ix (x5.ar.hy)]) rfl (k_flAt 1 (F:=ThingF) rfl hx6) rfl) ?_
  refine l_mv rfl rfl rfl (m_alloc tf27) ?_
  rintro _ _ ⟨b7,rfl,rfl⟩
  refine l_mu rfl rfl (m_store 0 tf25 (b:=b7) (o:=0) (T:=87) (cs:= #[.int .i64 (0),.int .i64 (0),.int .i64 (0),.int .i64 (0),.int .i64 (0)]) (cs':= #[Ix (x5.id),Ix (x5.ar.lx),Ix (x5.ar.ly),Ix (x5.ar.hx),Ix (x5.ar.hy)]) (v:= .agg #[Ix (x5.id),Ix (x5.ar.lx),Ix (x5.ar.ly),Ix (x5.ar.hx),Ix (x5.ar.hy)]) rfl rfl rfl rfl rfl rfl rfl) ?_
  refine l_nil ?_
  refine f_then ?_
  refine c_seq ?_
  refine c_region ?_
  refine l_val (v:= .slice op (os.length) oc) rfl rfl rfl (e_move) ?_
  refine l_val (v:= .func (.func 66) #[] #[.pointer (some ⟨b7,0,none⟩)]) rfl rfl rfl (e_func (u:=[]) (v:=[.pointer (some ⟨b7,0,none⟩)]) rfl rfl) ?_
  refine l_call rfl rfl rfl (cl_value (fst:=[]) (cap:=[]) (vs:=[.slice op (os.length) oc,.func (.func 66) #[] #[.pointer (some ⟨b7,0,none⟩)]]) (all:=[.slice op (os.length) oc,.func (.func 66) #[] #[.pointer (some ⟨b7,0,none⟩)]]) tf30 rfl rfl rfl) ?_
  intro w hw
  replace hw:=hw.perm (L':=_::_::_::_::M) (by exact((((perm_front 3 rfl).trans (perm_front 3 rfl)).trans (perm_front 2 rfl)).trans (perm_front 3 rfl)))
  obtain⟨β1,sb,kn,hw1,back⟩:=St.frame (L:=[_]) (M:=_::_::_::M) hw
  refine(deleteK_ok β1 w _ _ os hw1 (by omega) b7 x5 (kn _ (k_pt 0 (o:=0) (cs:= #[Ix (x5.id),Ix (x5.ar.lx),Ix (x5.ar.ly),Ix (x5.ar.hx),Ix (x5.ar.hy)]) (vs:=[Ix (x5.id),Ix (x5.ar.lx),Ix (x5.ar.ly),Ix (x5.ar.hx),Ix (x5.ar.hy)]) rfl rfl))).mono ?_
  rintro e w' ⟨rfl,hw'⟩
  refine⟨_,rfl,_,back _ _ hw',?_⟩
  clear hw hw1 hw' back kn sb
  refine l_val (v:= .slice op ((keepT x5 os).length) oc) rfl rfl rfl (e_assign) ?_
  refine l_nil ?_
  refine f_then ?_
  refine c_seq ?_
  refine c_seq ?_
  have hkl:(keepT x5 os).length≤os.length:=List.length_filter_le _ _
  refine c_region ?_
  refine l_val (v:= .slice op ((keepT x5 os).length) oc) rfl rfl rfl (e_move) ?_
  refine l_val (v:=Nx ((keepT x5 os).length)) rfl rfl rfl (e_len (a:=op) (n:=(keepT x5 os).length) (c:=oc) rfl tf23) ?_
  refine l_val (v:= .int .i64 (0)) rfl rfl rfl (e_move) ?_
  refine l_nil ?_
  refine f_then ?_
  refine c_block ?_
  refine c_loop (fun(x_:Nat×List Res) (f:Fm) (L:List Res)=>match x_ with|(j,M)=>(f 0=yfn l∧f 3= .slice op ((keepT x5 os).length) oc∧f 5= .pointer (some ⟨b7,0,none⟩)∧f 10= .slice p (xs.length) c∧f 11=Nx (xs.length)∧f 12=Nx (k)∧f 19= .slice op ((keepT x5 os).length) oc∧f 20=Nx ((keepT x5 os).length)∧f 21=Nx (j))∧L=(rowF ThingF 87 op oc (keepT x5 os)::pt b7 (.cells #[Ix (x5.id),Ix (x5.ar.lx),Ix (x5.ar.ly),Ix (x5.ar.hx),Ix (x5.ar.hy)] 87)::rowF ThingF 87 p c ys1::pt b (.cells #[.slice p (xs.length) c] 85)::M)∧(j≤(keepT x5 os).length∧J (outsT ys1 k++foundT x5 ((keepT x5 os).take j)) M)) (fun(x_:Nat×List Res)=>match x_ with|(j,M)=>(keepT x5 os).length-j) (0,M) ?_ ?_
  ·exact⟨⟨rfl,rfl,rfl,rfl,rfl,rfl,rfl,rfl,rfl⟩,rfl,⟨by omega,by simpa[foundT]using hJ⟩⟩
  rintro⟨j,M⟩ f0 L0 ⟨⟨hs0,hs3,hs5,hs10,hs11,hs12,hs19,hs20,hs21⟩,hL,⟨hj,hJ⟩⟩
  subst L0
  refine rebase (d:=0) hs0 ?_
  refine rebase (d:=3) hs3 ?_
  refine rebase (d:=5) hs5 ?_
  refine rebase (d:=10) hs10 ?_
  refine rebase (d:=11) hs11 ?_
  refine rebase (d:=12) hs12 ?_
  refine rebase (d:=19) hs19 ?_
  refine rebase (d:=20) hs20 ?_
  refine rebase (d:=21) hs21 ?_
  clear hs0 hs3 hs5 hs10 hs11 hs12 hs19 hs20 hs21
  refine c_seq ?_
  refine c_region ?_
  refine l_val (v:= .bool (decide (((j:Nat):Int)<(((keepT x5 os).length:Nat):Int)))) rfl rfl rfl (e_lss (a:=((j:Nat):Int)) (b:=(((keepT x5 os).length:Nat):Int)) rfl rfl) ?_
  refine l_nil ?_
  refine f_then ?_
  refine c_seq ?_
  refine c_if (((j:Nat):Int)<(((keepT x5 os).length:Nat):Int)) rfl (fun hc8=> ?_) (fun hc8=> ?_)
  ·
   refine c_skip ?_
   refine f_then ?_
   refine c_seq ?_
   refine c_block ?_
   refine c_seq ?_
   refine c_region ?_
   refine l_val (v:= .pointer (some ((ba op).add (j*5)))) rfl rfl rfl (e_indexFlN 0 (F:=ThingF) (j:=j) (m:=(keepT x5 os).length) (xs:=(keepT x5 os)) rfl rfl rfl tf24 (by omega) rfl) ?_
   obtain⟨x9,hx10⟩:∃x_,(keepT x5 os)[j]? =some x_:=⟨_,List.getElem?_eq_getElem (by omega)⟩
   refine l_val (v:= .agg #[Ix (x9.id),Ix (x9.ar.lx),Ix (x9.ar.ly),Ix (x9.ar.hx),Ix (x9.ar.hy)]) rfl rfl rfl (e_load tf25 (cs:=[Ix (x9.id),Ix (x9.ar.lx),Ix (x9.ar.ly),Ix (x9.ar.hx),Ix (x9.ar.hy)]) rfl (k_flAt 0 (F:=ThingF) rfl hx10) rfl) ?_
   refine l_mv rfl rfl rfl (m_alloc tf27) ?_
   rintro _ _ ⟨b11,rfl,rfl⟩
   refine l_mu rfl rfl (m_store 0 tf25 (b:=b11) (o:=0) (T:=87) (cs:= #[.int .i64 (0),.int .i64 (0),.int .i64 (0),.int .i64 (0),.int .i64 (0)]) (cs':= #[Ix (x9.id),Ix (x9.ar.lx),Ix (x9.ar.ly),Ix (x9.ar.hx),Ix (x9.ar.hy)]) (v:= .agg #[Ix (x9.id),Ix (x9.ar.lx),Ix (x9.ar.ly),Ix (x9.ar.hx),Ix (x9.ar.hy)]) rfl rfl rfl rfl rfl rfl rfl) ?_
   refine l_nil ?_
   refine f_then ?_
   refine c_seq ?_
   refine c_region ?_
   refine l_val (v:= .pointer (some ⟨b11,1,none⟩)) rfl rfl rfl (e_fieldPt (b:=b11) (o:=0) rfl tf17) ?_
   refine l_val (v:= .pointer (some ⟨b11,1,none⟩)) rfl rfl rfl (e_fieldPt (b:=b11) (o:=1) rfl tf0) ?_
   refine l_val (v:= .pointer (some ⟨b11,2,none⟩)) rfl rfl rfl (e_fieldPt (b:=b11) (o:=1) rfl tf5) ?_
   refine l_val (v:=Ix (x9.ar.ly)) rfl rfl rfl (e_load1 tf2 (v:=Ix (x9.ar.ly)) rfl (k_pt 0 (cs:= #[Ix (x9.id),Ix (x9.ar.lx),Ix (x9.ar.ly),Ix (x9.ar.hx),Ix (x9.ar.hy)]) (vs:=[Ix (x9.ar.ly)]) rfl rfl)) ?_
   refine l_val (v:= .pointer (some ⟨b7,1,none⟩)) rfl rfl rfl (e_fieldPt (b:=b7) (o:=0) rfl tf17) ?_
   refine l_val (v:= .pointer (some ⟨b7,3,none⟩)) rfl rfl rfl (e_fieldPt (b:=b7) (o:=1) rfl tf3) ?_
   refine l_val (v:= .pointer (some ⟨b7,4,none⟩)) rfl rfl rfl (e_fieldPt (b:=b7) (o:=3) rfl tf5) ?_
   refine l_val (v:=Ix (x5.ar.hy)) rfl rfl rfl (e_load1 tf2 (v:=Ix (x5.ar.hy)) rfl (k_pt 2 (cs:= #[Ix (x5.id),Ix (x5.ar.lx),Ix (x5.ar.ly),Ix (x5.ar.hx),Ix (x5.ar.hy)]) (vs:=[Ix (x5.ar.hy)]) rfl rfl)) ?_
   refine l_val (v:= .bool (decide ((x9.ar.ly)≤(x5.ar.hy)))) rfl rfl rfl (e_leq (a:=(x9.ar.ly)) (b:=(x5.ar.hy)) rfl rfl) ?_
   refine l_val (v:= .bool (decide ((x9.ar.ly)≤(x5.ar.hy)))) rfl rfl rfl (e_move) ?_
   refine l_split (s:=34) (p:=(x9.ar.ly)≤(x5.ar.hy)) rfl (fun hg12=> ?_) (fun hg12=> ?_)
   ·
    refine g_val (v:= .pointer (some ⟨b7,1,none⟩)) rfl rfl rfl rfl rfl (e_fieldPt (b:=b7) (o:=0) rfl tf17) ?_
    refine g_val (v:= .pointer (some ⟨b7,1,none⟩)) rfl rfl rfl rfl rfl (e_fieldPt (b:=b7) (o:=1) rfl tf0) ?_
    refine g_val (v:= .pointer (some ⟨b7,2,none⟩)) rfl rfl rfl rfl rfl (e_fieldPt (b:=b7) (o:=1) rfl tf5) ?_
    refine g_val (v:=Ix (x5.ar.ly)) rfl rfl rfl rfl rfl (e_load1 tf2 (v:=Ix (x5.ar.ly)) rfl (k_pt 2 (cs:= #[Ix (x5.id),Ix (x5.ar.lx),Ix (x5.ar.ly),Ix (x5.ar.hx),Ix (x5.ar.hy)]) (vs:=[Ix (x5.ar.ly)]) rfl rfl)) ?_
    refine g_val (v:= .pointer (some ⟨b11,1,none⟩)) rfl rfl rfl rfl rfl (e_fieldPt (b:=b11) (o:=0) rfl tf17) ?_
    refine g_val (v:= .pointer (some ⟨b11,3,none⟩)) rfl rfl rfl rfl rfl (e_fieldPt (b:=b11) (o:=1) rfl tf3) ?_
    refine g_val (v:= .pointer (some ⟨b11,4,none⟩)) rfl rfl rfl rfl rfl (e_fieldPt (b:=b11) (o:=3) rfl tf5) ?_
    refine g_val (v:=Ix (x9.ar.hy)) rfl rfl rfl rfl rfl (e_load1 tf2 (v:=Ix (x9.ar.hy)) rfl (k_pt 0 (cs:= #[Ix (x9.id),Ix (x9.ar.lx),Ix (x9.ar.ly),Ix (x9.ar.hx),Ix (x9.ar.hy)]) (vs:=[Ix (x9.ar.hy)]) rfl rfl)) ?_
    refine g_val (v:= .bool (decide ((x5.ar.ly)≤(x9.ar.hy)))) rfl rfl rfl rfl rfl (e_leq (a:=(x5.ar.ly)) (b:=(x9.ar.hy)) rfl rfl) ?_
    refine l_val (v:= .bool (decide ((x5.ar.ly)≤(x9.ar.hy)))) rfl rfl rfl (e_pick_t rfl) ?_
    refine l_val (v:= .bool (decide ((x5.ar.ly)≤(x9.ar.hy)))) rfl rfl rfl (e_move) ?_
    refine l_split (s:=45) (p:=(x5.ar.ly)≤(x9.ar.hy)) rfl (fun hg13=> ?_) (fun hg13=> ?_)
    ·
     refine g_val (v:=yfn l) rfl rfl rfl rfl rfl (e_move) ?_
     refine g_val (v:= .pointer (some ⟨b7,0,none⟩)) rfl rfl rfl rfl rfl (e_fieldPt (b:=b7) (o:=0) rfl tf31) ?_
     refine g_val (v:=Ix (x5.id)) rfl rfl rfl rfl rfl (e_load1 tf2 (v:=Ix (x5.id)) rfl (k_pt 2 (cs:= #[Ix (x5.id),Ix (x5.ar.lx),Ix (x5.ar.ly),Ix (x5.ar.hx),Ix (x5.ar.hy)]) (vs:=[Ix (x5.id)]) rfl rfl)) ?_
     refine g_val (v:= .pointer (some ⟨b11,0,none⟩)) rfl rfl rfl rfl rfl (e_fieldPt (b:=b11) (o:=0) rfl tf31) ?_
     refine g_val (v:=Ix (x9.id)) rfl rfl rfl rfl rfl (e_load1 tf2 (v:=Ix (x9.id)) rfl (k_pt 0 (cs:= #[Ix (x9.id),Ix (x9.ar.lx),Ix (x9.ar.ly),Ix (x9.ar.hx),Ix (x9.ar.hy)]) (vs:=[Ix (x9.id)]) rfl rfl)) ?_
     refine g_val (v:=Ix (min (x5.id) (x9.id))) rfl rfl rfl rfl rfl (e_min (a:=(x5.id)) (b:=(x9.id)) rfl rfl) ?_
     refine g_val (v:= .pointer (some ⟨b7,0,none⟩)) rfl rfl rfl rfl rfl (e_fieldPt (b:=b7) (o:=0) rfl tf31) ?_
     refine g_val (v:=Ix (x5.id)) rfl rfl rfl rfl rfl (e_load1 tf2 (v:=Ix (x5.id)) rfl (k_pt 2 (cs:= #[Ix (x5.id),Ix (x5.ar.lx),Ix (x5.ar.ly),Ix (x5.ar.hx),Ix (x5.ar.hy)]) (vs:=[Ix (x5.id)]) rfl rfl)) ?_
     refine g_val (v:= .pointer (some ⟨b11,0,none⟩)) rfl rfl rfl rfl rfl (e_fieldPt (b:=b11) (o:=0) rfl tf31) ?_
     refine g_val (v:=Ix (x9.id)) rfl rfl rfl rfl rfl (e_load1 tf2 (v:=Ix (x9.id)) rfl (k_pt 0 (cs:= #[Ix (x9.id),Ix (x9.ar.lx),Ix (x9.ar.ly),Ix (x9.ar.hx),Ix (x9.ar.hy)]) (vs:=[Ix (x9.id)]) rfl rfl)) ?_
     refine g_val (v:=Ix (max (x5.id) (x9.id))) rfl rfl rfl rfl rfl (e_max (a:=(x5.id)) (b:=(x9.id)) rfl rfl) ?_
     refine g_val (v:= .agg #[Ix (min (x5.id) (x9.id)),Ix (max (x5.id) (x9.id))]) rfl rfl rfl rfl rfl (e_build tf33 tf32 (vs:=[(0,Ix (min (x5.id) (x9.id))),(1,Ix (max (x5.id) (x9.id)))]) (cells:= #[Ix (min (x5.id) (x9.id)),Ix (max (x5.id) (x9.id))]) rfl rfl) ?_
     refine g_yield rfl rfl (own:=[pt b11 (.cells #[Ix (x9.id),Ix (x9.ar.lx),Ix (x9.ar.ly),Ix (x9.ar.hx),Ix (x9.ar.hy)] 87),rowF ThingF 87 op oc (keepT x5 os),pt b7 (.cells #[Ix (x5.id),Ix (x5.ar.lx),Ix (x5.ar.ly),Ix (x5.ar.hx),Ix (x5.ar.hy)] 87),rowF ThingF 87 p c ys1,pt b (.cells #[.slice p (xs.length) c] 85)]) (M:=M) (d:=58) (enc:=fun z:KP=>[.agg #[Ix (z.a),Ix (z.b)]]) (pre:=outsT ys1 k++foundT x5 ((keepT x5 os).take j)) (x:=mkP x5 x9) rfl rfl rfl rfl hY (sw_pre hx6 ho hx10 hg12 hg13 hyp1 hys1 hv) hJ (fun M1 hJ1=> ?_) (fun M1 hX1=> ?_)
     ·
      refine g_val (v:= .bool false) rfl rfl rfl rfl rfl (e_not (a:=true) rfl) ?_
      refine l_val (v:= .bool false) rfl rfl rfl (e_pick_t rfl) ?_
      refine l_nil ?_
      refine f_then ?_
      refine c_no rfl ?_
      refine c_skip ?_
      refine f_block ?_
      refine f_then ?_
      refine c_region ?_
      refine l_val (v:=Nx (j+1)) rfl rfl rfl (e_add (a:=((j:Nat):Int)) (b:=(1:Int)) rfl rfl (i64n (by omega) (by omega))) ?_
      refine l_val (v:=Nx (j+1)) rfl rfl rfl (e_move) ?_
      refine l_nil ?_
      refine f_mask (L':=(rowF ThingF 87 op oc (keepT x5 os)::pt b7 (.cells #[Ix (x5.id),Ix (x5.ar.lx),Ix (x5.ar.ly),Ix (x5.ar.hx),Ix (x5.ar.hy)] 87)::rowF ThingF 87 p c ys1::pt b (.cells #[.slice p (xs.length) c] 85)::M1)) [false,true,true,true,true] rfl ?_
      exact f_cut ⟨(j+1,M1),⟨⟨rfl,rfl,rfl,rfl,rfl,rfl,rfl,rfl,rfl⟩,rfl,⟨by omega,by rw[found_yes hx10 hg12 hg13]at hJ1;exact hJ1⟩⟩,(show(keepT x5 os).length-(j+1)<(keepT x5 os).length-j from by omega)⟩
     ·
      refine g_val (v:= .bool true) rfl rfl rfl rfl rfl (e_not (a:=false) rfl) ?_
      refine l_val (v:= .bool true) rfl rfl rfl (e_pick_t rfl) ?_
      refine l_nil ?_
      refine f_then ?_
      refine c_yes rfl ?_
      refine c_ret ?_
      refine f_block_ret ?_
      refine f_then_ret ?_
      refine f_then_ret ?_
      refine f_block_ret ?_
      refine f_then_ret ?_
      refine f_block_ret ?_
      refine f_then_ret ?_
      refine f_then_ret ?_
      refine f_block_ret ?_
      refine ret0 Tryz.results62 ?_
      intro w hw
      exact⟨⟨_,rfl⟩,.inr ⟨_,M1,hX1,st_mask [false,false,false,false,false] rfl hw⟩⟩
    ·
     refine l_skip rfl rfl rfl rfl rfl rfl ?_
     refine l_skip rfl rfl rfl rfl rfl rfl ?_
     refine l_skip rfl rfl rfl rfl rfl rfl ?_
     refine l_skip rfl rfl rfl rfl rfl rfl ?_
     refine l_skip rfl rfl rfl rfl rfl rfl ?_
     refine l_skip rfl rfl rfl rfl rfl rfl ?_
     refine l_skip rfl rfl rfl rfl rfl rfl ?_
     refine l_skip rfl rfl rfl rfl rfl rfl ?_
     refine l_skip rfl rfl rfl rfl rfl rfl ?_
     refine l_skip rfl rfl rfl rfl rfl rfl ?_
     refine l_skip rfl rfl rfl rfl rfl rfl ?_
     refine l_skip rfl rfl rfl rfl rfl rfl ?_
     refine l_skip rfl rfl rfl rfl rfl rfl ?_
     refine l_skip rfl rfl rfl rfl rfl rfl ?_
     refine l_val (v:= .bool false) rfl rfl rfl (e_pick_f rfl) ?_
     refine l_nil ?_
     refine f_then ?_
     refine c_no rfl ?_
     refine c_skip ?_
     refine f_block ?_
     refine f_then ?_
     refine c_region ?_
     refine l_val (v:=Nx (j+1)) rfl rfl rfl (e_add (a:=((j:Nat):Int)) (b:=(1:Int)) rfl rfl (i64n (by omega) (by omega))) ?_
     refine l_val (v:=Nx (j+1)) rfl rfl rfl (e_move) ?_
     refine l_nil ?_
     refine f_mask (L':=(rowF ThingF 87 op oc (keepT x5 os)::pt b7 (.cells #[Ix (x5.id),Ix (x5.ar.lx),Ix (x5.ar.ly),Ix (x5.ar.hx),Ix (x5.ar.hy)] 87)::rowF ThingF 87 p c ys1::pt b (.cells #[.slice p (xs.length) c] 85)::M)) [false,true,true,true,true] rfl ?_
     exact f_cut ⟨(j+1,M),⟨⟨rfl,rfl,rfl,rfl,rfl,rfl,rfl,rfl,rfl⟩,rfl,⟨by omega,by rw[found_no hx10 (fun q=>hg13 q.2)]at hJ;exact hJ⟩⟩,(show(keepT x5 os).length-(j+1)<(keepT x5 os).length-j from by omega)⟩
   ·
    refine l_skip rfl rfl rfl rfl rfl rfl ?_
    refine l_skip rfl rfl rfl rfl rfl rfl ?_
    refine l_skip rfl rfl rfl rfl rfl rfl ?_
    refine l_skip rfl rfl rfl rfl rfl rfl ?_
    refine l_skip rfl rfl rfl rfl rfl rfl ?_
    refine l_skip rfl rfl rfl rfl rfl rfl ?_
    refine l_skip rfl rfl rfl rfl rfl rfl ?_
    refine l_skip rfl rfl rfl rfl rfl rfl ?_
    refine l_skip rfl rfl rfl rfl rfl rfl ?_
    refine l_val (v:= .bool false) rfl rfl rfl (e_pick_f rfl) ?_
    refine l_val (v:= .bool false) rfl rfl rfl (e_move) ?_
    refine l_skip rfl rfl rfl rfl rfl rfl ?_
    refine l_skip rfl rfl rfl rfl rfl rfl ?_
    refine l_skip rfl rfl rfl rfl rfl rfl ?_
    refine l_skip rfl rfl rfl rfl rfl rfl ?_
    refine l_skip rfl rfl rfl rfl rfl rfl ?_
    refine l_skip rfl rfl rfl rfl rfl rfl ?_
    refine l_skip rfl rfl rfl rfl rfl rfl ?_
    refine l_skip rfl rfl rfl rfl rfl rfl ?_
    refine l_skip rfl rfl rfl rfl rfl rfl ?_
    refine l_skip rfl rfl rfl rfl rfl rfl ?_
    refine l_skip rfl rfl rfl rfl rfl rfl ?_
    refine l_skip rfl rfl rfl rfl rfl rfl ?_
    refine l_skip rfl rfl rfl rfl rfl rfl ?_
    refine l_skip rfl rfl rfl rfl rfl rfl ?_
    refine l_val (v:= .bool false) rfl rfl rfl (e_pick_f rfl) ?_
    refine l_nil ?_
    refine f_then ?_
    refine c_no rfl ?_
    refine c_skip ?_
    refine f_block ?_
    refine f_then ?_
    refine c_region ?_
    refine l_val (v:=Nx (j+1)) rfl rfl rfl (e_add (a:=((j:Nat):Int)) (b:=(1:Int)) rfl rfl (i64n (by omega) (by omega))) ?_
    refine l_val (v:=Nx (j+1)) rfl rfl rfl (e_move) ?_
    refine l_nil ?_
    refine f_mask (L':=(rowF ThingF 87 op oc (keepT x5 os)::pt b7 (.cells #[Ix (x5.id),Ix (x5.ar.lx),Ix (x5.ar.ly),Ix (x5.ar.hx),Ix (x5.ar.hy)] 87)::rowF ThingF 87 p c ys1::pt b (.cells #[.slice p (xs.length) c] 85)::M)) [false,true,true,true,true] rfl ?_
    exact f_cut ⟨(j+1,M),⟨⟨rfl,rfl,rfl,rfl,rfl,rfl,rfl,rfl,rfl⟩,rfl,⟨by omega,by rw[found_no hx10 (fun q=>hg12 q.1)]at hJ;exact hJ⟩⟩,(show(keepT x5 os).length-(j+1)<(keepT x5 os).length-j from by omega)⟩
  ·
   refine c_exit ?_
   refine f_then_exit ?_
   refine f_then_exit ?_
   refine f_exit ?_
   refine f_then ?_
   refine c_region ?_
   refine l_val (v:= .slice op ((keepT x5 os).length) oc) rfl rfl rfl (e_move) ?_
   refine l_val (v:= .agg #[Ix (x5.id),Ix (x5.ar.lx),Ix (x5.ar.ly),Ix (x5.ar.hx),Ix (x5.ar.hy)]) rfl rfl rfl (e_load tf25 (cs:=[Ix (x5.id),Ix (x5.ar.lx),Ix (x5.ar.ly),Ix (x5.ar.hx),Ix (x5.ar.hy)]) rfl (k_pt 1 (cs:= #[Ix (x5.id),Ix (x5.ar.lx),Ix (x5.ar.ly),Ix (x5.ar.hx),Ix (x5.ar.hy)]) (vs:=[Ix (x5.id),Ix (x5.ar.lx),Ix (x5.ar.ly),Ix (x5.ar.hx),Ix (x5.ar.hy)]) rfl rfl) rfl) ?_
   refine l_mv rfl rfl rfl (m_slices tf24 tf27 (vs:=[(0,.agg #[Ix (x5.id),Ix (x5.ar.lx),Ix (x5.ar.ly),Ix (x5.ar.hx),Ix (x5.ar.hy)])]) (cells:= #[Ix (x5.id),Ix (x5.ar.lx),Ix (x5.ar.ly),Ix (x5.ar.hx),Ix (x5.ar.hy)]) rfl rfl rfl rfl) ?_
   rintro _ _ ⟨b14,rfl,rfl⟩
   refine l_mv rfl rfl rfl (m_appendFlN (F:=ThingF) 1 tf24 tf34 (p:=op) (m:=(keepT x5 os).length) (xs:=(keepT x5 os)) (ys:=[x5]) (ao:=(some ⟨b14,0,none⟩)) (k:=1) (c:=1) rfl rfl rfl rfl rfl (k_ptFl (z:=x5) 0 rfl rfl) (by first|omega|simp only[List.length_nil,List.length_cons,List.length_append,List.length_set];omega) (by first|omega|simp only[List.length_nil,List.length_cons,List.length_append,List.length_set];omega)) ?_
   rintro _ _ ⟨rp15,rc16,rfl,rfl⟩
   refine l_val (v:= .slice rp15 (((keepT x5 os)++[x5]).length) rc16) rfl rfl rfl (e_assign) ?_
   refine l_nil ?_
   refine f_block ?_
   refine f_then ?_
   refine c_region ?_
   refine l_val (v:=Nx (k+1)) rfl rfl rfl (e_add (a:=((k:Nat):Int)) (b:=(1:Int)) rfl rfl (i64n (by omega) (by omega))) ?_
   refine l_val (v:=Nx (k+1)) rfl rfl rfl (e_move) ?_
   refine l_nil ?_
   refine f_mask (L':=(rowF ThingF 87 rp15 rc16 ((keepT x5 os)++[x5])::rowF ThingF 87 p c ys1::pt b (.cells #[.slice p (xs.length) c] 85)::M)) [false,true,false,true,true] rfl ?_
   exact f_cut ⟨(k+1,((keepT x5 os)++[x5]),rp15,rc16,M),⟨⟨rfl,rfl,rfl,rfl,rfl⟩,rfl,⟨by omega,sw_next hx6 ho,by rw[sw_out hx6 ho (by omega)]at hJ;exact hJ⟩⟩,(show xs.length-(k+1)<xs.length-k from by omega)⟩
 ·
  refine c_exit ?_
  refine f_then_exit ?_
  refine f_then_exit ?_
  refine f_exit ?_
  refine end0 Tryz.results62 ?_
  intro w hw
  exact⟨⟨_,rfl⟩,.inl ⟨_,M,sw_all hyp1 hys1 hv,by rw[outs_all (by omega)]at hJ;exact hJ,st_mask [false,false,false] rfl hw⟩⟩
end Go.Proofs
