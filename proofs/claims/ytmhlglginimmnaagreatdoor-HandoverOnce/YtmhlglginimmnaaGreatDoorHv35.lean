/-
 Own work; plain Lean (Hv36, Hv35).
-/
import Derived.Test.YtmhlglginimmnaaGreatDoorHvSound
set_option linter.all false
namespace Go.Hv
end Go.Hv
namespace Go.Proofs
open Go Go.Sl Go.Hv Go.Jn
instance vf0:FldC Tryz.prog 58 1 3 3 true:={}
instance vf1:TyC Tryz.prog 55 true 3:={}
instance vf2:ArrC Tryz.prog 55 3 23 1:={}
instance vf3:TyC Tryz.prog 23 false 1:={}
instance vf4:CfC Tryz.prog 27:={}
instance vf5:CfC Tryz.prog 23:={}
set_option maxHeartbeats 4000000 in
theorem tup_ok(β:Base)(w:World)(T:Nat)(ss gs:P3)(p:Option Addr)(n c:Nat)(tg nx:KN7)(Gs Ss Us:List Nat)(Xs:List KG)(N:Nat)(hgl:Gs.length=3)(hsl:Ss.length=3)(hul:Us.length=3)(hnet:Net 3 Xs)(hgs:∀k,k<3→gs.at k=Gs[k]?)(hss:∀k,k<3→ss.at k=Ss[k]?)(hu01:∀(k u:Nat),Us[k]? =some u→u=0∨u=1)(hN:N≤53000000)(hG:GRng β)(pw:Int)(hpb: -1≤pw∧pw≤70000)(hw:St β [twR T ss gs p n c tg nx,tnR Gs Ss Xs Us N] w):Calls Tryz.prog 25 #[pp T 0,Ix pw] w fun r w'=>r= .returned (.bool true)∧∃gs' Gs',Gs'.length=3∧(∀k,k<3→gs'.at k=Gs'[k]?)∧St β [twR T ss gs' p n c tg nx,netR Gs' Ss Xs N false] w':=by
 refine enter (n:=26) Tryz.func25 rfl Tryz.ntmps25 rfl ?_ hw
 refine csr (lE oab (lnf (cs2 (c_region (lE omp (lE onp (lE ofp ?_)))))))
 refine lv (v:= .agg (gs.toL.map ptv).toArray) (e_load vf1.ok (a:=⟨T,3,none⟩) rfl (k_twA 0 rfl) rfl) (lE omi (lnf (c_block ?_)))
 refine c_mask [true,true] rfl ?_
 refine c_loop (fun(x_:Nat×P3×List Nat×List Nat) f L=>match x_ with|(zg,gs2,Gs2,Us2)=>(f 0=pp T 0∧f 1=Ix (pw)∧f 10= .agg (gs.toL.map ptv).toArray∧f 11=Nx (zg))∧L=[twR T ss gs2 p n c tg nx,tnR Gs2 Ss Xs Us2 N]∧(zg≤3∧UpOk gs2 Gs2 Us2 Gs zg)) (fun(zg,gs2,Gs2,Us2)=>3-zg) (0,gs,Gs,Us) ?_ ?_
 ·exact⟨⟨rfl,rfl,rfl,rfl⟩,rfl,⟨Nat.zero_le _,UpOk.start hgl hgs hul hu01⟩⟩
 rintro⟨zg,gs2,Gs2,Us2⟩ f0 L0 ⟨⟨hs0,hs1,hs10,hs11⟩,hL,⟨hz3,hup⟩⟩
 subst L0
 refine rbs 0 hs0 (rbs 1 hs1 (rbs 10 hs10 (rbs 11 hs11 (csr (lE olt (lnf (c_seq (c_if _ rfl (fun hc1=> ?_) (fun hc1=> ?_)))))))))
 ·refine csk (c_seq (c_block (c_seq ?_)))
  obtain⟨G2,hg3⟩:∃q_,Gs[zg]? =some q_:=⟨_,List.getElem?_eq_getElem (by omega)⟩
  have hg2:Gs2[zg]? =some G2:=(hup.rest zg (Nat.le_refl _)).trans hg3
  obtain⟨S4,hS5⟩:∃q_,Ss[zg]? =some q_:=⟨_,List.getElem?_eq_getElem (by omega)⟩
  obtain⟨u,hu1⟩:∃q_,Us2[zg]? =some q_:=⟨_,List.getElem?_eq_getElem (by have:=hup.ul;omega)⟩
  rcases hup.u01 zg u hu1 with rfl|rfl
  ·refine c_region (lE omi ?_)
   refine lv (v:=pp G2 0) (e_index1 (xs:=gs.toL.map ptv) (k:=zg) rfl rfl vf2.ok (by rw[List.getElem?_map,P3.get (by omega),((hgs zg (by omega)).trans hg3)]<;>rfl) (by omega) vf3.ok) ?_
   refine lE oai (lE oap (lnc (lE omp (l_call rfl rfl rfl (cl0 (vs:=[pp G2 0,.int .i64 (-1)]) vf4.ok rfl rfl) ?_))))
   intro w hw
   replace hw:=hw.perm (L':=_::_::[]) (by exact((perm_front 0 rfl).trans (perm_front 1 rfl)))
   obtain⟨β1,sb,kn,hw1,back⟩:=St.frame (L:=[_]) (M:=_::[]) hw
   refine(tn_same hw1 ⟨hup.gl,hsl,hnet.len⟩ hup.ul hg2 hu1 fun β2 w S sb2 hw2=>tdrop0 hw2).mono ?_
   rintro e w' ⟨rfl,hw'⟩
   refine⟨_,rfl,_,back _ _ hw',?_⟩
   clear hw hw1 hw' back kn sb
   refine lE oeq_ (lE omb (gE omp (gE omi (gE omi (g_call rfl rfl rfl rfl rfl (cl0 (vs:=[pp T 0,Nx (zg),Ix (pw)]) vf5.ok rfl rfl) ?_)))))
   intro w hw
   replace hw:=hw.perm (L':=_::_::[]) (by exact((perm_front 0 rfl).trans (perm_front 1 rfl)))
   obtain⟨β1,sb,kn,hw1,back⟩:=St.frame (L:=[_,_]) (M:=[]) hw
   refine(tn_shelf (A:=fun G=>twR T ss (gs2.upd zg (some G)) p n c tg nx) (v:=1) hw1 ⟨hup.gl,hsl,hnet.len⟩ hup.ul hS5 hu1 fun β2 w hw2=>topen_ok β2 w T ss gs2 p n c tg nx zg S4 N (by omega) ((hss zg (by omega)).trans hS5) (gt Xs zg) (hnet.ok zg (by omega)).2 (by omega) pw hpb false (fun q=>by cases q) hw2).mono ?_
   rintro e w' ⟨G6,rfl,hw'⟩
   refine⟨_,rfl,_,back _ _ hw',?_⟩
   clear hw hw1 hw' back kn sb
   refine gE ont (lE oktb (lnf (c_no rfl (c_skip (f_block (f_then (c_region (lv (v:=Nx (zg+1)) (e_add rfl rfl (i64n (by omega) (by omega))) ?_))))))))
   refine lE omi (l_nil ?_)
   exact f_cut ⟨(zg+1,(gs2.upd zg (some G6)),(Gs2.set zg G6),(Us2.set zg 1)),⟨⟨rfl,rfl,rfl,rfl⟩,rfl,⟨by omega,hup.opened (by omega)⟩⟩,(show 3-(zg+1)<3-zg from by omega)⟩
  refine c_region (lE omi ?_)
  refine lv (v:=pp G2 0) (e_index1 (xs:=gs.toL.map ptv) (k:=zg) rfl rfl vf2.ok (by rw[List.getElem?_map,P3.get (by omega),((hgs zg (by omega)).trans hg3)]<;>rfl) (by omega) vf3.ok) ?_
  refine lE oai (lE oap (lnc (lE omp (l_call rfl rfl rfl (cl0 (vs:=[pp G2 0,.int .i64 (-1)]) vf4.ok rfl rfl) ?_))))
  intro w hw
  replace hw:=hw.perm (L':=_::_::[]) (by exact((perm_front 0 rfl).trans (perm_front 1 rfl)))
  obtain⟨β1,sb,kn,hw1,back⟩:=St.frame (L:=[_]) (M:=_::[]) hw
  refine(tn_same hw1 ⟨hup.gl,hsl,hnet.len⟩ hup.ul hg2 hu1 fun β2 w S sb2 hw2=>tdrop1 (Cs.mono _ _ _ _ sb2 (Cs.mono _ _ _ _ sb hG)) hN hw2).mono ?_
  rintro e w' ⟨rfl,hw'⟩
  refine⟨_,rfl,_,back _ _ hw',?_⟩
  clear hw hw1 hw' back kn sb
  refine lE oeq_ (lE omb ?_)
  iterate 5 refine skE ?_
  refine lE okfb (lnf (c_no rfl (c_skip (f_block (f_then (c_region (lv (v:=Nx (zg+1)) (e_add rfl rfl (i64n (by omega) (by omega))) (lE omi ?_))))))))
  refine l_nil (fpn [1,0] 2 ?_)
  exact f_cut ⟨(zg+1,gs2,Gs2,Us2),⟨⟨rfl,rfl,rfl,rfl⟩,rfl,⟨by omega,hup.was hu1⟩⟩,(show 3-(zg+1)<3-zg from by omega)⟩
 refine c_exit (f_then_exit (f_then_exit (f_exit (ftc (lE oab (lnf (c_ret (ret1 Tryz.results25 rfl ?_))))))))
 intro w hw
 have hz:=hup;rw[show zg=3 by omega]at hz;rw[hz.fin,tn_up ⟨hup.gl,hsl,hnet.len⟩]at hw
 exact⟨rfl,gs2,Gs2,hup.gl,hup.gs,hw⟩
end Go.Proofs
namespace Go.Hv
open Go Go.Sl Go.Proofs Go.Jn
end Go.Hv
namespace Go.Proofs
open Go Go.Sl Go.Hv Go.Jn
instance ve0:CfC Tryz.prog 54:={}
instance ve1:ZerC Tryz.prog 32 (.agg #[.int .i64 (0),.slice none 0 0]):={}
instance ve2:TyC Tryz.prog 32 true 2:={}
instance ve3:FldC Tryz.prog 58 3 7 7 true:={}
instance ve4:ArrC Tryz.prog 56 7 3 1:={}
instance ve5:TyC Tryz.prog 3 false 1:={}
instance ve6:FldC Tryz.prog 32 1 1 1 false:={}
instance ve7:TyC Tryz.prog 30 false 1:={}
instance ve8:UndC Tryz.prog 30 100:={}
theorem ve9:slB Tryz.prog 30 100 5=true:=by kernel_rfl
instance ve10:FldC Tryz.prog 100 1 1 4 true:={}
instance ve11:ArrC Tryz.prog 98 4 3 1:={}
instance ve12:FldC Tryz.prog 58 4 14 7 true:={}
set_option maxHeartbeats 4000000 in
theorem tsound_ok(β:Base)(w:World)(T:Nat)(ss gs:P3)(p:Option Addr)(n c:Nat)(tg nx:KN7)(Gs Ss:List Nat)(Xs:List KG)(N:Nat)(hgl:Gs.length=3)(hsl:Ss.length=3)(hnet:Net 3 Xs)(hgs:∀k,k<3→gs.at k=Gs[k]?)(tgi:Nat)(hk:TOk Xs tg tgi)(hw:St β [twR T ss gs p n c tg nx,netR Gs Ss Xs N false] w):Calls Tryz.prog 26 #[pp T 0] w fun r w'=>r= .returned (.bool true)∧∃nx',St β [twR T ss gs p n c tg nx',netR Gs Ss Xs N false] w':=by
 refine enter (n:=98) Tryz.func26 rfl Tryz.ntmps26 rfl ?_ hw
 refine csr ?_
 refine lE oab ?_
 refine lnf ?_
 refine cs2 ?_
 refine c_region ?_
 refine lE oai ?_
 refine lnf ?_
 refine c_block ?_
 refine c_mask [true,true] rfl ?_
 refine c_loop (fun(x_:Nat×KN7) f L=>match x_ with|(k,nx2)=>(f 0=pp T 0∧f 3=Nx (k))∧L=[twR T ss gs p n c tg nx2,netR Gs Ss Xs N false]∧(1≤k∧k≤7)) (fun(k,nx2)=>7-k) (1,nx) ?_ ?_
 ·exact⟨⟨rfl,rfl⟩,rfl,(by decide)⟩
 rintro⟨k,nx2⟩ f0 L0 ⟨⟨hs0,hs3⟩,hL,⟨hk1,hk7⟩⟩
 subst L0
 refine rbs 0 hs0 ?_
 refine rbs 3 hs3 ?_
 refine cs2 ?_
 refine c_region ?_
 refine lE omi ?_
 refine lE ole ?_
 refine lnf ?_
 refine c_if _ rfl (fun hc1=> ?_) (fun hc1=> ?_)
 ·refine csk ?_
  refine c_seq ?_
  refine c_block ?_
  refine c_seq ?_
  rcases hk.tag k hk1 (by omega)with⟨ht0,hna⟩|⟨htr,hone⟩
  ·refine c_region ?_
   refine lE omp ?_
   refine lE omi ?_
   refine l_call rfl rfl rfl (cl0 (vs:=[pp T 0,Nx (k)]) ve0.ok rfl rfl) ?_
   intro w hw
   replace hw:=hw.perm (L':=_::_::[]) (by exact((perm_front 1 rfl).trans (perm_front 1 rfl)))
   obtain⟨β1,sb,kn,hw1,back⟩:=St.frame (L:=[_,_]) (M:=[]) hw
   refine(tfind_none β1 w T ss gs p n c tg nx2 Gs Ss Xs N hgl hsl hnet hgs ((k:Nat):Int) hw1 hna).mono ?_
   rintro e w' ⟨i2,p3,n4,c5,rfl,hw'⟩
   refine⟨_,rfl,_,back _ _ hw',?_⟩
   clear hw hw1 hw' back kn sb
   refine lE omt ?_
   refine lE oxi ?_
   refine lE oxa ?_
   refine alE fun b6=> ?_
   refine lE oai ?_
   refine lu (mS 0 (#[Ix (i2),.slice p3 (n4) c5])) ?_
   refine lnf ?_
   refine cs2 ?_
   refine c_region ?_
   refine lE omp ?_
   refine lE omi ?_
   refine lE onp ?_
   refine lE ofp ?_
   refine lv (v:= .pointer (some ((⟨T,7,none⟩:Addr).add (k*1)))) (e_indexArrI (a:=⟨T,7,none⟩) (k:=k) rfl rfl ve4.ok (by omega)) ?_
   refine lv (v:=Ix (tg.at k)) (e_load1 ve5.ok rfl (k_twT 1 rfl (by omega))) ?_
   refine lE oeq_ ?_
   refine lnf ?_
   refine c_if _ rfl (fun hc7=> ?_) (fun hc7=> ?_)
   ·refine cs2 ?_
    refine c_region ?_
    refine lE omi ?_
    refine lE ogt ?_
    refine lE omb ?_
    refine gE omi ?_
    refine gE oeq_ ?_
    refine gE omb ?_
    iterate 7 refine skE ?_
    refine gE okfb ?_
    refine lE okfb ?_
    refine lnf ?_
    refine c_no rfl ?_
    refine csk ?_
    refine cs2 ?_
    refine c_region ?_
    refine lE omi ?_
    refine lE oeq_ ?_
    refine lnf ?_
    refine c_no rfl ?_
    refine csk ?_
    refine c_exit ?_
    refine f_then_exit ?_
    refine f_exit ?_
    refine f_then ?_
    refine c_region ?_
    refine lE omi ?_
    refine lv (v:=Nx (k+1)) (e_add rfl rfl (i64n (by omega) (by omega))) ?_
    refine lE oai ?_
    refine l_nil ?_
    refine f_mask [false,true,true] rfl ?_
    exact f_cut ⟨(k+1,nx2),⟨⟨rfl,rfl⟩,rfl,⟨by omega,by omega⟩⟩,(show 7-(k+1)<7-k from by omega)⟩
   exact absurd ht0 hc7
  have hlc:([(⟨10,tg.at k,0,0,0⟩:KComp)]).length=1:=rfl
  refine c_region ?_
  refine lE omp ?_
  refine lE omi ?_
  refine l_call rfl rfl rfl (cl0 (vs:=[pp T 0,Nx (k)]) ve0.ok rfl rfl) ?_
  intro w hw
  replace hw:=hw.perm (L':=_::_::[]) (by exact((perm_front 1 rfl).trans (perm_front 1 rfl)))
  obtain⟨β1,sb,kn,hw1,back⟩:=St.frame (L:=[_,_]) (M:=[]) hw
  refine(tfind_one β1 w T ss gs p n c tg nx2 Gs Ss Xs N hgl hsl hnet hgs ((k:Nat):Int) hw1 (e:=(thE ((k:Nat):Int) (tg.at k))) rfl hone).mono ?_
  rintro e w' ⟨p8,c9,rfl,hw'⟩
  refine⟨_,rfl,_,back _ _ hw',?_⟩
  clear hw hw1 hw' back kn sb
  refine lE omt ?_
  refine lE oxi ?_
  refine lE oxa ?_
  refine alE fun b10=> ?_
  refine lE oai ?_
  refine lu (mS 0 (#[Nx (k),.slice p8 (1) c9])) ?_
  refine lnf ?_
  refine cs2 ?_
  refine c_region ?_
  refine lE omp ?_
  refine lE omi ?_
  refine lE onp ?_
  refine lE ofp ?_
  refine lv (v:= .pointer (some ((⟨T,7,none⟩:Addr).add (k*1)))) (e_indexArrI (a:=⟨T,7,none⟩) (k:=k) rfl rfl ve4.ok (by omega)) ?_
  refine lv (v:=Ix (tg.at k)) (e_load1 ve5.ok rfl (k_twT 2 rfl (by omega))) ?_
  refine lE oeq_ ?_
  refine lnf ?_
  refine c_if _ rfl (fun hc11=> ?_) (fun hc11=> ?_)
  ·exact absurd hc11 (by omega)
  refine csk ?_
  refine cs2 ?_
  refine c_region ?_
  refine lE omi ?_
  refine lE onq ?_
  refine lE omb ?_
  refine gE ofp ?_
  refine gE (ols 0) ?_
  refine gE oln ?_
  refine gE onq ?_
  refine lE okfb ?_
  refine lnf ?_
  refine c_if _ rfl (fun hc12=> ?_) (fun hc12=> ?_)
  ·exact absurd hc12 (by decide)
  refine csk ?_
  refine csr ?_
  refine lE ofp ?_
  refine lE (ols 0) ?_
  refine lv (v:= .pointer (some ((ba p8).add (0*5)))) (e_indexFlN 1 (F:=CpF) rfl rfl rfl ve9 (by omega) rfl) ?_
  refine lE ofd ?_
  refine lE (oxd 0) ?_
  obtain⟨x13,hx14⟩:∃x_,[(⟨10,tg.at k,0,0,0⟩:KComp)][0]? =some x_:=⟨_,List.getElem?_eq_getElem (by first|omega|decide)⟩
  refine lv (v:=Ix (x13.v0)) (e_load1 ve5.ok rfl (k_flPart 1 (F:=CpF) (o:=1) (us:=[Ix (x13.v0)]) rfl hx14 rfl)) ?_
  refine lE oai ?_
  refine lnf ?_
  refine cs2 ?_
  have hxv:x13.v0=tg.at k:=by injection hx14 with hx14;rw[←hx14]
  refine rbs 6 (v:=Ix (tg.at k)) (show(Ix (x13.v0):Value)=Ix (tg.at k)from congrArg (Value.int .i64) hxv) ?_
  refine c_region ?_
  refine lE omi ?_
  refine lE omp ?_
  refine lE omi ?_
  refine lE onp ?_
  refine lE ofp ?_
  refine lv (v:= .pointer (some ((⟨T,14,none⟩:Addr).add (k*1)))) (e_indexArrI (a:=⟨T,14,none⟩) (k:=k) rfl rfl ve4.ok (by omega)) ?_
  refine lv (v:=Ix (nx2.at k)) (e_load1 ve5.ok rfl (k_twN 2 rfl (by omega))) ?_
  refine lE oeq_ ?_
  refine lnf ?_
  refine c_if _ rfl (fun hc15=> ?_) (fun hc15=> ?_)
  ·refine c_region ?_
   refine lE omp ?_
   iterate 2 refine lE omi ?_
   refine lE onp ?_
   refine lE ofp ?_
   refine lv (v:= .pointer (some ((⟨T,7,none⟩:Addr).add (k*1)))) (e_indexArrI (a:=⟨T,7,none⟩) (k:=k) rfl rfl ve4.ok (by omega)) ?_
   refine lu (m_twT (v:=tg.at k) (k:=k) 2 ve5.ok rfl rfl rfl (by omega)) ?_
   refine lnf ?_
   refine c_seq ?_
   refine c_re (L':=[pt b10 (.cells #[Nx (k),.slice p8 (1) c9] 32),rowF CpF 100 p8 c9 [(⟨10,tg.at k,0,0,0⟩:KComp)],twR T ss gs p n c tg nx2,netR Gs Ss Xs N false]) (congrArg (fun z_:KN7=>([pt b10 (.cells #[Nx (k),.slice p8 (1) c9] 32),rowF CpF 100 p8 c9 [(⟨10,tg.at k,0,0,0⟩:KComp)],twR T ss gs p n c z_ nx2,netR Gs Ss Xs N false]:List Res)) (upd_same7 (z:=tg) (k:=k) (by omega))) ?_
   refine c_region ?_
   refine lE omp ?_
   refine lE omi ?_
   refine lE onp ?_
   refine lE ofp ?_
   refine lv (v:= .pointer (some ((⟨T,14,none⟩:Addr).add (k*1)))) (e_indexArrI (a:=⟨T,14,none⟩) (k:=k) rfl rfl ve4.ok (by omega)) ?_
   refine lu (m_twN (v:=0) (k:=k) 2 ve5.ok rfl rfl rfl (by omega)) ?_
   refine lnc ?_
   refine lE omi ?_
   refine lE omp ?_
   refine lE omi ?_
   refine lE onp ?_
   refine lE ofp ?_
   refine lv (v:= .pointer (some ((⟨T,7,none⟩:Addr).add (k*1)))) (e_indexArrI (a:=⟨T,7,none⟩) (k:=k) rfl rfl ve4.ok (by omega)) ?_
   refine lv (v:=Ix (tg.at k)) (e_load1 ve5.ok rfl (k_twT 2 rfl (by omega))) ?_
   refine lE onq ?_
   refine lnf ?_
   refine c_if _ rfl (fun hc16=> ?_) (fun hc16=> ?_)
   ·exact absurd hc16 (fun q=>q rfl)
   refine c_skip ?_
   refine f_block ?_
   refine f_then ?_
   refine c_region ?_
   refine lE omi ?_
   refine lv (v:=Nx (k+1)) (e_add rfl rfl (i64n (by omega) (by omega))) ?_
   refine lE oai ?_
   refine l_nil ?_
   refine f_mask [false,false,true,true] rfl ?_
   exact f_cut ⟨(k+1,(nx2.upd k 0)),⟨⟨rfl,rfl⟩,rfl,⟨by omega,by omega⟩⟩,(show 7-(k+1)<7-k from by omega)⟩
  refine csk ?_
  refine csr ?_
  refine lE omp ?_
  refine lE omi ?_
  refine lE onp ?_
  refine lE ofp ?_
  refine lv (v:= .pointer (some ((⟨T,14,none⟩:Addr).add (k*1)))) (e_indexArrI (a:=⟨T,14,none⟩) (k:=k) rfl rfl ve4.ok (by omega)) ?_
  refine lu (m_twN (v:=0) (k:=k) 2 ve5.ok rfl rfl rfl (by omega)) ?_
  refine lnc ?_
  refine lE omi ?_
  refine lE omp ?_
  refine lE omi ?_
  refine lE onp ?_
  refine lE ofp ?_
  refine lv (v:= .pointer (some ((⟨T,7,none⟩:Addr).add (k*1)))) (e_indexArrI (a:=⟨T,7,none⟩) (k:=k) rfl rfl ve4.ok (by omega)) ?_
  refine lv (v:=Ix (tg.at k)) (e_load1 ve5.ok rfl (k_twT 2 rfl (by omega))) ?_
  refine lE onq ?_
  refine lnf ?_
  refine c_if _ rfl (fun hc17=> ?_) (fun hc17=> ?_)
  ·exact absurd hc17 (fun q=>q rfl)
  refine c_skip ?_
  refine f_block ?_
  refine f_then ?_
  refine c_region ?_
  refine lE omi ?_
  refine lv (v:=Nx (k+1)) (e_add rfl rfl (i64n (by omega) (by omega))) ?_
  refine lE oai ?_
  refine l_nil ?_
  refine f_mask [false,false,true,true] rfl ?_
  exact f_cut ⟨(k+1,(nx2.upd k 0)),⟨⟨rfl,rfl⟩,rfl,⟨by omega,by omega⟩⟩,(show 7-(k+1)<7-k from by omega)⟩
 refine c_exit ?_
 refine f_then_exit ?_
 refine f_then_exit ?_
 refine f_exit ?_
 refine ftc ?_
 refine lE oab ?_
 refine lnf ?_
 refine c_ret ?_
 refine ret1 Tryz.results26 rfl ?_
 intro w hw
 exact⟨rfl,nx2,hw⟩
end Go.Proofs
