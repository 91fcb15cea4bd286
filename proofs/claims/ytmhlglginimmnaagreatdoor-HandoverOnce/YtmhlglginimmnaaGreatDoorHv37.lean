/-
 A town: step: walked. Printed by a program of my own.
-/
import Derived.Test.YtmhlglginimmnaaGreatDoorHvStep
set_option linter.all false
namespace Go.Hv
open Go Go.Sl Go.Proofs Go.Jn
def inE:Value→Int| .int _ e=>e|_=>0
theorem St.tnNone{β:Base}{M:List Res}{w:World}{X1:KG}{k N:Nat}{e:Int}{Gs Ss:List Nat}{Xs:List KG}(hk:k<3)(hx:Xs.length=3)(hw:St β (tnA none X1 k e Gs Ss Xs N::M) w):(e=0∧St β (tnR Gs Ss (Xs.set k X1) [1,1,1] N::M) w)∨(e=310∧St β (tnR Gs Ss Xs ([1,1,1].set k 0) N::M) w):=by
 obtain⟨ho,ht,hp,a,hd,hs,hs',q,r,h1,h2,h3,⟨u,Y,ha,hx2⟩,h5⟩:=hw
 rcases ha with⟨h6,_⟩|⟨_,h6,rfl,rfl⟩|⟨_,h6,rfl,rfl⟩
 ·cases h6
 ·rw[ups_set hk]at hx2;exact .inl ⟨h6,ho,ht,hp,a,hd,hs,hs',q,r,h1,h2,h3,hx2,h5⟩
 rw[gt_setSame (by rw[hx];exact hk)]at hx2;exact .inr ⟨h6,ho,ht,hp,a,hd,hs,hs',q,r,h1,h2,h3,hx2,h5⟩
theorem rm_map(zs:MPool)(k:Nat):([]++(zs.map Prod.fst).take k)++(zs.map Prod.fst).drop (k+1)=(zs.take k++zs.drop (k+1)).map Prod.fst:=by rw[List.nil_append,List.map_append,List.map_take,List.map_drop]
theorem rm_sub{zs:MPool}{k:Nat}:∀z∈zs.take k++zs.drop (k+1),z∈zs:=fun z hz=>(List.mem_append.1 hz).elim List.mem_of_mem_take List.mem_of_mem_drop
theorem rm_len{zs:MPool}{k:Nat}:(zs.take k++zs.drop (k+1)).length≤zs.length:=by rw[List.length_append,List.length_take,List.length_drop];omega
theorem eq_q{β:Base}{G S N:Nat}{X X1:KG}{m:Bool}{q q':Option Int}{r:Ending}{w:World}(h:q=q')(hx:∃e,r= .returned (Ix e)∧St β [actG q e G S X X1 N m] w):∃e,r= .returned (Ix e)∧St β [actG q' e G S X X1 N m] w:=by subst h;exact hx
theorem any_next{hd:KEh}{e:KEnt}{l:List KEnt}{j:Nat}{b:Bool}{id:Int}(hs:l[j]? =some e)(hm:EHd (hd,e))(hb:b=(l.take j).any fun e_=>decide (e_.id=id)):(b||decide (hd.id=id))=(l.take (j+1)).any fun e_=>decide (e_.id=id):=by
 have h1:hd.id=e.id:=hm.id
 rw[hb,List.take_add_one,hs,List.any_append,h1];simp
theorem kindsG{n:Nat}(h:n<8):(n=0∨n=1)∨(n=2∨n=3)∨n=4∨(n=5∨n=6)∨n=7:=by omega
end Go.Hv
namespace Go.Proofs
open Go Go.Sl Go.Hv Go.Jn
instance vg0:FldC Tryz.prog 63 1 1 1 false:={}
instance vg1:TyC Tryz.prog 5 false 1:={}
theorem vg2:Tryz.prog.underlying 5=some (.int .u8):=by kernel_rfl
theorem vg3:Tryz.prog.underlying 3=some (.int .i64):=by kernel_rfl
instance vg4:FldC Tryz.prog 63 2 2 1 false:={}
instance vg5:FldC Tryz.prog 63 3 3 1 false:={}
instance vg6:FldC Tryz.prog 58 1 3 3 true:={}
instance vg7:ArrC Tryz.prog 55 3 23 1:={}
instance vg8:TyC Tryz.prog 23 false 1:={}
instance vg9:FldC Tryz.prog 63 0 0 1 false:={}
instance vg10:CfC Tryz.prog 16:={}
instance vg11:UndC Tryz.prog 40 32:={}
theorem vg12:slB Tryz.prog 40 32 2=true:=by kernel_rfl
instance vg13:TyC Tryz.prog 32 true 2:={}
instance vg14:ZerC Tryz.prog 32 (.agg #[.int .i64 (0),.slice none 0 0]):={}
instance vg15:FldC Tryz.prog 32 0 0 1 false:={}
instance vg16:TyC Tryz.prog 3 false 1:={}
instance vg17:FldC Tryz.prog 58 4 14 7 true:={}
instance vg18:ArrC Tryz.prog 56 7 3 1:={}
instance vg19:CfC Tryz.prog 12:={}
instance vg20:CfC Tryz.prog 21:={}
instance vg21:CfC Tryz.prog 28:={}
instance vg22:FldC Tryz.prog 58 3 7 7 true:={}
instance vg23:CfC Tryz.prog 11:={}
instance vg24:CfC Tryz.prog 13:={}
instance vg25:FldC Tryz.prog 58 2 6 1 false:={}
instance vg26:TyC Tryz.prog 35 false 1:={}
instance vg27:CfC Tryz.prog 14:={}
theorem vg28:slB Tryz.prog 35 38 6=true:=by kernel_rfl
theorem vg29:elB Tryz.prog 38 6 64=true:=by kernel_rfl
instance vg30:UndC Tryz.prog 35 38:={}
instance vg31:TyC Tryz.prog 38 true 6:={}
instance vg32:ZerC Tryz.prog 38 (.agg #[.int .i64 (0),.int .i64 (0),.int .i64 (0),.bool false,.int .i64 (0),.slice none 0 0]):={}
instance vg33:FldC Tryz.prog 38 1 1 1 false:={}
instance vg34:CfC Tryz.prog 15:={}
instance vg35:FldC Tryz.prog 63 4 4 1 false:={}
instance vg36:TyC Tryz.prog 51 false 1:={}
theorem vg37:Tryz.prog.underlying 51=some (.int .u16):=by kernel_rfl
instance vg38:CfC Tryz.prog 23:={}
instance vg39:CfC Tryz.prog 29:={}
set_option maxHeartbeats 4000000 in
theorem tstep_ok(β:Base)(w:World)(T:Nat)(ss gs:P3)(p:Option Addr)(c:Nat)(tg nx:KN7)(Gs Ss:List Nat)(Xs:List KG)(N:Nat)(hgl:Gs.length=3)(hsl:Ss.length=3)(hgs:∀k,k<3→gs.at k=Gs[k]?)(hss:∀k,k<3→ss.at k=Ss[k]?)(i:Nat)(hi:i<60)(hk:TOk Xs tg i)(ms:List KMs)(hms:∀m∈ms,MsgOk Xs m)(hml:ms.length≤71*i)(hN:N≤52000000)(hG:GRng β)(tag:Nat)(htag:1≤tag∧tag≤100)(kd nn aa bb:UInt8)(pw:Nat)(hpw:pw≤65535)(hw:St β [twR T ss gs p ms.length c tg nx,netR Gs Ss Xs N false,msgsR p c ms] w):Calls Tryz.prog 24 #[pp T 0,.agg #[Bx (kd),Bx (nn),Bx (aa),Bx (bb),.int .u16 (((pw:Nat)):Int)],Nx tag] w fun r w'=>r= .returned (.bool true)∧TStepped β T ss Ss (i+1) (N+262500) w':=by
 refine enter (n:=217) Tryz.func24 rfl Tryz.ntmps24 rfl ?_ hw
 refine csr (bxa fun b1=> ?_)
 refine lE oab (lnf (c_seq (c_quiet (by kernel_rfl) (by kernel_rfl) (qE ofp (qE (oli 0) ?_)))))
 refine q_val (v:= .int .u8 (((nn.toNat%6:Nat)):Int)) rfl rfl rfl (e_rem (a:=((nn).toNat:Int)) (b:=((6:Nat):Int)) rfl rfl (by decide) (nat_tmod _ _)) ?_
 refine q_val (v:=Nx (nn.toNat%6)) rfl rfl rfl (e_conv (a:=((nn.toNat%6:Nat):Int)) rfl ⟨_,vg2⟩ vg3 (i64n rfl (by omega))) ?_
 refine q_val (v:=Nx (1+(nn.toNat%6))) rfl rfl rfl (e_add rfl rfl (i64n (by omega) (by omega))) (qE ofp (qE (oli 0) ?_))
 refine q_val (v:= .int .u8 (((aa.toNat%3:Nat)):Int)) rfl rfl rfl (e_rem (a:=((aa).toNat:Int)) (b:=((3:Nat):Int)) rfl rfl (by decide) (nat_tmod _ _)) ?_
 refine q_val (v:=Nx (aa.toNat%3)) rfl rfl rfl (e_conv (a:=((aa.toNat%3:Nat):Int)) rfl ⟨_,vg2⟩ vg3 (i64n rfl (by omega))) (qE ofp ?_)
 refine qE (oli 0) ?_
 refine q_val (v:= .int .u8 (((bb.toNat%3:Nat)):Int)) rfl rfl rfl (e_rem (a:=((bb).toNat:Int)) (b:=((3:Nat):Int)) rfl rfl (by decide) (nat_tmod _ _)) ?_
 refine q_val (v:=Nx (bb.toNat%3)) rfl rfl rfl (e_conv (a:=((bb.toNat%3:Nat):Int)) rfl ⟨_,vg2⟩ vg3 (i64n rfl (by omega))) (qE oai ?_)
 refine qE oai (qE oai (q_nil (fts ?_)))
 obtain⟨idn,hidn,hidnb⟩:∃q_:Nat,((q_:Nat):Int)=((1+(nn.toNat%6):Nat):Int)∧(1≤q_∧q_≤6):=⟨_,rfl,by first|omega|(constructor<;>omega)⟩
 refine rbs 7 (v:=Nx idn) (show(Nx (1+(nn.toNat%6)):Value)=Nx idn from congrArg (Value.int .i64) hidn.symm) ?_
 obtain⟨za,hza,hzab⟩:∃q_:Nat,((q_:Nat):Int)=((aa.toNat%3:Nat):Int)∧q_<3:=⟨_,rfl,by omega⟩
 refine rbs 8 (v:=Nx za) (show(Nx (aa.toNat%3):Value)=Nx za from congrArg (Value.int .i64) hza.symm) ?_
 obtain⟨zb,hzb,hzbb⟩:∃q_:Nat,((q_:Nat):Int)=((bb.toNat%3:Nat):Int)∧q_<3:=⟨_,rfl,by omega⟩
 refine rbs 9 (v:=Nx zb) (show(Nx (bb.toNat%3):Value)=Nx zb from congrArg (Value.int .i64) hzb.symm) ?_
 obtain⟨G2,hg3⟩:∃q_,Gs[za]? =some q_:=⟨_,List.getElem?_eq_getElem (by omega)⟩
 refine c_region (lE omp (lE omi (lE onp (lE ofp ?_))))
 refine lv (v:= .pointer (some ((⟨T,3,none⟩:Addr).add (za*1)))) (e_indexArrI (a:=⟨T,3,none⟩) (k:=za) rfl rfl vg7.ok (by omega)) ?_
 refine lv (v:=pp G2 0) (e_load1 vg8.ok rfl (k_twGe 1 rfl (by omega) ((hgs za (by omega)).trans hg3))) (lE oap (lnf (cs2 ?_)))
 rcases kindsG (Nat.mod_lt kd.toNat (by decide:0<8))with hkk|hkk|hkk|hkk|hkk
 ·refine c_region (lE ofp (lE (oli 0) ?_))
  refine lv (v:= .int .u8 (((kd.toNat%8:Nat)):Int)) (e_rem (a:=((kd).toNat:Int)) (b:=((8:Nat):Int)) rfl rfl (by decide) (nat_tmod _ _)) ?_
  refine lnf (c_block ?_)
  refine c_seq_cut (fun(f:Fm) (L:List Res)=>∃(uu:Unit),(f 0=pp T 0∧f 2=Nx (tag)∧f 4=pp b1 0∧f 7=Nx (idn)∧f 8=Nx (za)∧f 9=Nx (zb)∧f 10=pp G2 0∧f 41= .int .u8 (((kd.toNat%8:Nat)):Int)∧f 42= .bool true)∧L=[pt b1 (.cells #[Bx (kd),Bx (nn),Bx (aa),Bx (bb),.int .u16 (((pw:Nat)):Int)] 63),twR T ss gs p ms.length c tg nx,netR Gs Ss Xs N false,msgsR p c ms]∧(True)) ?_ ?_
  ·refine csr (lE oeq_ (lE oab (lnf (c_if _ rfl (fun hc4=> ?_) (fun hc4=> ?_)))))
   ·refine c_skip ?_
    refine f_rebase (d:=42) (show(.bool (decide (((kd.toNat%8:Nat):Int)=(0:Int))):Value)= .bool true from congrArg Value.bool (decide_eq_true (by omega))) ?_
    exact f_cut ⟨(),⟨rfl,rfl,rfl,rfl,rfl,rfl,rfl,rfl,rfl⟩,rfl,trivial⟩
   refine c_region (lE oeq_ (lE oab (l_nil ?_)))
   refine f_rebase (d:=42) (show(.bool (decide (((kd.toNat%8:Nat):Int)=(1:Int))):Value)= .bool true from congrArg Value.bool (decide_eq_true (by omega))) ?_
   exact f_cut ⟨(),⟨rfl,rfl,rfl,rfl,rfl,rfl,rfl,rfl,rfl⟩,rfl,trivial⟩
  rintro f0 L0 ⟨uu,⟨hs0,hs2,hs4,hs7,hs8,hs9,hs10,hs41,hs42⟩,hL,-⟩
  subst L0
  refine rbs 0 hs0 (rbs 2 hs2 (rbs 4 hs4 (rbs 7 hs7 (rbs 8 hs8 (rbs 9 hs9 (rbs 10 hs10 (rbs 41 hs41 (rbs 42 hs42 (c_yes rfl (csr (lE oab (lnf (cs2 ?_)))))))))))))
  refine c_region (lE omp (l_call rfl rfl rfl (cl0 (vs:=[pp G2 0]) vg10.ok rfl rfl) ?_))
  intro w hw
  replace hw:=hw.perm (L':=_::_::_::_::[]) (by exact((((perm_front 3 rfl).trans (perm_front 2 rfl)).trans (perm_front 2 rfl)).trans (perm_front 3 rfl)))
  obtain⟨β1,sb,kn,hw1,back⟩:=St.frame (L:=[_]) (M:=_::_::_::[]) hw
  refine(net_keep (R:=fun p c=>entsR p c ((gt Xs za).here)) hw1 ⟨hgl,hsl,hk.net.len⟩ hg3 fun β2 w S hw2=>(hereG_ok β2 w G2 S N (gt Xs za) false hw2).mono fun _ _ q_=>shownE (L':=(gt Xs za).here) rfl q_).mono ?_
  rintro e w' ⟨p5,c6,rfl,hw'⟩
  refine⟨_,rfl,_,back _ _ hw',?_⟩
  clear hw hw1 hw' back kn sb
  refine lE oln (lE omi (lnf (c_block (c_openEnts rfl fun ez7 hez8 heh9=> ?_))))
  have hez8l:ez7.length=((gt Xs za).here).length:=by rw[←hez8,List.length_map]
  have hez8k:(ez7.map Prod.fst).length=ez7.length:=List.length_map _
  refine rbs 46 (v:=sB p5 ez7 c6) (show(sB p5 ((gt Xs za).here) c6:Value)=sB p5 ez7 c6 from congrArg (fun z=>Value.slice p5 z c6) hez8l.symm) ?_
  refine c_mask [true,true,true,true,true,true] rfl ?_
  refine c_loop (fun(x_:Nat×Bool) f L=>match x_ with|(jh,hb)=>(f 0=pp T 0∧f 2=Nx (tag)∧f 7=Nx (idn)∧f 10=pp G2 0∧f 11= .bool (hb)∧f 46=sB p5 ez7 c6∧f 47=Nx (((gt Xs za).here).length)∧f 48=Nx (jh))∧L=[rowF EhF 32 p5 c6 (ez7.map Prod.fst),poolR ez7,netR Gs Ss Xs N false,pt b1 (.cells #[Bx (kd),Bx (nn),Bx (aa),Bx (bb),.int .u16 (((pw:Nat)):Int)] 63),twR T ss gs p ms.length c tg nx,msgsR p c ms]∧(jh≤(gt Xs za).here.length∧hb=((gt Xs za).here.take jh).any fun e_=>decide (e_.id=((idn:Nat):Int)))) (fun(jh,hb)=>(gt Xs za).here.length-jh) (0,false) ?_ ?_
  ·exact⟨⟨rfl,rfl,rfl,rfl,rfl,rfl,rfl,rfl⟩,rfl,⟨Nat.zero_le _,rfl⟩⟩
  rintro⟨jh,hb⟩ f0 L0 ⟨⟨hs0,hs2,hs7,hs10,hs11,hs46,hs47,hs48⟩,hL,⟨hjh,hhb⟩⟩
  subst L0
  refine rbs 0 hs0 (rbs 2 hs2 (rbs 7 hs7 (rbs 10 hs10 (rbs 11 hs11 (rbs 46 hs46 (rbs 47 hs47 (rbs 48 hs48 (csr (lE olt (lnf (c_seq ?_)))))))))))
  refine c_if _ rfl (fun hc10=> ?_) (fun hc10=> ?_)
  ·refine csk (c_seq (c_block (c_seq ?_)))
   obtain⟨x11,hx12⟩:∃x_,(ez7.map Prod.fst)[jh]? =some x_:=⟨_,List.getElem?_eq_getElem (by first|omega|decide)⟩
   obtain⟨e13,hs14,hm15,hp16⟩:=ent_at hez8 heh9 hx12
   have hlh:=hk.net.few hzab
   refine c_region (lv (v:= .pointer (some ((ba p5).add (jh*2)))) (e_indexFlN 0 (F:=EhF) rfl (List.length_map _).symm rfl vg12 (by omega) rfl) ?_)
   refine lv (v:= .agg #[Ix (x11.id),.slice x11.p (x11.n) x11.c]) (e_load vg13.ok rfl (k_flAt 0 (F:=EhF) rfl hx12) rfl) (alE fun b17=> ?_)
   refine lu (mS 0 (#[Ix (x11.id),.slice x11.p (x11.n) x11.c])) (lnr (lE omb ?_))
   refine l_or4 hb (decide ((x11.id)=((idn:Nat):Int))) rfl (fun hb18 hk18=> ?_) (fun z19 z20 z21 z22=> ?_)
   ·refine gE ofp (gE (oli 0) (gE omi (gE oeq_ (lE okfb ?_))))
    exact hk18 _ _ _ _
   refine lE oab (l_nil (f_block (f_then (c_region (lv (v:=Nx (jh+1)) (e_add rfl rfl (i64n (by omega) (by omega))) (lE omi (l_nil ?_)))))))
   refine f_mask [false,true,true,true,true,true,true] rfl ?_
   exact f_cut ⟨(jh+1,(hb||(decide ((x11.id)=((idn:Nat):Int))))),⟨⟨rfl,rfl,rfl,rfl,rfl,rfl,rfl,rfl⟩,rfl,⟨by omega,any_next hs14 hm15 hhb⟩⟩,(show(gt Xs za).here.length-(jh+1)<(gt Xs za).here.length-jh from by omega)⟩
  refine c_exit (f_then_exit (f_then_exit (f_exit (fts (c_seq ?_)))))
  have hhe:hb=hereB (gt Xs za) ((idn:Nat):Int):=by rw[hhb,show jh=(gt Xs za).here.length by omega,List.take_length]<;>rfl
  rcases Bool.eq_false_or_eq_true (hereB (gt Xs za) ((idn:Nat):Int))with hh|hh
  ·refine rbs 11 (v:= .bool true) (congrArg Value.bool (hhe.trans hh)) ?_
   obtain⟨hq0,htok,hmv⟩:=tok_save (id:=idn) (t:=((tag:Nat):Int)) hk hzab hidnb ⟨by omega,by omega⟩ hh
   refine c_region (lE omb (lE ont (lE omb ?_)))
   iterate 7 refine skE ?_
   refine lE okfb (lnf (c_no rfl (csk (csr (lE omp (lv (v:= .func (.func 11) #[pp G2 0] #[]) (e_func (u:=[pp G2 0]) (v:=[]) rfl rfl) (lE oaf ?_)))))))
   refine lnf (cs2 (c_region (lE omb (lnf (c_yes rfl (c_region (lE omp ?_)))))))
   refine lv (v:= .func (.func 21) #[pp G2 0] #[]) (e_func (u:=[pp G2 0]) (v:=[]) rfl rfl) (lE oaf (lnc (lE omp (lE omi (lE omi (lE onp (lE ofp ?_)))))))
   refine lv (v:= .pointer (some ((⟨T,14,none⟩:Addr).add (idn*1)))) (e_indexArrI (a:=⟨T,14,none⟩) (k:=idn) rfl rfl vg18.ok (by omega)) ?_
   refine lu (m_twN (v:=((tag:Nat):Int)) (k:=idn) 4 vg16.ok rfl rfl rfl (by omega)) (lnc (lE omf (lE omi (lE omi ?_))))
   refine lcf (cl0 (vs:=[Nx (idn),Nx (tag)]) vg19.ok rfl rfl) rfl fun w β1 sb kn hw1 back=>(thing_ok β1 w hw1 ((idn:Nat):Int) ((tag:Nat):Int)).mono ?_
   rintro e w' ⟨p23,c24,rfl,hw'⟩
   refine⟨_,rfl,_,back _ _ hw',?_⟩
   clear hw1 hw' back kn sb
   refine l_call rfl rfl rfl (cl_value (fst:=[pp G2 0]) (cap:=[]) (vs:=[.agg #[Nx (idn),.slice p23 (1) c24]]) (all:=[pp G2 0,.agg #[Nx (idn),.slice p23 (1) c24]]) vg20.ok rfl rfl rfl) ?_
   intro w hw
   replace hw:=hw.perm (L':=_::_::_::_::_::_::_::[]) (by exact(((((((perm_front 6 rfl).trans (perm_front 6 rfl)).trans (perm_front 6 rfl)).trans (perm_front 5 rfl)).trans (perm_front 5 rfl)).trans (perm_front 5 rfl)).trans (perm_front 6 rfl)))
   obtain⟨β1,sb,kn,hw1,back⟩:=St.frame (L:=[_]) (M:=_::_::_::_::_::_::[]) hw
   refine(net_actA (q:=none) (X1:=(playX (gt Xs za) (.put (thE ((idn:Nat):Int) ((tag:Nat):Int))))) hw1 ⟨hgl,hsl,hk.net.len⟩ hg3 fun β2 w S sb2 hw2=>(gsave_ok β2 w (Cs.mono _ _ _ _ sb2 (Cs.mono _ _ _ _ sb hG)) G2 S N (gt Xs za) false hw2 (by omega) (thE ((idn:Nat):Int) ((tag:Nat):Int)) _ (Sl.mono _ _ _ _ _ sb2 (kn _ (k_flN 0 (F:=CpF) (m:=1) rfl rfl)))).mono fun _ _ q_=>act_st (eq_q hq0 q_)).mono ?_
   rintro e w' ⟨e25,rfl,hw'⟩
   refine⟨_,rfl,_,back _ _ hw',?_⟩
   clear hw hw1 hw' back kn sb
   refine lE oai (lnf (c_seq (c_tnNone rfl hzab hk.net.len (fun he=> ?_) (fun he=> ?_))))
   ·refine rbs 86 (v:= .int .i64 (0)) (congrArg (Value.int .i64) he) (rbs 15 (v:= .int .i64 (0)) (congrArg (Value.int .i64) he) (c_region (lE omi ?_)))
    refine lcR clA (fun w β1 sb kn hw1=>tpowered_ok β1 w hw1 0) (lE ont (lnf (c_no rfl (csr (lE omi (lE oeq_ (lnf (c_yes rfl ?_))))))))
    refine cnz [sv 92 (pp T 0) [] [] [0],sv 93 (Nx (idn)) [] [] [1],sv 94 (pp T 0) [] [] [0],sv 95 (Nx (idn)) [] [] [1],sv 96 (Nx (tag)) [] [] [2],sv 97 (pp T 0) [0] [0] [],sv 98 (pp T 7) [0,5] [5] [],sv 99 (.pointer (some ((⟨T,7,none⟩:Addr).add (idn*1)))) [0,1,4,5,6] [6,1] [],⟨[0,1,4,5,6,7],[7,4],[],[],fun _=>True⟩,sv 100 (pp T 0) [2] [2] [],sv 101 (pp T 14) [2,9] [9] [],sv 102 (.pointer (some ((⟨T,14,none⟩:Addr).add (idn*1)))) (List.range 11) [10,3] [],⟨(List.range 12),[11],[],[],fun _=>True⟩] [u0,u0,u0,u0,u0,(some 8,[8])] [⟨(some 8),(some 12),[12],[],fun _=>twR T ss gs p ms.length c (tg.upd idn ((tag:Nat):Int)) (nx.upd idn ((tag:Nat):Int))⟩,⟨(some 12),none,[],[],fun _=>twR T ss gs p ms.length c (tg.upd idn ((tag:Nat):Int)) ((nx.upd idn ((tag:Nat):Int)).upd idn 0)⟩] [(0,pp T 0),(7,Nx (idn)),(2,Nx (tag))] [] ⟨rfl,rfl,rfl,trivial⟩ ⟨?_,?_,?_,?_,?_,?_,?_,?_,?_,?_,?_,?_,?_,trivial⟩ ?_
    ·rintro f M-⟨i0,-⟩
     exact obE omp
    ·rintro f M-⟨i0,-⟩
     exact obE omi
    ·rintro f M-⟨i0,-⟩
     exact obE omp
    ·rintro f M-⟨i0,-⟩
     exact obE omi
    ·rintro f M-⟨i0,-⟩
     exact obE omi
    ·rintro f M ⟨k0,-⟩-
     exact obE onp
    ·rintro f M ⟨k0,-⟩-
     exact obE ofp
    ·rintro f M ⟨k0,k1,-⟩-
     exact ob0 (up_cons (d:=93) (up_cons (d:=98) rfl k0) k1) rfl (e_indexArrI (a:=⟨T,7,none⟩) (k:=idn) rfl rfl vg18.ok (by omega)) (.refl _)
    ·rintro f M ⟨k0,k1,-⟩-
     refine obS (up_cons (d:=96) (up_cons (d:=99) rfl k0) k1) ?_
     refine lu (m_twT (v:=((tag:Nat):Int)) (k:=idn) 0 vg16.ok rfl rfl rfl (by omega)) (l_nil ?_)
     exact f_owes_n (up_cons (d:=96) (up_cons (d:=99) rfl k0) k1) trivial (perm_front 0 rfl)
    ·rintro f M ⟨k0,-⟩-
     exact obE onp
    ·rintro f M ⟨k0,-⟩-
     exact obE ofp
    ·rintro f M ⟨k0,k1,-⟩-
     exact ob0 (up_cons (d:=95) (up_cons (d:=101) rfl k0) k1) rfl (e_indexArrI (a:=⟨T,14,none⟩) (k:=idn) rfl rfl vg18.ok (by omega)) (.refl _)
    ·rintro f M ⟨k0,-⟩-
     refine obS (up_cons (d:=102) rfl k0) ?_
     refine lu (m_twN (v:=0) (k:=idn) 0 vg16.ok rfl rfl rfl (by omega)) (l_nil ?_)
     exact f_owes_n (up_cons (d:=102) rfl k0) trivial (perm_front 0 rfl)
    rintro fa26 ⟨-,-,-,-,-,-,-,-,-,-,-,-,-,-⟩-
    refine fre ?_
    refine f_block (ftc (lE oab (lnf (c_ret (ret1 Tryz.results24 rfl ?_)))))
    intro w hw
    replace hw:=St.perm (st_mask [true,false,false,false,false,true,true] rfl hw) (perm_ix (L:=[tnR Gs Ss (Xs.set za (playX (gt Xs za) (.put (thE ((idn:Nat):Int) ((tag:Nat):Int))))) [1,1,1] (N+262500),msgsR p c ms,twR T ss gs p ms.length c (tg.upd idn ((tag:Nat):Int)) ((nx.upd idn ((tag:Nat):Int)).upd idn 0)]) (L':=[twR T ss gs p ms.length c (tg.upd idn ((tag:Nat):Int)) ((nx.upd idn ((tag:Nat):Int)).upd idn 0),tnR Gs Ss (Xs.set za (playX (gt Xs za) (.put (thE ((idn:Nat):Int) ((tag:Nat):Int))))) [1,1,1] (N+262500),msgsR p c ms]) [2,0,1] 3 rfl (by kernel_rfl) (by kernel_rfl))
    exact⟨rfl,gs,Gs,[1,1,1],p,c,(tg.upd idn ((tag:Nat):Int)),((nx.upd idn ((tag:Nat):Int)).upd idn 0),(Xs.set za (playX (gt Xs za) (.put (thE ((idn:Nat):Int) ((tag:Nat):Int))))),ms,hgl,hgs,rfl,us_up,htok.mono (Nat.le_succ _),ms_mv hms hmv,(by omega),hw⟩
   refine rbs 86 (v:= .int .i64 (310)) (congrArg (Value.int .i64) he) (rbs 15 (v:= .int .i64 (310)) (congrArg (Value.int .i64) he) (c_region ?_))
   refine lE omi (lcR clA (fun w β1 sb kn hw1=>tpowered_ok β1 w hw1 310) (lE ont (lnf (c_no rfl (csr (lE omi (lE oeq_ (lnf (c_no rfl (c_skip ?_))))))))))
   refine f_block (ftc (lE oab (lnf (c_ret (ret1 Tryz.results24 rfl ?_)))))
   intro w hw
   replace hw:=St.perm (st_mask [true,false,false,false,false,true,true] rfl hw) (perm_ix (L:=[tnR Gs Ss Xs ([1,1,1].set za 0) (N+262500),twR T ss gs p ms.length c tg (nx.upd idn ((tag:Nat):Int)),msgsR p c ms]) (L':=[twR T ss gs p ms.length c tg (nx.upd idn ((tag:Nat):Int)),tnR Gs Ss Xs ([1,1,1].set za 0) (N+262500),msgsR p c ms]) [1,0,2] 3 rfl (by kernel_rfl) (by kernel_rfl))
   exact⟨rfl,gs,Gs,([1,1,1].set za 0),p,c,tg,(nx.upd idn ((tag:Nat):Int)),Xs,ms,hgl,hgs,List.length_set,us_dn _,hk.mono (Nat.le_succ _),hms,(by omega),hw⟩
  refine rbs 11 (v:= .bool false) (congrArg Value.bool (hhe.trans hh)) ?_
  by_cases ht0:tg.at idn=0
  ·obtain⟨hq0,htok,hmv⟩:=tok_put (id:=idn) (t:=((tag:Nat):Int)) hk hzab hidnb ⟨by omega,by omega⟩ ht0
   refine c_region (lE omb (lE ont (lE omb (gE omp (gE omi (gE onp (gE ofp ?_)))))))
   refine g_val (v:= .pointer (some ((⟨T,7,none⟩:Addr).add (idn*1)))) rfl rfl rfl rfl rfl (e_indexArrI (a:=⟨T,7,none⟩) (k:=idn) rfl rfl vg18.ok (by omega)) ?_
   refine g_val (v:=Ix (tg.at idn)) rfl rfl rfl rfl rfl (e_load1 vg16.ok rfl (k_twT 4 rfl (by omega))) (gE onq (lE oktb (lnf ?_)))
   refine c_if _ rfl (fun hc27=> ?_) (fun hc27=> ?_)
   ·exact absurd hc27 (fun q_=>q_ ht0)
   refine csk (csr (lE omp (lv (v:= .func (.func 11) #[pp G2 0] #[]) (e_func (u:=[pp G2 0]) (v:=[]) rfl rfl) (lE oaf (lnf (cs2 (c_region (lE omb ?_))))))))
   refine lnf (c_no rfl (csk (csr (lE omp (lE omi (lE omi (lE onp (lE ofp ?_))))))))
   refine lv (v:= .pointer (some ((⟨T,14,none⟩:Addr).add (idn*1)))) (e_indexArrI (a:=⟨T,14,none⟩) (k:=idn) rfl rfl vg18.ok (by omega)) ?_
   refine lu (m_twN (v:=((tag:Nat):Int)) (k:=idn) 4 vg16.ok rfl rfl rfl (by omega)) (lnc (lE omf (lE omi (lE omi ?_))))
   refine lcf (cl0 (vs:=[Nx (idn),Nx (tag)]) vg19.ok rfl rfl) rfl fun w β1 sb kn hw1 back=>(thing_ok β1 w hw1 ((idn:Nat):Int) ((tag:Nat):Int)).mono ?_
   rintro e w' ⟨p28,c29,rfl,hw'⟩
   refine⟨_,rfl,_,back _ _ hw',?_⟩
   clear hw1 hw' back kn sb
   refine l_call rfl rfl rfl (cl_value (fst:=[pp G2 0]) (cap:=[]) (vs:=[.agg #[Nx (idn),.slice p28 (1) c29]]) (all:=[pp G2 0,.agg #[Nx (idn),.slice p28 (1) c29]]) vg23.ok rfl rfl rfl) ?_
   intro w hw
   replace hw:=hw.perm (L':=_::_::_::_::_::_::_::[]) (by exact(((((((perm_front 6 rfl).trans (perm_front 6 rfl)).trans (perm_front 6 rfl)).trans (perm_front 5 rfl)).trans (perm_front 5 rfl)).trans (perm_front 5 rfl)).trans (perm_front 6 rfl)))
   obtain⟨β1,sb,kn,hw1,back⟩:=St.frame (L:=[_]) (M:=_::_::_::_::_::_::[]) hw
   refine(net_actA (q:=none) (X1:=(playX (gt Xs za) (.put (thE ((idn:Nat):Int) ((tag:Nat):Int))))) hw1 ⟨hgl,hsl,hk.net.len⟩ hg3 fun β2 w S sb2 hw2=>(gput_ok β2 w (Cs.mono _ _ _ _ sb2 (Cs.mono _ _ _ _ sb hG)) G2 S N (gt Xs za) false hw2 (by omega) (thE ((idn:Nat):Int) ((tag:Nat):Int)) _ (Sl.mono _ _ _ _ _ sb2 (kn _ (k_flN 0 (F:=CpF) (m:=1) rfl rfl)))).mono fun _ _ q_=>act_st (eq_q hq0 q_)).mono ?_
   rintro e w' ⟨e30,rfl,hw'⟩
   refine⟨_,rfl,_,back _ _ hw',?_⟩
   clear hw hw1 hw' back kn sb
   refine lE oai (lnf (c_seq (c_tnNone rfl hzab hk.net.len (fun he=> ?_) (fun he=> ?_))))
   ·refine rbs 86 (v:= .int .i64 (0)) (congrArg (Value.int .i64) he) (rbs 15 (v:= .int .i64 (0)) (congrArg (Value.int .i64) he) (c_region (lE omi ?_)))
    refine lcR clA (fun w β1 sb kn hw1=>tpowered_ok β1 w hw1 0) (lE ont (lnf (c_no rfl (csr (lE omi (lE oeq_ (lnf (c_yes rfl ?_))))))))
    refine cnz [sv 92 (pp T 0) [] [] [0],sv 93 (Nx (idn)) [] [] [1],sv 94 (pp T 0) [] [] [0],sv 95 (Nx (idn)) [] [] [1],sv 96 (Nx (tag)) [] [] [2],sv 97 (pp T 0) [0] [0] [],sv 98 (pp T 7) [0,5] [5] [],sv 99 (.pointer (some ((⟨T,7,none⟩:Addr).add (idn*1)))) [0,1,4,5,6] [6,1] [],⟨[0,1,4,5,6,7],[7,4],[],[],fun _=>True⟩,sv 100 (pp T 0) [2] [2] [],sv 101 (pp T 14) [2,9] [9] [],sv 102 (.pointer (some ((⟨T,14,none⟩:Addr).add (idn*1)))) (List.range 11) [10,3] [],⟨(List.range 12),[11],[],[],fun _=>True⟩] [u0,u0,u0,u0,u0,(some 8,[8])] [⟨(some 8),(some 12),[12],[],fun _=>twR T ss gs p ms.length c (tg.upd idn ((tag:Nat):Int)) (nx.upd idn ((tag:Nat):Int))⟩,⟨(some 12),none,[],[],fun _=>twR T ss gs p ms.length c (tg.upd idn ((tag:Nat):Int)) ((nx.upd idn ((tag:Nat):Int)).upd idn 0)⟩] [(0,pp T 0),(7,Nx (idn)),(2,Nx (tag))] [] ⟨rfl,rfl,rfl,trivial⟩ ⟨?_,?_,?_,?_,?_,?_,?_,?_,?_,?_,?_,?_,?_,trivial⟩ ?_
    ·rintro f M-⟨i0,-⟩
     exact obE omp
    ·rintro f M-⟨i0,-⟩
     exact obE omi
    ·rintro f M-⟨i0,-⟩
     exact obE omp
    ·rintro f M-⟨i0,-⟩
     exact obE omi
    ·rintro f M-⟨i0,-⟩
     exact obE omi
    ·rintro f M ⟨k0,-⟩-
     exact obE onp
    ·rintro f M ⟨k0,-⟩-
     exact obE ofp
    ·rintro f M ⟨k0,k1,-⟩-
     exact ob0 (up_cons (d:=93) (up_cons (d:=98) rfl k0) k1) rfl (e_indexArrI (a:=⟨T,7,none⟩) (k:=idn) rfl rfl vg18.ok (by omega)) (.refl _)
    ·rintro f M ⟨k0,k1,-⟩-
     refine obS (up_cons (d:=96) (up_cons (d:=99) rfl k0) k1) ?_
     refine lu (m_twT (v:=((tag:Nat):Int)) (k:=idn) 0 vg16.ok rfl rfl rfl (by omega)) (l_nil ?_)
     exact f_owes_n (up_cons (d:=96) (up_cons (d:=99) rfl k0) k1) trivial (perm_front 0 rfl)
    ·rintro f M ⟨k0,-⟩-
     exact obE onp
    ·rintro f M ⟨k0,-⟩-
     exact obE ofp
    ·rintro f M ⟨k0,k1,-⟩-
     exact ob0 (up_cons (d:=95) (up_cons (d:=101) rfl k0) k1) rfl (e_indexArrI (a:=⟨T,14,none⟩) (k:=idn) rfl rfl vg18.ok (by omega)) (.refl _)
    ·rintro f M ⟨k0,-⟩-
     refine obS (up_cons (d:=102) rfl k0) ?_
     refine lu (m_twN (v:=0) (k:=idn) 0 vg16.ok rfl rfl rfl (by omega)) (l_nil ?_)
     exact f_owes_n (up_cons (d:=102) rfl k0) trivial (perm_front 0 rfl)
    rintro fa31 ⟨-,-,-,-,-,-,-,-,-,-,-,-,-,-⟩-
    refine fre ?_
    refine f_block (ftc (lE oab (lnf (c_ret (ret1 Tryz.results24 rfl ?_)))))
    intro w hw
    replace hw:=St.perm (st_mask [true,false,false,false,false,true,true] rfl hw) (perm_ix (L:=[tnR Gs Ss (Xs.set za (playX (gt Xs za) (.put (thE ((idn:Nat):Int) ((tag:Nat):Int))))) [1,1,1] (N+262500),msgsR p c ms,twR T ss gs p ms.length c (tg.upd idn ((tag:Nat):Int)) ((nx.upd idn ((tag:Nat):Int)).upd idn 0)]) (L':=[twR T ss gs p ms.length c (tg.upd idn ((tag:Nat):Int)) ((nx.upd idn ((tag:Nat):Int)).upd idn 0),tnR Gs Ss (Xs.set za (playX (gt Xs za) (.put (thE ((idn:Nat):Int) ((tag:Nat):Int))))) [1,1,1] (N+262500),msgsR p c ms]) [2,0,1] 3 rfl (by kernel_rfl) (by kernel_rfl))
    exact⟨rfl,gs,Gs,[1,1,1],p,c,(tg.upd idn ((tag:Nat):Int)),((nx.upd idn ((tag:Nat):Int)).upd idn 0),(Xs.set za (playX (gt Xs za) (.put (thE ((idn:Nat):Int) ((tag:Nat):Int))))),ms,hgl,hgs,rfl,us_up,htok.mono (Nat.le_succ _),ms_mv hms hmv,(by omega),hw⟩
   refine rbs 86 (v:= .int .i64 (310)) (congrArg (Value.int .i64) he) (rbs 15 (v:= .int .i64 (310)) (congrArg (Value.int .i64) he) (c_region ?_))
   refine lE omi (lcR clA (fun w β1 sb kn hw1=>tpowered_ok β1 w hw1 310) (lE ont (lnf (c_no rfl (csr (lE omi (lE oeq_ (lnf (c_no rfl (c_skip ?_))))))))))
   refine f_block (ftc (lE oab (lnf (c_ret (ret1 Tryz.results24 rfl ?_)))))
   intro w hw
   replace hw:=St.perm (st_mask [true,false,false,false,false,true,true] rfl hw) (perm_ix (L:=[tnR Gs Ss Xs ([1,1,1].set za 0) (N+262500),twR T ss gs p ms.length c tg (nx.upd idn ((tag:Nat):Int)),msgsR p c ms]) (L':=[twR T ss gs p ms.length c tg (nx.upd idn ((tag:Nat):Int)),tnR Gs Ss Xs ([1,1,1].set za 0) (N+262500),msgsR p c ms]) [1,0,2] 3 rfl (by kernel_rfl) (by kernel_rfl))
   exact⟨rfl,gs,Gs,([1,1,1].set za 0),p,c,tg,(nx.upd idn ((tag:Nat):Int)),Xs,ms,hgl,hgs,List.length_set,us_dn _,hk.mono (Nat.le_succ _),hms,(by omega),hw⟩
  refine c_region (lE omb (lE ont (lE omb (gE omp (gE omi (gE onp (gE ofp ?_)))))))
  refine g_val (v:= .pointer (some ((⟨T,7,none⟩:Addr).add (idn*1)))) rfl rfl rfl rfl rfl (e_indexArrI (a:=⟨T,7,none⟩) (k:=idn) rfl rfl vg18.ok (by omega)) ?_
  refine g_val (v:=Ix (tg.at idn)) rfl rfl rfl rfl rfl (e_load1 vg16.ok rfl (k_twT 4 rfl (by omega))) (gE onq (lE oktb (lnf ?_)))
  refine c_if _ rfl (fun hc32=> ?_) (fun hc32=> ?_)
  ·refine csr (lE oab (lnf (c_ret (f_then_ret (f_block_ret (f_then_ret (ret1 Tryz.results24 rfl ?_)))))))
   intro w hw
   rw[←tn_up ⟨hgl,hsl,hk.net.len⟩]at hw
   replace hw:=St.perm (st_mask [false,false,true,false,true,true] rfl hw) (perm_ix (L:=[tnR Gs Ss Xs [1,1,1] N,twR T ss gs p ms.length c tg nx,msgsR p c ms]) (L':=[twR T ss gs p ms.length c tg nx,tnR Gs Ss Xs [1,1,1] N,msgsR p c ms]) [1,0,2] 3 rfl (by kernel_rfl) (by kernel_rfl))
   exact⟨rfl,gs,Gs,[1,1,1],p,c,tg,nx,Xs,ms,hgl,hgs,rfl,us_up,hk.mono (Nat.le_succ _),hms,(by omega),hw.conseq_at 1 rfl fun _ q_=>tnL_mono (by omega) q_⟩
  exact absurd ht0 hc32
 ·refine c_region (lE ofp (lE (oli 0) ?_))
  refine lv (v:= .int .u8 (((kd.toNat%8:Nat)):Int)) (e_rem (a:=((kd).toNat:Int)) (b:=((8:Nat):Int)) rfl rfl (by decide) (nat_tmod _ _)) ?_
  refine lnf (c_block (cs2 (c_region (lE oeq_ (lE oab (lnf (c_if _ rfl (fun hc33=> ?_) (fun hc33=> ?_))))))))
  ·exact absurd hc33 (by omega)
  refine c_region (lE oeq_ (lE oab (lnf (c_if _ rfl (fun hc34=> ?_) (fun hc34=> ?_)))))
  ·exact absurd hc34 (by omega)
  refine c_seq_cut (fun(f:Fm) (L:List Res)=>∃(uu:Unit),(f 0=pp T 0∧f 4=pp b1 0∧f 7=Nx (idn)∧f 8=Nx (za)∧f 9=Nx (zb)∧f 10=pp G2 0∧f 41= .int .u8 (((kd.toNat%8:Nat)):Int)∧f 103= .bool true)∧L=[pt b1 (.cells #[Bx (kd),Bx (nn),Bx (aa),Bx (bb),.int .u16 (((pw:Nat)):Int)] 63),twR T ss gs p ms.length c tg nx,netR Gs Ss Xs N false,msgsR p c ms]∧(True)) ?_ ?_
  ·refine csr (lE oeq_ (lE oab (lnf (c_if _ rfl (fun hc35=> ?_) (fun hc35=> ?_)))))
   ·refine c_skip ?_
    refine f_rebase (d:=103) (show(.bool (decide (((kd.toNat%8:Nat):Int)=(2:Int))):Value)= .bool true from congrArg Value.bool (decide_eq_true (by omega))) ?_
    exact f_cut ⟨(),⟨rfl,rfl,rfl,rfl,rfl,rfl,rfl,rfl⟩,rfl,trivial⟩
   refine c_region (lE oeq_ (lE oab (l_nil ?_)))
   refine f_rebase (d:=103) (show(.bool (decide (((kd.toNat%8:Nat):Int)=(3:Int))):Value)= .bool true from congrArg Value.bool (decide_eq_true (by omega))) ?_
   exact f_cut ⟨(),⟨rfl,rfl,rfl,rfl,rfl,rfl,rfl,rfl⟩,rfl,trivial⟩
  rintro f0 L0 ⟨uu,⟨hs0,hs4,hs7,hs8,hs9,hs10,hs41,hs103⟩,hL,-⟩
  subst L0
  refine rbs 0 hs0 (rbs 4 hs4 (rbs 7 hs7 (rbs 8 hs8 (rbs 9 hs9 (rbs 10 hs10 (rbs 41 hs41 (rbs 103 hs103 (c_yes rfl (csr (lE omp (lE omi (lE omi ?_))))))))))))
  refine lv (v:=Nx (zb+1)) (e_add rfl rfl (i64n (by omega) (by omega))) ?_
  refine l_call rfl rfl rfl (cl0 (vs:=[pp G2 0,Nx (idn),Nx (zb+1)]) vg24.ok rfl rfl) ?_
  intro w hw
  replace hw:=hw.perm (L':=_::_::_::_::[]) (by exact((((perm_front 3 rfl).trans (perm_front 2 rfl)).trans (perm_front 2 rfl)).trans (perm_front 3 rfl)))
  obtain⟨β1,sb,kn,hw1,back⟩:=St.frame (L:=[_]) (M:=_::_::_::[]) hw
  refine(net_actA (q:=(giveF (gt Xs za) ((idn:Nat):Int) (ix zb))) (X1:=(playX (gt Xs za) (.give ((idn:Nat):Int) (ix zb)))) hw1 ⟨hgl,hsl,hk.net.len⟩ hg3 fun β2 w S sb2 hw2=>(ggive_ok β2 w (Cs.mono _ _ _ _ sb2 (Cs.mono _ _ _ _ sb hG)) G2 S N (gt Xs za) false hw2 (by omega) ((idn:Nat):Int) ((zb+1:Nat):Int) ⟨by omega,by omega⟩ ⟨by omega,by omega⟩).mono fun _ _ q_=>act_st q_).mono ?_
  rintro e w' ⟨e36,rfl,hw'⟩
  refine⟨_,rfl,_,back _ _ hw',?_⟩
  clear hw hw1 hw' back kn sb
  refine lE oai (lnf (c_seq ?_))
  rcases tok_give (id:=idn) hk (by omega) hzab hzbb with⟨hq0,hab⟩|hq0|⟨hq0,htok,hmv⟩
  ·refine c_re (L':=[tnA (some 2) (playX (gt Xs za) (.give ((idn:Nat):Int) (ix zb))) za e36 Gs Ss Xs (N+262500),pt b1 (.cells #[Bx (kd),Bx (nn),Bx (aa),Bx (bb),.int .u16 (((pw:Nat)):Int)] 63),twR T ss gs p ms.length c tg nx,msgsR p c ms]) (congrArg (fun z_:Option Int=>([tnA z_ (playX (gt Xs za) (.give ((idn:Nat):Int) (ix zb))) za e36 Gs Ss Xs (N+262500),pt b1 (.cells #[Bx (kd),Bx (nn),Bx (aa),Bx (bb),.int .u16 (((pw:Nat)):Int)] 63),twR T ss gs p ms.length c tg nx,msgsR p c ms]:List Res)) hq0) ?_
   refine c_tnSome rfl hzab hk.net.len (fun he=> ?_)
   refine rbs 110 (v:= .int .i64 (2)) (congrArg (Value.int .i64) he) (rbs 16 (v:= .int .i64 (2)) (congrArg (Value.int .i64) he) (c_region (lE omi ?_)))
   refine lcR clA (fun w β1 sb kn hw1=>tpowered_ok β1 w hw1 2) (lE omb (gE omi (gE oeq_ (lE okfb (lE omb (gE omi (gE oeq_ (gE omb (gE omi (gE omi ?_))))))))))
   refine gE oeq_ (gE oktb (lE okfb (lE oab (lnf (c_ret (f_block_ret (f_then_ret (ret1 Tryz.results24 rfl ?_))))))))
   intro w hw
   replace hw:=St.perm (st_mask [true,false,true,true] rfl hw) (perm_ix (L:=[tnR Gs Ss Xs [1,1,1] (N+262500),twR T ss gs p ms.length c tg nx,msgsR p c ms]) (L':=[twR T ss gs p ms.length c tg nx,tnR Gs Ss Xs [1,1,1] (N+262500),msgsR p c ms]) [1,0,2] 3 rfl (by kernel_rfl) (by kernel_rfl))
   exact⟨congrArg (fun b:Bool=>Ending.returned (.bool b)) (decide_eq_true (by omega)),gs,Gs,[1,1,1],p,c,tg,nx,Xs,ms,hgl,hgs,rfl,us_up,hk.mono (Nat.le_succ _),hms,(by omega),hw⟩
  ·refine c_re (L':=[tnA (some 6) (playX (gt Xs za) (.give ((idn:Nat):Int) (ix zb))) za e36 Gs Ss Xs (N+262500),pt b1 (.cells #[Bx (kd),Bx (nn),Bx (aa),Bx (bb),.int .u16 (((pw:Nat)):Int)] 63),twR T ss gs p ms.length c tg nx,msgsR p c ms]) (congrArg (fun z_:Option Int=>([tnA z_ (playX (gt Xs za) (.give ((idn:Nat):Int) (ix zb))) za e36 Gs Ss Xs (N+262500),pt b1 (.cells #[Bx (kd),Bx (nn),Bx (aa),Bx (bb),.int .u16 (((pw:Nat)):Int)] 63),twR T ss gs p ms.length c tg nx,msgsR p c ms]:List Res)) hq0) ?_
   refine c_tnSome rfl hzab hk.net.len (fun he=> ?_)
   refine rbs 110 (v:= .int .i64 (6)) (congrArg (Value.int .i64) he) (rbs 16 (v:= .int .i64 (6)) (congrArg (Value.int .i64) he) (c_region (lE omi ?_)))
   refine lcR clA (fun w β1 sb kn hw1=>tpowered_ok β1 w hw1 6) (lE omb (gE omi ?_))
   refine g_val (v:= .bool true) rfl rfl rfl rfl rfl (e_eql (a:=(6:Int)) (b:=(6:Int)) rfl rfl) (lE okfb (lE omb (skE (skE (skE ?_)))))
   refine l_skip_u rfl rfl rfl rfl rfl (l_skip_u rfl rfl rfl rfl rfl (l_skip_u rfl rfl rfl rfl rfl (skE (lE oktb (lE oab (lnf (c_ret (f_block_ret ?_))))))))
   refine f_then_ret (ret1 Tryz.results24 rfl ?_)
   intro w hw
   replace hw:=St.perm (st_mask [true,false,true,true] rfl hw) (perm_ix (L:=[tnR Gs Ss Xs [1,1,1] (N+262500),twR T ss gs p ms.length c tg nx,msgsR p c ms]) (L':=[twR T ss gs p ms.length c tg nx,tnR Gs Ss Xs [1,1,1] (N+262500),msgsR p c ms]) [1,0,2] 3 rfl (by kernel_rfl) (by kernel_rfl))
   exact⟨rfl,gs,Gs,[1,1,1],p,c,tg,nx,Xs,ms,hgl,hgs,rfl,us_up,hk.mono (Nat.le_succ _),hms,(by omega),hw⟩
  refine c_re (L':=[tnA none (playX (gt Xs za) (.give ((idn:Nat):Int) (ix zb))) za e36 Gs Ss Xs (N+262500),pt b1 (.cells #[Bx (kd),Bx (nn),Bx (aa),Bx (bb),.int .u16 (((pw:Nat)):Int)] 63),twR T ss gs p ms.length c tg nx,msgsR p c ms]) (congrArg (fun z_:Option Int=>([tnA z_ (playX (gt Xs za) (.give ((idn:Nat):Int) (ix zb))) za e36 Gs Ss Xs (N+262500),pt b1 (.cells #[Bx (kd),Bx (nn),Bx (aa),Bx (bb),.int .u16 (((pw:Nat)):Int)] 63),twR T ss gs p ms.length c tg nx,msgsR p c ms]:List Res)) hq0) ?_
  refine c_tnNone rfl hzab hk.net.len (fun he=> ?_) (fun he=> ?_)
  ·refine rbs 110 (v:= .int .i64 (0)) (congrArg (Value.int .i64) he) (rbs 16 (v:= .int .i64 (0)) (congrArg (Value.int .i64) he) (c_region (lE omi ?_)))
   refine lcR clA (fun w β1 sb kn hw1=>tpowered_ok β1 w hw1 0) (lE omb (skE (skE (lE oktb (lE omb (skE (skE (l_skip rfl rfl rfl rfl rfl rfl ?_))))))))
   refine l_skip_u rfl rfl rfl rfl rfl (l_skip_u rfl rfl rfl rfl rfl (l_skip_u rfl rfl rfl rfl rfl (skE (lE oktb (lE oab (lnf (c_ret (f_block_ret ?_))))))))
   refine f_then_ret (ret1 Tryz.results24 rfl ?_)
   intro w hw
   replace hw:=St.perm (st_mask [true,false,true,true] rfl hw) (perm_ix (L:=[tnR Gs Ss (Xs.set za (playX (gt Xs za) (.give ((idn:Nat):Int) (ix zb)))) [1,1,1] (N+262500),twR T ss gs p ms.length c tg nx,msgsR p c ms]) (L':=[twR T ss gs p ms.length c tg nx,tnR Gs Ss (Xs.set za (playX (gt Xs za) (.give ((idn:Nat):Int) (ix zb)))) [1,1,1] (N+262500),msgsR p c ms]) [1,0,2] 3 rfl (by kernel_rfl) (by kernel_rfl))
   exact⟨rfl,gs,Gs,[1,1,1],p,c,tg,nx,(Xs.set za (playX (gt Xs za) (.give ((idn:Nat):Int) (ix zb)))),ms,hgl,hgs,rfl,us_up,htok,ms_mv hms hmv,(by omega),hw⟩
  refine rbs 110 (v:= .int .i64 (310)) (congrArg (Value.int .i64) he) (rbs 16 (v:= .int .i64 (310)) (congrArg (Value.int .i64) he) (c_region ?_))
  refine lE omi (lcR clA (fun w β1 sb kn hw1=>tpowered_ok β1 w hw1 310) (lE omb (skE (skE (lE oktb (lE omb (skE (skE (skE ?_)))))))))
  refine l_skip_u rfl rfl rfl rfl rfl (l_skip_u rfl rfl rfl rfl rfl (l_skip_u rfl rfl rfl rfl rfl (skE (lE oktb (lE oab (lnf (c_ret (f_block_ret ?_))))))))
  refine f_then_ret (ret1 Tryz.results24 rfl ?_)
  intro w hw
  replace hw:=St.perm (st_mask [true,false,true,true] rfl hw) (perm_ix (L:=[tnR Gs Ss Xs ([1,1,1].set za 0) (N+262500),twR T ss gs p ms.length c tg nx,msgsR p c ms]) (L':=[twR T ss gs p ms.length c tg nx,tnR Gs Ss Xs ([1,1,1].set za 0) (N+262500),msgsR p c ms]) [1,0,2] 3 rfl (by kernel_rfl) (by kernel_rfl))
  exact⟨rfl,gs,Gs,([1,1,1].set za 0),p,c,tg,nx,Xs,ms,hgl,hgs,List.length_set,us_dn _,hk.mono (Nat.le_succ _),hms,(by omega),hw⟩
 ·refine c_region (lE ofp (lE (oli 0) ?_))
  refine lv (v:= .int .u8 (((kd.toNat%8:Nat)):Int)) (e_rem (a:=((kd).toNat:Int)) (b:=((8:Nat):Int)) rfl rfl (by decide) (nat_tmod _ _)) ?_
  refine lnf (c_block (cs2 (c_region (lE oeq_ (lE oab (lnf (c_if _ rfl (fun hc37=> ?_) (fun hc37=> ?_))))))))
  ·exact absurd hc37 (by omega)
  refine c_region (lE oeq_ (lE oab (lnf (c_if _ rfl (fun hc38=> ?_) (fun hc38=> ?_)))))
  ·exact absurd hc38 (by omega)
  refine cs2 (c_region (lE oeq_ (lE oab (lnf (c_if _ rfl (fun hc39=> ?_) (fun hc39=> ?_))))))
  ·exact absurd hc39 (by omega)
  refine c_region (lE oeq_ (lE oab (lnf (c_if _ rfl (fun hc40=> ?_) (fun hc40=> ?_)))))
  ·exact absurd hc40 (by omega)
  refine csr (lE oeq_ (lE oab (lnf (c_if _ rfl (fun hc41=> ?_) (fun hc41=> ?_)))))
  ·have hml2:=msgs_len hk.net hzab
   refine cnz [sv 128 (pp T 0) [] [] [0],sv 129 (pp T 0) [] [] [0],sv 130 (pp T 0) [1] [1] [],sv 131 (pp T 6) [1,2] [2] [],sv 132 (sB p ms c) [1,2,3] [3] [],sv 133 (pp G2 0) [] [] [1],⟨[5],[5],[],[134],fun f=>f 134=sB (sla (f 134)) (msgsX (gt Xs za)) (slc (f 134))⟩,⟨[1,2,3,4,5,6],[4,6],[],[135],fun f=>f 135=sB (sla (f 135)) (ms++(msgsX (gt Xs za))) (slc (f 135))⟩,sv 136 (pp T 0) (List.range 8) [0] [],sv 137 (pp T 6) (List.range 9) [8] [],⟨(List.range 10),[9,7],[],[],fun _=>True⟩] [u0,(some 10,[4,10]),u1 [6],(some 7,[7])] [⟨(some 6),(some 7),[7],[134],fun f=>msgsR (sla (f 134)) (slc (f 134)) (msgsX (gt Xs za))⟩,⟨(some 7),none,[],[135],fun f=>msgsR (sla (f 135)) (slc (f 135)) (ms++(msgsX (gt Xs za)))⟩,⟨(some 10),none,[],[135],fun f=>twR T ss gs (sla (f 135)) ((ms++(msgsX (gt Xs za))).length) (slc (f 135)) tg nx⟩] [(0,pp T 0),(10,pp G2 0)] [] ⟨rfl,rfl,trivial⟩ ⟨?_,?_,?_,?_,?_,?_,?_,?_,?_,?_,?_,trivial⟩ ?_
   ·rintro f M-⟨i0,-⟩
    exact obE omp
   ·rintro f M-⟨i0,-⟩
    exact obE omp
   ·rintro f M ⟨k0,-⟩-
    exact obE onp
   ·rintro f M ⟨k0,-⟩-
    exact obE ofp
   ·rintro f M ⟨k0,-⟩-
    exact obv (L':=twR T ss gs p ms.length c tg nx::M) (up_cons (d:=131) rfl k0) rfl (e_load1 vg26.ok rfl (k_twP 0 rfl)) (perm_front 0 rfl) (by rfl)
   ·rintro f M-⟨i0,-⟩
    exact obE omp
   ·rintro f M ⟨k0,-⟩-
    refine obS (up_cons (d:=133) rfl k0) ?_
    refine l_call rfl rfl rfl (cl0 (vs:=[pp G2 0]) vg27.ok rfl rfl) ?_
    intro w hw
    replace hw:=hw.perm (L':=_::M) (by exact(perm_front 0 rfl))
    obtain⟨β1,sb,kn,hw1,back⟩:=St.frame (L:=[_]) (M:=M) hw
    refine(net_keep (R:=fun p c=>msgsR p c (msgsX (gt Xs za))) hw1 ⟨hgl,hsl,hk.net.len⟩ hg3 fun β2 w S hw2=>(msgsG_ok β2 w G2 S N (gt Xs za) false hw2).mono fun _ _ q_=>shownM (L':=(msgsX (gt Xs za))) rfl q_).mono ?_
    rintro e w' ⟨p44,c45,rfl,hw'⟩
    refine⟨_,rfl,_,back _ _ hw',?_⟩
    clear hw hw1 hw' back kn sb
    refine l_nil ?_
    exact f_owes_d (up_cons (d:=133) rfl k0) rfl ((perm_front 0 rfl).trans (perm_front 1 rfl))
   ·rintro f M ⟨k0,k1,-⟩-
    have hs134:f 134=sB (sla (f 134)) (msgsX (gt Xs za)) (slc (f 134)):=k1
    refine obS (up_cons (up_cons (d:=132) rfl k0) hs134) ?_
    refine l_mv rfl rfl rfl (m_appendMsgs (xs:=ms) (ys:=(msgsX (gt Xs za))) (p:=p) (c:=c) (q:=(sla (f 134))) (c2:=(slc (f 134))) rfl vg28 vg29 rfl rfl (by show(ms.length+(msgsX (gt Xs za)).length)*_≤_;omega) (by omega)) ?_
    rintro _ _ ⟨p48,c49,rfl,rfl⟩
    refine l_nil ?_
    exact f_owes_d (up_cons (up_cons (d:=132) rfl k0) hs134) rfl (perm_front 0 rfl)
   ·rintro f M ⟨k0,-⟩-
    exact obE onp
   ·rintro f M ⟨k0,-⟩-
    exact obE ofp
   ·rintro f M ⟨k0,k1,-⟩-
    have hs135:f 135=sB (sla (f 135)) (ms++(msgsX (gt Xs za))) (slc (f 135)):=k1
    refine obS (up_cons (up_cons (d:=137) rfl k0) hs135) ?_
    refine lu (m_twP 0 vg26.ok rfl rfl rfl) (l_nil ?_)
    exact f_owes_n (up_cons (up_cons (d:=137) rfl k0) hs135) trivial (perm_front 0 rfl)
   rintro fa50 ⟨-,-,-,-,-,-,-,-,-,-,-,-⟩-
   refine fre ?_
   refine f_block (ftc (lE oab (lnf (c_ret (ret1 Tryz.results24 rfl ?_)))))
   intro w hw
   rw[←tn_up ⟨hgl,hsl,hk.net.len⟩]at hw
   replace hw:=St.perm (st_mask [false,true,true,true] rfl hw) (perm_ix (L:=[tnR Gs Ss Xs [1,1,1] N,msgsR (sla (fa50 135)) (slc (fa50 135)) (ms++(msgsX (gt Xs za))),twR T ss gs (sla (fa50 135)) ((ms++(msgsX (gt Xs za))).length) (slc (fa50 135)) tg nx]) (L':=[twR T ss gs (sla (fa50 135)) ((ms++(msgsX (gt Xs za))).length) (slc (fa50 135)) tg nx,tnR Gs Ss Xs [1,1,1] N,msgsR (sla (fa50 135)) (slc (fa50 135)) (ms++(msgsX (gt Xs za)))]) [2,0,1] 3 rfl (by kernel_rfl) (by kernel_rfl))
   exact⟨rfl,gs,Gs,[1,1,1],(sla (fa50 135)),(slc (fa50 135)),tg,nx,Xs,(ms++(msgsX (gt Xs za))),hgl,hgs,rfl,us_up,hk.mono (Nat.le_succ _),(fun m hm=>(List.mem_append.1 hm).elim (hms m) (tok_msgs hk hzab m)),(by rw[List.length_append];omega),hw.conseq_at 1 rfl fun _ q_=>tnL_mono (by omega) q_⟩
  exact absurd (by omega) hc41
 ·refine c_region (lE ofp (lE (oli 0) ?_))
  refine lv (v:= .int .u8 (((kd.toNat%8:Nat)):Int)) (e_rem (a:=((kd).toNat:Int)) (b:=((8:Nat):Int)) rfl rfl (by decide) (nat_tmod _ _)) ?_
  refine lnf (c_block (cs2 (c_region (lE oeq_ (lE oab (lnf (c_if _ rfl (fun hc51=> ?_) (fun hc51=> ?_))))))))
  ·exact absurd hc51 (by omega)
  refine c_region (lE oeq_ (lE oab (lnf (c_if _ rfl (fun hc52=> ?_) (fun hc52=> ?_)))))
  ·exact absurd hc52 (by omega)
  refine cs2 (c_region (lE oeq_ (lE oab (lnf (c_if _ rfl (fun hc53=> ?_) (fun hc53=> ?_))))))
  ·exact absurd hc53 (by omega)
  refine c_region (lE oeq_ (lE oab (lnf (c_if _ rfl (fun hc54=> ?_) (fun hc54=> ?_)))))
  ·exact absurd hc54 (by omega)
  refine csr (lE oeq_ (lE oab (lnf (c_if _ rfl (fun hc55=> ?_) (fun hc55=> ?_)))))
  ·exact absurd hc55 (by omega)
  refine c_seq_cut (fun(f:Fm) (L:List Res)=>∃(uu:Unit),(f 0=pp T 0∧f 4=pp b1 0∧f 8=Nx (za)∧f 10=pp G2 0∧f 41= .int .u8 (((kd.toNat%8:Nat)):Int)∧f 138= .bool true)∧L=[pt b1 (.cells #[Bx (kd),Bx (nn),Bx (aa),Bx (bb),.int .u16 (((pw:Nat)):Int)] 63),twR T ss gs p ms.length c tg nx,netR Gs Ss Xs N false,msgsR p c ms]∧(True)) ?_ ?_
  ·refine csr (lE oeq_ (lE oab (lnf (c_if _ rfl (fun hc56=> ?_) (fun hc56=> ?_)))))
   ·refine c_skip ?_
    refine f_rebase (d:=138) (show(.bool (decide (((kd.toNat%8:Nat):Int)=(5:Int))):Value)= .bool true from congrArg Value.bool (decide_eq_true (by omega))) ?_
    exact f_cut ⟨(),⟨rfl,rfl,rfl,rfl,rfl,rfl⟩,rfl,trivial⟩
   refine c_region (lE oeq_ (lE oab (l_nil ?_)))
   refine f_rebase (d:=138) (show(.bool (decide (((kd.toNat%8:Nat):Int)=(6:Int))):Value)= .bool true from congrArg Value.bool (decide_eq_true (by omega))) ?_
   exact f_cut ⟨(),⟨rfl,rfl,rfl,rfl,rfl,rfl⟩,rfl,trivial⟩
  rintro f0 L0 ⟨uu,⟨hs0,hs4,hs8,hs10,hs41,hs138⟩,hL,-⟩
  subst L0
  refine rbs 0 hs0 (rbs 4 hs4 (rbs 8 hs8 (rbs 10 hs10 (rbs 41 hs41 (rbs 138 hs138 (c_yes rfl (cs2 (c_region (lE omp (lE onp (lE ofp ?_)))))))))))
  refine lv (v:=sB p ms c) (e_load1 vg26.ok rfl (k_twP 1 rfl)) (lE oln (lE oeq_ (lnf (c_if _ rfl (fun hc57=> ?_) (fun hc57=> ?_)))))
  ·refine csr (lE oab (lnf (c_ret (f_then_ret (f_block_ret (f_then_ret (ret1 Tryz.results24 rfl ?_)))))))
   intro w hw
   rw[←tn_up ⟨hgl,hsl,hk.net.len⟩]at hw
   replace hw:=St.perm (st_mask [false,true,true,true] rfl hw) (perm_ix (L:=[twR T ss gs p ms.length c tg nx,tnR Gs Ss Xs [1,1,1] N,msgsR p c ms]) (L':=[twR T ss gs p ms.length c tg nx,tnR Gs Ss Xs [1,1,1] N,msgsR p c ms]) [0,1,2] 3 rfl (by kernel_rfl) (by kernel_rfl))
   exact⟨rfl,gs,Gs,[1,1,1],p,c,tg,nx,Xs,ms,hgl,hgs,rfl,us_up,hk.mono (Nat.le_succ _),hms,(by omega),hw.conseq_at 1 rfl fun _ q_=>tnL_mono (by omega) q_⟩
  refine csk (c_seq (c_pi [3,0,1,2] 4 rfl (by kernel_rfl) (c_openMsgs rfl fun mz hmz hmh=>c_rowcap 0 rfl (fun hcap1 hcap2=> ?_))))
  have hzl:(mz.map Prod.fst).length=ms.length:=by rw[←hmz,List.length_map,List.length_map]
  refine c_re (L':=[rowF MgF 38 p c (mz.map Prod.fst),poolR (MPool.e mz),pt b1 (.cells #[Bx (kd),Bx (nn),Bx (aa),Bx (bb),.int .u16 (((pw:Nat)):Int)] 63),twR T ss gs p ((mz.map Prod.fst).length) c tg nx,netR Gs Ss Xs N false]) (congrArg (fun z_:Nat=>([rowF MgF 38 p c (mz.map Prod.fst),poolR (MPool.e mz),pt b1 (.cells #[Bx (kd),Bx (nn),Bx (aa),Bx (bb),.int .u16 (((pw:Nat)):Int)] 63),twR T ss gs p z_ c tg nx,netR Gs Ss Xs N false]:List Res)) hzl.symm) ?_
  refine c_quiet (by kernel_rfl) (by kernel_rfl) (qE ofp (qE (oli 2) ?_))
  refine q_val (v:=Nx (nn.toNat)) rfl rfl rfl (e_conv (a:=((nn).toNat:Int)) rfl ⟨_,vg2⟩ vg3 (i64n rfl (by have:=(nn).toNat_lt;omega))) ?_
  refine qE omp (qE onp (qE ofp (q_val (v:=sB p (mz.map Prod.fst) c) rfl rfl rfl (e_load1 vg26.ok rfl (k_twP 3 rfl)) (qE oln ?_))))
  refine q_val (v:=Nx (nn.toNat%((mz.map Prod.fst).length))) rfl rfl rfl (e_rem (a:=((nn.toNat:Nat):Int)) (b:=(((mz.map Prod.fst).length:Nat):Int)) rfl rfl (by omega) (nat_tmod _ _)) ?_
  refine qE oai (q_nil (fts ?_))
  obtain⟨kz,hkz,hkzb⟩:∃q_:Nat,((q_:Nat):Int)=((nn.toNat%((mz.map Prod.fst).length):Nat):Int)∧q_<(mz.map Prod.fst).length:=⟨_,rfl,Nat.mod_lt _ (by omega)⟩
  refine rbs 17 (v:=Nx kz) (show(Nx (nn.toNat%((mz.map Prod.fst).length)):Value)=Nx kz from congrArg (Value.int .i64) hkz.symm) ?_
  obtain⟨x58,hx59⟩:∃x_,(mz.map Prod.fst)[kz]? =some x_:=⟨_,List.getElem?_eq_getElem (by first|omega|decide)⟩
  obtain⟨s60,hs61,hm62,hp63⟩:=msg_at hmz hmh hx59
  have hsm:s60∈ms:=List.mem_of_getElem? hs61
  have hfew:71*i≤4260:=by omega
  refine c_region (lE omp (lE onp (lE ofp (lv (v:=sB p (mz.map Prod.fst) c) (e_load1 vg26.ok rfl (k_twP 3 rfl)) (lE omi ?_)))))
  refine lv (v:= .pointer (some ((ba p).add (kz*6)))) (e_indexFlN 0 (F:=MgF) rfl rfl rfl vg28 (by omega) rfl) ?_
  refine lv (v:= .agg #[Ix (x58.src),Ix (x58.to),Ix (x58.number),.bool (x58.ack),Ix (x58.id),.slice x58.p (x58.n) x58.c]) (e_load vg31.ok rfl (k_flAt 0 (F:=MgF) rfl hx59) rfl) ?_
  refine alE fun b64=>lu (mS 0 (#[Ix (x58.src),Ix (x58.to),Ix (x58.number),.bool (x58.ack),Ix (x58.id),.slice x58.p (x58.n) x58.c])) (lnf ?_)
  refine c_seq_cut (fun(f:Fm) (L:List Res)=>∃(m2:MPool) (p2:Option Addr) (c2:Nat),(f 0=pp T 0∧f 18=pp b64 0)∧L=[pt b64 (.cells #[Ix (x58.src),Ix (x58.to),Ix (x58.number),.bool (x58.ack),Ix (x58.id),.slice x58.p (x58.n) x58.c] 38),rowF MgF 38 p2 c2 (m2.map Prod.fst),poolR (MPool.e mz),pt b1 (.cells #[Bx (kd),Bx (nn),Bx (aa),Bx (bb),.int .u16 (((pw:Nat)):Int)] 63),twR T ss gs p2 ((m2.map Prod.fst).length) c2 tg nx,netR Gs Ss Xs N false]∧((∀z_∈m2,z_∈mz)∧m2.length≤mz.length)) ?_ ?_
  ·refine csr (lE ofp (lE (oli 3) ?_))
   refine lv (v:= .int .u8 (((bb.toNat%2:Nat)):Int)) (e_rem (a:=((bb).toNat:Int)) (b:=((2:Nat):Int)) rfl rfl (by decide) (nat_tmod _ _)) ?_
   refine lE oeq_ (lnf (c_if _ rfl (fun hc65=> ?_) (fun hc65=> ?_)))
   ·refine cnz [sv 167 (pp T 0) [] [] [0],⟨[],[],[],[168],fun f=>f 168= .slice (some ⟨(blk (f 168)),0,none⟩) (0) 0⟩,sv 169 (pp T 0) [] [] [0],sv 170 (pp T 0) [2] [2] [],sv 171 (pp T 6) [2,3] [3] [],sv 172 (sB p (mz.map Prod.fst) c) [2,3,4] [4] [],sv 173 (Nx (kz)) [] [] [1],sv 174 (.slice p (kz) c) [2,3,4,5,6] [5,6] [],⟨[1,2,3,4,5,6,7],[1,7],[],[175],fun f=>f 175=sB (sla (f 175)) ([]++((mz.map Prod.fst).take kz)) (slc (f 175))⟩,sv 176 (pp T 0) [] [] [0],sv 177 (pp T 0) [9] [9] [],sv 178 (pp T 6) [9,10] [10] [],sv 179 (sB p (mz.map Prod.fst) c) [9,10,11] [11] [],sv 180 (Nx (kz)) [] [] [1],sv 181 (Nx (kz+1)) [13] [13] [],sv 182 (.slice (adv p c (kz+1) 6) ((mz.map Prod.fst).length-(kz+1)) (c-(kz+1))) [9,10,11,12,13,14] [12,14] [],⟨[1,2,3,4,5,6,7,8,9,10,11,12,13,14,15],[8,15],[],[183],fun f=>f 183=sB (sla (f 183)) (([]++((mz.map Prod.fst).take kz))++((mz.map Prod.fst).drop (kz+1))) (slc (f 183))⟩,sv 184 (pp T 0) (List.range 17) [0] [],sv 185 (pp T 6) (List.range 18) [17] [],⟨(List.range 19),[18,16],[],[],fun _=>True⟩] [u0,u1 [8,16],u0,u0,(some 19,[5,12,19])] [⟨(some 1),(some 8),[8],[168],fun f=>rowF MgF 38 (some ⟨(blk (f 168)),0,none⟩) 0 []⟩,⟨(some 8),(some 16),[16],[175],fun f=>rowF MgF 38 (sla (f 175)) (slc (f 175)) ([]++((mz.map Prod.fst).take kz))⟩,⟨(some 16),none,[],[183],fun f=>rowF MgF 38 (sla (f 183)) (slc (f 183)) (([]++((mz.map Prod.fst).take kz))++((mz.map Prod.fst).drop (kz+1)))⟩,⟨(some 19),none,[],[183],fun f=>twR T ss gs (sla (f 183)) ((([]++((mz.map Prod.fst).take kz))++((mz.map Prod.fst).drop (kz+1))).length) (slc (f 183)) tg nx⟩] [(0,pp T 0),(17,Nx (kz)),(18,pp b64 0)] [0,2] ⟨rfl,rfl,rfl,trivial⟩ ⟨?_,?_,?_,?_,?_,?_,?_,?_,?_,?_,?_,?_,?_,?_,?_,?_,?_,?_,?_,?_,trivial⟩ ?_
    ·rintro f M-⟨i0,-⟩
     exact obE omp
    ·rintro f M- -
     refine obS rfl ?_
     refine l_mv rfl rfl rfl (m_slice0 vg28) ?_
     rintro _ _ ⟨b67,rfl,rfl⟩
     refine l_conseq 0 rfl (r':=rowF MgF 38 (some ⟨b67,0,none⟩) 0 []) (fun a h=>pt_rowF (F:=MgF) (xs:=[]) rfl (by decide) a h) (l_nil ?_)
     exact f_owes_d rfl rfl (perm_front 0 rfl)
    ·rintro f M-⟨i0,-⟩
     exact obE omp
    ·rintro f M ⟨k0,-⟩-
     exact obE onp
    ·rintro f M ⟨k0,-⟩-
     exact obE ofp
    ·rintro f M ⟨k0,-⟩-
     exact obv (L':=twR T ss gs p ((mz.map Prod.fst).length) c tg nx::M) (up_cons (d:=171) rfl k0) rfl (e_load1 vg26.ok rfl (k_twP 0 rfl)) (perm_front 0 rfl) (by rfl)
    ·rintro f M-⟨i0,-⟩
     exact obE omi
    ·rintro f M ⟨k0,k1,-⟩-
     exact ob0 (up_cons (d:=173) (up_cons (d:=172) rfl k0) k1) rfl (e_slice_hi (a:=p) (len:=(mz.map Prod.fst).length) (cap:=c) (h:=kz) vg28 rfl rfl (by omega)) (.refl _)
    ·rintro f M ⟨k0,k1,-⟩-
     have hs168:f 168= .slice (some ⟨(blk (f 168)),0,none⟩) (0) 0:=k0
     refine obS (up_cons (d:=174) (up_cons rfl hs168) k1) ?_
     refine l_mv rfl rfl rfl (m_appendFlN 1 vg28 vg29 (F:=MgF) (m:=0) (p:=(some ⟨(blk (f 168)),0,none⟩)) (c0:=0) (xs:=[]) (ys:=((mz.map Prod.fst).take kz)) (ao:=p) (k:=kz) (c:=c) rfl rfl rfl rfl (by rw[List.length_take]<;>omega) (Knows.imp (k_flN 0 (F:=MgF) (m:=(mz.map Prod.fst).length) rfl (by omega)) fun _ h=>Elems.take kz (Sl.parts h).2.2.2) (by show([].length+_)*_≤_;simp only[sB,rB,List.length_append,List.length_take,List.length_nil];omega) (by simp only[sB,rB,List.length_append,List.length_take,List.length_nil];omega)) ?_
     rintro _ _ ⟨p70,c71,rfl,rfl⟩
     refine l_nil ?_
     exact f_owes_d (up_cons (d:=174) (up_cons rfl hs168) k1) rfl ((perm_front 1 rfl).trans (perm_front 1 rfl))
    ·rintro f M-⟨i0,-⟩
     exact obE omp
    ·rintro f M ⟨k0,-⟩-
     exact obE onp
    ·rintro f M ⟨k0,-⟩-
     exact obE ofp
    ·rintro f M ⟨k0,-⟩-
     exact obv (L':=twR T ss gs p ((mz.map Prod.fst).length) c tg nx::M) (up_cons (d:=178) rfl k0) rfl (e_load1 vg26.ok rfl (k_twP 0 rfl)) (perm_front 0 rfl) (by rfl)
    ·rintro f M-⟨i0,-⟩
     exact obE omi
    ·rintro f M ⟨k0,-⟩-
     exact ob0 (up_cons (d:=180) rfl k0) rfl (e_add (a:=((kz:Nat):Int)) (b:=(1:Int)) rfl rfl (i64n (by omega) (by omega))) (.refl _)
    ·rintro f M ⟨k0,k1,-⟩-
     exact ob0 (up_cons (d:=181) (up_cons (d:=179) rfl k0) k1) rfl (e_slice_lo (a:=p) (len:=(mz.map Prod.fst).length) (cap:=c) (l:=kz+1) vg28 rfl rfl (by omega)) (.refl _)
    ·rintro f M ⟨k0,k1,-⟩-
     have hs175:f 175=sB (sla (f 175)) ([]++((mz.map Prod.fst).take kz)) (slc (f 175)):=k0
     refine obS (up_cons (d:=182) (up_cons rfl hs175) k1) ?_
     refine l_mv rfl rfl rfl (m_appendFlN 1 vg28 vg29 (F:=MgF) (m:=([]++((mz.map Prod.fst).take kz)).length) (p:=(sla (f 175))) (c0:=(slc (f 175))) (xs:=([]++((mz.map Prod.fst).take kz))) (ys:=((mz.map Prod.fst).drop (kz+1))) (ao:=(adv p c (kz+1) 6)) (k:=((mz.map Prod.fst).length-(kz+1))) (c:=(c-(kz+1))) rfl rfl rfl rfl (by rw[List.length_drop]<;>omega) (Knows.imp (k_flN 0 (F:=MgF) (m:=(mz.map Prod.fst).length) rfl (by omega)) fun _ h=>Elems.drop (kz+1) (by have:=(Sl.parts h).2.1;omega) (Sl.parts h).2.2.2) (by show(([]++((mz.map Prod.fst).take kz)).length+_)*_≤_;simp only[sB,rB,List.length_append,List.length_take,List.length_nil];omega) (by simp only[sB,rB,List.length_append,List.length_take,List.length_nil];omega)) ?_
     rintro _ _ ⟨p74,c75,rfl,rfl⟩
     refine l_nil ?_
     exact f_owes_d (up_cons (d:=182) (up_cons rfl hs175) k1) rfl ((perm_front 1 rfl).trans (perm_front 1 rfl))
    ·rintro f M ⟨k0,-⟩-
     exact obE onp
    ·rintro f M ⟨k0,-⟩-
     exact obE ofp
    ·rintro f M ⟨k0,k1,-⟩-
     have hs183:f 183=sB (sla (f 183)) (([]++((mz.map Prod.fst).take kz))++((mz.map Prod.fst).drop (kz+1))) (slc (f 183)):=k1
     refine obS (up_cons (up_cons (d:=185) rfl k0) hs183) ?_
     refine lu (m_twP 0 vg26.ok rfl rfl rfl) (l_nil ?_)
     exact f_owes_n (up_cons (up_cons (d:=185) rfl k0) hs183) trivial (perm_front 0 rfl)
    rintro fa76 ⟨-,-,-,-,-,-,-,-,-,-,-,-,-,-,-,-,-,-,-,-,-⟩ ⟨j0,j1,-⟩
    refine fre ?_
    refine f_rebase (d:=0) j0 (f_rebase (d:=18) j1 (f_mask [true,false,true,true,true,true,true] rfl ?_))
    refine f_re (L':=[pt b64 (.cells #[Ix (x58.src),Ix (x58.to),Ix (x58.number),.bool (x58.ack),Ix (x58.id),.slice x58.p (x58.n) x58.c] 38),poolR (MPool.e mz),pt b1 (.cells #[Bx (kd),Bx (nn),Bx (aa),Bx (bb),.int .u16 (((pw:Nat)):Int)] 63),netR Gs Ss Xs N false,rowF MgF 38 (sla (fa76 183)) (slc (fa76 183)) ((mz.take kz++mz.drop (kz+1)).map Prod.fst),twR T ss gs (sla (fa76 183)) (((mz.take kz++mz.drop (kz+1)).map Prod.fst).length) (slc (fa76 183)) tg nx]) (congrArg (fun z_:List KMg=>([pt b64 (.cells #[Ix (x58.src),Ix (x58.to),Ix (x58.number),.bool (x58.ack),Ix (x58.id),.slice x58.p (x58.n) x58.c] 38),poolR (MPool.e mz),pt b1 (.cells #[Bx (kd),Bx (nn),Bx (aa),Bx (bb),.int .u16 (((pw:Nat)):Int)] 63),netR Gs Ss Xs N false,rowF MgF 38 (sla (fa76 183)) (slc (fa76 183)) z_,twR T ss gs (sla (fa76 183)) z_.length (slc (fa76 183)) tg nx]:List Res)) (rm_map mz kz)) ?_
    refine fpn [0,4,1,2,5,3] 6 ?_
    exact f_cut ⟨(mz.take kz++mz.drop (kz+1)),(sla (fa76 183)),(slc (fa76 183)),⟨rfl,rfl⟩,rfl,⟨rm_sub,rm_len⟩⟩
   refine c_skip ?_
   exact f_cut ⟨mz,p,c,⟨rfl,rfl⟩,rfl,⟨fun _ q_=>q_,Nat.le_refl _⟩⟩
  rintro f0 L0 ⟨m2,p2,c2,⟨hs0,hs18⟩,hL,⟨hsub,hl2⟩⟩
  subst L0
  refine rbs 0 hs0 (rbs 18 hs18 (c_seq ?_))
  obtain⟨b,hb3,hbt,htk⟩:=tok_take hk (hms s60 hsm)
  have hxt:x58.to=((b+1:Nat):Int):=hm62.to.trans hbt
  obtain⟨G77,hg78⟩:∃q_,Gs[b]? =some q_:=⟨_,List.getElem?_eq_getElem (by omega)⟩
  have hms2:∀m∈m2.map Prod.snd,m∈ms:=fun m hm=>by obtain⟨z_,hz_,rfl⟩:=List.mem_map.1 hm;rw[←hmz];exact List.mem_map.2 ⟨z_,hsub z_ hz_,rfl⟩
  have hl3:(m2.map Prod.snd).length≤71*(i+1):=by rw[List.length_map];rw[List.length_map]at hzl;omega
  refine cnz [sv 186 (pp T 0) [] [] [0],sv 187 (pp b64 1) [] [] [1],sv 188 (Ix (x58.to)) [1] [1] [],sv 189 (Ix ((x58.to)-(1:Int))) [1,2] [2] [],sv 190 (pp T 0) [0] [0] [],sv 191 (pp T 3) [0,4] [4] [],sv 192 (.pointer (some ((⟨T,3,none⟩:Addr).add (b*1)))) (List.range 6) [5,3] [],sv 193 (pp G77 0) (List.range 7) [6] [],sv 194 (.agg #[Ix (x58.src),Ix (x58.to),Ix (x58.number),.bool (x58.ack),Ix (x58.id),.slice x58.p (x58.n) x58.c]) [] [] [1],⟨(List.range 9),[7,8],[],[195],fun f=>f 195=Ix ((inE (f 195)))⟩,⟨(List.range 10),[9],[],[19,195],fun f=>f 19=Ix ((inE (f 195)))⟩] [u1 [2,8],u0,u1 [9],u0,u1 [7],(some 9,[9])] [⟨(some 9),none,[],[195],fun f=>tnA (takeF (gt Xs b) s60) (playX (gt Xs b) (takeO s60)) b (inE (f 195)) Gs Ss Xs (N+262500)⟩] [(0,pp T 0),(18,pp b64 0)] [] ⟨rfl,rfl,trivial⟩ ⟨?_,?_,?_,?_,?_,?_,?_,?_,?_,?_,?_,trivial⟩ ?_
  ·rintro f M-⟨i0,-⟩
   exact obE omp
  ·rintro f M-⟨i0,-⟩
   exact obE ofp
  ·rintro f M ⟨k0,-⟩-
   exact obE (oli 0)
  ·rintro f M ⟨k0,-⟩-
   exact obE omn
  ·rintro f M ⟨k0,-⟩-
   exact obE onp
  ·rintro f M ⟨k0,-⟩-
   exact obE ofp
  ·rintro f M ⟨k0,k1,-⟩-
   exact ob0 (up_cons (d:=189) (up_cons (d:=191) rfl k0) k1) rfl (e_indexArrI (a:=⟨T,3,none⟩) (k:=b) rfl (show(Ix ((x58.to)-(1:Int)):Value)=Ix ((b:Nat):Int)from congrArg (Value.int .i64) (by omega)) vg7.ok (by omega)) (.refl _)
  ·rintro f M ⟨k0,-⟩-
   exact obv (L':=twR T ss gs p2 ((m2.map Prod.fst).length) c2 tg nx::M) (up_cons (d:=192) rfl k0) rfl (e_load1 vg8.ok rfl (k_twGe 0 rfl (by omega) ((hgs b (by omega)).trans hg78))) (perm_front 0 rfl) (by rfl)
  ·rintro f M-⟨i0,-⟩
   exact obE (olg 0)
  ·rintro f M ⟨k0,k1,-⟩-
   refine obS (up_cons (d:=194) (up_cons (d:=193) rfl k0) k1) ?_
   refine l_call rfl rfl rfl (cl0 (vs:=[pp G77 0,.agg #[Ix (x58.src),Ix (x58.to),Ix (x58.number),.bool (x58.ack),Ix (x58.id),.slice x58.p (x58.n) x58.c]]) vg34.ok rfl rfl) ?_
   intro w hw
   replace hw:=hw.perm (L':=_::_::M) (by exact((perm_front 0 rfl).trans (perm_front 1 rfl)))
   obtain⟨β1,sb,kn,hw1,back⟩:=St.frame (L:=[_]) (M:=_::M) hw
   refine(net_actA (q:=(takeF (gt Xs b) s60)) (X1:=(playX (gt Xs b) (takeO s60))) hw1 ⟨hgl,hsl,hk.net.len⟩ hg78 fun β2 w S sb2 hw2=>(gtakeH_ok β2 w (Cs.mono _ _ _ _ sb2 (Cs.mono _ _ _ _ sb hG)) G77 S N (gt Xs b) false hw2 (by omega) x58 s60 hm62 (Sl.mono _ _ _ _ _ sb2 (kn _ (k_poolS (zs:=(MPool.e mz)) (z:=(x58.eh,s60.e)) 0 rfl hp63 hm62.eh)))).mono fun _ _ q_=>act_st q_).mono ?_
   rintro e w' ⟨e80,rfl,hw'⟩
   refine⟨_,rfl,_,back _ _ hw',?_⟩
   clear hw hw1 hw' back kn sb
   refine l_nil ?_
   exact f_owes_d (up_cons (d:=194) (up_cons (d:=193) rfl k0) k1) rfl ((perm_front 0 rfl).trans (perm_front 1 rfl))
  ·rintro f M ⟨k0,-⟩-
   have hs195:f 195=Ix ((inE (f 195))):=k0
   exact obE oai
  rintro fa81 ⟨-,-,-,-,-,-,-,-,-,-,k10,-⟩-
  refine fre ?_
  refine f_rebase (d:=19) k10 (fts (c_pi [5,0,1,2,3,4] 6 rfl (by kernel_rfl) ?_))
  rcases htk with⟨_,hq0,rfl|rfl⟩|⟨hq0,htok,hmv⟩
  ·refine c_re (L':=[tnA (some 0) (playX (gt Xs b) (takeO s60)) b (inE (fa81 195)) Gs Ss Xs (N+262500),pt b64 (.cells #[Ix (x58.src),Ix (x58.to),Ix (x58.number),.bool (x58.ack),Ix (x58.id),.slice x58.p (x58.n) x58.c] 38),rowF MgF 38 p2 c2 (m2.map Prod.fst),poolR (MPool.e mz),pt b1 (.cells #[Bx (kd),Bx (nn),Bx (aa),Bx (bb),.int .u16 (((pw:Nat)):Int)] 63),twR T ss gs p2 ((m2.map Prod.fst).length) c2 tg nx]) (congrArg (fun z_:Option Int=>([tnA z_ (playX (gt Xs b) (takeO s60)) b (inE (fa81 195)) Gs Ss Xs (N+262500),pt b64 (.cells #[Ix (x58.src),Ix (x58.to),Ix (x58.number),.bool (x58.ack),Ix (x58.id),.slice x58.p (x58.n) x58.c] 38),rowF MgF 38 p2 c2 (m2.map Prod.fst),poolR (MPool.e mz),pt b1 (.cells #[Bx (kd),Bx (nn),Bx (aa),Bx (bb),.int .u16 (((pw:Nat)):Int)] 63),twR T ss gs p2 ((m2.map Prod.fst).length) c2 tg nx]:List Res)) hq0) ?_
   refine c_tnSome rfl hb3 hk.net.len (fun he=> ?_)
   refine rbs 19 (v:= .int .i64 (0)) (congrArg (Value.int .i64) he) (c_region (lE omi (lcR clA (fun w β1 sb kn hw1=>tpowered_ok β1 w hw1 0) ?_)))
   refine lE omb (skE (skE (lE oktb (lE oab (lnf (c_ret (f_block_ret (f_then_ret (ret1 Tryz.results24 rfl ?_)))))))))
   intro w hw
   replace hw:=St.merge (L:=[rowF MgF 38 p2 c2 (m2.map Prod.fst),poolR (MPool.e mz)]) (M:=[tnR Gs Ss Xs [1,1,1] (N+262500),pt b64 (.cells #[Ix (x58.src),Ix (x58.to),Ix (x58.number),.bool (x58.ack),Ix (x58.id),.slice x58.p (x58.n) x58.c] 38),pt b1 (.cells #[Bx (kd),Bx (nn),Bx (aa),Bx (bb),.int .u16 (((pw:Nat)):Int)] 63),twR T ss gs p2 ((m2.map Prod.fst).length) c2 tg nx]) (St.perm hw (L':=[rowF MgF 38 p2 c2 (m2.map Prod.fst),poolR (MPool.e mz),tnR Gs Ss Xs [1,1,1] (N+262500),pt b64 (.cells #[Ix (x58.src),Ix (x58.to),Ix (x58.number),.bool (x58.ack),Ix (x58.id),.slice x58.p (x58.n) x58.c] 38),pt b1 (.cells #[Bx (kd),Bx (nn),Bx (aa),Bx (bb),.int .u16 (((pw:Nat)):Int)] 63),twR T ss gs p2 ((m2.map Prod.fst).length) c2 tg nx]) (by exact(perm_ix [2,3,0,1,4,5] 6 rfl (by kernel_rfl) (by kernel_rfl)))) (msgs_sub (fun z_ q_=>hmh z_ (hsub z_ q_)) hsub)
   rw[show(m2.map Prod.fst).length=(m2.map Prod.snd).length by rw[List.length_map,List.length_map]]at hw
   replace hw:=St.perm (st_mask [true,true,false,false,true] rfl hw) (perm_ix (L:=[msgsR p2 c2 (m2.map Prod.snd),tnR Gs Ss Xs [1,1,1] (N+262500),twR T ss gs p2 ((m2.map Prod.snd).length) c2 tg nx]) (L':=[twR T ss gs p2 ((m2.map Prod.snd).length) c2 tg nx,tnR Gs Ss Xs [1,1,1] (N+262500),msgsR p2 c2 (m2.map Prod.snd)]) [2,1,0] 3 rfl (by kernel_rfl) (by kernel_rfl))
   exact⟨rfl,gs,Gs,[1,1,1],p2,c2,tg,nx,Xs,(m2.map Prod.snd),hgl,hgs,rfl,us_up,hk.mono (Nat.le_succ _),(fun m hm=>hms m (hms2 m hm)),hl3,hw⟩
  ·refine c_re (L':=[tnA (some 320) (playX (gt Xs b) (takeO s60)) b (inE (fa81 195)) Gs Ss Xs (N+262500),pt b64 (.cells #[Ix (x58.src),Ix (x58.to),Ix (x58.number),.bool (x58.ack),Ix (x58.id),.slice x58.p (x58.n) x58.c] 38),rowF MgF 38 p2 c2 (m2.map Prod.fst),poolR (MPool.e mz),pt b1 (.cells #[Bx (kd),Bx (nn),Bx (aa),Bx (bb),.int .u16 (((pw:Nat)):Int)] 63),twR T ss gs p2 ((m2.map Prod.fst).length) c2 tg nx]) (congrArg (fun z_:Option Int=>([tnA z_ (playX (gt Xs b) (takeO s60)) b (inE (fa81 195)) Gs Ss Xs (N+262500),pt b64 (.cells #[Ix (x58.src),Ix (x58.to),Ix (x58.number),.bool (x58.ack),Ix (x58.id),.slice x58.p (x58.n) x58.c] 38),rowF MgF 38 p2 c2 (m2.map Prod.fst),poolR (MPool.e mz),pt b1 (.cells #[Bx (kd),Bx (nn),Bx (aa),Bx (bb),.int .u16 (((pw:Nat)):Int)] 63),twR T ss gs p2 ((m2.map Prod.fst).length) c2 tg nx]:List Res)) hq0) ?_
   refine c_tnSome rfl hb3 hk.net.len (fun he=> ?_)
   refine rbs 19 (v:= .int .i64 (320)) (congrArg (Value.int .i64) he) (c_region (lE omi (lcR clA (fun w β1 sb kn hw1=>tpowered_ok β1 w hw1 320) ?_)))
   refine lE omb (gE omi (gE oeq_ (lE okfb (lE oab (lnf (c_ret (f_block_ret (f_then_ret (ret1 Tryz.results24 rfl ?_)))))))))
   intro w hw
   replace hw:=St.merge (L:=[rowF MgF 38 p2 c2 (m2.map Prod.fst),poolR (MPool.e mz)]) (M:=[tnR Gs Ss Xs [1,1,1] (N+262500),pt b64 (.cells #[Ix (x58.src),Ix (x58.to),Ix (x58.number),.bool (x58.ack),Ix (x58.id),.slice x58.p (x58.n) x58.c] 38),pt b1 (.cells #[Bx (kd),Bx (nn),Bx (aa),Bx (bb),.int .u16 (((pw:Nat)):Int)] 63),twR T ss gs p2 ((m2.map Prod.fst).length) c2 tg nx]) (St.perm hw (L':=[rowF MgF 38 p2 c2 (m2.map Prod.fst),poolR (MPool.e mz),tnR Gs Ss Xs [1,1,1] (N+262500),pt b64 (.cells #[Ix (x58.src),Ix (x58.to),Ix (x58.number),.bool (x58.ack),Ix (x58.id),.slice x58.p (x58.n) x58.c] 38),pt b1 (.cells #[Bx (kd),Bx (nn),Bx (aa),Bx (bb),.int .u16 (((pw:Nat)):Int)] 63),twR T ss gs p2 ((m2.map Prod.fst).length) c2 tg nx]) (by exact(perm_ix [2,3,0,1,4,5] 6 rfl (by kernel_rfl) (by kernel_rfl)))) (msgs_sub (fun z_ q_=>hmh z_ (hsub z_ q_)) hsub)
   rw[show(m2.map Prod.fst).length=(m2.map Prod.snd).length by rw[List.length_map,List.length_map]]at hw
   replace hw:=St.perm (st_mask [true,true,false,false,true] rfl hw) (perm_ix (L:=[msgsR p2 c2 (m2.map Prod.snd),tnR Gs Ss Xs [1,1,1] (N+262500),twR T ss gs p2 ((m2.map Prod.snd).length) c2 tg nx]) (L':=[twR T ss gs p2 ((m2.map Prod.snd).length) c2 tg nx,tnR Gs Ss Xs [1,1,1] (N+262500),msgsR p2 c2 (m2.map Prod.snd)]) [2,1,0] 3 rfl (by kernel_rfl) (by kernel_rfl))
   exact⟨rfl,gs,Gs,[1,1,1],p2,c2,tg,nx,Xs,(m2.map Prod.snd),hgl,hgs,rfl,us_up,hk.mono (Nat.le_succ _),(fun m hm=>hms m (hms2 m hm)),hl3,hw⟩
  refine c_re (L':=[tnA none (playX (gt Xs b) (takeO s60)) b (inE (fa81 195)) Gs Ss Xs (N+262500),pt b64 (.cells #[Ix (x58.src),Ix (x58.to),Ix (x58.number),.bool (x58.ack),Ix (x58.id),.slice x58.p (x58.n) x58.c] 38),rowF MgF 38 p2 c2 (m2.map Prod.fst),poolR (MPool.e mz),pt b1 (.cells #[Bx (kd),Bx (nn),Bx (aa),Bx (bb),.int .u16 (((pw:Nat)):Int)] 63),twR T ss gs p2 ((m2.map Prod.fst).length) c2 tg nx]) (congrArg (fun z_:Option Int=>([tnA z_ (playX (gt Xs b) (takeO s60)) b (inE (fa81 195)) Gs Ss Xs (N+262500),pt b64 (.cells #[Ix (x58.src),Ix (x58.to),Ix (x58.number),.bool (x58.ack),Ix (x58.id),.slice x58.p (x58.n) x58.c] 38),rowF MgF 38 p2 c2 (m2.map Prod.fst),poolR (MPool.e mz),pt b1 (.cells #[Bx (kd),Bx (nn),Bx (aa),Bx (bb),.int .u16 (((pw:Nat)):Int)] 63),twR T ss gs p2 ((m2.map Prod.fst).length) c2 tg nx]:List Res)) hq0) ?_
  refine c_tnNone rfl hb3 hk.net.len (fun he=> ?_) (fun he=> ?_)
  ·refine rbs 19 (v:= .int .i64 (0)) (congrArg (Value.int .i64) he) (c_region (lE omi (lcR clA (fun w β1 sb kn hw1=>tpowered_ok β1 w hw1 0) ?_)))
   refine lE omb (skE (skE (lE oktb (lE oab (lnf (c_ret (f_block_ret (f_then_ret (ret1 Tryz.results24 rfl ?_)))))))))
   intro w hw
   replace hw:=St.merge (L:=[rowF MgF 38 p2 c2 (m2.map Prod.fst),poolR (MPool.e mz)]) (M:=[tnR Gs Ss (Xs.set b (playX (gt Xs b) (takeO s60))) [1,1,1] (N+262500),pt b64 (.cells #[Ix (x58.src),Ix (x58.to),Ix (x58.number),.bool (x58.ack),Ix (x58.id),.slice x58.p (x58.n) x58.c] 38),pt b1 (.cells #[Bx (kd),Bx (nn),Bx (aa),Bx (bb),.int .u16 (((pw:Nat)):Int)] 63),twR T ss gs p2 ((m2.map Prod.fst).length) c2 tg nx]) (St.perm hw (L':=[rowF MgF 38 p2 c2 (m2.map Prod.fst),poolR (MPool.e mz),tnR Gs Ss (Xs.set b (playX (gt Xs b) (takeO s60))) [1,1,1] (N+262500),pt b64 (.cells #[Ix (x58.src),Ix (x58.to),Ix (x58.number),.bool (x58.ack),Ix (x58.id),.slice x58.p (x58.n) x58.c] 38),pt b1 (.cells #[Bx (kd),Bx (nn),Bx (aa),Bx (bb),.int .u16 (((pw:Nat)):Int)] 63),twR T ss gs p2 ((m2.map Prod.fst).length) c2 tg nx]) (by exact(perm_ix [2,3,0,1,4,5] 6 rfl (by kernel_rfl) (by kernel_rfl)))) (msgs_sub (fun z_ q_=>hmh z_ (hsub z_ q_)) hsub)
   rw[show(m2.map Prod.fst).length=(m2.map Prod.snd).length by rw[List.length_map,List.length_map]]at hw
   replace hw:=St.perm (st_mask [true,true,false,false,true] rfl hw) (perm_ix (L:=[msgsR p2 c2 (m2.map Prod.snd),tnR Gs Ss (Xs.set b (playX (gt Xs b) (takeO s60))) [1,1,1] (N+262500),twR T ss gs p2 ((m2.map Prod.snd).length) c2 tg nx]) (L':=[twR T ss gs p2 ((m2.map Prod.snd).length) c2 tg nx,tnR Gs Ss (Xs.set b (playX (gt Xs b) (takeO s60))) [1,1,1] (N+262500),msgsR p2 c2 (m2.map Prod.snd)]) [2,1,0] 3 rfl (by kernel_rfl) (by kernel_rfl))
   exact⟨rfl,gs,Gs,[1,1,1],p2,c2,tg,nx,(Xs.set b (playX (gt Xs b) (takeO s60))),(m2.map Prod.snd),hgl,hgs,rfl,us_up,htok.mono (Nat.le_succ _),(fun m hm=>(hms m (hms2 m hm)).mv hmv),hl3,hw⟩
  refine rbs 19 (v:= .int .i64 (310)) (congrArg (Value.int .i64) he) (c_region (lE omi (lcR clA (fun w β1 sb kn hw1=>tpowered_ok β1 w hw1 310) ?_)))
  refine lE omb (skE (skE (lE oktb (lE oab (lnf (c_ret (f_block_ret (f_then_ret (ret1 Tryz.results24 rfl ?_)))))))))
  intro w hw
  replace hw:=St.merge (L:=[rowF MgF 38 p2 c2 (m2.map Prod.fst),poolR (MPool.e mz)]) (M:=[tnR Gs Ss Xs ([1,1,1].set b 0) (N+262500),pt b64 (.cells #[Ix (x58.src),Ix (x58.to),Ix (x58.number),.bool (x58.ack),Ix (x58.id),.slice x58.p (x58.n) x58.c] 38),pt b1 (.cells #[Bx (kd),Bx (nn),Bx (aa),Bx (bb),.int .u16 (((pw:Nat)):Int)] 63),twR T ss gs p2 ((m2.map Prod.fst).length) c2 tg nx]) (St.perm hw (L':=[rowF MgF 38 p2 c2 (m2.map Prod.fst),poolR (MPool.e mz),tnR Gs Ss Xs ([1,1,1].set b 0) (N+262500),pt b64 (.cells #[Ix (x58.src),Ix (x58.to),Ix (x58.number),.bool (x58.ack),Ix (x58.id),.slice x58.p (x58.n) x58.c] 38),pt b1 (.cells #[Bx (kd),Bx (nn),Bx (aa),Bx (bb),.int .u16 (((pw:Nat)):Int)] 63),twR T ss gs p2 ((m2.map Prod.fst).length) c2 tg nx]) (by exact(perm_ix [2,3,0,1,4,5] 6 rfl (by kernel_rfl) (by kernel_rfl)))) (msgs_sub (fun z_ q_=>hmh z_ (hsub z_ q_)) hsub)
  rw[show(m2.map Prod.fst).length=(m2.map Prod.snd).length by rw[List.length_map,List.length_map]]at hw
  replace hw:=St.perm (st_mask [true,true,false,false,true] rfl hw) (perm_ix (L:=[msgsR p2 c2 (m2.map Prod.snd),tnR Gs Ss Xs ([1,1,1].set b 0) (N+262500),twR T ss gs p2 ((m2.map Prod.snd).length) c2 tg nx]) (L':=[twR T ss gs p2 ((m2.map Prod.snd).length) c2 tg nx,tnR Gs Ss Xs ([1,1,1].set b 0) (N+262500),msgsR p2 c2 (m2.map Prod.snd)]) [2,1,0] 3 rfl (by kernel_rfl) (by kernel_rfl))
  exact⟨rfl,gs,Gs,([1,1,1].set b 0),p2,c2,tg,nx,Xs,(m2.map Prod.snd),hgl,hgs,List.length_set,us_dn _,hk.mono (Nat.le_succ _),(fun m hm=>hms m (hms2 m hm)),hl3,hw⟩
 refine c_region (lE ofp (lE (oli 0) ?_))
 refine lv (v:= .int .u8 (((kd.toNat%8:Nat)):Int)) (e_rem (a:=((kd).toNat:Int)) (b:=((8:Nat):Int)) rfl rfl (by decide) (nat_tmod _ _)) ?_
 refine lnf (c_block (cs2 (c_region (lE oeq_ (lE oab (lnf (c_if _ rfl (fun hc82=> ?_) (fun hc82=> ?_))))))))
 ·exact absurd hc82 (by omega)
 refine c_region (lE oeq_ (lE oab (lnf (c_if _ rfl (fun hc83=> ?_) (fun hc83=> ?_)))))
 ·exact absurd hc83 (by omega)
 refine cs2 (c_region (lE oeq_ (lE oab (lnf (c_if _ rfl (fun hc84=> ?_) (fun hc84=> ?_))))))
 ·exact absurd hc84 (by omega)
 refine c_region (lE oeq_ (lE oab (lnf (c_if _ rfl (fun hc85=> ?_) (fun hc85=> ?_)))))
 ·exact absurd hc85 (by omega)
 refine csr (lE oeq_ (lE oab (lnf (c_if _ rfl (fun hc86=> ?_) (fun hc86=> ?_)))))
 ·exact absurd hc86 (by omega)
 refine cs2 (c_region (lE oeq_ (lE oab (lnf (c_if _ rfl (fun hc87=> ?_) (fun hc87=> ?_))))))
 ·exact absurd hc87 (by omega)
 refine c_region (lE oeq_ (lE oab (lnf (c_if _ rfl (fun hc88=> ?_) (fun hc88=> ?_)))))
 ·exact absurd hc88 (by omega)
 refine csr (lE oeq_ (lE oab (lnf (c_if _ rfl (fun hc89=> ?_) (fun hc89=> ?_)))))
 ·refine cs2 (c_region (lE ofp (lE (oli 0) ?_)))
  refine lv (v:= .int .u8 (((bb.toNat%2:Nat)):Int)) (e_rem (a:=((bb).toNat:Int)) (b:=((2:Nat):Int)) rfl rfl (by decide) (nat_tmod _ _)) ?_
  refine lE oeq_ (lnf (c_if _ rfl (fun hc90=> ?_) (fun hc90=> ?_)))
  ·refine c_seq ?_
   obtain⟨S91,hS92⟩:∃q_,Ss[za]? =some q_:=⟨_,List.getElem?_eq_getElem (by omega)⟩
   refine c_re (L':=[pt b1 (.cells #[Bx (kd),Bx (nn),Bx (aa),Bx (bb),.int .u16 (((pw:Nat)):Int)] 63),twR T ss gs p ms.length c tg nx,tnR Gs Ss Xs [1,1,1] N,msgsR p c ms]) (congrArg (fun z_:Res=>([pt b1 (.cells #[Bx (kd),Bx (nn),Bx (aa),Bx (bb),.int .u16 (((pw:Nat)):Int)] 63),twR T ss gs p ms.length c tg nx,z_,msgsR p c ms]:List Res)) (tn_up ⟨hgl,hsl,hk.net.len⟩).symm) ?_
   refine c_region (lE omp (lE omi (lE ofp (lE (oli 0) (lv (v:=Nx (pw)) (e_conv (a:=((pw:Nat):Int)) rfl ⟨_,vg37⟩ vg3 (i64n rfl (by omega))) ?_)))))
   refine l_call rfl rfl rfl (cl0 (vs:=[pp T 0,Nx (za),Nx (pw)]) vg38.ok rfl rfl) ?_
   intro w hw
   replace hw:=hw.perm (L':=_::_::_::_::[]) (by exact((((perm_front 3 rfl).trans (perm_front 1 rfl)).trans (perm_front 3 rfl)).trans (perm_front 3 rfl)))
   obtain⟨β1,sb,kn,hw1,back⟩:=St.frame (L:=[_,_]) (M:=_::_::[]) hw
   refine(tn_shelf (A:=fun G=>twR T ss (gs.upd za (some G)) p ms.length c tg nx) (v:=1) hw1 ⟨hgl,hsl,hk.net.len⟩ rfl hS92 (ups_at hzab) fun β2 w hw2=>topen_ok β2 w T ss gs p ms.length c tg nx za S91 N (by omega) ((hss za (by omega)).trans hS92) (gt Xs za) (hk.net.ok za (by omega)).2 (by omega) ((pw:Nat):Int) ⟨by omega,by omega⟩ false (fun q=>by cases q) hw2).mono ?_
   rintro e w' ⟨G93,rfl,hw'⟩
   refine⟨_,rfl,_,back _ _ hw',?_⟩
   clear hw hw1 hw' back kn sb
   refine lE oab (lnf (c_ret (f_then_ret (f_block_ret (f_then_ret (ret1 Tryz.results24 rfl ?_))))))
   intro w hw
   rw[ups_set hzab]at hw
   replace hw:=St.perm (st_mask [true,true,false,true] rfl hw) (perm_ix (L:=[twR T ss (gs.upd za (some G93)) p ms.length c tg nx,tnR (Gs.set za G93) Ss Xs [1,1,1] N,msgsR p c ms]) (L':=[twR T ss (gs.upd za (some G93)) p ms.length c tg nx,tnR (Gs.set za G93) Ss Xs [1,1,1] N,msgsR p c ms]) [0,1,2] 3 rfl (by kernel_rfl) (by kernel_rfl))
   exact⟨rfl,(gs.upd za (some G93)),(Gs.set za G93),[1,1,1],p,c,tg,nx,Xs,ms,(by simp only[sB,List.length_set];exact hgl),(upd_gs hgl hgs hzab),rfl,us_up,hk.mono (Nat.le_succ _),hms,(by omega),hw.conseq_at 1 rfl fun _ q_=>tnL_mono (by omega) q_⟩
  refine csk (csr (lE omp (l_call rfl rfl rfl (cl0 (vs:=[pp G2 0]) vg39.ok rfl rfl) ?_)))
  intro w hw
  replace hw:=hw.perm (L':=_::_::_::_::[]) (by exact((((perm_front 3 rfl).trans (perm_front 2 rfl)).trans (perm_front 2 rfl)).trans (perm_front 3 rfl)))
  obtain⟨β1,sb,kn,hw1,back⟩:=St.frame (L:=[_]) (M:=_::_::_::[]) hw
  refine(net_actA (q:=none) (X1:=(gt Xs za)) hw1 ⟨hgl,hsl,hk.net.len⟩ hg3 fun β2 w S sb2 hw2=>(gcompact_ok β2 w G2 S N (gt Xs za) hw2 (by omega)).mono fun _ _ q_=>end_st q_).mono ?_
  rintro e w' ⟨e94,rfl,hw'⟩
  refine⟨_,rfl,_,back _ _ hw',?_⟩
  clear hw hw1 hw' back kn sb
  refine lcR clA (fun w β1 sb kn hw1=>tpowered_ok β1 w hw1 e94) (lE oab (lnf (c_ret (f_block_ret (f_then_ret (ret1 Tryz.results24 rfl ?_))))))
  intro w hw
  rcases St.tnNone hzab hk.net.len (St.perm hw (L':=[tnA none (gt Xs za) za e94 Gs Ss Xs (N+262500),pt b1 (.cells #[Bx (kd),Bx (nn),Bx (aa),Bx (bb),.int .u16 (((pw:Nat)):Int)] 63),twR T ss gs p ms.length c tg nx,msgsR p c ms]) (by exact(perm_ix [0,1,2,3] 4 rfl (by kernel_rfl) (by kernel_rfl))))with⟨he,hx⟩|⟨he,hx⟩
  ·subst he
   replace hw:=hx
   rw[gt_setSame (by rw[hk.net.len];exact hzab)]at hw
   replace hw:=St.perm (st_mask [true,false,true,true] rfl hw) (perm_ix (L:=[tnR Gs Ss Xs [1,1,1] (N+262500),twR T ss gs p ms.length c tg nx,msgsR p c ms]) (L':=[twR T ss gs p ms.length c tg nx,tnR Gs Ss Xs [1,1,1] (N+262500),msgsR p c ms]) [1,0,2] 3 rfl (by kernel_rfl) (by kernel_rfl))
   exact⟨rfl,gs,Gs,[1,1,1],p,c,tg,nx,Xs,ms,hgl,hgs,rfl,us_up,hk.mono (Nat.le_succ _),hms,(by omega),hw⟩
  subst he
  replace hw:=hx
  replace hw:=St.perm (st_mask [true,false,true,true] rfl hw) (perm_ix (L:=[tnR Gs Ss Xs ([1,1,1].set za 0) (N+262500),twR T ss gs p ms.length c tg nx,msgsR p c ms]) (L':=[twR T ss gs p ms.length c tg nx,tnR Gs Ss Xs ([1,1,1].set za 0) (N+262500),msgsR p c ms]) [1,0,2] 3 rfl (by kernel_rfl) (by kernel_rfl))
  exact⟨rfl,gs,Gs,([1,1,1].set za 0),p,c,tg,nx,Xs,ms,hgl,hgs,List.length_set,us_dn _,hk.mono (Nat.le_succ _),hms,(by omega),hw⟩
 exact absurd (by omega) hc89
end Go.Proofs
