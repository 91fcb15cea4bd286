/-
 BroadPlays: walked. Printed by a program of my own.
-/
import Derived.Test.YtmgpmgckbcjalaaGreatBr21
namespace Go.Brd
open Go.Sl Go.Proofs
structure KOb where
 kind:UInt8
 id:Int
 ar:KA
abbrev OpF:Fl KOb:=⟨6,fun o=>[Bx o.kind,Ix o.id,Ix o.ar.lx,Ix o.ar.ly,Ix o.ar.hx,Ix o.ar.hy],fun _=>rfl,fun _=>rfl,by decide⟩
end Go.Brd
namespace Go.Proofs
open Go Go.Sl Go.Brd
theorem tf263:Tryz.prog.underlying 25=some (.slice 61):=by kernel_rfl
theorem tf264:slB Tryz.prog 25 61 6=true:=by kernel_rfl
theorem tf265:tyB Tryz.prog 61 true 6=true:=by kernel_rfl
theorem tf266:(Tryz.prog.info? 61).bind (·.zero)=some (.agg #[.int .u8 (0),.int .i64 (0),.int .i64 (0),.int .i64 (0),.int .i64 (0),.int .i64 (0)]):=by kernel_rfl
theorem tf267:fldB Tryz.prog 61 0 0 1 false=true:=by kernel_rfl
theorem tf268:fldB Tryz.prog 61 1 1 1 false=true:=by kernel_rfl
theorem tf269:fldB Tryz.prog 61 2 2 4 true=true:=by kernel_rfl
theorem tf270:cfB Tryz.prog 27=true:=by kernel_rfl
theorem tf271:cfB Tryz.prog 29=true:=by kernel_rfl
theorem tf272:cfB Tryz.prog 30=true:=by kernel_rfl
theorem tf273:cfB Tryz.prog 8=true:=by kernel_rfl
set_option maxHeartbeats 4000000 in
theorem plays_ok(β:Base)(w:World)(hw:St β [] w)(v:Value)(l:List KOb)(hs:Sl OpF.R β.heap v l)(hn:l.length≤1000000):Calls Tryz.prog 8 #[v] w fun r w'=>r= .returned (.bool true)∧St β [] w':=by
 obtain⟨va,vc,rfl,vl,vm,ve⟩:=hs.get
 refine enter (n:=131) Tryz.func8 rfl Tryz.ntmps8 rfl ?_ hw
 refine c_seq ?_
 refine c_region ?_
 refine l_val (v:= .bool false) rfl rfl rfl (e_assign) ?_
 refine l_nil ?_
 refine f_then ?_
 refine c_seq ?_
 refine c_region ?_
 refine l_call rfl rfl rfl (cl_value (fst:=[]) (cap:=[]) (vs:=[]) (all:=[]) tf74 rfl rfl rfl) ?_
 intro w hw
 obtain⟨β1,sb,kn,hw1,back⟩:=St.frame_all hw
 refine(new_ok β1 w hw1).mono ?_
 rintro e w' ⟨b1,rfl,hw'⟩
 refine⟨_,rfl,_,back _ _ hw',?_⟩
 clear hw hw1 hw' back kn sb
 refine l_val (v:= .pointer (some ⟨b1,0,none⟩)) rfl rfl rfl (e_assign) ?_
 refine l_nil ?_
 refine f_then ?_
 refine c_seq ?_
 refine c_region ?_
 refine l_mv rfl rfl rfl (m_alloc tf252) ?_
 rintro _ _ ⟨b2,rfl,rfl⟩
 refine l_nil ?_
 refine f_then ?_
 refine c_seq ?_
 refine c_seq ?_
 refine c_emp (r:=rowF PairF 55 none 0 []) (row_nil _ _ _) ?_
 refine c_emp (r:=rowF AreaF 32 none 0 []) (row_nil _ _ _) ?_
 refine c_emp (r:=rowF IntF 3 none 0 []) (row_nil _ _ _) ?_
 refine c_perm (L':=[spcR b1 (⟨[],[]⟩),pt b2 (.cells #[.slice none (0) 0,.slice none (0) 0,.slice none (0) 0] 59),rowF IntF 3 none 0 [],rowF AreaF 32 none 0 [],rowF PairF 55 none 0 []]) (perm_ix [4,3,0,1,2] 5 rfl (by kernel_rfl) (by kernel_rfl)) ?_
 refine c_region ?_
 refine l_val (v:= .int .i64 (0)) rfl rfl rfl (e_assign) ?_
 refine l_nil ?_
 refine f_then ?_
 refine c_block ?_
 refine c_loop (fun(x_:Nat×KSp×ES×List KP×Option Addr×Nat×Option Addr×Nat×Option Addr×Nat) (f:Fm) (L:List Res)=>match x_ with|(k,s,es,t,p,c,q,d,u,e)=>(f 0= .slice va (l.length) (vc)∧f 3= .pointer (some ⟨b1,0,none⟩)∧f 4= .pointer (some ⟨b2,0,none⟩)∧f 5=Nx (k))∧L=[spcR b1 s,pt b2 (.cells #[.slice p ((idsE es).length) c,.slice q ((arsE es).length) d,.slice u (t.length) e] 59),rowF IntF 3 p c (idsE es),rowF AreaF 32 q d (arsE es),rowF PairF 55 u e t]∧(k≤l.length∧RelS es t s)) (fun(x_:Nat×KSp×ES×List KP×Option Addr×Nat×Option Addr×Nat×Option Addr×Nat)=>match x_ with|(k,s,es,t,p,c,q,d,u,e)=>l.length-k) (0,(⟨[],[]⟩),[],[],none,0,none,0,none,0) ?_ ?_
 ·exact⟨⟨rfl,rfl,rfl,rfl⟩,rfl,⟨by omega,RelS.new⟩⟩
 rintro⟨k,s,es,t,p,c,q,d,u,e⟩ f0 L0 ⟨⟨hs0,hs3,hs4,hs5⟩,hL,⟨hk,hR⟩⟩
 subst L0
 refine rebase (d:=0) hs0 ?_
 refine rebase (d:=3) hs3 ?_
 refine rebase (d:=4) hs4 ?_
 refine rebase (d:=5) hs5 ?_
 clear hs0 hs3 hs4 hs5
 have hef:=hR.few
 have htf:=hR.tfew
 have hok:=hR.areas
 refine c_seq ?_
 refine c_seq ?_
 refine c_region ?_
 refine l_val (v:=Nx (k)) rfl rfl rfl (e_move) ?_
 refine l_val (v:= .slice va (l.length) (vc)) rfl rfl rfl (e_move) ?_
 refine l_val (v:=Nx (l.length)) rfl rfl rfl (e_len (a:=va) (n:=l.length) (c:=vc) rfl tf263) ?_
 refine l_val (v:= .bool (decide (((k:Nat):Int)<((l.length:Nat):Int)))) rfl rfl rfl (e_lss (a:=((k:Nat):Int)) (b:=((l.length:Nat):Int)) rfl rfl) ?_
 refine l_nil ?_
 refine f_then ?_
 refine c_if (((k:Nat):Int)<((l.length:Nat):Int)) rfl (fun hc3=> ?_) (fun hc3=> ?_)
 ·
  refine c_skip ?_
  refine f_then ?_
  refine c_seq ?_
  refine c_block ?_
  refine c_seq ?_
  refine c_region ?_
  refine l_val (v:= .int .i64 (0)) rfl rfl rfl (e_assign) ?_
  refine l_nil ?_
  refine f_then ?_
  refine c_seq_cut (fun(f:Fm) (L:List Res)=>∃(s1:KSp) (es1:ES) (t1:List KP) (p1:Option Addr) (c1:Nat) (q1:Option Addr) (d1:Nat) (u1:Option Addr) (e1:Nat),(f 0= .slice va (l.length) (vc)∧f 3= .pointer (some ⟨b1,0,none⟩)∧f 4= .pointer (some ⟨b2,0,none⟩)∧f 5=Nx (k))∧L=[spcR b1 s1,pt b2 (.cells #[.slice p1 ((idsE es1).length) c1,.slice q1 ((arsE es1).length) d1,.slice u1 (t1.length) e1] 59),rowF IntF 3 p1 c1 (idsE es1),rowF AreaF 32 q1 d1 (arsE es1),rowF PairF 55 u1 e1 t1]∧(RelS es1 t1 s1)) ?_ ?_
  ·
   refine c_seq ?_
   refine c_region ?_
   refine l_val (v:= .slice va (l.length) (vc)) rfl rfl rfl (e_move) ?_
   refine l_val (v:=Nx (k)) rfl rfl rfl (e_move) ?_
   obtain⟨x4,hx5⟩:∃x_,(l)[k]? =some x_:=⟨_,List.getElem?_eq_getElem (by omega)⟩
   obtain⟨ha6,cs7,hc8,rfl⟩:=ve _ _ hx5
   refine l_val (v:= .pointer (some ((ba va).add (k*6)))) rfl rfl rfl (e_indexAddr (k:=k) (len:=l.length) (cap:=vc) (a:=va) rfl rfl tf264 (by omega) ha6) ?_
   refine l_val (v:= .agg #[Bx (x4.kind),Ix (x4.id),Ix (x4.ar.lx),Ix (x4.ar.ly),Ix (x4.ar.hx),Ix (x4.ar.hy)]) rfl rfl rfl (e_load tf265 (cs:=[Bx (x4.kind),Ix (x4.id),Ix (x4.ar.lx),Ix (x4.ar.ly),Ix (x4.ar.hx),Ix (x4.ar.hy)]) rfl (Knows.of_base (Cs.mono _ _) hc8) rfl) ?_
   refine l_mv rfl rfl rfl (m_alloc tf266) ?_
   rintro _ _ ⟨b10,rfl,rfl⟩
   refine l_mu rfl rfl (m_store 0 tf265 (b:=b10) (o:=0) (T:=61) (cs:= #[.int .u8 (0),.int .i64 (0),.int .i64 (0),.int .i64 (0),.int .i64 (0),.int .i64 (0)]) (cs':= #[Bx (x4.kind),Ix (x4.id),Ix (x4.ar.lx),Ix (x4.ar.ly),Ix (x4.ar.hx),Ix (x4.ar.hy)]) (v:= .agg #[Bx (x4.kind),Ix (x4.id),Ix (x4.ar.lx),Ix (x4.ar.ly),Ix (x4.ar.hx),Ix (x4.ar.hy)]) rfl rfl rfl rfl rfl rfl rfl) ?_
   refine l_nil ?_
   refine f_then ?_
   refine c_seq ?_
   refine c_region ?_
   refine l_val (v:= .pointer (some ⟨b10,0,none⟩)) rfl rfl rfl (e_fieldPt (b:=b10) (o:=0) rfl tf267) ?_
   refine l_val (v:=Bx (x4.kind)) rfl rfl rfl (e_load1 tf87 (v:=Bx (x4.kind)) rfl (k_pt 0 (cs:= #[Bx (x4.kind),Ix (x4.id),Ix (x4.ar.lx),Ix (x4.ar.ly),Ix (x4.ar.hx),Ix (x4.ar.hy)]) (vs:=[Bx (x4.kind)]) rfl rfl)) ?_
   refine l_val (v:= .int .u8 (((x4.kind.toNat%4:Nat)):Int)) rfl rfl rfl (e_rem (a:=((x4.kind).toNat:Int)) (b:=((4:Nat):Int)) rfl rfl (by decide) (nat_tmod _ _)) ?_
   refine l_nil ?_
   refine f_then ?_
   refine c_block ?_
   refine c_seq ?_
   refine c_region ?_
   refine l_val (v:= .bool (decide (((x4.kind.toNat%4:Nat):Int)=(0:Int)))) rfl rfl rfl (e_eql (a:=((x4.kind.toNat%4:Nat):Int)) (b:=(0:Int)) rfl rfl) ?_
   refine l_val (v:= .bool (decide (((x4.kind.toNat%4:Nat):Int)=(0:Int)))) rfl rfl rfl (e_assign) ?_
   refine l_nil ?_
   refine f_then ?_
   refine c_if (((x4.kind.toNat%4:Nat):Int)=(0:Int)) rfl (fun hc11=> ?_) (fun hc11=> ?_)
   ·
    refine c_seq ?_
    have hE:=hR.errPut x4.id x4.ar
    by_cases hp:argS x4.id x4.ar
    ·
     rw[if_pos hp]at hE
     by_cases hl:(delE es x4.id).length<128
     ·
      rw[if_neg (by omega)]at hE
      refine c_region ?_
      refine l_val (v:= .agg #[.slice p ((idsE es).length) c,.slice q ((arsE es).length) d,.slice u (t.length) e]) rfl rfl rfl (e_load tf255 (cs:=[.slice p ((idsE es).length) c,.slice q ((arsE es).length) d,.slice u (t.length) e]) rfl (k_pt 2 (cs:= #[.slice p ((idsE es).length) c,.slice q ((arsE es).length) d,.slice u (t.length) e]) (vs:=[.slice p ((idsE es).length) c,.slice q ((arsE es).length) d,.slice u (t.length) e]) rfl rfl) rfl) ?_
      refine l_val (v:= .pointer (some ⟨b10,1,none⟩)) rfl rfl rfl (e_fieldPt (b:=b10) (o:=0) rfl tf268) ?_
      refine l_val (v:=Ix (x4.id)) rfl rfl rfl (e_load1 tf2 (v:=Ix (x4.id)) rfl (k_pt 0 (cs:= #[Bx (x4.kind),Ix (x4.id),Ix (x4.ar.lx),Ix (x4.ar.ly),Ix (x4.ar.hx),Ix (x4.ar.hy)]) (vs:=[Ix (x4.id)]) rfl rfl)) ?_
      refine l_val (v:= .pointer (some ⟨b10,2,none⟩)) rfl rfl rfl (e_fieldPt (b:=b10) (o:=0) rfl tf269) ?_
      refine l_val (v:= .agg (aC x4.ar)) rfl rfl rfl (e_load tf10 (cs:=(areaE x4.ar)) rfl (k_pt 0 (cs:= #[Bx (x4.kind),Ix (x4.id),Ix (x4.ar.lx),Ix (x4.ar.ly),Ix (x4.ar.hx),Ix (x4.ar.hy)]) (vs:=(areaE x4.ar)) rfl rfl) rfl) ?_
      refine l_call rfl rfl rfl (cl_value (fst:=[]) (cap:=[]) (vs:=[.agg #[.slice p ((idsE es).length) c,.slice q ((arsE es).length) d,.slice u (t.length) e],Ix (x4.id),.agg (aC x4.ar)]) (all:=[.agg #[.slice p ((idsE es).length) c,.slice q ((arsE es).length) d,.slice u (t.length) e],Ix (x4.id),.agg (aC x4.ar)]) tf270 rfl rfl rfl) ?_
      intro w hw
      obtain⟨β1,sb,kn,hw1,back⟩:=St.frame_all hw
      refine(rput_ok β1 w hw1 _ _ es (kn _ (k_flN 3 (F:=IntF) (m:=(idsE es).length) rfl rfl)) (kn _ (k_flN 4 (F:=AreaF) (m:=(arsE es).length) rfl rfl)) (by omega) u t.length e x4.id x4.ar hp hl).mono ?_
      rintro e w' ⟨p12,c13,q14,d15,rfl,hw'⟩
      refine⟨_,rfl,_,back _ _ hw',?_⟩
      clear hw hw1 hw' back kn sb
      refine l_val (v:= .tuple #[.agg #[.slice p12 ((idsE (insE es x4.id x4.ar)).length) c13,.slice q14 ((arsE (insE es x4.id x4.ar)).length) d15,.slice u (t.length) e],.int .i64 (0)]) rfl rfl rfl (e_move) ?_
      refine l_val (v:= .agg #[.slice p12 ((idsE (insE es x4.id x4.ar)).length) c13,.slice q14 ((arsE (insE es x4.id x4.ar)).length) d15,.slice u (t.length) e]) rfl rfl rfl (e_extract (vs:= #[.agg #[.slice p12 ((idsE (insE es x4.id x4.ar)).length) c13,.slice q14 ((arsE (insE es x4.id x4.ar)).length) d15,.slice u (t.length) e],.int .i64 (0)]) rfl rfl) ?_
      refine l_val (v:= .int .i64 (0)) rfl rfl rfl (e_extract (vs:= #[.agg #[.slice p12 ((idsE (insE es x4.id x4.ar)).length) c13,.slice q14 ((arsE (insE es x4.id x4.ar)).length) d15,.slice u (t.length) e],.int .i64 (0)]) rfl rfl) ?_
      refine l_mu rfl rfl (m_store 4 tf255 (b:=b2) (o:=0) (T:=59) (cs:= #[.slice p ((idsE es).length) c,.slice q ((arsE es).length) d,.slice u (t.length) e]) (cs':= #[.slice p12 ((idsE (insE es x4.id x4.ar)).length) c13,.slice q14 ((arsE (insE es x4.id x4.ar)).length) d15,.slice u (t.length) e]) (v:= .agg #[.slice p12 ((idsE (insE es x4.id x4.ar)).length) c13,.slice q14 ((arsE (insE es x4.id x4.ar)).length) d15,.slice u (t.length) e]) rfl rfl rfl rfl rfl rfl rfl) ?_
      refine l_val (v:= .int .i64 (0)) rfl rfl rfl (e_assign) ?_
      refine l_nil ?_
      refine f_then ?_
      refine c_seq ?_
      refine c_region ?_
      refine l_val (v:= .pointer (some ⟨b1,0,none⟩)) rfl rfl rfl (e_move) ?_
      refine l_val (v:= .pointer (some ⟨b10,1,none⟩)) rfl rfl rfl (e_fieldPt (b:=b10) (o:=0) rfl tf268) ?_
      refine l_val (v:=Ix (x4.id)) rfl rfl rfl (e_load1 tf2 (v:=Ix (x4.id)) rfl (k_pt 2 (cs:= #[Bx (x4.kind),Ix (x4.id),Ix (x4.ar.lx),Ix (x4.ar.ly),Ix (x4.ar.hx),Ix (x4.ar.hy)]) (vs:=[Ix (x4.id)]) rfl rfl)) ?_
      refine l_val (v:= .pointer (some ⟨b10,2,none⟩)) rfl rfl rfl (e_fieldPt (b:=b10) (o:=0) rfl tf269) ?_
      refine l_val (v:= .agg (aC x4.ar)) rfl rfl rfl (e_load tf10 (cs:=(areaE x4.ar)) rfl (k_pt 2 (cs:= #[Bx (x4.kind),Ix (x4.id),Ix (x4.ar.lx),Ix (x4.ar.ly),Ix (x4.ar.hx),Ix (x4.ar.hy)]) (vs:=(areaE x4.ar)) rfl rfl) rfl) ?_
      refine l_call rfl rfl rfl (cl_value (fst:=[]) (cap:=[]) (vs:=[.pointer (some ⟨b1,0,none⟩),Ix (x4.id),.agg (aC x4.ar)]) (all:=[.pointer (some ⟨b1,0,none⟩),Ix (x4.id),.agg (aC x4.ar)]) tf75 rfl rfl rfl) ?_
      intro w hw
      replace hw:=hw.perm (L':=_::_::_::_::_::_::_::_::[]) (by exact((((((((perm_front 7 rfl).trans (perm_front 7 rfl)).trans (perm_front 7 rfl)).trans (perm_front 7 rfl)).trans (perm_front 6 rfl)).trans (perm_front 6 rfl)).trans (perm_front 6 rfl)).trans (perm_front 7 rfl)))
      obtain⟨β1,sb,kn,hw1,back⟩:=St.frame (L:=[_]) (M:=_::_::_::_::_::_::_::[]) hw
      refine(put_ok' β1 w b1 s hw1 hR.ok x4.id x4.ar).mono ?_
      rintro e w' ⟨rfl,hw'⟩
      refine⟨_,rfl,_,back _ _ hw',?_⟩
      clear hw hw1 hw' back kn sb
      have hR2:=hR.put hE
      refine l_val (v:= .int .i64 (0)) rfl rfl rfl (e_move) ?_
      refine l_val (v:= .bool (decide ((errPut s x4.id x4.ar)≠(0:Int)))) rfl rfl rfl (e_neq (a:=(errPut s x4.id x4.ar)) (b:=(0:Int)) rfl rfl) ?_
      refine l_nil ?_
      refine f_then ?_
      refine c_if ((errPut s x4.id x4.ar)≠(0:Int)) rfl (fun hc16=> ?_) (fun hc16=> ?_)
      ·
       exact absurd hc16 (fun q=>q hE)
      ·
       refine c_skip ?_
       refine f_block ?_
       refine f_perm (L':=[spcR b1 (putX s x4.id x4.ar),pt b2 (.cells #[.slice p12 ((idsE (insE es x4.id x4.ar)).length) c13,.slice q14 ((arsE (insE es x4.id x4.ar)).length) d15,.slice u (t.length) e] 59),rowF IntF 3 p12 c13 (idsE (insE es x4.id x4.ar)),rowF AreaF 32 q14 d15 (arsE (insE es x4.id x4.ar)),rowF PairF 55 u e t,pt b10 (.cells #[Bx (x4.kind),Ix (x4.id),Ix (x4.ar.lx),Ix (x4.ar.ly),Ix (x4.ar.hx),Ix (x4.ar.hy)] 61),rowF IntF 3 p c (idsE es),rowF AreaF 32 q d (arsE es)]) (perm_ix [0,4,1,2,7,3,5,6] 8 rfl (by kernel_rfl) (by kernel_rfl)) ?_
       refine f_mask (L':=[spcR b1 (putX s x4.id x4.ar),pt b2 (.cells #[.slice p12 ((idsE (insE es x4.id x4.ar)).length) c13,.slice q14 ((arsE (insE es x4.id x4.ar)).length) d15,.slice u (t.length) e] 59),rowF IntF 3 p12 c13 (idsE (insE es x4.id x4.ar)),rowF AreaF 32 q14 d15 (arsE (insE es x4.id x4.ar)),rowF PairF 55 u e t]) [true,true,true,true,true,false,false,false] rfl ?_
       exact f_cut ⟨(putX s x4.id x4.ar),(insE es x4.id x4.ar),t,p12,c13,q14,d15,u,e,⟨rfl,rfl,rfl,rfl⟩,rfl,hR2⟩
     ·
      have hdl:=delE_len es x4.id
      rw[if_pos (by omega)]at hE
      have hno:¬hasE es x4.id:=fun q=>by have:=delE_lt q;omega
      refine c_region ?_
      refine l_val (v:= .agg #[.slice p ((idsE es).length) c,.slice q ((arsE es).length) d,.slice u (t.length) e]) rfl rfl rfl (e_load tf255 (cs:=[.slice p ((idsE es).length) c,.slice q ((arsE es).length) d,.slice u (t.length) e]) rfl (k_pt 2 (cs:= #[.slice p ((idsE es).length) c,.slice q ((arsE es).length) d,.slice u (t.length) e]) (vs:=[.slice p ((idsE es).length) c,.slice q ((arsE es).length) d,.slice u (t.length) e]) rfl rfl) rfl) ?_
      refine l_val (v:= .pointer (some ⟨b10,1,none⟩)) rfl rfl rfl (e_fieldPt (b:=b10) (o:=0) rfl tf268) ?_
      refine l_val (v:=Ix (x4.id)) rfl rfl rfl (e_load1 tf2 (v:=Ix (x4.id)) rfl (k_pt 0 (cs:= #[Bx (x4.kind),Ix (x4.id),Ix (x4.ar.lx),Ix (x4.ar.ly),Ix (x4.ar.hx),Ix (x4.ar.hy)]) (vs:=[Ix (x4.id)]) rfl rfl)) ?_
      refine l_val (v:= .pointer (some ⟨b10,2,none⟩)) rfl rfl rfl (e_fieldPt (b:=b10) (o:=0) rfl tf269) ?_
      refine l_val (v:= .agg (aC x4.ar)) rfl rfl rfl (e_load tf10 (cs:=(areaE x4.ar)) rfl (k_pt 0 (cs:= #[Bx (x4.kind),Ix (x4.id),Ix (x4.ar.lx),Ix (x4.ar.ly),Ix (x4.ar.hx),Ix (x4.ar.hy)]) (vs:=(areaE x4.ar)) rfl rfl) rfl) ?_
      refine l_call rfl rfl rfl (cl_value (fst:=[]) (cap:=[]) (vs:=[.agg #[.slice p ((idsE es).length) c,.slice q ((arsE es).length) d,.slice u (t.length) e],Ix (x4.id),.agg (aC x4.ar)]) (all:=[.agg #[.slice p ((idsE es).length) c,.slice q ((arsE es).length) d,.slice u (t.length) e],Ix (x4.id),.agg (aC x4.ar)]) tf270 rfl rfl rfl) ?_
      intro w hw
      obtain⟨β1,sb,kn,hw1,back⟩:=St.frame_all hw
      refine(rput_full β1 w hw1 _ _ es (kn _ (k_flN 3 (F:=IntF) (m:=(idsE es).length) rfl rfl)) (kn _ (k_flN 4 (F:=AreaF) (m:=(arsE es).length) rfl rfl)) (by omega) u t.length e x4.id x4.ar hp hno (by omega)).mono ?_
      rintro e w' ⟨rfl,hw'⟩
      refine⟨_,rfl,_,back _ _ hw',?_⟩
      clear hw hw1 hw' back kn sb
      refine l_val (v:= .tuple #[.agg #[.slice p ((idsE es).length) c,.slice q ((arsE es).length) d,.slice u (t.length) e],.int .i64 (4)]) rfl rfl rfl (e_move) ?_
      refine l_val (v:= .agg #[.slice p ((idsE es).length) c,.slice q ((arsE es).length) d,.slice u (t.length) e]) rfl rfl rfl (e_extract (vs:= #[.agg #[.slice p ((idsE es).length) c,.slice q ((arsE es).length) d,.slice u (t.length) e],.int .i64 (4)]) rfl rfl) ?_
      refine l_val (v:= .int .i64 (4)) rfl rfl rfl (e_extract (vs:= #[.agg #[.slice p ((idsE es).length) c,.slice q ((arsE es).length) d,.slice u (t.length) e],.int .i64 (4)]) rfl rfl) ?_
      refine l_mu rfl rfl (m_store 2 tf255 (b:=b2) (o:=0) (T:=59) (cs:= #[.slice p ((idsE es).length) c,.slice q ((arsE es).length) d,.slice u (t.length) e]) (cs':= #[.slice p ((idsE es).length) c,.slice q ((arsE es).length) d,.slice u (t.length) e]) (v:= .agg #[.slice p ((idsE es).length) c,.slice q ((arsE es).length) d,.slice u (t.length) e]) rfl rfl rfl rfl rfl rfl rfl) ?_
      refine l_val (v:= .int .i64 (4)) rfl rfl rfl (e_assign) ?_
      refine l_nil ?_
      refine f_then ?_
      refine c_seq ?_
      refine c_region ?_
      refine l_val (v:= .pointer (some ⟨b1,0,none⟩)) rfl rfl rfl (e_move) ?_
      refine l_val (v:= .pointer (some ⟨b10,1,none⟩)) rfl rfl rfl (e_fieldPt (b:=b10) (o:=0) rfl tf268) ?_
      refine l_val (v:=Ix (x4.id)) rfl rfl rfl (e_load1 tf2 (v:=Ix (x4.id)) rfl (k_pt 0 (cs:= #[Bx (x4.kind),Ix (x4.id),Ix (x4.ar.lx),Ix (x4.ar.ly),Ix (x4.ar.hx),Ix (x4.ar.hy)]) (vs:=[Ix (x4.id)]) rfl rfl)) ?_
      refine l_val (v:= .pointer (some ⟨b10,2,none⟩)) rfl rfl rfl (e_fieldPt (b:=b10) (o:=0) rfl tf269) ?_
      refine l_val (v:= .agg (aC x4.ar)) rfl rfl rfl (e_load tf10 (cs:=(areaE x4.ar)) rfl (k_pt 0 (cs:= #[Bx (x4.kind),Ix (x4.id),Ix (x4.ar.lx),Ix (x4.ar.ly),Ix (x4.ar.hx),Ix (x4.ar.hy)]) (vs:=(areaE x4.ar)) rfl rfl) rfl) ?_
      refine l_call rfl rfl rfl (cl_value (fst:=[]) (cap:=[]) (vs:=[.pointer (some ⟨b1,0,none⟩),Ix (x4.id),.agg (aC x4.ar)]) (all:=[.pointer (some ⟨b1,0,none⟩),Ix (x4.id),.agg (aC x4.ar)]) tf75 rfl rfl rfl) ?_
      intro w hw
      replace hw:=hw.perm (L':=_::_::_::_::_::_::[]) (by exact((((((perm_front 5 rfl).trans (perm_front 5 rfl)).trans (perm_front 5 rfl)).trans (perm_front 5 rfl)).trans (perm_front 4 rfl)).trans (perm_front 5 rfl)))
      obtain⟨β1,sb,kn,hw1,back⟩:=St.frame (L:=[_]) (M:=_::_::_::_::_::[]) hw
      refine(put_ok' β1 w b1 s hw1 hR.ok x4.id x4.ar).mono ?_
      rintro e w' ⟨rfl,hw'⟩
      refine⟨_,rfl,_,back _ _ hw',?_⟩
      clear hw hw1 hw' back kn sb
      have hR2:=hR.put_no (id:=x4.id) (a:=x4.ar) (by rw[hE];decide)
      refine l_val (v:= .int .i64 (4)) rfl rfl rfl (e_move) ?_
      refine l_val (v:= .bool (decide ((errPut s x4.id x4.ar)≠(4:Int)))) rfl rfl rfl (e_neq (a:=(errPut s x4.id x4.ar)) (b:=(4:Int)) rfl rfl) ?_
      refine l_nil ?_
      refine f_then ?_
      refine c_if ((errPut s x4.id x4.ar)≠(4:Int)) rfl (fun hc17=> ?_) (fun hc17=> ?_)
      ·
       exact absurd hc17 (fun q=>q hE)
      ·
       refine c_skip ?_
       refine f_block ?_
       refine f_mask (L':=[spcR b1 (putX s x4.id x4.ar),pt b2 (.cells #[.slice p ((idsE es).length) c,.slice q ((arsE es).length) d,.slice u (t.length) e] 59),rowF IntF 3 p c (idsE es),rowF AreaF 32 q d (arsE es),rowF PairF 55 u e t]) [true,false,true,true,true,true] rfl ?_
       exact f_cut ⟨(putX s x4.id x4.ar),es,t,p,c,q,d,u,e,⟨rfl,rfl,rfl,rfl⟩,rfl,hR2⟩
    ·
     rw[if_neg hp]at hE
     refine c_region ?_
     refine l_val (v:= .agg #[.slice p ((idsE es).length) c,.slice q ((arsE es).length) d,.slice u (t.length) e]) rfl rfl rfl (e_load tf255 (cs:=[.slice p ((idsE es).length) c,.slice q ((arsE es).length) d,.slice u (t.length) e]) rfl (k_pt 2 (cs:= #[.slice p ((idsE es).length) c,.slice q ((arsE es).length) d,.slice u (t.length) e]) (vs:=[.slice p ((idsE es).length) c,.slice q ((arsE es).length) d,.slice u (t.length) e]) rfl rfl) rfl) ?_
     refine l_val (v:= .pointer (some ⟨b10,1,none⟩)) rfl rfl rfl (e_fieldPt (b:=b10) (o:=0) rfl tf268) ?_
     refine l_val (v:=Ix (x4.id)) rfl rfl rfl (e_load1 tf2 (v:=Ix (x4.id)) rfl (k_pt 0 (cs:= #[Bx (x4.kind),Ix (x4.id),Ix (x4.ar.lx),Ix (x4.ar.ly),Ix (x4.ar.hx),Ix (x4.ar.hy)]) (vs:=[Ix (x4.id)]) rfl rfl)) ?_
     refine l_val (v:= .pointer (some ⟨b10,2,none⟩)) rfl rfl rfl (e_fieldPt (b:=b10) (o:=0) rfl tf269) ?_
     refine l_val (v:= .agg (aC x4.ar)) rfl rfl rfl (e_load tf10 (cs:=(areaE x4.ar)) rfl (k_pt 0 (cs:= #[Bx (x4.kind),Ix (x4.id),Ix (x4.ar.lx),Ix (x4.ar.ly),Ix (x4.ar.hx),Ix (x4.ar.hy)]) (vs:=(areaE x4.ar)) rfl rfl) rfl) ?_
     refine l_call rfl rfl rfl (cl_value (fst:=[]) (cap:=[]) (vs:=[.agg #[.slice p ((idsE es).length) c,.slice q ((arsE es).length) d,.slice u (t.length) e],Ix (x4.id),.agg (aC x4.ar)]) (all:=[.agg #[.slice p ((idsE es).length) c,.slice q ((arsE es).length) d,.slice u (t.length) e],Ix (x4.id),.agg (aC x4.ar)]) tf270 rfl rfl rfl) ?_
     intro w hw
     obtain⟨β1,sb,kn,hw1,back⟩:=St.frame_all hw
     refine(rput_bad β1 w hw1 _ _ es (kn _ (k_flN 3 (F:=IntF) (m:=(idsE es).length) rfl rfl)) (kn _ (k_flN 4 (F:=AreaF) (m:=(arsE es).length) rfl rfl)) (by omega) u t.length e x4.id x4.ar hp).mono ?_
     rintro e w' ⟨rfl,hw'⟩
     refine⟨_,rfl,_,back _ _ hw',?_⟩
     clear hw hw1 hw' back kn sb
     refine l_val (v:= .tuple #[.agg #[.slice p ((idsE es).length) c,.slice q ((arsE es).length) d,.slice u (t.length) e],.int .i64 (2)]) rfl rfl rfl (e_move) ?_
     refine l_val (v:= .agg #[.slice p ((idsE es).length) c,.slice q ((arsE es).length) d,.slice u (t.length) e]) rfl rfl rfl (e_extract (vs:= #[.agg #[.slice p ((idsE es).length) c,.slice q ((arsE es).length) d,.slice u (t.length) e],.int .i64 (2)]) rfl rfl) ?_
     refine l_val (v:= .int .i64 (2)) rfl rfl rfl (e_extract (vs:= #[.agg #[.slice p ((idsE es).length) c,.slice q ((arsE es).length) d,.slice u (t.length) e],.int .i64 (2)]) rfl rfl) ?_
     refine l_mu rfl rfl (m_store 2 tf255 (b:=b2) (o:=0) (T:=59) (cs:= #[.slice p ((idsE es).length) c,.slice q ((arsE es).length) d,.slice u (t.length) e]) (cs':= #[.slice p ((idsE es).length) c,.slice q ((arsE es).length) d,.slice u (t.length) e]) (v:= .agg #[.slice p ((idsE es).length) c,.slice q ((arsE es).length) d,.slice u (t.length) e]) rfl rfl rfl rfl rfl rfl rfl) ?_
     refine l_val (v:= .int .i64 (2)) rfl rfl rfl (e_assign) ?_
     refine l_nil ?_
     refine f_then ?_
     refine c_seq ?_
     refine c_region ?_
     refine l_val (v:= .pointer (some ⟨b1,0,none⟩)) rfl rfl rfl (e_move) ?_
     refine l_val (v:= .pointer (some ⟨b10,1,none⟩)) rfl rfl rfl (e_fieldPt (b:=b10) (o:=0) rfl tf268) ?_
     refine l_val (v:=Ix (x4.id)) rfl rfl rfl (e_load1 tf2 (v:=Ix (x4.id)) rfl (k_pt 0 (cs:= #[Bx (x4.kind),Ix (x4.id),Ix (x4.ar.lx),Ix (x4.ar.ly),Ix (x4.ar.hx),Ix (x4.ar.hy)]) (vs:=[Ix (x4.id)]) rfl rfl)) ?_
     refine l_val (v:= .pointer (some ⟨b10,2,none⟩)) rfl rfl rfl (e_fieldPt (b:=b10) (o:=0) rfl tf269) ?_
     refine l_val (v:= .agg (aC x4.ar)) rfl rfl rfl (e_load tf10 (cs:=(areaE x4.ar)) rfl (k_pt 0 (cs:= #[Bx (x4.kind),Ix (x4.id),Ix (x4.ar.lx),Ix (x4.ar.ly),Ix (x4.ar.hx),Ix (x4.ar.hy)]) (vs:=(areaE x4.ar)) rfl rfl) rfl) ?_
     refine l_call rfl rfl rfl (cl_value (fst:=[]) (cap:=[]) (vs:=[.pointer (some ⟨b1,0,none⟩),Ix (x4.id),.agg (aC x4.ar)]) (all:=[.pointer (some ⟨b1,0,none⟩),Ix (x4.id),.agg (aC x4.ar)]) tf75 rfl rfl rfl) ?_
     intro w hw
     replace hw:=hw.perm (L':=_::_::_::_::_::_::[]) (by exact((((((perm_front 5 rfl).trans (perm_front 5 rfl)).trans (perm_front 5 rfl)).trans (perm_front 5 rfl)).trans (perm_front 4 rfl)).trans (perm_front 5 rfl)))
     obtain⟨β1,sb,kn,hw1,back⟩:=St.frame (L:=[_]) (M:=_::_::_::_::_::[]) hw
     refine(put_ok' β1 w b1 s hw1 hR.ok x4.id x4.ar).mono ?_
     rintro e w' ⟨rfl,hw'⟩
     refine⟨_,rfl,_,back _ _ hw',?_⟩
     clear hw hw1 hw' back kn sb
     have hR2:=hR.put_no (id:=x4.id) (a:=x4.ar) (by rw[hE];decide)
     refine l_val (v:= .int .i64 (2)) rfl rfl rfl (e_move) ?_
     refine l_val (v:= .bool (decide ((errPut s x4.id x4.ar)≠(2:Int)))) rfl rfl rfl (e_neq (a:=(errPut s x4.id x4.ar)) (b:=(2:Int)) rfl rfl) ?_
     refine l_nil ?_
     refine f_then ?_
     refine c_if ((errPut s x4.id x4.ar)≠(2:Int)) rfl (fun hc18=> ?_) (fun hc18=> ?_)
     ·
      exact absurd hc18 (fun q=>q hE)
     ·
      refine c_skip ?_
      refine f_block ?_
      refine f_mask (L':=[spcR b1 (putX s x4.id x4.ar),pt b2 (.cells #[.slice p ((idsE es).length) c,.slice q ((arsE es).length) d,.slice u (t.length) e] 59),rowF IntF 3 p c (idsE es),rowF AreaF 32 q d (arsE es),rowF PairF 55 u e t]) [true,false,true,true,true,true] rfl ?_
      exact f_cut ⟨(putX s x4.id x4.ar),es,t,p,c,q,d,u,e,⟨rfl,rfl,rfl,rfl⟩,rfl,hR2⟩
   ·
    refine c_seq ?_
    refine c_region ?_
    refine l_val (v:= .bool (decide (((x4.kind.toNat%4:Nat):Int)=(1:Int)))) rfl rfl rfl (e_eql (a:=((x4.kind.toNat%4:Nat):Int)) (b:=(1:Int)) rfl rfl) ?_
    refine l_val (v:= .bool (decide (((x4.kind.toNat%4:Nat):Int)=(1:Int)))) rfl rfl rfl (e_assign) ?_
    refine l_nil ?_
    refine f_then ?_
    refine c_if (((x4.kind.toNat%4:Nat):Int)=(1:Int)) rfl (fun hc19=> ?_) (fun hc19=> ?_)
    ·
     refine c_seq ?_
     by_cases hh:hasE es x4.id
     ·
      have hE:errDrop s x4.id=0:=if_pos ((hR.has _).1 hh)
      refine c_region ?_
      refine l_val (v:= .agg #[.slice p ((idsE es).length) c,.slice q ((arsE es).length) d,.slice u (t.length) e]) rfl rfl rfl (e_load tf255 (cs:=[.slice p ((idsE es).length) c,.slice q ((arsE es).length) d,.slice u (t.length) e]) rfl (k_pt 2 (cs:= #[.slice p ((idsE es).length) c,.slice q ((arsE es).length) d,.slice u (t.length) e]) (vs:=[.slice p ((idsE es).length) c,.slice q ((arsE es).length) d,.slice u (t.length) e]) rfl rfl) rfl) ?_
      refine l_val (v:= .pointer (some ⟨b10,1,none⟩)) rfl rfl rfl (e_fieldPt (b:=b10) (o:=0) rfl tf268) ?_
      refine l_val (v:=Ix (x4.id)) rfl rfl rfl (e_load1 tf2 (v:=Ix (x4.id)) rfl (k_pt 0 (cs:= #[Bx (x4.kind),Ix (x4.id),Ix (x4.ar.lx),Ix (x4.ar.ly),Ix (x4.ar.hx),Ix (x4.ar.hy)]) (vs:=[Ix (x4.id)]) rfl rfl)) ?_
      refine l_call rfl rfl rfl (cl_value (fst:=[]) (cap:=[]) (vs:=[.agg #[.slice p ((idsE es).length) c,.slice q ((arsE es).length) d,.slice u (t.length) e],Ix (x4.id)]) (all:=[.agg #[.slice p ((idsE es).length) c,.slice q ((arsE es).length) d,.slice u (t.length) e],Ix (x4.id)]) tf260 rfl rfl rfl) ?_
      intro w hw
      obtain⟨β1,sb,kn,hw1,back⟩:=St.frame_all hw
      refine(rdel_ok β1 w hw1 _ _ es (kn _ (k_flN 3 (F:=IntF) (m:=(idsE es).length) rfl rfl)) (kn _ (k_flN 4 (F:=AreaF) (m:=(arsE es).length) rfl rfl)) (by omega) u t.length e x4.id hh).mono ?_
      rintro e w' ⟨p20,c21,q22,d23,rfl,hw'⟩
      refine⟨_,rfl,_,back _ _ hw',?_⟩
      clear hw hw1 hw' back kn sb
      refine l_val (v:= .tuple #[.agg #[.slice p20 ((idsE (delE es x4.id)).length) c21,.slice q22 ((arsE (delE es x4.id)).length) d23,.slice u (t.length) e],.int .i64 (0)]) rfl rfl rfl (e_move) ?_
      refine l_val (v:= .agg #[.slice p20 ((idsE (delE es x4.id)).length) c21,.slice q22 ((arsE (delE es x4.id)).length) d23,.slice u (t.length) e]) rfl rfl rfl (e_extract (vs:= #[.agg #[.slice p20 ((idsE (delE es x4.id)).length) c21,.slice q22 ((arsE (delE es x4.id)).length) d23,.slice u (t.length) e],.int .i64 (0)]) rfl rfl) ?_
      refine l_val (v:= .int .i64 (0)) rfl rfl rfl (e_extract (vs:= #[.agg #[.slice p20 ((idsE (delE es x4.id)).length) c21,.slice q22 ((arsE (delE es x4.id)).length) d23,.slice u (t.length) e],.int .i64 (0)]) rfl rfl) ?_
      refine l_mu rfl rfl (m_store 4 tf255 (b:=b2) (o:=0) (T:=59) (cs:= #[.slice p ((idsE es).length) c,.slice q ((arsE es).length) d,.slice u (t.length) e]) (cs':= #[.slice p20 ((idsE (delE es x4.id)).length) c21,.slice q22 ((arsE (delE es x4.id)).length) d23,.slice u (t.length) e]) (v:= .agg #[.slice p20 ((idsE (delE es x4.id)).length) c21,.slice q22 ((arsE (delE es x4.id)).length) d23,.slice u (t.length) e]) rfl rfl rfl rfl rfl rfl rfl) ?_
      refine l_val (v:= .int .i64 (0)) rfl rfl rfl (e_assign) ?_
      refine l_nil ?_
      refine f_then ?_
      refine c_seq ?_
      refine c_region ?_
      refine l_val (v:= .pointer (some ⟨b1,0,none⟩)) rfl rfl rfl (e_move) ?_
      refine l_val (v:= .pointer (some ⟨b10,1,none⟩)) rfl rfl rfl (e_fieldPt (b:=b10) (o:=0) rfl tf268) ?_
      refine l_val (v:=Ix (x4.id)) rfl rfl rfl (e_load1 tf2 (v:=Ix (x4.id)) rfl (k_pt 2 (cs:= #[Bx (x4.kind),Ix (x4.id),Ix (x4.ar.lx),Ix (x4.ar.ly),Ix (x4.ar.hx),Ix (x4.ar.hy)]) (vs:=[Ix (x4.id)]) rfl rfl)) ?_
      refine l_call rfl rfl rfl (cl_value (fst:=[]) (cap:=[]) (vs:=[.pointer (some ⟨b1,0,none⟩),Ix (x4.id)]) (all:=[.pointer (some ⟨b1,0,none⟩),Ix (x4.id)]) tf112 rfl rfl rfl) ?_
      intro w hw
      replace hw:=hw.perm (L':=_::_::_::_::_::_::_::_::[]) (by exact((((((((perm_front 7 rfl).trans (perm_front 7 rfl)).trans (perm_front 7 rfl)).trans (perm_front 7 rfl)).trans (perm_front 6 rfl)).trans (perm_front 6 rfl)).trans (perm_front 6 rfl)).trans (perm_front 7 rfl)))
      obtain⟨β1,sb,kn,hw1,back⟩:=St.frame (L:=[_]) (M:=_::_::_::_::_::_::_::[]) hw
      refine(drop_ok β1 w b1 s hw1 hR.ok x4.id).mono ?_
      rintro e w' ⟨rfl,hw'⟩
      refine⟨_,rfl,_,back _ _ hw',?_⟩
      clear hw hw1 hw' back kn sb
      have hR2:=hR.del x4.id
      refine l_val (v:= .int .i64 (0)) rfl rfl rfl (e_move) ?_
      refine l_val (v:= .bool (decide ((errDrop s x4.id)≠(0:Int)))) rfl rfl rfl (e_neq (a:=(errDrop s x4.id)) (b:=(0:Int)) rfl rfl) ?_
      refine l_nil ?_
      refine f_then ?_
      refine c_if ((errDrop s x4.id)≠(0:Int)) rfl (fun hc24=> ?_) (fun hc24=> ?_)
      ·
       exact absurd hc24 (fun q=>q hE)
      ·
       refine c_skip ?_
       refine f_block ?_
       refine f_perm (L':=[spcR b1 (delS s x4.id),pt b2 (.cells #[.slice p20 ((idsE (delE es x4.id)).length) c21,.slice q22 ((arsE (delE es x4.id)).length) d23,.slice u (t.length) e] 59),rowF IntF 3 p20 c21 (idsE (delE es x4.id)),rowF AreaF 32 q22 d23 (arsE (delE es x4.id)),rowF PairF 55 u e t,pt b10 (.cells #[Bx (x4.kind),Ix (x4.id),Ix (x4.ar.lx),Ix (x4.ar.ly),Ix (x4.ar.hx),Ix (x4.ar.hy)] 61),rowF IntF 3 p c (idsE es),rowF AreaF 32 q d (arsE es)]) (perm_ix [0,4,1,2,7,3,5,6] 8 rfl (by kernel_rfl) (by kernel_rfl)) ?_
       refine f_mask (L':=[spcR b1 (delS s x4.id),pt b2 (.cells #[.slice p20 ((idsE (delE es x4.id)).length) c21,.slice q22 ((arsE (delE es x4.id)).length) d23,.slice u (t.length) e] 59),rowF IntF 3 p20 c21 (idsE (delE es x4.id)),rowF AreaF 32 q22 d23 (arsE (delE es x4.id)),rowF PairF 55 u e t]) [true,true,true,true,true,false,false,false] rfl ?_
       exact f_cut ⟨(delS s x4.id),(delE es x4.id),t,p20,c21,q22,d23,u,e,⟨rfl,rfl,rfl,rfl⟩,rfl,hR2⟩
     ·
      have hE:errDrop s x4.id=6:=if_neg (fun q=>hh ((hR.has _).2 q))
      refine c_region ?_
      refine l_val (v:= .agg #[.slice p ((idsE es).length) c,.slice q ((arsE es).length) d,.slice u (t.length) e]) rfl rfl rfl (e_load tf255 (cs:=[.slice p ((idsE es).length) c,.slice q ((arsE es).length) d,.slice u (t.length) e]) rfl (k_pt 2 (cs:= #[.slice p ((idsE es).length) c,.slice q ((arsE es).length) d,.slice u (t.length) e]) (vs:=[.slice p ((idsE es).length) c,.slice q ((arsE es).length) d,.slice u (t.length) e]) rfl rfl) rfl) ?_
      refine l_val (v:= .pointer (some ⟨b10,1,none⟩)) rfl rfl rfl (e_fieldPt (b:=b10) (o:=0) rfl tf268) ?_
      refine l_val (v:=Ix (x4.id)) rfl rfl rfl (e_load1 tf2 (v:=Ix (x4.id)) rfl (k_pt 0 (cs:= #[Bx (x4.kind),Ix (x4.id),Ix (x4.ar.lx),Ix (x4.ar.ly),Ix (x4.ar.hx),Ix (x4.ar.hy)]) (vs:=[Ix (x4.id)]) rfl rfl)) ?_
      refine l_call rfl rfl rfl (cl_value (fst:=[]) (cap:=[]) (vs:=[.agg #[.slice p ((idsE es).length) c,.slice q ((arsE es).length) d,.slice u (t.length) e],Ix (x4.id)]) (all:=[.agg #[.slice p ((idsE es).length) c,.slice q ((arsE es).length) d,.slice u (t.length) e],Ix (x4.id)]) tf260 rfl rfl rfl) ?_
      intro w hw
      obtain⟨β1,sb,kn,hw1,back⟩:=St.frame_all hw
      refine(rdel_no β1 w hw1 _ _ es (kn _ (k_flN 3 (F:=IntF) (m:=(idsE es).length) rfl rfl)) (kn _ (k_flN 4 (F:=AreaF) (m:=(arsE es).length) rfl rfl)) (by omega) u t.length e x4.id hh).mono ?_
      rintro e w' ⟨rfl,hw'⟩
      refine⟨_,rfl,_,back _ _ hw',?_⟩
      clear hw hw1 hw' back kn sb
      refine l_val (v:= .tuple #[.agg #[.slice p ((idsE es).length) c,.slice q ((arsE es).length) d,.slice u (t.length) e],.int .i64 (6)]) rfl rfl rfl (e_move) ?_
      refine l_val (v:= .agg #[.slice p ((idsE es).length) c,.slice q ((arsE es).length) d,.slice u (t.length) e]) rfl rfl rfl (e_extract (vs:= #[.agg #[.slice p ((idsE es).length) c,.slice q ((arsE es).length) d,.slice u (t.length) e],.int .i64 (6)]) rfl rfl) ?_
      refine l_val (v:= .int .i64 (6)) rfl rfl rfl (e_extract (vs:= #[.agg #[.slice p ((idsE es).length) c,.slice q ((arsE es).length) d,.slice u (t.length) e],.int .i64 (6)]) rfl rfl) ?_
      refine l_mu rfl rfl (m_store 2 tf255 (b:=b2) (o:=0) (T:=59) (cs:= #[.slice p ((idsE es).length) c,.slice q ((arsE es).length) d,.slice u (t.length) e]) (cs':= #[.slice p ((idsE es).length) c,.slice q ((arsE es).length) d,.slice u (t.length) e]) (v:= .agg #[.slice p ((idsE es).length) c,.slice q ((arsE es).length) d,.slice u (t.length) e]) rfl rfl rfl rfl rfl rfl rfl) ?_
      refine l_val (v:= .int .i64 (6)) rfl rfl rfl (e_assign) ?_
      refine l_nil ?_
      refine f_then ?_
      refine c_seq ?_
      refine c_region ?_
      refine l_val (v:= .pointer (some ⟨b1,0,none⟩)) rfl rfl rfl (e_move) ?_
      refine l_val (v:= .pointer (some ⟨b10,1,none⟩)) rfl rfl rfl (e_fieldPt (b:=b10) (o:=0) rfl tf268) ?_
      refine l_val (v:=Ix (x4.id)) rfl rfl rfl (e_load1 tf2 (v:=Ix (x4.id)) rfl (k_pt 0 (cs:= #[Bx (x4.kind),Ix (x4.id),Ix (x4.ar.lx),Ix (x4.ar.ly),Ix (x4.ar.hx),Ix (x4.ar.hy)]) (vs:=[Ix (x4.id)]) rfl rfl)) ?_
      refine l_call rfl rfl rfl (cl_value (fst:=[]) (cap:=[]) (vs:=[.pointer (some ⟨b1,0,none⟩),Ix (x4.id)]) (all:=[.pointer (some ⟨b1,0,none⟩),Ix (x4.id)]) tf112 rfl rfl rfl) ?_
      intro w hw
      replace hw:=hw.perm (L':=_::_::_::_::_::_::[]) (by exact((((((perm_front 5 rfl).trans (perm_front 5 rfl)).trans (perm_front 5 rfl)).trans (perm_front 5 rfl)).trans (perm_front 4 rfl)).trans (perm_front 5 rfl)))
      obtain⟨β1,sb,kn,hw1,back⟩:=St.frame (L:=[_]) (M:=_::_::_::_::_::[]) hw
      refine(drop_ok β1 w b1 s hw1 hR.ok x4.id).mono ?_
      rintro e w' ⟨rfl,hw'⟩
      refine⟨_,rfl,_,back _ _ hw',?_⟩
      clear hw hw1 hw' back kn sb
      have hR2:RelS es t (delS s x4.id):=by rw[delS_no (fun q=>hh ((hR.has _).2 q))];exact hR
      refine l_val (v:= .int .i64 (6)) rfl rfl rfl (e_move) ?_
      refine l_val (v:= .bool (decide ((errDrop s x4.id)≠(6:Int)))) rfl rfl rfl (e_neq (a:=(errDrop s x4.id)) (b:=(6:Int)) rfl rfl) ?_
      refine l_nil ?_
      refine f_then ?_
      refine c_if ((errDrop s x4.id)≠(6:Int)) rfl (fun hc25=> ?_) (fun hc25=> ?_)
      ·
       exact absurd hc25 (fun q=>q hE)
      ·
       refine c_skip ?_
       refine f_block ?_
       refine f_mask (L':=[spcR b1 (delS s x4.id),pt b2 (.cells #[.slice p ((idsE es).length) c,.slice q ((arsE es).length) d,.slice u (t.length) e] 59),rowF IntF 3 p c (idsE es),rowF AreaF 32 q d (arsE es),rowF PairF 55 u e t]) [true,false,true,true,true,true] rfl ?_
       exact f_cut ⟨(delS s x4.id),es,t,p,c,q,d,u,e,⟨rfl,rfl,rfl,rfl⟩,rfl,hR2⟩
    ·
     refine c_seq ?_
     refine c_region ?_
     refine l_val (v:= .bool (decide (((x4.kind.toNat%4:Nat):Int)=(2:Int)))) rfl rfl rfl (e_eql (a:=((x4.kind.toNat%4:Nat):Int)) (b:=(2:Int)) rfl rfl) ?_
     refine l_val (v:= .bool (decide (((x4.kind.toNat%4:Nat):Int)=(2:Int)))) rfl rfl rfl (e_assign) ?_
     refine l_nil ?_
     refine f_then ?_
     refine c_if (((x4.kind.toNat%4:Nat):Int)=(2:Int)) rfl (fun hc26=> ?_) (fun hc26=> ?_)
     ·
      refine c_seq ?_
      have hall:=hR.all
      have hNl:((pairsA (arsE es)).map (mapE es)).length≤16384:=by rw[List.length_map];exact pairsA_le (by rw[List.length_map];omega)
      have hbe:beganS s=lessE ((pairsA (arsE es)).map (mapE es)) t:=by rw[hall];exact hR.began.symm
      have hen:endedS s=lessE t ((pairsA (arsE es)).map (mapE es)):=by rw[hall];exact hR.ended.symm
      have hbl:(beganS s).length≤1000000:=by rw[hbe];have:=lessE_len ((pairsA (arsE es)).map (mapE es)) t;omega
      have hel:(endedS s).length≤1000000:=by rw[hen];have:=lessE_len t ((pairsA (arsE es)).map (mapE es));omega
      have hR2:RelS es ((pairsA (arsE es)).map (mapE es)) (toldS s):=by rw[hall];exact hR.tell
      refine c_region ?_
      refine l_val (v:= .pointer (some ⟨b1,0,none⟩)) rfl rfl rfl (e_move) ?_
      refine l_call rfl rfl rfl (cl_value (fst:=[]) (cap:=[]) (vs:=[.pointer (some ⟨b1,0,none⟩)]) (all:=[.pointer (some ⟨b1,0,none⟩)]) tf77 rfl rfl rfl) ?_
      intro w hw
      replace hw:=hw.perm (L':=_::_::_::_::_::_::[]) (by exact((((((perm_front 5 rfl).trans (perm_front 5 rfl)).trans (perm_front 5 rfl)).trans (perm_front 5 rfl)).trans (perm_front 4 rfl)).trans (perm_front 5 rfl)))
      obtain⟨β1,sb,kn,hw1,back⟩:=St.frame (L:=[_]) (M:=_::_::_::_::_::[]) hw
      refine(changes_ok β1 w b1 s hw1 hR.ok).mono ?_
      rintro e w' ⟨p27,c28,q29,d30,rfl,hw'⟩
      refine⟨_,rfl,_,back _ _ hw',?_⟩
      clear hw hw1 hw' back kn sb
      refine l_val (v:= .tuple #[.slice p27 ((beganS s).length) c28,.slice q29 ((endedS s).length) d30]) rfl rfl rfl (e_move) ?_
      refine l_val (v:= .slice p27 ((beganS s).length) c28) rfl rfl rfl (e_extract (vs:= #[.slice p27 ((beganS s).length) c28,.slice q29 ((endedS s).length) d30]) rfl rfl) ?_
      refine l_val (v:= .slice q29 ((endedS s).length) d30) rfl rfl rfl (e_extract (vs:= #[.slice p27 ((beganS s).length) c28,.slice q29 ((endedS s).length) d30]) rfl rfl) ?_
      refine l_val (v:= .slice p27 ((beganS s).length) c28) rfl rfl rfl (e_assign) ?_
      refine l_val (v:= .slice q29 ((endedS s).length) d30) rfl rfl rfl (e_assign) ?_
      refine l_nil ?_
      refine f_then ?_
      refine c_seq ?_
      refine c_region ?_
      refine l_val (v:= .agg #[.slice p ((idsE es).length) c,.slice q ((arsE es).length) d,.slice u (t.length) e]) rfl rfl rfl (e_load tf255 (cs:=[.slice p ((idsE es).length) c,.slice q ((arsE es).length) d,.slice u (t.length) e]) rfl (k_pt 4 (cs:= #[.slice p ((idsE es).length) c,.slice q ((arsE es).length) d,.slice u (t.length) e]) (vs:=[.slice p ((idsE es).length) c,.slice q ((arsE es).length) d,.slice u (t.length) e]) rfl rfl) rfl) ?_
      refine l_call rfl rfl rfl (cl_value (fst:=[]) (cap:=[]) (vs:=[.agg #[.slice p ((idsE es).length) c,.slice q ((arsE es).length) d,.slice u (t.length) e]]) (all:=[.agg #[.slice p ((idsE es).length) c,.slice q ((arsE es).length) d,.slice u (t.length) e]]) tf271 rfl rfl rfl) ?_
      intro w hw
      obtain⟨β1,sb,kn,hw1,back⟩:=St.frame_all hw
      refine(rchg_ok β1 w hw1 _ _ es (kn _ (k_flN 5 (F:=IntF) (m:=(idsE es).length) rfl rfl)) (kn _ (k_flN 6 (F:=AreaF) (m:=(arsE es).length) rfl rfl)) (by omega) _ t (kn _ (k_flN 7 (F:=PairF) (m:=t.length) rfl rfl)) (by omega) hok hef).mono ?_
      rintro e w' ⟨p31,c32,q33,d34,u35,e36,rfl,hw'⟩
      refine⟨_,rfl,_,back _ _ hw',?_⟩
      clear hw hw1 hw' back kn sb
      refine l_val (v:= .tuple #[.agg #[.slice p ((idsE es).length) c,.slice q ((arsE es).length) d,.slice p31 (((pairsA (arsE es)).map (mapE es)).length) c32],.slice q33 ((lessE ((pairsA (arsE es)).map (mapE es)) t).length) d34,.slice u35 ((lessE t ((pairsA (arsE es)).map (mapE es))).length) e36]) rfl rfl rfl (e_move) ?_
      refine l_val (v:= .agg #[.slice p ((idsE es).length) c,.slice q ((arsE es).length) d,.slice p31 (((pairsA (arsE es)).map (mapE es)).length) c32]) rfl rfl rfl (e_extract (vs:= #[.agg #[.slice p ((idsE es).length) c,.slice q ((arsE es).length) d,.slice p31 (((pairsA (arsE es)).map (mapE es)).length) c32],.slice q33 ((lessE ((pairsA (arsE es)).map (mapE es)) t).length) d34,.slice u35 ((lessE t ((pairsA (arsE es)).map (mapE es))).length) e36]) rfl rfl) ?_
      refine l_val (v:= .slice q33 ((lessE ((pairsA (arsE es)).map (mapE es)) t).length) d34) rfl rfl rfl (e_extract (vs:= #[.agg #[.slice p ((idsE es).length) c,.slice q ((arsE es).length) d,.slice p31 (((pairsA (arsE es)).map (mapE es)).length) c32],.slice q33 ((lessE ((pairsA (arsE es)).map (mapE es)) t).length) d34,.slice u35 ((lessE t ((pairsA (arsE es)).map (mapE es))).length) e36]) rfl rfl) ?_
      refine l_val (v:= .slice u35 ((lessE t ((pairsA (arsE es)).map (mapE es))).length) e36) rfl rfl rfl (e_extract (vs:= #[.agg #[.slice p ((idsE es).length) c,.slice q ((arsE es).length) d,.slice p31 (((pairsA (arsE es)).map (mapE es)).length) c32],.slice q33 ((lessE ((pairsA (arsE es)).map (mapE es)) t).length) d34,.slice u35 ((lessE t ((pairsA (arsE es)).map (mapE es))).length) e36]) rfl rfl) ?_
      refine l_mv rfl rfl rfl (m_alloc tf252) ?_
      rintro _ _ ⟨b37,rfl,rfl⟩
      refine l_mu rfl rfl (m_store 0 tf255 (b:=b37) (o:=0) (T:=59) (cs:= #[.slice none 0 0,.slice none 0 0,.slice none 0 0]) (cs':= #[.slice p ((idsE es).length) c,.slice q ((arsE es).length) d,.slice p31 (((pairsA (arsE es)).map (mapE es)).length) c32]) (v:= .agg #[.slice p ((idsE es).length) c,.slice q ((arsE es).length) d,.slice p31 (((pairsA (arsE es)).map (mapE es)).length) c32]) rfl rfl rfl rfl rfl rfl rfl) ?_
      refine l_val (v:= .slice q33 ((lessE ((pairsA (arsE es)).map (mapE es)) t).length) d34) rfl rfl rfl (e_assign) ?_
      refine l_val (v:= .slice u35 ((lessE t ((pairsA (arsE es)).map (mapE es))).length) e36) rfl rfl rfl (e_assign) ?_
      refine l_nil ?_
      refine f_then ?_
      refine c_seq ?_
      refine c_seq ?_
      refine c_region ?_
      refine l_val (v:= .slice p27 ((beganS s).length) c28) rfl rfl rfl (e_move) ?_
      refine l_val (v:= .slice q33 ((lessE ((pairsA (arsE es)).map (mapE es)) t).length) d34) rfl rfl rfl (e_move) ?_
      refine l_call rfl rfl rfl (cl_value (fst:=[]) (cap:=[]) (vs:=[.slice p27 ((beganS s).length) c28,.slice q33 ((lessE ((pairsA (arsE es)).map (mapE es)) t).length) d34]) (all:=[.slice p27 ((beganS s).length) c28,.slice q33 ((lessE ((pairsA (arsE es)).map (mapE es)) t).length) d34]) tf83 rfl rfl rfl) ?_
      intro w hw
      obtain⟨β1,sb,kn,hw1,back⟩:=St.frame_all hw
      refine(same_ok β1 w hw1 _ _ (beganS s) (lessE ((pairsA (arsE es)).map (mapE es)) t) (kn _ (k_flN 4 (F:=PairF) (m:=(beganS s).length) rfl rfl)) (kn _ (k_flN 2 (F:=PairF) (m:=(lessE ((pairsA (arsE es)).map (mapE es)) t).length) rfl rfl))).mono ?_
      rintro e w' ⟨rfl,hw'⟩
      refine⟨_,rfl,_,back _ _ hw',?_⟩
      clear hw hw1 hw' back kn sb
      refine l_val (v:= .bool (decide (¬((beganS s)=(lessE ((pairsA (arsE es)).map (mapE es)) t))))) rfl rfl rfl (e_not_p (p:=(beganS s)=(lessE ((pairsA (arsE es)).map (mapE es)) t)) rfl) ?_
      refine l_val (v:= .bool (decide (¬((beganS s)=(lessE ((pairsA (arsE es)).map (mapE es)) t))))) rfl rfl rfl (e_move) ?_
      refine l_split (s:=80) (p:=¬((beganS s)=(lessE ((pairsA (arsE es)).map (mapE es)) t))) rfl (fun h=> ?_) (fun h=> ?_)
      exact absurd h (fun q=>q hbe)
      refine g_val (v:= .slice q29 ((endedS s).length) d30) rfl rfl rfl rfl rfl (e_move) ?_
      refine g_val (v:= .slice u35 ((lessE t ((pairsA (arsE es)).map (mapE es))).length) e36) rfl rfl rfl rfl rfl (e_move) ?_
      refine g_call rfl rfl rfl rfl rfl (cl_value (fst:=[]) (cap:=[]) (vs:=[.slice q29 ((endedS s).length) d30,.slice u35 ((lessE t ((pairsA (arsE es)).map (mapE es))).length) e36]) (all:=[.slice q29 ((endedS s).length) d30,.slice u35 ((lessE t ((pairsA (arsE es)).map (mapE es))).length) e36]) tf83 rfl rfl rfl) ?_
      intro w hw
      obtain⟨β1,sb,kn,hw1,back⟩:=St.frame_all hw
      refine(same_ok β1 w hw1 _ _ (endedS s) (lessE t ((pairsA (arsE es)).map (mapE es))) (kn _ (k_flN 5 (F:=PairF) (m:=(endedS s).length) rfl rfl)) (kn _ (k_flN 3 (F:=PairF) (m:=(lessE t ((pairsA (arsE es)).map (mapE es))).length) rfl rfl))).mono ?_
      rintro e w' ⟨rfl,hw'⟩
      refine⟨_,rfl,_,back _ _ hw',?_⟩
      clear hw hw1 hw' back kn sb
      refine g_val (v:= .bool (decide (¬((endedS s)=(lessE t ((pairsA (arsE es)).map (mapE es))))))) rfl rfl rfl rfl rfl (e_not_p (p:=(endedS s)=(lessE t ((pairsA (arsE es)).map (mapE es)))) rfl) ?_
      refine l_val (v:= .bool (decide (¬((endedS s)=(lessE t ((pairsA (arsE es)).map (mapE es))))))) rfl rfl rfl (e_pick_f rfl) ?_
      refine l_val (v:= .bool (decide (¬((endedS s)=(lessE t ((pairsA (arsE es)).map (mapE es))))))) rfl rfl rfl (e_move) ?_
      refine l_split (s:=86) (p:=¬((endedS s)=(lessE t ((pairsA (arsE es)).map (mapE es))))) rfl (fun h=> ?_) (fun h=> ?_)
      exact absurd h (fun q=>q hen)
      refine g_val (v:= .slice p27 ((beganS s).length) c28) rfl rfl rfl rfl rfl (e_move) ?_
      refine g_val (v:= .slice q29 ((endedS s).length) d30) rfl rfl rfl rfl rfl (e_move) ?_
      refine g_mv rfl rfl rfl rfl rfl (m_slices tf122 tf59 (vs:=[(0,.slice p27 ((beganS s).length) c28),(1,.slice q29 ((endedS s).length) d30)]) (cells:= #[.slice p27 ((beganS s).length) c28,.slice q29 ((endedS s).length) d30]) rfl rfl rfl rfl) ?_
      rintro _ _ ⟨b38,rfl,rfl⟩
      refine g_call rfl rfl rfl rfl rfl (cl_value (fst:=[]) (cap:=[]) (vs:=[.slice (some ⟨b38,0,none⟩) 2 2]) (all:=[.slice (some ⟨b38,0,none⟩) 2 2]) tf250 rfl rfl rfl) ?_
      intro w hw
      replace hw:=hw.perm (L':=_::_::_::_::_::_::_::_::_::_::_::_::_::[]) (by exact(((((((((((((perm_front 12 rfl).trans (perm_front 12 rfl)).trans (perm_front 12 rfl)).trans (perm_front 12 rfl)).trans (perm_front 12 rfl)).trans (perm_front 12 rfl)).trans (perm_front 10 rfl)).trans (perm_front 10 rfl)).trans (perm_front 10 rfl)).trans (perm_front 10 rfl)).trans (perm_front 10 rfl)).trans (perm_front 12 rfl)).trans (perm_front 12 rfl)))
      obtain⟨β1,sb,kn,hw1,back⟩:=St.frame (L:=[_,_]) (M:=_::_::_::_::_::_::_::_::_::_::_::[]) hw
      have hls2:Sl H3F.R β1.heap (.slice (some ⟨b38,0,none⟩) 2 2) [(⟨p27,(beganS s).length,c28⟩:H3),(⟨q29,(endedS s).length,d30⟩:H3)]:=kn _ (k_ptFls (F:=H3F) 0 (m:=2) (xs:=[(⟨p27,(beganS s).length,c28⟩:H3),(⟨q29,(endedS s).length,d30⟩:H3)]) rfl rfl rfl (Nat.le_of_ble_eq_true rfl))
      refine(apart2_ok β1 w _ p27 q29 c28 d30 (beganS s) (endedS s) hbl hel hls2 hw1).mono ?_
      rintro e w' ⟨rfl,hw'⟩
      refine⟨_,rfl,_,back _ _ hw',?_⟩
      clear hw hw1 hw' back kn sb
      refine g_val (v:= .bool false) rfl rfl rfl rfl rfl (e_not (a:=true) rfl) ?_
      refine l_val (v:= .bool false) rfl rfl rfl (e_pick_f rfl) ?_
      refine l_nil ?_
      refine f_then ?_
      refine c_no rfl ?_
      refine c_skip ?_
      refine f_then ?_
      refine c_region ?_
      refine l_val (v:= .agg #[.slice p ((idsE es).length) c,.slice q ((arsE es).length) d,.slice p31 (((pairsA (arsE es)).map (mapE es)).length) c32]) rfl rfl rfl (e_load tf255 (cs:=[.slice p ((idsE es).length) c,.slice q ((arsE es).length) d,.slice p31 (((pairsA (arsE es)).map (mapE es)).length) c32]) rfl (k_pt 1 (cs:= #[.slice p ((idsE es).length) c,.slice q ((arsE es).length) d,.slice p31 (((pairsA (arsE es)).map (mapE es)).length) c32]) (vs:=[.slice p ((idsE es).length) c,.slice q ((arsE es).length) d,.slice p31 (((pairsA (arsE es)).map (mapE es)).length) c32]) rfl rfl) rfl) ?_
      refine l_mu rfl rfl (m_store 7 tf255 (b:=b2) (o:=0) (T:=59) (cs:= #[.slice p ((idsE es).length) c,.slice q ((arsE es).length) d,.slice u (t.length) e]) (cs':= #[.slice p ((idsE es).length) c,.slice q ((arsE es).length) d,.slice p31 (((pairsA (arsE es)).map (mapE es)).length) c32]) (v:= .agg #[.slice p ((idsE es).length) c,.slice q ((arsE es).length) d,.slice p31 (((pairsA (arsE es)).map (mapE es)).length) c32]) rfl rfl rfl rfl rfl rfl rfl) ?_
      refine l_nil ?_
      refine f_block ?_
      refine f_perm (L':=[spcR b1 (toldS s),pt b2 (.cells #[.slice p ((idsE es).length) c,.slice q ((arsE es).length) d,.slice p31 (((pairsA (arsE es)).map (mapE es)).length) c32] 59),rowF IntF 3 p c (idsE es),rowF AreaF 32 q d (arsE es),rowF PairF 55 p31 c32 ((pairsA (arsE es)).map (mapE es)),pt b38 (.cells #[.slice p27 ((beganS s).length) c28,.slice q29 ((endedS s).length) d30] 38),pt b37 (.cells #[.slice p ((idsE es).length) c,.slice q ((arsE es).length) d,.slice p31 (((pairsA (arsE es)).map (mapE es)).length) c32] 59),rowF PairF 55 q33 d34 (lessE ((pairsA (arsE es)).map (mapE es)) t),rowF PairF 55 u35 e36 (lessE t ((pairsA (arsE es)).map (mapE es))),pt b10 (.cells #[Bx (x4.kind),Ix (x4.id),Ix (x4.ar.lx),Ix (x4.ar.ly),Ix (x4.ar.hx),Ix (x4.ar.hy)] 61),rowF PairF 55 u e t]) (perm_ix [5,7,8,9,2,0,1,3,4,6,10] 11 rfl (by kernel_rfl) (by kernel_rfl)) ?_
      refine f_mask (L':=[spcR b1 (toldS s),pt b2 (.cells #[.slice p ((idsE es).length) c,.slice q ((arsE es).length) d,.slice p31 (((pairsA (arsE es)).map (mapE es)).length) c32] 59),rowF IntF 3 p c (idsE es),rowF AreaF 32 q d (arsE es),rowF PairF 55 p31 c32 ((pairsA (arsE es)).map (mapE es))]) [true,true,true,true,true,false,false,false,false,false,false] rfl ?_
      exact f_cut ⟨(toldS s),es,((pairsA (arsE es)).map (mapE es)),p,c,q,d,p31,c32,⟨rfl,rfl,rfl,rfl⟩,rfl,hR2⟩
     ·
      refine c_seq ?_
      refine c_region ?_
      refine l_val (v:= .bool (decide (((x4.kind.toNat%4:Nat):Int)=(3:Int)))) rfl rfl rfl (e_eql (a:=((x4.kind.toNat%4:Nat):Int)) (b:=(3:Int)) rfl rfl) ?_
      refine l_val (v:= .bool (decide (((x4.kind.toNat%4:Nat):Int)=(3:Int)))) rfl rfl rfl (e_assign) ?_
      refine l_nil ?_
      refine f_then ?_
      refine c_if (((x4.kind.toNat%4:Nat):Int)=(3:Int)) rfl (fun hc39=> ?_) (fun hc39=> ?_)
      ·
       refine c_seq ?_
       refine c_any [⟨[],[],[0],[96],fun f=>f 96= .pointer (some ⟨b1,0,none⟩)⟩,⟨[],[],[1],[97],fun f=>f 97= .pointer (some ⟨b10,2,none⟩)⟩,⟨[1],[1],[],[98],fun f=>f 98= .agg (aC x4.ar)⟩,⟨[0,1,2],[0,2],[],[99],fun f=>f 99= .slice (sla (f 99)) ((queryX s x4.ar).length) (slc (f 99))⟩,⟨[],[],[2],[100],fun f=>f 100= .agg #[.slice p ((idsE es).length) c,.slice q ((arsE es).length) d,.slice u (t.length) e]⟩,⟨[],[],[1],[101],fun f=>f 101= .pointer (some ⟨b10,2,none⟩)⟩,⟨[5],[5],[],[102],fun f=>f 102= .agg (aC x4.ar)⟩,⟨[0,1,2,3,4,5,6],[4,6],[],[103],fun f=>f 103= .slice (sla (f 103)) ((queryE es x4.ar).length) (slc (f 103))⟩,⟨[0,1,2,3,4,5,6,7],[3,7],[],[104],fun f=>f 104= .bool true⟩,⟨[0,1,2,3,4,5,6,7,8],[8],[],[105],fun f=>f 105= .bool false⟩] [⟨none,none,[2,6],[],fun _=>pt b10 (.cells #[Bx (x4.kind),Ix (x4.id),Ix (x4.ar.lx),Ix (x4.ar.ly),Ix (x4.ar.hx),Ix (x4.ar.hy)] 61)⟩,⟨none,(some 3),[3],[],fun _=>spcR b1 s⟩,⟨none,none,[4],[],fun _=>pt b2 (.cells #[.slice p ((idsE es).length) c,.slice q ((arsE es).length) d,.slice u (t.length) e] 59)⟩,⟨none,none,[7],[],fun _=>rowF IntF 3 p c (idsE es)⟩,⟨none,none,[7],[],fun _=>rowF AreaF 32 q d (arsE es)⟩,⟨none,none,[],[],fun _=>rowF PairF 55 u e t⟩,⟨(some 3),none,[8],[99],fun f=>rowF IntF 3 (sla (f 99)) (slc (f 99)) (queryX s x4.ar)⟩,⟨(some 3),none,[],[],fun _=>spcR b1 s⟩,⟨(some 7),none,[8],[103],fun f=>rowF IntF 3 (sla (f 103)) (slc (f 103)) (queryE es x4.ar)⟩] [(3,.pointer (some ⟨b1,0,none⟩)),(7,.pointer (some ⟨b10,0,none⟩)),(4,.pointer (some ⟨b2,0,none⟩)),(0,.slice va (l.length) (vc)),(5,Nx (k))] [3,0,2,4] [] (by kernel_rfl) (by kernel_rfl) (by kernel_rfl) (by kernel_rfl) rfl ⟨rfl,rfl,rfl,rfl,rfl,trivial⟩ ⟨?_,?_,?_,?_,?_,?_,?_,?_,?_,?_,trivial⟩ ?_
       ·rintro f M-⟨i0,-⟩
        have hs3:f 3= .pointer (some ⟨b1,0,none⟩):=i0
        refine ob_start (L':=M) (by rfl) (up_cons rfl hs3) ?_
        refine l_val (v:= .pointer (some ⟨b1,0,none⟩)) rfl rfl rfl (e_move) ?_
        refine l_nil ?_
        exact f_owes_d (up_cons rfl hs3) rfl (List.Perm.refl _)
       ·rintro f M-⟨i0,-⟩
        have hs7:f 7= .pointer (some ⟨b10,0,none⟩):=i0
        refine ob_start (L':=M) (by rfl) (up_cons rfl hs7) ?_
        refine l_val (v:= .pointer (some ⟨b10,2,none⟩)) rfl rfl rfl (e_fieldPt (b:=b10) (o:=0) rfl tf269) ?_
        refine l_nil ?_
        exact f_owes_d (up_cons rfl hs7) rfl (List.Perm.refl _)
       ·rintro f M ⟨k0,-⟩-
        have hs97:f 97= .pointer (some ⟨b10,2,none⟩):=k0
        refine ob_start (L':=pt b10 (.cells #[Bx (x4.kind),Ix (x4.id),Ix (x4.ar.lx),Ix (x4.ar.ly),Ix (x4.ar.hx),Ix (x4.ar.hy)] 61)::M) (by rfl) (up_cons rfl hs97) ?_
        refine l_val (v:= .agg (aC x4.ar)) rfl rfl rfl (e_load tf10 (cs:=(areaE x4.ar)) rfl (k_pt 0 (cs:= #[Bx (x4.kind),Ix (x4.id),Ix (x4.ar.lx),Ix (x4.ar.ly),Ix (x4.ar.hx),Ix (x4.ar.hy)]) (vs:=(areaE x4.ar)) rfl rfl) rfl) ?_
        refine l_nil ?_
        exact f_owes_d (up_cons rfl hs97) rfl (perm_front 0 rfl)
       ·rintro f M ⟨k0,k1,-⟩-
        have hs96:f 96= .pointer (some ⟨b1,0,none⟩):=k0
        have hs98:f 98= .agg (aC x4.ar):=k1
        refine ob_start (L':=spcR b1 s::M) (by rfl) (up_cons (up_cons rfl hs96) hs98) ?_
        refine l_call rfl rfl rfl (cl_value (fst:=[]) (cap:=[]) (vs:=[.pointer (some ⟨b1,0,none⟩),.agg (aC x4.ar)]) (all:=[.pointer (some ⟨b1,0,none⟩),.agg (aC x4.ar)]) tf84 rfl rfl rfl) ?_
        intro w hw
        replace hw:=hw.perm (L':=_::M) (by exact(perm_front 0 rfl))
        obtain⟨β1,sb,kn,hw1,back⟩:=St.frame (L:=[_]) (M:=M) hw
        refine(query_ok β1 w b1 s hw1 hR.ok x4.ar).mono ?_
        rintro e w' ⟨p42,c43,rfl,hw'⟩
        refine⟨_,rfl,_,back _ _ hw',?_⟩
        clear hw hw1 hw' back kn sb
        refine l_nil ?_
        exact f_owes_d (up_cons (up_cons rfl hs96) hs98) rfl ((perm_front 1 rfl).trans (perm_front 1 rfl))
       ·rintro f M-⟨i0,-⟩
        have hs4:f 4= .pointer (some ⟨b2,0,none⟩):=i0
        refine ob_start (L':=pt b2 (.cells #[.slice p ((idsE es).length) c,.slice q ((arsE es).length) d,.slice u (t.length) e] 59)::M) (by rfl) (up_cons rfl hs4) ?_
        refine l_val (v:= .agg #[.slice p ((idsE es).length) c,.slice q ((arsE es).length) d,.slice u (t.length) e]) rfl rfl rfl (e_load tf255 (cs:=[.slice p ((idsE es).length) c,.slice q ((arsE es).length) d,.slice u (t.length) e]) rfl (k_pt 0 (cs:= #[.slice p ((idsE es).length) c,.slice q ((arsE es).length) d,.slice u (t.length) e]) (vs:=[.slice p ((idsE es).length) c,.slice q ((arsE es).length) d,.slice u (t.length) e]) rfl rfl) rfl) ?_
        refine l_nil ?_
        exact f_owes_d (up_cons rfl hs4) rfl (perm_front 0 rfl)
       ·rintro f M-⟨i0,-⟩
        have hs7:f 7= .pointer (some ⟨b10,0,none⟩):=i0
        refine ob_start (L':=M) (by rfl) (up_cons rfl hs7) ?_
        refine l_val (v:= .pointer (some ⟨b10,2,none⟩)) rfl rfl rfl (e_fieldPt (b:=b10) (o:=0) rfl tf269) ?_
        refine l_nil ?_
        exact f_owes_d (up_cons rfl hs7) rfl (List.Perm.refl _)
       ·rintro f M ⟨k0,-⟩-
        have hs101:f 101= .pointer (some ⟨b10,2,none⟩):=k0
        refine ob_start (L':=pt b10 (.cells #[Bx (x4.kind),Ix (x4.id),Ix (x4.ar.lx),Ix (x4.ar.ly),Ix (x4.ar.hx),Ix (x4.ar.hy)] 61)::M) (by rfl) (up_cons rfl hs101) ?_
        refine l_val (v:= .agg (aC x4.ar)) rfl rfl rfl (e_load tf10 (cs:=(areaE x4.ar)) rfl (k_pt 0 (cs:= #[Bx (x4.kind),Ix (x4.id),Ix (x4.ar.lx),Ix (x4.ar.ly),Ix (x4.ar.hx),Ix (x4.ar.hy)]) (vs:=(areaE x4.ar)) rfl rfl) rfl) ?_
        refine l_nil ?_
        exact f_owes_d (up_cons rfl hs101) rfl (perm_front 0 rfl)
       ·rintro f M ⟨k0,k1,-⟩-
        have hs100:f 100= .agg #[.slice p ((idsE es).length) c,.slice q ((arsE es).length) d,.slice u (t.length) e]:=k0
        have hs102:f 102= .agg (aC x4.ar):=k1
        refine ob_start (L':=rowF IntF 3 p c (idsE es)::rowF AreaF 32 q d (arsE es)::M) (by rfl) (up_cons (up_cons rfl hs100) hs102) ?_
        refine l_call rfl rfl rfl (cl_value (fst:=[]) (cap:=[]) (vs:=[.agg #[.slice p ((idsE es).length) c,.slice q ((arsE es).length) d,.slice u (t.length) e],.agg (aC x4.ar)]) (all:=[.agg #[.slice p ((idsE es).length) c,.slice q ((arsE es).length) d,.slice u (t.length) e],.agg (aC x4.ar)]) tf272 rfl rfl rfl) ?_
        intro w hw
        obtain⟨β1,sb,kn,hw1,back⟩:=St.frame_all hw
        refine(rquery_ok β1 w hw1 _ _ es (kn _ (k_flN 0 (F:=IntF) (m:=(idsE es).length) rfl rfl)) (kn _ (k_flN 1 (F:=AreaF) (m:=(arsE es).length) rfl rfl)) (by omega) u t.length e x4.ar).mono ?_
        rintro e w' ⟨p46,c47,rfl,hw'⟩
        refine⟨_,rfl,_,back _ _ hw',?_⟩
        clear hw hw1 hw' back kn sb
        refine l_nil ?_
        exact f_owes_d (up_cons (up_cons rfl hs100) hs102) rfl (((perm_front 0 rfl).trans (perm_front 2 rfl)).trans (perm_front 2 rfl))
       ·rintro f M ⟨k0,k1,-⟩-
        have hs99:f 99= .slice (sla (f 99)) ((queryX s x4.ar).length) (slc (f 99)):=k0
        have hs103:f 103= .slice (sla (f 103)) ((queryE es x4.ar).length) (slc (f 103)):=k1
        refine ob_start (L':=rowF IntF 3 (sla (f 99)) (slc (f 99)) (queryX s x4.ar)::rowF IntF 3 (sla (f 103)) (slc (f 103)) (queryE es x4.ar)::M) (by rfl) (up_cons (up_cons rfl hs99) hs103) ?_
        refine l_call rfl rfl rfl (cl_value (fst:=[]) (cap:=[]) (vs:=[.slice (sla (f 99)) ((queryX s x4.ar).length) (slc (f 99)),.slice (sla (f 103)) ((queryE es x4.ar).length) (slc (f 103))]) (all:=[.slice (sla (f 99)) ((queryX s x4.ar).length) (slc (f 99)),.slice (sla (f 103)) ((queryE es x4.ar).length) (slc (f 103))]) tf85 rfl rfl rfl) ?_
        intro w hw
        obtain⟨β1,sb,kn,hw1,back⟩:=St.frame_all hw
        refine(sameI_ok β1 w hw1 _ _ (queryX s x4.ar) (queryE es x4.ar) (kn _ (k_flN 0 (F:=IntF) (m:=(queryX s x4.ar).length) rfl rfl)) (kn _ (k_flN 1 (F:=IntF) (m:=(queryE es x4.ar).length) rfl rfl))).mono ?_
        rintro e w' ⟨rfl,hw'⟩
        refine⟨_,rfl,_,back _ _ hw',?_⟩
        clear hw hw1 hw' back kn sb
        refine l_nil ?_
        exact f_owes_d (up_cons (up_cons rfl hs99) hs103) (congrArg Value.bool (decide_eq_true (hR.query _).symm)) ((perm_front 1 rfl).trans (perm_front 1 rfl))
       ·rintro f M ⟨k0,-⟩-
        have hs104:f 104= .bool true:=k0
        refine ob_start (L':=M) (by rfl) (up_cons rfl hs104) ?_
        refine l_val (v:= .bool false) rfl rfl rfl (e_not (a:=true) rfl) ?_
        refine l_nil ?_
        exact f_owes_d (up_cons rfl hs104) rfl (List.Perm.refl _)
       rintro fa48 ⟨-,-,-,-,-,-,-,-,-,k9,-⟩ ⟨j0,j1,j2,j3,-⟩
       refine f_re (L':=[pt b10 (.cells #[Bx (x4.kind),Ix (x4.id),Ix (x4.ar.lx),Ix (x4.ar.ly),Ix (x4.ar.hx),Ix (x4.ar.hy)] 61),pt b2 (.cells #[.slice p ((idsE es).length) c,.slice q ((arsE es).length) d,.slice u (t.length) e] 59),rowF IntF 3 p c (idsE es),rowF AreaF 32 q d (arsE es),rowF PairF 55 u e t,rowF IntF 3 (sla (fa48 99)) (slc (fa48 99)) (queryX s x4.ar),spcR b1 s,rowF IntF 3 (sla (fa48 103)) (slc (fa48 103)) (queryE es x4.ar)]) (by rfl) ?_
       refine f_rebase (d:=0) (v:= .slice va (l.length) (vc)) j0 ?_
       refine f_rebase (d:=3) (v:= .pointer (some ⟨b1,0,none⟩)) j1 ?_
       refine f_rebase (d:=4) (v:= .pointer (some ⟨b2,0,none⟩)) j2 ?_
       refine f_rebase (d:=5) (v:=Nx (k)) j3 ?_
       refine f_rebase (d:=105) (v:= .bool false) k9 ?_
       refine f_then ?_
       refine c_no rfl ?_
       refine c_skip ?_
       refine f_block ?_
       refine f_perm (L':=[spcR b1 s,pt b2 (.cells #[.slice p ((idsE es).length) c,.slice q ((arsE es).length) d,.slice u (t.length) e] 59),rowF IntF 3 p c (idsE es),rowF AreaF 32 q d (arsE es),rowF PairF 55 u e t,pt b10 (.cells #[Bx (x4.kind),Ix (x4.id),Ix (x4.ar.lx),Ix (x4.ar.ly),Ix (x4.ar.hx),Ix (x4.ar.hy)] 61),rowF IntF 3 (sla (fa48 99)) (slc (fa48 99)) (queryX s x4.ar),rowF IntF 3 (sla (fa48 103)) (slc (fa48 103)) (queryE es x4.ar)]) (perm_ix [6,1,2,3,4,0,5,7] 8 rfl (by kernel_rfl) (by kernel_rfl)) ?_
       refine f_mask (L':=[spcR b1 s,pt b2 (.cells #[.slice p ((idsE es).length) c,.slice q ((arsE es).length) d,.slice u (t.length) e] 59),rowF IntF 3 p c (idsE es),rowF AreaF 32 q d (arsE es),rowF PairF 55 u e t]) [true,true,true,true,true,false,false,false] rfl ?_
       exact f_cut ⟨s,es,t,p,c,q,d,u,e,⟨rfl,rfl,rfl,rfl⟩,rfl,hR⟩
      ·
       exact absurd (by have:=Nat.mod_lt x4.kind.toNat (show 0<4 by decide);omega) hc39
  rintro f0 L0 ⟨s1,es1,t1,p1,c1,q1,d1,u1,e1,⟨hs0,hs3,hs4,hs5⟩,hL,hR1⟩
  subst L0
  refine rebase (d:=0) hs0 ?_
  refine rebase (d:=3) hs3 ?_
  refine rebase (d:=4) hs4 ?_
  refine rebase (d:=5) hs5 ?_
  clear hs0 hs3 hs4 hs5
  have hef1:=hR1.few
  have htf1:=hR1.tfew
  have hok1:=hR1.areas
  refine c_seq ?_
  have hall:=hR1.all
  have hNl:((pairsA (arsE es1)).map (mapE es1)).length≤16384:=by rw[List.length_map];exact pairsA_le (by rw[List.length_map];omega)
  by_cases hg49:((k%5:Nat):Int)=(4:Int)
  ·
   refine c_any [⟨[],[],[0],[106],fun f=>f 106=Nx (k)⟩,⟨[0],[0],[],[107],fun f=>f 107=Nx (k%5)⟩,⟨[0,1],[1],[],[108],fun f=>f 108= .bool true⟩,⟨[0,1,2],[2],[],[109],fun f=>f 109= .bool true⟩,⟨[0,1,2,3],[3],[1],[110],fun f=>f 110= .pointer (some ⟨b1,0,none⟩)⟩,⟨[0,1,2,3,4],[4,3],[],[111],fun f=>f 111= .slice (sla (f 111)) ((pairsS s1).length) (slc (f 111))⟩,⟨[0,1,2,3],[3],[2],[112],fun f=>f 112= .agg #[.slice p1 ((idsE es1).length) c1,.slice q1 ((arsE es1).length) d1,.slice u1 (t1.length) e1]⟩,⟨[0,1,2,3,4,5,6],[6,3],[],[113],fun f=>f 113= .slice (sla (f 113)) (((pairsA (arsE es1)).map (mapE es1)).length) (slc (f 113))⟩,⟨[0,1,2,3,4,5,6,7],[5,7,3],[],[114],fun f=>f 114= .bool true⟩,⟨[0,1,2,3,4,5,6,7,8],[8,3],[],[115],fun f=>f 115= .bool false⟩,⟨[0,1,2,3,4,5,6,7,8,9],[3,9],[],[116],fun f=>f 116= .bool false⟩] [⟨none,(some 5),[5],[],fun _=>spcR b1 s1⟩,⟨none,none,[6],[],fun _=>pt b2 (.cells #[.slice p1 ((idsE es1).length) c1,.slice q1 ((arsE es1).length) d1,.slice u1 (t1.length) e1] 59)⟩,⟨none,none,[7],[],fun _=>rowF IntF 3 p1 c1 (idsE es1)⟩,⟨none,none,[7],[],fun _=>rowF AreaF 32 q1 d1 (arsE es1)⟩,⟨none,none,[],[],fun _=>rowF PairF 55 u1 e1 t1⟩,⟨(some 5),none,[8],[111],fun f=>rowF PairF 55 (sla (f 111)) (slc (f 111)) (pairsS s1)⟩,⟨(some 5),none,[],[],fun _=>spcR b1 s1⟩,⟨(some 7),none,[8],[113],fun f=>rowF PairF 55 (sla (f 113)) (slc (f 113)) ((pairsA (arsE es1)).map (mapE es1))⟩] [(5,Nx (k)),(3,.pointer (some ⟨b1,0,none⟩)),(4,.pointer (some ⟨b2,0,none⟩)),(0,.slice va (l.length) (vc))] [3,1,2,0] [] (by kernel_rfl) (by kernel_rfl) (by kernel_rfl) (by kernel_rfl) rfl ⟨rfl,rfl,rfl,rfl,trivial⟩ ⟨?_,?_,?_,?_,?_,?_,?_,?_,?_,?_,?_,trivial⟩ ?_
   ·rintro f M-⟨i0,-⟩
    have hs5:f 5=Nx (k):=i0
    refine ob_start (L':=M) (by rfl) (up_cons rfl hs5) ?_
    refine l_val (v:=Nx (k)) rfl rfl rfl (e_move) ?_
    refine l_nil ?_
    exact f_owes_d (up_cons rfl hs5) rfl (List.Perm.refl _)
   ·rintro f M ⟨k0,-⟩-
    have hs106:f 106=Nx (k):=k0
    refine ob_start (L':=M) (by rfl) (up_cons rfl hs106) ?_
    refine l_val (v:=Nx (k%5)) rfl rfl rfl (e_rem (a:=((k:Nat):Int)) (b:=(5:Int)) rfl rfl (by decide) (nat_tmod _ 5)) ?_
    refine l_nil ?_
    exact f_owes_d (up_cons rfl hs106) rfl (List.Perm.refl _)
   ·rintro f M ⟨k0,-⟩-
    have hs107:f 107=Nx (k%5):=k0
    refine ob_start (L':=M) (by rfl) (up_cons rfl hs107) ?_
    refine l_val (v:= .bool true) rfl rfl rfl ((ev_t hg49 (e_eql (a:=((k%5:Nat):Int)) (b:=(4:Int)) rfl rfl))) ?_
    refine l_nil ?_
    exact f_owes_d (up_cons rfl hs107) rfl (List.Perm.refl _)
   ·rintro f M ⟨k0,-⟩-
    have hs108:f 108= .bool true:=k0
    refine ob_start (L':=M) (by rfl) (up_cons rfl hs108) ?_
    refine l_val (v:= .bool true) rfl rfl rfl (e_move) ?_
    refine l_nil ?_
    exact f_owes_d (up_cons rfl hs108) rfl (List.Perm.refl _)
   ·rintro f M ⟨k0,-⟩ ⟨i0,-⟩
    have hs3:f 3= .pointer (some ⟨b1,0,none⟩):=i0
    have hs109:f 109= .bool true:=k0
    refine ob_start (L':=M) (by rfl) (up_cons (up_cons rfl hs3) hs109) ?_
    refine g_val (v:= .pointer (some ⟨b1,0,none⟩)) rfl rfl rfl rfl rfl (e_move) ?_
    refine l_nil ?_
    exact f_owes_d (up_cons (up_cons rfl hs3) hs109) rfl (List.Perm.refl _)
   ·rintro f M ⟨k0,k1,-⟩-
    have hs110:f 110= .pointer (some ⟨b1,0,none⟩):=k0
    have hs109:f 109= .bool true:=k1
    refine ob_start (L':=spcR b1 s1::M) (by rfl) (up_cons (up_cons rfl hs110) hs109) ?_
    refine g_call rfl rfl rfl rfl rfl (cl_value (fst:=[]) (cap:=[]) (vs:=[.pointer (some ⟨b1,0,none⟩)]) (all:=[.pointer (some ⟨b1,0,none⟩)]) tf76 rfl rfl rfl) ?_
    intro w hw
    replace hw:=hw.perm (L':=_::M) (by exact(perm_front 0 rfl))
    obtain⟨β1,sb,kn,hw1,back⟩:=St.frame (L:=[_]) (M:=M) hw
    refine(spairsx_ok β1 w b1 s1 hw1 hR1.ok).mono ?_
    rintro e w' ⟨p52,c53,rfl,hw'⟩
    refine⟨_,rfl,_,back _ _ hw',?_⟩
    clear hw hw1 hw' back kn sb
    refine l_nil ?_
    exact f_owes_d (up_cons (up_cons rfl hs110) hs109) rfl ((perm_front 1 rfl).trans (perm_front 1 rfl))
   ·rintro f M ⟨k0,-⟩ ⟨i0,-⟩
    have hs4:f 4= .pointer (some ⟨b2,0,none⟩):=i0
    have hs109:f 109= .bool true:=k0
    refine ob_start (L':=pt b2 (.cells #[.slice p1 ((idsE es1).length) c1,.slice q1 ((arsE es1).length) d1,.slice u1 (t1.length) e1] 59)::M) (by rfl) (up_cons (up_cons rfl hs4) hs109) ?_
    refine g_val (v:= .agg #[.slice p1 ((idsE es1).length) c1,.slice q1 ((arsE es1).length) d1,.slice u1 (t1.length) e1]) rfl rfl rfl rfl rfl (e_load tf255 (cs:=[.slice p1 ((idsE es1).length) c1,.slice q1 ((arsE es1).length) d1,.slice u1 (t1.length) e1]) rfl (k_pt 0 (cs:= #[.slice p1 ((idsE es1).length) c1,.slice q1 ((arsE es1).length) d1,.slice u1 (t1.length) e1]) (vs:=[.slice p1 ((idsE es1).length) c1,.slice q1 ((arsE es1).length) d1,.slice u1 (t1.length) e1]) rfl rfl) rfl) ?_
    refine l_nil ?_
    exact f_owes_d (up_cons (up_cons rfl hs4) hs109) rfl (perm_front 0 rfl)
   ·rintro f M ⟨k0,k1,-⟩-
    have hs112:f 112= .agg #[.slice p1 ((idsE es1).length) c1,.slice q1 ((arsE es1).length) d1,.slice u1 (t1.length) e1]:=k0
    have hs109:f 109= .bool true:=k1
    refine ob_start (L':=rowF IntF 3 p1 c1 (idsE es1)::rowF AreaF 32 q1 d1 (arsE es1)::M) (by rfl) (up_cons (up_cons rfl hs112) hs109) ?_
    refine g_call rfl rfl rfl rfl rfl (cl_value (fst:=[]) (cap:=[]) (vs:=[.agg #[.slice p1 ((idsE es1).length) c1,.slice q1 ((arsE es1).length) d1,.slice u1 (t1.length) e1]]) (all:=[.agg #[.slice p1 ((idsE es1).length) c1,.slice q1 ((arsE es1).length) d1,.slice u1 (t1.length) e1]]) tf261 rfl rfl rfl) ?_
    intro w hw
    obtain⟨β1,sb,kn,hw1,back⟩:=St.frame_all hw
    refine(rall_ok β1 w hw1 _ _ es1 (kn _ (k_flN 0 (F:=IntF) (m:=(idsE es1).length) rfl rfl)) (kn _ (k_flN 1 (F:=AreaF) (m:=(arsE es1).length) rfl rfl)) (by omega) u1 t1.length e1 hok1 hef1).mono ?_
    rintro e w' ⟨p56,c57,rfl,hw'⟩
    refine⟨_,rfl,_,back _ _ hw',?_⟩
    clear hw hw1 hw' back kn sb
    refine l_nil ?_
    exact f_owes_d (up_cons (up_cons rfl hs112) hs109) rfl (((perm_front 0 rfl).trans (perm_front 2 rfl)).trans (perm_front 2 rfl))
   ·rintro f M ⟨k0,k1,k2,-⟩-
    have hs111:f 111= .slice (sla (f 111)) ((pairsS s1).length) (slc (f 111)):=k0
    have hs113:f 113= .slice (sla (f 113)) (((pairsA (arsE es1)).map (mapE es1)).length) (slc (f 113)):=k1
    have hs109:f 109= .bool true:=k2
    refine ob_start (L':=rowF PairF 55 (sla (f 111)) (slc (f 111)) (pairsS s1)::rowF PairF 55 (sla (f 113)) (slc (f 113)) ((pairsA (arsE es1)).map (mapE es1))::M) (by rfl) (up_cons (up_cons (up_cons rfl hs111) hs113) hs109) ?_
    refine g_call rfl rfl rfl rfl rfl (cl_value (fst:=[]) (cap:=[]) (vs:=[.slice (sla (f 111)) ((pairsS s1).length) (slc (f 111)),.slice (sla (f 113)) (((pairsA (arsE es1)).map (mapE es1)).length) (slc (f 113))]) (all:=[.slice (sla (f 111)) ((pairsS s1).length) (slc (f 111)),.slice (sla (f 113)) (((pairsA (arsE es1)).map (mapE es1)).length) (slc (f 113))]) tf83 rfl rfl rfl) ?_
    intro w hw
    obtain⟨β1,sb,kn,hw1,back⟩:=St.frame_all hw
    refine(same_ok β1 w hw1 _ _ (pairsS s1) ((pairsA (arsE es1)).map (mapE es1)) (kn _ (k_flN 0 (F:=PairF) (m:=(pairsS s1).length) rfl rfl)) (kn _ (k_flN 1 (F:=PairF) (m:=((pairsA (arsE es1)).map (mapE es1)).length) rfl rfl))).mono ?_
    rintro e w' ⟨rfl,hw'⟩
    refine⟨_,rfl,_,back _ _ hw',?_⟩
    clear hw hw1 hw' back kn sb
    refine l_nil ?_
    exact f_owes_d (up_cons (up_cons (up_cons rfl hs111) hs113) hs109) (congrArg Value.bool (decide_eq_true hall.symm)) ((perm_front 1 rfl).trans (perm_front 1 rfl))
   ·rintro f M ⟨k0,k1,-⟩-
    have hs114:f 114= .bool true:=k0
    have hs109:f 109= .bool true:=k1
    refine ob_start (L':=M) (by rfl) (up_cons (up_cons rfl hs114) hs109) ?_
    refine g_val (v:= .bool false) rfl rfl rfl rfl rfl (e_not (a:=true) rfl) ?_
    refine l_nil ?_
    exact f_owes_d (up_cons (up_cons rfl hs114) hs109) rfl (List.Perm.refl _)
   ·rintro f M ⟨k0,k1,-⟩-
    have hs109:f 109= .bool true:=k0
    have hs115:f 115= .bool false:=k1
    refine ob_start (L':=M) (by rfl) (up_cons (up_cons rfl hs109) hs115) ?_
    refine l_val (v:= .bool false) rfl rfl rfl (e_pick_t rfl) ?_
    refine l_nil ?_
    exact f_owes_d (up_cons (up_cons rfl hs109) hs115) rfl (List.Perm.refl _)
   rintro fa58 ⟨-,-,-,-,-,-,-,-,-,-,k10,-⟩ ⟨j0,j1,j2,j3,-⟩
   refine f_re (L':=[pt b2 (.cells #[.slice p1 ((idsE es1).length) c1,.slice q1 ((arsE es1).length) d1,.slice u1 (t1.length) e1] 59),rowF IntF 3 p1 c1 (idsE es1),rowF AreaF 32 q1 d1 (arsE es1),rowF PairF 55 u1 e1 t1,rowF PairF 55 (sla (fa58 111)) (slc (fa58 111)) (pairsS s1),spcR b1 s1,rowF PairF 55 (sla (fa58 113)) (slc (fa58 113)) ((pairsA (arsE es1)).map (mapE es1))]) (by rfl) ?_
   refine f_rebase (d:=0) (v:= .slice va (l.length) (vc)) j0 ?_
   refine f_rebase (d:=3) (v:= .pointer (some ⟨b1,0,none⟩)) j1 ?_
   refine f_rebase (d:=4) (v:= .pointer (some ⟨b2,0,none⟩)) j2 ?_
   refine f_rebase (d:=5) (v:=Nx (k)) j3 ?_
   refine f_rebase (d:=116) (v:= .bool false) k10 ?_
   refine f_then ?_
   refine c_no rfl ?_
   refine c_skip ?_
   refine f_block ?_
   refine f_then ?_
   refine c_region ?_
   refine l_val (v:=Nx (k)) rfl rfl rfl (e_move) ?_
   refine l_val (v:=Nx (k+1)) rfl rfl rfl (e_add (a:=((k:Nat):Int)) (b:=(1:Int)) rfl rfl (i64n (by omega) (by omega))) ?_
   refine l_val (v:=Nx (k+1)) rfl rfl rfl (e_assign) ?_
   refine l_nil ?_
   refine f_perm (L':=[spcR b1 s1,pt b2 (.cells #[.slice p1 ((idsE es1).length) c1,.slice q1 ((arsE es1).length) d1,.slice u1 (t1.length) e1] 59),rowF IntF 3 p1 c1 (idsE es1),rowF AreaF 32 q1 d1 (arsE es1),rowF PairF 55 u1 e1 t1,rowF PairF 55 (sla (fa58 111)) (slc (fa58 111)) (pairsS s1),rowF PairF 55 (sla (fa58 113)) (slc (fa58 113)) ((pairsA (arsE es1)).map (mapE es1))]) (perm_ix [5,0,1,2,3,4,6] 7 rfl (by kernel_rfl) (by kernel_rfl)) ?_
   refine f_mask (L':=[spcR b1 s1,pt b2 (.cells #[.slice p1 ((idsE es1).length) c1,.slice q1 ((arsE es1).length) d1,.slice u1 (t1.length) e1] 59),rowF IntF 3 p1 c1 (idsE es1),rowF AreaF 32 q1 d1 (arsE es1),rowF PairF 55 u1 e1 t1]) [true,true,true,true,true,false,false] rfl ?_
   exact f_cut ⟨(k+1,s1,es1,t1,p1,c1,q1,d1,u1,e1),⟨⟨rfl,rfl,rfl,rfl⟩,rfl,⟨by omega,hR1⟩⟩,(show l.length-(k+1)<l.length-k from by omega)⟩
  ·
   refine c_any [⟨[],[],[0],[106],fun f=>f 106=Nx (k)⟩,⟨[0],[0],[],[107],fun f=>f 107=Nx (k%5)⟩,⟨[0,1],[1],[],[108],fun f=>f 108= .bool false⟩,⟨[0,1,2],[2],[],[109],fun f=>f 109= .bool false⟩,⟨[0,1,2,3],[3],[1],[110],fun f=>f 110=undef⟩,⟨[0,1,2,3,4],[4,3],[],[111],fun f=>f 111=undef⟩,⟨[0,1,2,3],[3],[2],[112],fun f=>f 112=undef⟩,⟨[0,1,2,3,4,5,6],[6,3],[],[113],fun f=>f 113=undef⟩,⟨[0,1,2,3,4,5,6,7],[5,7,3],[],[114],fun f=>f 114=undef⟩,⟨[0,1,2,3,4,5,6,7,8],[8,3],[],[115],fun f=>f 115=undef⟩,⟨[0,1,2,3,4,5,6,7,8,9],[3,9],[],[116],fun f=>f 116= .bool false⟩] [⟨none,none,[],[],fun _=>spcR b1 s1⟩,⟨none,none,[],[],fun _=>pt b2 (.cells #[.slice p1 ((idsE es1).length) c1,.slice q1 ((arsE es1).length) d1,.slice u1 (t1.length) e1] 59)⟩,⟨none,none,[],[],fun _=>rowF IntF 3 p1 c1 (idsE es1)⟩,⟨none,none,[],[],fun _=>rowF AreaF 32 q1 d1 (arsE es1)⟩,⟨none,none,[],[],fun _=>rowF PairF 55 u1 e1 t1⟩] [(5,Nx (k)),(3,.pointer (some ⟨b1,0,none⟩)),(4,.pointer (some ⟨b2,0,none⟩)),(0,.slice va (l.length) (vc))] [3,1,2,0] [] (by kernel_rfl) (by kernel_rfl) (by kernel_rfl) (by kernel_rfl) rfl ⟨rfl,rfl,rfl,rfl,trivial⟩ ⟨?_,?_,?_,?_,?_,?_,?_,?_,?_,?_,?_,trivial⟩ ?_
   ·rintro f M-⟨i0,-⟩
    have hs5:f 5=Nx (k):=i0
    refine ob_start (L':=M) (by rfl) (up_cons rfl hs5) ?_
    refine l_val (v:=Nx (k)) rfl rfl rfl (e_move) ?_
    refine l_nil ?_
    exact f_owes_d (up_cons rfl hs5) rfl (List.Perm.refl _)
   ·rintro f M ⟨k0,-⟩-
    have hs106:f 106=Nx (k):=k0
    refine ob_start (L':=M) (by rfl) (up_cons rfl hs106) ?_
    refine l_val (v:=Nx (k%5)) rfl rfl rfl (e_rem (a:=((k:Nat):Int)) (b:=(5:Int)) rfl rfl (by decide) (nat_tmod _ 5)) ?_
    refine l_nil ?_
    exact f_owes_d (up_cons rfl hs106) rfl (List.Perm.refl _)
   ·rintro f M ⟨k0,-⟩-
    have hs107:f 107=Nx (k%5):=k0
    refine ob_start (L':=M) (by rfl) (up_cons rfl hs107) ?_
    refine l_val (v:= .bool false) rfl rfl rfl ((ev_f hg49 (e_eql (a:=((k%5:Nat):Int)) (b:=(4:Int)) rfl rfl))) ?_
    refine l_nil ?_
    exact f_owes_d (up_cons rfl hs107) rfl (List.Perm.refl _)
   ·rintro f M ⟨k0,-⟩-
    have hs108:f 108= .bool false:=k0
    refine ob_start (L':=M) (by rfl) (up_cons rfl hs108) ?_
    refine l_val (v:= .bool false) rfl rfl rfl (e_move) ?_
    refine l_nil ?_
    exact f_owes_d (up_cons rfl hs108) rfl (List.Perm.refl _)
   ·rintro f M ⟨k0,-⟩ ⟨i0,-⟩
    have hs3:f 3= .pointer (some ⟨b1,0,none⟩):=i0
    have hs109:f 109= .bool false:=k0
    refine ob_start (L':=M) (by rfl) (up_cons (up_cons rfl hs3) hs109) ?_
    refine l_skip rfl rfl rfl rfl rfl rfl ?_
    refine l_nil ?_
    exact f_owes_d (up_cons (up_cons rfl hs3) hs109) rfl (List.Perm.refl _)
   ·rintro f M ⟨k0,k1,-⟩-
    have hs110:f 110=undef:=k0
    have hs109:f 109= .bool false:=k1
    refine ob_start (L':=M) (by rfl) (up_cons (up_cons rfl hs110) hs109) ?_
    refine l_skip rfl rfl rfl rfl rfl rfl ?_
    refine l_nil ?_
    exact f_owes_d (up_cons (up_cons rfl hs110) hs109) rfl (List.Perm.refl _)
   ·rintro f M ⟨k0,-⟩ ⟨i0,-⟩
    have hs4:f 4= .pointer (some ⟨b2,0,none⟩):=i0
    have hs109:f 109= .bool false:=k0
    refine ob_start (L':=M) (by rfl) (up_cons (up_cons rfl hs4) hs109) ?_
    refine l_skip rfl rfl rfl rfl rfl rfl ?_
    refine l_nil ?_
    exact f_owes_d (up_cons (up_cons rfl hs4) hs109) rfl (List.Perm.refl _)
   ·rintro f M ⟨k0,k1,-⟩-
    have hs112:f 112=undef:=k0
    have hs109:f 109= .bool false:=k1
    refine ob_start (L':=M) (by rfl) (up_cons (up_cons rfl hs112) hs109) ?_
    refine l_skip rfl rfl rfl rfl rfl rfl ?_
    refine l_nil ?_
    exact f_owes_d (up_cons (up_cons rfl hs112) hs109) rfl (List.Perm.refl _)
   ·rintro f M ⟨k0,k1,k2,-⟩-
    have hs111:f 111=undef:=k0
    have hs113:f 113=undef:=k1
    have hs109:f 109= .bool false:=k2
    refine ob_start (L':=M) (by rfl) (up_cons (up_cons (up_cons rfl hs111) hs113) hs109) ?_
    refine l_skip rfl rfl rfl rfl rfl rfl ?_
    refine l_nil ?_
    exact f_owes_d (up_cons (up_cons (up_cons rfl hs111) hs113) hs109) rfl (List.Perm.refl _)
   ·rintro f M ⟨k0,k1,-⟩-
    have hs114:f 114=undef:=k0
    have hs109:f 109= .bool false:=k1
    refine ob_start (L':=M) (by rfl) (up_cons (up_cons rfl hs114) hs109) ?_
    refine l_skip rfl rfl rfl rfl rfl rfl ?_
    refine l_nil ?_
    exact f_owes_d (up_cons (up_cons rfl hs114) hs109) rfl (List.Perm.refl _)
   ·rintro f M ⟨k0,k1,-⟩-
    have hs109:f 109= .bool false:=k0
    have hs115:f 115=undef:=k1
    refine ob_start (L':=M) (by rfl) (up_cons (up_cons rfl hs109) hs115) ?_
    refine l_val (v:= .bool false) rfl rfl rfl (e_pick_f rfl) ?_
    refine l_nil ?_
    exact f_owes_d (up_cons (up_cons rfl hs109) hs115) rfl (List.Perm.refl _)
   rintro fa59 ⟨-,-,-,-,-,-,-,-,-,-,k10,-⟩ ⟨j0,j1,j2,j3,-⟩
   refine f_re (L':=[spcR b1 s1,pt b2 (.cells #[.slice p1 ((idsE es1).length) c1,.slice q1 ((arsE es1).length) d1,.slice u1 (t1.length) e1] 59),rowF IntF 3 p1 c1 (idsE es1),rowF AreaF 32 q1 d1 (arsE es1),rowF PairF 55 u1 e1 t1]) (by rfl) ?_
   refine f_rebase (d:=0) (v:= .slice va (l.length) (vc)) j0 ?_
   refine f_rebase (d:=3) (v:= .pointer (some ⟨b1,0,none⟩)) j1 ?_
   refine f_rebase (d:=4) (v:= .pointer (some ⟨b2,0,none⟩)) j2 ?_
   refine f_rebase (d:=5) (v:=Nx (k)) j3 ?_
   refine f_rebase (d:=116) (v:= .bool false) k10 ?_
   refine f_then ?_
   refine c_no rfl ?_
   refine c_skip ?_
   refine f_block ?_
   refine f_then ?_
   refine c_region ?_
   refine l_val (v:=Nx (k)) rfl rfl rfl (e_move) ?_
   refine l_val (v:=Nx (k+1)) rfl rfl rfl (e_add (a:=((k:Nat):Int)) (b:=(1:Int)) rfl rfl (i64n (by omega) (by omega))) ?_
   refine l_val (v:=Nx (k+1)) rfl rfl rfl (e_assign) ?_
   refine l_nil ?_
   exact f_cut ⟨(k+1,s1,es1,t1,p1,c1,q1,d1,u1,e1),⟨⟨rfl,rfl,rfl,rfl⟩,rfl,⟨by omega,hR1⟩⟩,(show l.length-(k+1)<l.length-k from by omega)⟩
 ·
  refine c_exit ?_
  refine f_then_exit ?_
  refine f_then_exit ?_
  refine f_exit ?_
  refine f_then ?_
  refine c_seq ?_
  have hef:=hR.few
  have htf:=hR.tfew
  have hok:=hR.areas
  have hall:=hR.all
  have hps:(pairsS s).length≤1000000:=by rw[←hall,List.length_map];have:=pairsA_le (l:=arsE es) (by rw[List.length_map];omega);omega
  refine c_region ?_
  refine l_val (v:= .pointer (some ⟨b1,0,none⟩)) rfl rfl rfl (e_move) ?_
  refine l_call rfl rfl rfl (cl_value (fst:=[]) (cap:=[]) (vs:=[.pointer (some ⟨b1,0,none⟩)]) (all:=[.pointer (some ⟨b1,0,none⟩)]) tf76 rfl rfl rfl) ?_
  intro w hw
  replace hw:=hw.perm (L':=_::_::_::_::_::[]) (by exact(((((perm_front 4 rfl).trans (perm_front 4 rfl)).trans (perm_front 4 rfl)).trans (perm_front 4 rfl)).trans (perm_front 4 rfl)))
  obtain⟨β1,sb,kn,hw1,back⟩:=St.frame (L:=[_]) (M:=_::_::_::_::[]) hw
  refine(spairsx_ok β1 w b1 s hw1 hR.ok).mono ?_
  rintro e w' ⟨p60,c61,rfl,hw'⟩
  refine⟨_,rfl,_,back _ _ hw',?_⟩
  clear hw hw1 hw' back kn sb
  refine l_val (v:= .pointer (some ⟨b1,0,none⟩)) rfl rfl rfl (e_move) ?_
  refine l_call rfl rfl rfl (cl_value (fst:=[]) (cap:=[]) (vs:=[.pointer (some ⟨b1,0,none⟩)]) (all:=[.pointer (some ⟨b1,0,none⟩)]) tf76 rfl rfl rfl) ?_
  intro w hw
  replace hw:=hw.perm (L':=_::_::_::_::_::_::[]) (by exact((((((perm_front 5 rfl).trans (perm_front 5 rfl)).trans (perm_front 5 rfl)).trans (perm_front 5 rfl)).trans (perm_front 4 rfl)).trans (perm_front 5 rfl)))
  obtain⟨β1,sb,kn,hw1,back⟩:=St.frame (L:=[_]) (M:=_::_::_::_::_::[]) hw
  refine(spairsx_ok β1 w b1 s hw1 hR.ok).mono ?_
  rintro e w' ⟨p62,c63,rfl,hw'⟩
  refine⟨_,rfl,_,back _ _ hw',?_⟩
  clear hw hw1 hw' back kn sb
  refine l_val (v:= .slice p60 ((pairsS s).length) c61) rfl rfl rfl (e_assign) ?_
  refine l_val (v:= .slice p62 ((pairsS s).length) c63) rfl rfl rfl (e_assign) ?_
  refine l_nil ?_
  refine f_then ?_
  refine c_seq ?_
  refine c_region ?_
  refine l_val (v:= .slice p60 ((pairsS s).length) c61) rfl rfl rfl (e_move) ?_
  refine l_val (v:= .agg #[.slice p ((idsE es).length) c,.slice q ((arsE es).length) d,.slice u (t.length) e]) rfl rfl rfl (e_load tf255 (cs:=[.slice p ((idsE es).length) c,.slice q ((arsE es).length) d,.slice u (t.length) e]) rfl (k_pt 3 (cs:= #[.slice p ((idsE es).length) c,.slice q ((arsE es).length) d,.slice u (t.length) e]) (vs:=[.slice p ((idsE es).length) c,.slice q ((arsE es).length) d,.slice u (t.length) e]) rfl rfl) rfl) ?_
  refine l_call rfl rfl rfl (cl_value (fst:=[]) (cap:=[]) (vs:=[.agg #[.slice p ((idsE es).length) c,.slice q ((arsE es).length) d,.slice u (t.length) e]]) (all:=[.agg #[.slice p ((idsE es).length) c,.slice q ((arsE es).length) d,.slice u (t.length) e]]) tf261 rfl rfl rfl) ?_
  intro w hw
  obtain⟨β1,sb,kn,hw1,back⟩:=St.frame_all hw
  refine(rall_ok β1 w hw1 _ _ es (kn _ (k_flN 4 (F:=IntF) (m:=(idsE es).length) rfl rfl)) (kn _ (k_flN 5 (F:=AreaF) (m:=(arsE es).length) rfl rfl)) (by omega) u t.length e hok hef).mono ?_
  rintro e w' ⟨p64,c65,rfl,hw'⟩
  refine⟨_,rfl,_,back _ _ hw',?_⟩
  clear hw hw1 hw' back kn sb
  refine l_call rfl rfl rfl (cl_value (fst:=[]) (cap:=[]) (vs:=[.slice p60 ((pairsS s).length) c61,.slice p64 (((pairsA (arsE es)).map (mapE es)).length) c65]) (all:=[.slice p60 ((pairsS s).length) c61,.slice p64 (((pairsA (arsE es)).map (mapE es)).length) c65]) tf83 rfl rfl rfl) ?_
  intro w hw
  obtain⟨β1,sb,kn,hw1,back⟩:=St.frame_all hw
  refine(same_ok β1 w hw1 _ _ (pairsS s) ((pairsA (arsE es)).map (mapE es)) (kn _ (k_flN 3 (F:=PairF) (m:=(pairsS s).length) rfl rfl)) (kn _ (k_flN 0 (F:=PairF) (m:=((pairsA (arsE es)).map (mapE es)).length) rfl rfl))).mono ?_
  rintro e w' ⟨rfl,hw'⟩
  refine⟨_,rfl,_,back _ _ hw',?_⟩
  clear hw hw1 hw' back kn sb
  refine l_val (v:= .bool (decide ((pairsS s)=((pairsA (arsE es)).map (mapE es))))) rfl rfl rfl (e_move) ?_
  refine l_split (s:=125) (p:=(pairsS s)=((pairsA (arsE es)).map (mapE es))) rfl (fun h=> ?_) (fun h=> ?_)
  rotate_left;exact absurd hall.symm h
  refine g_val (v:= .slice p60 ((pairsS s).length) c61) rfl rfl rfl rfl rfl (e_move) ?_
  refine g_val (v:= .slice p62 ((pairsS s).length) c63) rfl rfl rfl rfl rfl (e_move) ?_
  refine g_mv rfl rfl rfl rfl rfl (m_slices tf122 tf59 (vs:=[(0,.slice p60 ((pairsS s).length) c61),(1,.slice p62 ((pairsS s).length) c63)]) (cells:= #[.slice p60 ((pairsS s).length) c61,.slice p62 ((pairsS s).length) c63]) rfl rfl rfl rfl) ?_
  rintro _ _ ⟨b66,rfl,rfl⟩
  refine g_call rfl rfl rfl rfl rfl (cl_value (fst:=[]) (cap:=[]) (vs:=[.slice (some ⟨b66,0,none⟩) 2 2]) (all:=[.slice (some ⟨b66,0,none⟩) 2 2]) tf250 rfl rfl rfl) ?_
  intro w hw
  replace hw:=hw.perm (L':=_::_::_::_::_::_::_::_::_::[]) (by exact(((((((((perm_front 8 rfl).trans (perm_front 8 rfl)).trans (perm_front 8 rfl)).trans (perm_front 8 rfl)).trans (perm_front 7 rfl)).trans (perm_front 6 rfl)).trans (perm_front 6 rfl)).trans (perm_front 7 rfl)).trans (perm_front 8 rfl)))
  obtain⟨β1,sb,kn,hw1,back⟩:=St.frame (L:=[_,_]) (M:=_::_::_::_::_::_::_::[]) hw
  have hls2:Sl H3F.R β1.heap (.slice (some ⟨b66,0,none⟩) 2 2) [(⟨p60,(pairsS s).length,c61⟩:H3),(⟨p62,(pairsS s).length,c63⟩:H3)]:=kn _ (k_ptFls (F:=H3F) 0 (m:=2) (xs:=[(⟨p60,(pairsS s).length,c61⟩:H3),(⟨p62,(pairsS s).length,c63⟩:H3)]) rfl rfl rfl (Nat.le_of_ble_eq_true rfl))
  refine(apart2_ok β1 w _ p60 p62 c61 c63 (pairsS s) (pairsS s) hps hps hls2 hw1).mono ?_
  rintro e w' ⟨rfl,hw'⟩
  refine⟨_,rfl,_,back _ _ hw',?_⟩
  clear hw hw1 hw' back kn sb
  refine l_val (v:= .bool true) rfl rfl rfl (e_pick_t rfl) ?_
  refine l_val (v:= .bool true) rfl rfl rfl (e_assign) ?_
  refine l_nil ?_
  refine f_then ?_
  refine c_ret ?_
  refine ret1 Tryz.results8 (v:= .bool true) rfl ?_
  intro w hw
  exact⟨rfl,st_mask [false,false,false,false,false,false,false] rfl hw⟩
end Go.Proofs
