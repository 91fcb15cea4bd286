/-
 HandoverOnce: walked. Printed by a program of my own.
-/
import Derived.Test.YtmhlglginimmnaaGreatDoorHvOpnT
set_option linter.all false
namespace Go.Hv
theorem mul_next{n i:Nat}(h:n≤262500*i):n+262500≤262500*(i+1):=by rw[Nat.mul_succ];exact Nat.add_le_add_right h _
theorem rnd_n{n2 n3 p a:Nat}(h:n2≤15750000+70000*p)(h2:n3≤n2+22000*a)(ha:a≤3):n3≤15750000+70000*(p+1):=by
 have h3:22000*a≤66000:=Nat.mul_le_mul_left 22000 ha
 rw[Nat.mul_succ,←Nat.add_assoc]
 exact Nat.le_trans h2 (Nat.add_le_add h (Nat.le_trans h3 (by decide)))
end Go.Hv
namespace Go.Proofs
open Go Go.Sl Go.Hv Go.Jn
theorem vh0:stB Tryz.prog 58 [(0,3),(3,3),(6,1),(7,7),(14,7)]=true:=by kernel_rfl
instance vh1:ZerC Tryz.prog 58 (.agg #[.pointer none,.pointer none,.pointer none,.pointer none,.pointer none,.pointer none,.slice none 0 0,.int .i64 (0),.int .i64 (0),.int .i64 (0),.int .i64 (0),.int .i64 (0),.int .i64 (0),.int .i64 (0),.int .i64 (0),.int .i64 (0),.int .i64 (0),.int .i64 (0),.int .i64 (0),.int .i64 (0),.int .i64 (0)]):={}
theorem vh2:stB Tryz.prog 60 [(0,1),(1,1),(2,1),(3,1)]=true:=by kernel_rfl
instance vh3:ZerC Tryz.prog 60 (.agg #[.slice none 0 0,.slice none 0 0,.slice none 0 0,.int .i64 (0)]):={}
instance vh4:FldC Tryz.prog 58 0 0 3 true:={}
instance vh5:ArrC Tryz.prog 54 3 27 1:={}
instance vh6:TyC Tryz.prog 27 false 1:={}
instance vh7:ArrC Tryz.prog 52 3 51 1:={}
instance vh8:TyC Tryz.prog 51 false 1:={}
theorem vh9:Tryz.prog.underlying 51=some (.int .u16):=by kernel_rfl
theorem vh10:Tryz.prog.underlying 3=some (.int .i64):=by kernel_rfl
instance vh11:CfC Tryz.prog 23:={}
instance vh12:UndC Tryz.prog 50 63:={}
theorem vh13:slB Tryz.prog 50 63 5=true:=by kernel_rfl
instance vh14:TyC Tryz.prog 63 true 5:={}
instance vh15:ZerC Tryz.prog 63 (.agg #[.int .u8 (0),.int .u8 (0),.int .u8 (0),.int .u8 (0),.int .u16 (0)]):={}
instance vh16:CfC Tryz.prog 24:={}
instance vh17:FldC Tryz.prog 63 4 4 1 false:={}
instance vh18:CfC Tryz.prog 25:={}
instance vh19:CfC Tryz.prog 26:={}
instance vh20:FldC Tryz.prog 58 1 3 3 true:={}
instance vh21:TyC Tryz.prog 55 true 3:={}
instance vh22:ArrC Tryz.prog 55 3 23 1:={}
instance vh23:TyC Tryz.prog 23 false 1:={}
instance vh24:CfC Tryz.prog 14:={}
instance vh25:UndC Tryz.prog 35 38:={}
theorem vh26:slB Tryz.prog 35 38 6=true:=by kernel_rfl
instance vh27:TyC Tryz.prog 38 true 6:={}
instance vh28:ZerC Tryz.prog 38 (.agg #[.int .i64 (0),.int .i64 (0),.int .i64 (0),.bool false,.int .i64 (0),.slice none 0 0]):={}
instance vh29:FldC Tryz.prog 38 1 1 1 false:={}
instance vh30:TyC Tryz.prog 3 false 1:={}
instance vh31:CfC Tryz.prog 15:={}
instance vh32:CfC Tryz.prog 20:={}
instance vh33:CfC Tryz.prog 19:={}
set_option maxHeartbeats 4000000 in
theorem once_ok(β:Base)(w:World)(hw:St β [] w)(hG:GRng β)(v:Value)(xs:List KStp)(hs:Sl StpF.R β.heap v xs)(q0 q1 q2:Nat)(hq0:q0≤65535)(hq1:q1≤65535)(hq2:q2≤65535):Ret Tryz.prog 6 #[v,.agg #[.int .u16 (((q0:Nat)):Int),.int .u16 (((q1:Nat)):Int),.int .u16 (((q2:Nat)):Int)]] β w (.bool true):=by
 obtain⟨va,vc,rfl,vl,vm,ve⟩:=hs.get
 refine enter (n:=126) Tryz.func6 rfl Tryz.ntmps6 rfl ?_ hw
 refine csr (bxa fun b1=> ?_)
 refine lE oab (lnc ?_)
 refine lv (v:= .agg #[.pointer none,.pointer none,.pointer none,.pointer none,.pointer none,.pointer none,.slice none 0 0,.int .i64 (0),.int .i64 (0),.int .i64 (0),.int .i64 (0),.int .i64 (0),.int .i64 (0),.int .i64 (0),.int .i64 (0),.int .i64 (0),.int .i64 (0),.int .i64 (0),.int .i64 (0),.int .i64 (0),.int .i64 (0)]) (e_build vh1.ok vh0 (vs:=[]) (cells:= #[.pointer none,.pointer none,.pointer none,.pointer none,.pointer none,.pointer none,.slice none 0 0,.int .i64 (0),.int .i64 (0),.int .i64 (0),.int .i64 (0),.int .i64 (0),.int .i64 (0),.int .i64 (0),.int .i64 (0),.int .i64 (0),.int .i64 (0),.int .i64 (0),.int .i64 (0),.int .i64 (0),.int .i64 (0)]) rfl (by kernel_rfl)) ?_
 refine bxa fun b2=> ?_
 refine lE oap (lnf (cs2 ?_))
 refine c_re (L':=[twR b2 none3 none3 none 0 0 zero7 zero7,pt b1 (.cells #[.int .u16 (((q0:Nat)):Int),.int .u16 (((q1:Nat)):Int),.int .u16 (((q2:Nat)):Int)] 52)]) rfl ?_
 refine c_region (lE omi (lnf (c_block (c_unroll 4 (un_succ 3 (csr (lE olt (lnf (c_seq (c_yes rfl (csk (c_seq (c_block (csr (lE omi (lE oai (lnc ?_)))))))))))))))))
 refine lE omp (lE omi ?_)
 refine lv (v:= .agg #[.slice none 0 0,.slice none 0 0,.slice none 0 0,.int .i64 (0)]) (e_build vh3.ok vh2 (vs:=[]) (cells:= #[.slice none 0 0,.slice none 0 0,.slice none 0 0,.int .i64 (0)]) rfl (by kernel_rfl)) ?_
 refine bxa fun b3=> ?_
 refine lE onp (lE ofp ?_)
 refine lv (v:= .pointer (some ((⟨b2,0,none⟩:Addr).add (0*1)))) (e_indexArrI (a:=⟨b2,0,none⟩) (k:=0) rfl rfl vh5.ok (by omega)) ?_
 refine lu (m_twS (o:=some b3) (k:=0) 1 vh6.ok rfl rfl rfl (by omega)) (lnf (c_seq ?_))
 refine c_conseq 0 (r':=shelfR b3 (freshG (ix 0)) 0 false) rfl (fresh_shelf (by decide)) (c_region (lE omp (lE omi (lE omi ?_))))
 refine lv (v:=pp b1 0) (e_indexArrK (b:=b1) (o:=0) (k:=0) rfl rfl vh7.ok (by decide)) (lE (oli 2) ?_)
 refine lv (v:=Nx (q0)) (e_conv (a:=((q0:Nat):Int)) rfl ⟨_,vh9⟩ vh10 (i64n rfl (by omega))) ?_
 refine lv (v:=Nx (200+q0)) (e_add rfl rfl (i64n (by omega) (by omega))) ?_
 refine l_call rfl rfl rfl (cl0 (vs:=[pp b2 0,.int .i64 (0),Nx (200+q0)]) vh11.ok rfl rfl) ?_
 intro w hw
 replace hw:=hw.perm (L':=_::_::_::[]) (by exact(((perm_front 2 rfl).trans (perm_front 1 rfl)).trans (perm_front 2 rfl)))
 obtain⟨β1,sb,kn,hw1,back⟩:=St.frame (L:=[_,_]) (M:=_::[]) hw
 refine(topen_ok β1 w b2 (none3.upd 0 (some b3)) none3 none 0 0 zero7 zero7 0 b3 0 (by decide) rfl (freshG (ix 0)) rfl (by decide) ((200+q0:Nat):Int) ⟨by omega,by omega⟩ false (fun q=>by cases q) hw1).mono ?_
 rintro e w' ⟨G4,rfl,hw'⟩
 refine⟨_,rfl,_,back _ _ hw',?_⟩
 clear hw hw1 hw' back kn sb
 refine lE ont (lnf (c_no rfl (c_skip (f_block (f_then (c_region (lE opl (lE omi (l_nil (f_cut (un_succ 2 (csr (lE olt (lnf (c_seq (c_yes rfl (csk ?_)))))))))))))))))
 refine c_seq (c_block (csr (lE omi (lE oai (lnc (lE omp (lE omi ?_)))))))
 refine lv (v:= .agg #[.slice none 0 0,.slice none 0 0,.slice none 0 0,.int .i64 (0)]) (e_build vh3.ok vh2 (vs:=[]) (cells:= #[.slice none 0 0,.slice none 0 0,.slice none 0 0,.int .i64 (0)]) rfl (by kernel_rfl)) ?_
 refine bxa fun b5=> ?_
 refine lE onp (lE ofp ?_)
 refine lv (v:= .pointer (some ((⟨b2,0,none⟩:Addr).add (1*1)))) (e_indexArrI (a:=⟨b2,0,none⟩) (k:=1) rfl rfl vh5.ok (by omega)) ?_
 refine lu (m_twS (o:=some b5) (k:=1) 1 vh6.ok rfl rfl rfl (by omega)) (lnf (c_seq ?_))
 refine c_conseq 0 (r':=shelfR b5 (freshG (ix 1)) 0 false) rfl (fresh_shelf (by decide)) (c_region (lE omp (lE omi (lE omi ?_))))
 refine lv (v:=pp b1 1) (e_indexArrK (b:=b1) (o:=0) (k:=1) rfl rfl vh7.ok (by decide)) (lE (oli 3) ?_)
 refine lv (v:=Nx (q1)) (e_conv (a:=((q1:Nat):Int)) rfl ⟨_,vh9⟩ vh10 (i64n rfl (by omega))) ?_
 refine lv (v:=Nx (200+q1)) (e_add rfl rfl (i64n (by omega) (by omega))) ?_
 refine l_call rfl rfl rfl (cl0 (vs:=[pp b2 0,.int .i64 (1),Nx (200+q1)]) vh11.ok rfl rfl) ?_
 intro w hw
 replace hw:=hw.perm (L':=_::_::_::_::[]) (by exact((((perm_front 3 rfl).trans (perm_front 3 rfl)).trans (perm_front 2 rfl)).trans (perm_front 3 rfl)))
 obtain⟨β1,sb,kn,hw1,back⟩:=St.frame (L:=[_,_]) (M:=_::_::[]) hw
 refine(topen_ok β1 w b2 ((none3.upd 0 (some b3)).upd 1 (some b5)) (none3.upd 0 (some G4)) none 0 0 zero7 zero7 1 b5 0 (by decide) rfl (freshG (ix 1)) rfl (by decide) ((200+q1:Nat):Int) ⟨by omega,by omega⟩ false (fun q=>by cases q) hw1).mono ?_
 rintro e w' ⟨G6,rfl,hw'⟩
 refine⟨_,rfl,_,back _ _ hw',?_⟩
 clear hw hw1 hw' back kn sb
 refine lE ont (lnf (c_no rfl (c_skip (f_block (f_then (c_region (lE opl (lE omi (l_nil (f_cut (un_succ 1 (csr (lE olt (lnf (c_seq (c_yes rfl (csk ?_)))))))))))))))))
 refine c_seq (c_block (csr (lE omi (lE oai (lnc (lE omp (lE omi ?_)))))))
 refine lv (v:= .agg #[.slice none 0 0,.slice none 0 0,.slice none 0 0,.int .i64 (0)]) (e_build vh3.ok vh2 (vs:=[]) (cells:= #[.slice none 0 0,.slice none 0 0,.slice none 0 0,.int .i64 (0)]) rfl (by kernel_rfl)) ?_
 refine bxa fun b7=> ?_
 refine lE onp (lE ofp ?_)
 refine lv (v:= .pointer (some ((⟨b2,0,none⟩:Addr).add (2*1)))) (e_indexArrI (a:=⟨b2,0,none⟩) (k:=2) rfl rfl vh5.ok (by omega)) ?_
 refine lu (m_twS (o:=some b7) (k:=2) 1 vh6.ok rfl rfl rfl (by omega)) (lnf (c_seq ?_))
 refine c_conseq 0 (r':=shelfR b7 (freshG (ix 2)) 0 false) rfl (fresh_shelf (by decide)) (c_region (lE omp (lE omi (lE omi ?_))))
 refine lv (v:=pp b1 2) (e_indexArrK (b:=b1) (o:=0) (k:=2) rfl rfl vh7.ok (by decide)) (lE (oli 4) ?_)
 refine lv (v:=Nx (q2)) (e_conv (a:=((q2:Nat):Int)) rfl ⟨_,vh9⟩ vh10 (i64n rfl (by omega))) ?_
 refine lv (v:=Nx (200+q2)) (e_add rfl rfl (i64n (by omega) (by omega))) ?_
 refine l_call rfl rfl rfl (cl0 (vs:=[pp b2 0,.int .i64 (2),Nx (200+q2)]) vh11.ok rfl rfl) ?_
 intro w hw
 replace hw:=hw.perm (L':=_::_::_::_::_::[]) (by exact(((((perm_front 4 rfl).trans (perm_front 4 rfl)).trans (perm_front 4 rfl)).trans (perm_front 3 rfl)).trans (perm_front 4 rfl)))
 obtain⟨β1,sb,kn,hw1,back⟩:=St.frame (L:=[_,_]) (M:=_::_::_::[]) hw
 refine(topen_ok β1 w b2 (((none3.upd 0 (some b3)).upd 1 (some b5)).upd 2 (some b7)) ((none3.upd 0 (some G4)).upd 1 (some G6)) none 0 0 zero7 zero7 2 b7 0 (by decide) rfl (freshG (ix 2)) rfl (by decide) ((200+q2:Nat):Int) ⟨by omega,by omega⟩ false (fun q=>by cases q) hw1).mono ?_
 rintro e w' ⟨G8,rfl,hw'⟩
 refine⟨_,rfl,_,back _ _ hw',?_⟩
 clear hw hw1 hw' back kn sb
 refine lE ont (lnf (c_no rfl (c_skip (f_block (f_then (c_region (lE opl (lE omi (l_nil (f_cut (un_succ 0 (csr (lE olt (lnf (c_seq (c_no rfl ?_))))))))))))))))
 refine c_exit (f_then_exit (f_then_exit (f_exit (fts (c_seq (c_pi [3,2,1,0,4] 5 rfl (by kernel_rfl) ?_))))))
 refine c_merge (L:=[gateR G4 b3 (freshG (ix 0)) 0 false,gateR G6 b5 (freshG (ix 1)) 0 false,gateR G8 b7 (freshG (ix 2)) 0 false]) (M:=[twR b2 (((none3.upd 0 (some b3)).upd 1 (some b5)).upd 2 (some b7)) (((none3.upd 0 (some G4)).upd 1 (some G6)).upd 2 (some G8)) none 0 0 zero7 zero7,pt b1 (.cells #[.int .u16 (((q0:Nat)):Int),.int .u16 (((q1:Nat)):Int),.int .u16 (((q2:Nat)):Int)] 52)]) (r:=netR [G4,G6,G8] [b3,b5,b7] (freshN 3) 0 false) (fun _ h=>h) ?_
 obtain⟨ss,hss0⟩:∃q_:P3,q_=(((none3.upd 0 (some b3)).upd 1 (some b5)).upd 2 (some b7)):=⟨_,rfl⟩
 obtain⟨Ss,hSs0⟩:∃q_:List Nat,q_=[b3,b5,b7]:=⟨_,rfl⟩
 have hsl:Ss.length=3:=by rw[hSs0];rfl
 have hss:∀k,k<3→ss.at k=Ss[k]? :=by rw[hss0,hSs0];exact start3 _ _ _
 refine c_re (L':=[netR [G4,G6,G8] Ss (freshN 3) 0 false,twR b2 ss (((none3.upd 0 (some G4)).upd 1 (some G6)).upd 2 (some G8)) none 0 0 zero7 zero7,pt b1 (.cells #[.int .u16 (((q0:Nat)):Int),.int .u16 (((q1:Nat)):Int),.int .u16 (((q2:Nat)):Int)] 52)]) (by rw[hss0,hSs0]) ?_
 refine c_emp (r:=msgsR none 0 []) msgs_nil (c_region (lE oms (lE oms (lE oln ?_))))
 refine lv (v:=Nx (min xs.length 60)) (ev_eq (congrArg (Value.int .i64) (by omega)) (e_min (a:=((xs.length:Nat):Int)) (b:=(60:Int)) rfl rfl)) ?_
 obtain⟨zs9,hz10⟩:∃zs,zs=(xs.take (min xs.length 60)):=⟨_,rfl⟩
 have zl11:zs9.length=min (min xs.length 60) (xs).length-0:=by rw[hz10];simp;try omega
 have ze12:=(Elems.take (min xs.length 60) ve)
 rw[←hz10]at ze12
 refine lv (v:= .slice va (zs9.length) (vc)) (ev_eq (by rw[show zs9.length=min xs.length 60 by omega]) (e_slice_hi (a:=va) (len:=xs.length) (cap:=vc) (h:=min xs.length 60) vh13 rfl rfl (by omega))) ?_
 refine lE oln (lE omi (lnf (c_block (c_mask [true,true,true,false] rfl ?_))))
 refine c_loop (fun(x_:Nat×P3×List Nat×Option Addr×Nat×KN7×KN7×List KG×List KMs×Nat) f L=>match x_ with|(i,gs,Gs,p,c,tg,nx,Xs,ms,n1)=>(f 5=pp b2 0∧f 43=sB va zs9 (vc)∧f 44=Nx (zs9.length)∧f 45=Nx (i))∧L=[msgsR p c ms,netR Gs Ss Xs n1 false,twR b2 ss gs p ms.length c tg nx]∧(i≤60∧Gs.length=3∧(∀k,k<3→gs.at k=Gs[k]?)∧TOk Xs tg i∧(∀m∈ms,MsgOk Xs m)∧ms.length≤71*i∧n1≤262500*i)) (fun(i,gs,Gs,p,c,tg,nx,Xs,ms,n1)=>60-i) (0,(((none3.upd 0 (some G4)).upd 1 (some G6)).upd 2 (some G8)),[G4,G6,G8],none,0,zero7,zero7,(freshN 3),([]:List KMs),0) ?_ ?_
 ·exact⟨⟨rfl,rfl,rfl,rfl⟩,rfl,⟨Nat.zero_le _,rfl,start3 _ _ _,tok_start,fun m hm=>(by cases hm),Nat.zero_le _,Nat.zero_le _⟩⟩
 rintro⟨i,gs,Gs,p,c,tg,nx,Xs,ms,n1⟩ f0 L0 ⟨⟨hs5,hs43,hs44,hs45⟩,hL,⟨hi,hgl,hgs,hk,hms,hml,hn1⟩⟩
 subst L0
 refine rbs 5 hs5 (rbs 43 hs43 (rbs 44 hs44 (rbs 45 hs45 (csr (lE olt (lnf (c_seq (c_if _ rfl (fun hc13=> ?_) (fun hc13=> ?_)))))))))
 ·refine csk (c_seq (c_block (c_seq ?_)))
  have hn60:n1≤15750000:=Nat.le_trans hn1 (Nat.mul_le_mul_left 262500 hi)
  refine c_region (lE omi ?_)
  obtain⟨x14,hx15⟩:=getx zs9 i (by omega)
  obtain⟨ha16,cs17,hc18,rfl⟩:=ze12 _ _ hx15
  refine lE (oia vh13 ha16) ?_
  refine lv (v:= .agg #[Bx (x14.kind),Bx (x14.nn),Bx (x14.aa),Bx (x14.bb),.int .u16 (((x14.pw.toNat:Nat)):Int)]) (e_load vh14.ok rfl (kB hc18) rfl) ?_
  refine alE fun b20=>lE oai (lu (mS 0 (#[Bx (x14.kind),Bx (x14.nn),Bx (x14.aa),Bx (x14.bb),.int .u16 (((x14.pw.toNat:Nat)):Int)])) (lnf ?_))
  refine c_seq ?_
  have hpw:x14.pw.toNat≤65535:=by have:=x14.pw.toNat_lt;omega
  refine c_region (lE omp (lE (olg 0) (lE omi (lv (v:=Nx (i+1)) (e_add rfl rfl (i64n (by omega) (by omega))) ?_))))
  refine l_call rfl rfl rfl (cl0 (vs:=[pp b2 0,.agg #[Bx (x14.kind),Bx (x14.nn),Bx (x14.aa),Bx (x14.bb),.int .u16 (((x14.pw.toNat:Nat)):Int)],Nx (i+1)]) vh16.ok rfl rfl) ?_
  intro w hw
  replace hw:=hw.perm (L':=_::_::_::_::[]) (by exact((((perm_front 0 rfl).trans (perm_front 1 rfl)).trans (perm_front 2 rfl)).trans (perm_front 3 rfl)))
  obtain⟨β1,sb,kn,hw1,back⟩:=St.frame (L:=[_,_,_]) (M:=_::[]) hw
  refine(tstep_ok β1 w b2 ss gs p c tg nx Gs Ss Xs n1 hgl hsl hgs hss i (by omega) hk ms hms hml (by omega) (Cs.mono _ _ _ _ sb hG) (i+1) ⟨by omega,by omega⟩ x14.kind x14.nn x14.aa x14.bb x14.pw.toNat hpw hw1).mono ?_
  rintro e w' ⟨rfl,gs_21,Gs_22,Us_23,p_24,c_25,tg_26,nx_27,Xs_28,ms_29,h30,h31,h32,h33,h34,h35,h36,hw'⟩
  refine⟨_,rfl,_,back _ _ hw',?_⟩
  clear hw hw1 hw' back kn sb
  refine lE ont (lE omb (gE omp (gE ofp (gE (oli 3) ?_))))
  refine g_val (v:=Nx (x14.pw.toNat)) rfl rfl rfl rfl rfl (e_conv (a:=((x14.pw.toNat:Nat):Int)) rfl ⟨_,vh9⟩ vh10 (i64n rfl (by omega))) ?_
  refine g_call rfl rfl rfl rfl rfl (cl0 (vs:=[pp b2 0,Nx (x14.pw.toNat)]) vh18.ok rfl rfl) ?_
  intro w hw
  replace hw:=hw.perm (L':=_::_::_::_::[]) (by exact((((perm_front 3 rfl).trans (perm_front 3 rfl)).trans (perm_front 3 rfl)).trans (perm_front 3 rfl)))
  obtain⟨β1,sb,kn,hw1,back⟩:=St.frame (L:=[_,_]) (M:=_::_::[]) hw
  refine(tup_ok β1 w b2 ss gs_21 p_24 ms_29.length c_25 tg_26 nx_27 Gs_22 Ss Us_23 Xs_28 (n1+262500) h30 hsl h32 h34.net h31 hss h33 (by omega) (Cs.mono _ _ _ _ sb hG) ((x14.pw.toNat:Nat):Int) ⟨by omega,by omega⟩ hw1).mono ?_
  rintro e w' ⟨rfl,gs_37,Gs_38,h39,h40,hw'⟩
  refine⟨_,rfl,_,back _ _ hw',?_⟩
  clear hw hw1 hw' back kn sb
  refine gE ont (lE okfb (lE omb (gE omp (g_call rfl rfl rfl rfl rfl (cl0 (vs:=[pp b2 0]) vh19.ok rfl rfl) ?_))))
  intro w hw
  replace hw:=hw.perm (L':=_::_::_::_::[]) (by exact((((perm_front 3 rfl).trans (perm_front 3 rfl)).trans (perm_front 3 rfl)).trans (perm_front 3 rfl)))
  obtain⟨β1,sb,kn,hw1,back⟩:=St.frame (L:=[_,_]) (M:=_::_::[]) hw
  refine(tsound_ok β1 w b2 ss gs_37 p_24 ms_29.length c_25 tg_26 nx_27 Gs_38 Ss Xs_28 (n1+262500) h39 hsl h34.net h40 (i+1) h34 hw1).mono ?_
  rintro e w' ⟨rfl,nx_41,hw'⟩
  refine⟨_,rfl,_,back _ _ hw',?_⟩
  clear hw hw1 hw' back kn sb
  refine gE ont (lE okfb (lnf (c_no rfl (c_skip (f_block (f_then (c_region (lv (v:=Nx (i+1)) (e_add rfl rfl (i64n (by omega) (by omega))) ?_))))))))
  refine lE omi (l_nil (fpn [2,1,0,3] 4 ?_))
  refine f_mask [true,true,true,false] rfl ?_
  exact f_cut ⟨(i+1,gs_37,Gs_38,p_24,c_25,tg_26,nx_41,Xs_28,ms_29,(n1+262500)),⟨⟨rfl,rfl,rfl,rfl⟩,rfl,⟨by omega,h39,h40,h34,h35,h36,mul_next hn1⟩⟩,(show 60-(i+1)<60-i from by omega)⟩
 refine c_exit (f_then_exit (f_then_exit (f_exit (fts (c_seq ?_)))))
 have hn60:n1≤15750000:=Nat.le_trans hn1 (Nat.mul_le_mul_left 262500 hi)
 refine c_re (L':=[msgsR p c ms,tnR Gs Ss Xs [1,1,1] n1,twR b2 ss gs p ms.length c tg nx]) (congrArg (fun z_:Res=>([msgsR p c ms,z_,twR b2 ss gs p ms.length c tg nx]:List Res)) (tn_up ⟨hgl,hsl,hk.net.len⟩).symm) ?_
 obtain⟨S42,hS43⟩:∃q_,Ss[0]? =some q_:=⟨_,List.getElem?_eq_getElem (by omega)⟩
 obtain⟨S44,hS45⟩:∃q_,Ss[1]? =some q_:=⟨_,List.getElem?_eq_getElem (by omega)⟩
 obtain⟨S46,hS47⟩:∃q_,Ss[2]? =some q_:=⟨_,List.getElem?_eq_getElem (by omega)⟩
 refine c_region (lE omi (lnf (c_block (c_unroll 4 (un_succ 3 (csr (lE olt (lnf (c_seq (c_yes rfl (csk (c_seq (c_block (csr (lE omi (lE oai (lnc ?_)))))))))))))))))
 refine lE omp (lE omi (l_call rfl rfl rfl (cl0 (vs:=[pp b2 0,.int .i64 (0),.int .i64 (-1)]) vh11.ok rfl rfl) ?_))
 intro w hw
 replace hw:=hw.perm (L':=_::_::_::[]) (by exact(((perm_front 0 rfl).trans (perm_front 1 rfl)).trans (perm_front 2 rfl)))
 obtain⟨β1,sb,kn,hw1,back⟩:=St.frame (L:=[_,_]) (M:=_::[]) hw
 refine(tn_shelf (A:=fun G=>twR b2 ss (gs.upd 0 (some G)) p ms.length c tg nx) (v:=2) hw1 ⟨(by first|exact hgl|(simp only[List.length_set];exact hgl)),hsl,hk.net.len⟩ rfl hS43 rfl fun β2 w hw2=>topen_ok β2 w b2 ss gs p ms.length c tg nx 0 S42 n1 (by omega) ((hss 0 (by omega)).trans hS43) (gt Xs 0) (hk.net.ok 0 (by omega)).2 (by omega) (-1) (by decide) true (fun _=>rfl) hw2).mono ?_
 rintro e w' ⟨G48,rfl,hw'⟩
 refine⟨_,rfl,_,back _ _ hw',?_⟩
 clear hw hw1 hw' back kn sb
 refine lE ont (lnf (c_no rfl (c_skip (f_block (f_then (c_region (lE opl (lE omi (l_nil (f_cut (un_succ 2 (csr (lE olt (lnf (c_seq (c_yes rfl (csk ?_)))))))))))))))))
 refine c_seq (c_block (csr (lE omi (lE oai (lnc (lE omp (lE omi ?_)))))))
 refine l_call rfl rfl rfl (cl0 (vs:=[pp b2 0,.int .i64 (1),.int .i64 (-1)]) vh11.ok rfl rfl) ?_
 intro w hw
 replace hw:=hw.perm (L':=_::_::_::[]) (by exact(((perm_front 2 rfl).trans (perm_front 2 rfl)).trans (perm_front 2 rfl)))
 obtain⟨β1,sb,kn,hw1,back⟩:=St.frame (L:=[_,_]) (M:=_::[]) hw
 refine(tn_shelf (A:=fun G=>twR b2 ss ((gs.upd 0 (some G48)).upd 1 (some G)) p ms.length c tg nx) (v:=2) hw1 ⟨(by first|exact hgl|(simp only[List.length_set];exact hgl)),hsl,hk.net.len⟩ rfl hS45 rfl fun β2 w hw2=>topen_ok β2 w b2 ss (gs.upd 0 (some G48)) p ms.length c tg nx 1 S44 n1 (by omega) ((hss 1 (by omega)).trans hS45) (gt Xs 1) (hk.net.ok 1 (by omega)).2 (by omega) (-1) (by decide) true (fun _=>rfl) hw2).mono ?_
 rintro e w' ⟨G49,rfl,hw'⟩
 refine⟨_,rfl,_,back _ _ hw',?_⟩
 clear hw hw1 hw' back kn sb
 refine lE ont (lnf (c_no rfl (c_skip (f_block (f_then (c_region (lE opl (lE omi (l_nil (f_cut (un_succ 1 (csr (lE olt (lnf (c_seq (c_yes rfl (csk ?_)))))))))))))))))
 refine c_seq (c_block (csr (lE omi (lE oai (lnc (lE omp (lE omi ?_)))))))
 refine l_call rfl rfl rfl (cl0 (vs:=[pp b2 0,.int .i64 (2),.int .i64 (-1)]) vh11.ok rfl rfl) ?_
 intro w hw
 replace hw:=hw.perm (L':=_::_::_::[]) (by exact(((perm_front 2 rfl).trans (perm_front 2 rfl)).trans (perm_front 2 rfl)))
 obtain⟨β1,sb,kn,hw1,back⟩:=St.frame (L:=[_,_]) (M:=_::[]) hw
 refine(tn_shelf (A:=fun G=>twR b2 ss (((gs.upd 0 (some G48)).upd 1 (some G49)).upd 2 (some G)) p ms.length c tg nx) (v:=2) hw1 ⟨(by first|exact hgl|(simp only[List.length_set];exact hgl)),hsl,hk.net.len⟩ rfl hS47 rfl fun β2 w hw2=>topen_ok β2 w b2 ss ((gs.upd 0 (some G48)).upd 1 (some G49)) p ms.length c tg nx 2 S46 n1 (by omega) ((hss 2 (by omega)).trans hS47) (gt Xs 2) (hk.net.ok 2 (by omega)).2 (by omega) (-1) (by decide) true (fun _=>rfl) hw2).mono ?_
 rintro e w' ⟨G50,rfl,hw'⟩
 refine⟨_,rfl,_,back _ _ hw',?_⟩
 clear hw hw1 hw' back kn sb
 refine lE ont (lnf (c_no rfl (c_skip (f_block (f_then (c_region (lE opl (lE omi (l_nil (f_cut (un_succ 0 (csr (lE olt (lnf (c_seq (c_no rfl ?_))))))))))))))))
 refine c_exit (f_then_exit (f_then_exit (f_exit (fts (c_seq ?_)))))
 obtain⟨G3,hG3⟩:∃q_:List Nat,q_=(((Gs.set 0 G48).set 1 G49).set 2 G50):=⟨_,rfl⟩
 obtain⟨g3,hg3⟩:∃q_:P3,q_=(((gs.upd 0 (some G48)).upd 1 (some G49)).upd 2 (some G50)):=⟨_,rfl⟩
 have hgs3:∀k,k<3→g3.at k=G3[k]? :=by rw[hg3,hG3];exact open3 hgl
 have hgl3:G3.length=3:=by rw[hG3];simp only[List.length_set];exact hgl
 refine c_re (L':=[twR b2 ss g3 p ms.length c tg nx,netR G3 Ss Xs n1 true,msgsR p c ms]) (by rw[hG3]at hgl3;rw[hG3,hg3];exact congrArg (fun z_:Res=>([twR b2 ss (((gs.upd 0 (some G48)).upd 1 (some G49)).upd 2 (some G50)) p ms.length c tg nx,z_,msgsR p c ms]:List Res)) (tn_inf ⟨hgl3,hsl,hk.net.len⟩)) ?_
 have hgl:=hgl3
 refine c_region (lE omi (lnf (c_block (c_mask [true,true,false] rfl ?_))))
 refine c_loop (fun(x_:Nat×List KG×Nat) f L=>match x_ with|(pr,Zs,n2)=>(f 5=pp b2 0∧f 78=Nx (pr))∧L=[twR b2 ss g3 p ms.length c tg nx,netR G3 Ss Zs n2 true]∧(pr≤20∧Passes 3 Xs pr Zs∧n2≤15750000+70000*pr)) (fun(pr,Zs,n2)=>20-pr) (0,Xs,n1) ?_ ?_
 ·exact⟨⟨rfl,rfl⟩,rfl,⟨Nat.zero_le _,rfl,by omega⟩⟩
 rintro⟨pr,Zs,n2⟩ f0 L0 ⟨⟨hs5,hs78⟩,hL,⟨hp2,hps,hn2⟩⟩
 subst L0
 refine rbs 5 hs5 (rbs 78 hs78 (csr (lE olt (lnf (c_seq (c_if _ rfl (fun hc51=> ?_) (fun hc51=> ?_)))))))
 ·refine csk (c_seq (c_block (csr (lE omp (lE onp (lE ofp ?_))))))
  refine lv (v:= .agg (g3.toL.map ptv).toArray) (e_load vh21.ok (a:=⟨b2,3,none⟩) rfl (k_twA 0 rfl) rfl) (lE omi (lnf (c_block ?_)))
  refine c_mask [true,true] rfl ?_
  refine c_loop (fun(x_:Nat×List KG×Nat) f L=>match x_ with|(ga,Ys,n3)=>(f 5=pp b2 0∧f 78=Nx (pr)∧f 83= .agg (g3.toL.map ptv).toArray∧f 84=Nx (ga))∧L=[twR b2 ss g3 p ms.length c tg nx,netR G3 Ss Ys n3 true]∧(ga≤3∧PassTo 3 Zs Ys ga∧n3≤n2+22000*ga)) (fun(ga,Ys,n3)=>3-ga) (0,Zs,n2) ?_ ?_
  ·exact⟨⟨rfl,rfl,rfl,rfl⟩,rfl,⟨Nat.zero_le _,PassTo.start (Passes.net hk.net hps).1,by omega⟩⟩
  rintro⟨ga,Ys,n3⟩ f0 L0 ⟨⟨hs5,hs78,hs83,hs84⟩,hL,⟨hga,hpt,hn3⟩⟩
  subst L0
  refine rbs 5 hs5 (rbs 78 hs78 (rbs 83 hs83 (rbs 84 hs84 (csr (lE olt (lnf (c_seq (c_if _ rfl (fun hc52=> ?_) (fun hc52=> ?_)))))))))
  ·refine csk (c_seq (c_block (c_seq ?_)))
   have hga6:ga<3:=by omega
   have hml3:=msgs_len hpt.net hga6
   have hn22:n2≤17150000:=Nat.le_trans hn2 (Nat.add_le_add_left (Nat.mul_le_mul_left 70000 hp2) 15750000)
   obtain⟨G53,hg54⟩:∃q_,G3[ga]? =some q_:=⟨_,List.getElem?_eq_getElem (by omega)⟩
   refine c_region ?_
   refine lv (v:=pp G53 0) (e_index1 (xs:=g3.toL.map ptv) (k:=ga) rfl rfl vh22.ok (by rw[List.getElem?_map,P3.get (by omega),((hgs3 ga (by omega)).trans hg54)]<;>rfl) (by omega) vh23.ok) ?_
   refine lE oap (lnc (lE omp (l_call rfl rfl rfl (cl0 (vs:=[pp G53 0]) vh24.ok rfl rfl) ?_)))
   intro w hw
   replace hw:=hw.perm (L':=_::_::[]) (by exact((perm_front 0 rfl).trans (perm_front 1 rfl)))
   obtain⟨β1,sb,kn,hw1,back⟩:=St.frame (L:=[_]) (M:=_::[]) hw
   refine(net_keep (R:=fun p c=>msgsR p c (msgsX (gt Ys ga))) hw1 ⟨hgl,hsl,hpt.net.len⟩ hg54 fun β2 w S hw2=>(msgsG_ok β2 w G53 S n3 (gt Ys ga) true hw2).mono fun _ _ q_=>shownM (L':=(msgsX (gt Ys ga))) rfl q_).mono ?_
   rintro e w' ⟨p55,c56,rfl,hw'⟩
   refine⟨_,rfl,_,back _ _ hw',?_⟩
   clear hw hw1 hw' back kn sb
   refine lE oln (lE omi (lnf (c_block (c_openMsgs rfl fun oz57 hoz58 hoh59=> ?_))))
   have hoz58l:oz57.length=(msgsX (gt Ys ga)).length:=by rw[←hoz58,List.length_map]
   have hoz58k:(oz57.map Prod.fst).length=oz57.length:=List.length_map _
   refine rbs 88 (v:=sB p55 oz57 c56) (show(sB p55 (msgsX (gt Ys ga)) c56:Value)=sB p55 oz57 c56 from congrArg (fun z=>Value.slice p55 z c56) hoz58l.symm) ?_
   refine c_mask [true,true,true,true] rfl ?_
   refine c_loop (fun(x_:Nat×List KG×Nat) f L=>match x_ with|(j,Ws,n4)=>(f 5=pp b2 0∧f 78=Nx (pr)∧f 83= .agg (g3.toL.map ptv).toArray∧f 84=Nx (ga)∧f 88=sB p55 oz57 c56∧f 89=Nx ((msgsX (gt Ys ga)).length)∧f 90=Nx (j))∧L=[rowF MgF 38 p55 c56 (oz57.map Prod.fst),poolR (MPool.e oz57),netR G3 Ss Ws n4 true,twR b2 ss g3 p ms.length c tg nx]∧(j≤(msgsX (gt Ys ga)).length∧PassIn 3 Ys Ws ga j∧n4≤n3+300*j)) (fun(j,Ws,n4)=>(msgsX (gt Ys ga)).length-j) (0,Ys,n3) ?_ ?_
   ·exact⟨⟨rfl,rfl,rfl,rfl,rfl,rfl,rfl⟩,rfl,⟨Nat.zero_le _,PassIn.start hpt.net ga,by omega⟩⟩
   rintro⟨j,Ws,n4⟩ f0 L0 ⟨⟨hs5,hs78,hs83,hs84,hs88,hs89,hs90⟩,hL,⟨hj,hpi,hn4⟩⟩
   subst L0
   refine rbs 5 hs5 (rbs 78 hs78 (rbs 83 hs83 (rbs 84 hs84 (rbs 88 hs88 (rbs 89 hs89 (rbs 90 hs90 (csr (lE olt (lnf (c_seq ?_))))))))))
   refine c_if _ rfl (fun hc60=> ?_) (fun hc60=> ?_)
   ·refine csk (c_seq (c_block (c_seq ?_)))
    obtain⟨x61,hx62⟩:∃x_,(oz57.map Prod.fst)[j]? =some x_:=⟨_,List.getElem?_eq_getElem (by first|omega|decide)⟩
    obtain⟨s63,hs64,hm65,hp66⟩:=msg_at hoz58 hoh59 hx62
    obtain⟨b,Y,hb6,hbt,htk,hpn⟩:=hpi.next hga6 hs64
    have hxt:x61.to=((b+1:Nat):Int):=hm65.to.trans hbt
    obtain⟨G67,hg68⟩:∃q_,G3[b]? =some q_:=⟨_,List.getElem?_eq_getElem (by omega)⟩
    refine c_region (lv (v:= .pointer (some ((ba p55).add (j*6)))) (e_indexFlN 0 (F:=MgF) rfl (List.length_map _).symm rfl vh26 (by omega) rfl) ?_)
    refine lv (v:= .agg #[Ix (x61.src),Ix (x61.to),Ix (x61.number),.bool (x61.ack),Ix (x61.id),.slice x61.p (x61.n) x61.c]) (e_load vh27.ok rfl (k_flAt 0 (F:=MgF) rfl hx62) rfl) ?_
    refine alE fun b69=>lu (mS 0 (#[Ix (x61.src),Ix (x61.to),Ix (x61.number),.bool (x61.ack),Ix (x61.id),.slice x61.p (x61.n) x61.c])) (lnf (c_seq ?_))
    refine cnz [sv 94 (pp b2 0) [] [] [0],sv 95 (pp b69 1) [] [] [1],sv 96 (Ix (x61.to)) [1] [1] [],sv 97 (Ix ((x61.to)-(1:Int))) [1,2] [2] [],sv 98 (pp b2 0) [0] [0] [],sv 99 (pp b2 3) [0,4] [4] [],sv 100 (.pointer (some ((⟨b2,3,none⟩:Addr).add (b*1)))) (List.range 6) [5,3] [],sv 101 (pp G67 0) (List.range 7) [6] [],sv 102 (.agg #[Ix (x61.src),Ix (x61.to),Ix (x61.number),.bool (x61.ack),Ix (x61.id),.slice x61.p (x61.n) x61.c]) [] [] [1],sv 103 (.int .i64 (0)) (List.range 9) [7,8] [],sv 14 (.int .i64 (0)) (List.range 10) [9] []] [u1 [2,8],u0,u1 [9],(some 9,[9]),u1 [7]] [⟨(some 9),none,[],[],fun _=>netR G3 Ss (Ws.set b Y) (n4+300) true⟩] [(5,pp b2 0),(13,pp b69 0),(78,Nx (pr)),(83,.agg (g3.toL.map ptv).toArray),(84,Nx (ga)),(88,sB p55 oz57 c56),(89,Nx ((msgsX (gt Ys ga)).length)),(90,Nx (j))] [0,2,3,4,5,6,7] ⟨rfl,rfl,rfl,rfl,rfl,rfl,rfl,rfl,trivial⟩ ⟨?_,?_,?_,?_,?_,?_,?_,?_,?_,?_,?_,trivial⟩ ?_
    ·rintro f M-⟨i0,-⟩
     exact obE omp
    ·rintro f M-⟨i0,-⟩
     exact obE ofp
    ·rintro f M ⟨k0,-⟩-
     exact obE (oli 0)
    ·rintro f M ⟨k0,-⟩-
     exact obE omn
    ·rintro f M ⟨k0,-⟩-
     exact obE onp
    ·rintro f M ⟨k0,-⟩-
     exact obE ofp
    ·rintro f M ⟨k0,k1,-⟩-
     exact ob0 (up_cons (d:=97) (up_cons (d:=99) rfl k0) k1) rfl (e_indexArrI (a:=⟨b2,3,none⟩) (k:=b) rfl (show(Ix ((x61.to)-(1:Int)):Value)=Ix ((b:Nat):Int)from congrArg (Value.int .i64) (by omega)) vh22.ok (by omega)) (.refl _)
    ·rintro f M ⟨k0,-⟩-
     exact obv (L':=twR b2 ss g3 p ms.length c tg nx::M) (up_cons (d:=100) rfl k0) rfl (e_load1 vh23.ok rfl (k_twGe 0 rfl (by omega) ((hgs3 b (by omega)).trans hg68))) (perm_front 0 rfl) (by rfl)
    ·rintro f M-⟨i0,-⟩
     exact obE (olg 0)
    ·rintro f M ⟨k0,k1,-⟩-
     refine obS (up_cons (d:=102) (up_cons (d:=101) rfl k0) k1) ?_
     refine l_call rfl rfl rfl (cl0 (vs:=[pp G67 0,.agg #[Ix (x61.src),Ix (x61.to),Ix (x61.number),.bool (x61.ack),Ix (x61.id),.slice x61.p (x61.n) x61.c]]) vh31.ok rfl rfl) ?_
     intro w hw
     replace hw:=hw.perm (L':=_::_::M) (by exact((perm_front 0 rfl).trans (perm_front 1 rfl)))
     obtain⟨β1,sb,kn,hw1,back⟩:=St.frame (L:=[_]) (M:=_::M) hw
     refine(net_act hw1 ⟨hgl,hsl,hpi.net.len⟩ hg68 (took_or htk) fun β2 w S sb2 hw2=>gtakeH_ok β2 w (Cs.mono _ _ _ _ sb2 (Cs.mono _ _ _ _ sb hG)) G67 S n4 (gt Ws b) true hw2 (by omega) x61 s63 hm65 (Sl.mono _ _ _ _ _ sb2 (kn _ (k_poolS (zs:=(MPool.e oz57)) (z:=(x61.eh,s63.e)) 0 rfl hp66 hm65.eh)))).mono ?_
     rintro e w' ⟨rfl,hw'⟩
     refine⟨_,rfl,_,back _ _ hw',?_⟩
     clear hw hw1 hw' back kn sb
     refine l_nil ?_
     exact f_owes_d (up_cons (d:=102) (up_cons (d:=101) rfl k0) k1) rfl ((perm_front 0 rfl).trans (perm_front 1 rfl))
    ·rintro f M ⟨k0,-⟩-
     exact obE oai
    rintro fa70 ⟨-,-,-,-,-,-,-,-,-,-,k10,-⟩ ⟨j0,j1,j2,j3,j4,j5,j6,-⟩
    refine fre ?_
    refine f_rebase (d:=5) j0 (f_rebase (d:=14) k10 (f_rebase (d:=78) j1 (f_rebase (d:=83) j2 (f_rebase (d:=84) j3 (f_rebase (d:=88) j4 ?_)))))
    refine f_rebase (d:=89) j5 (f_rebase (d:=90) j6 (ftc (lE omi (lE onq (lnf (c_no rfl (c_skip (f_block (f_then (c_region ?_))))))))))
    refine lv (v:=Nx (j+1)) (e_add rfl rfl (i64n (by omega) (by omega))) (lE omi (l_nil (fpn [1,2,4,3,0] 5 ?_)))
    refine f_mask [true,true,true,true,false] rfl ?_
    exact f_cut ⟨(j+1,(Ws.set b Y),(n4+300)),⟨⟨rfl,rfl,rfl,rfl,rfl,rfl,rfl⟩,rfl,⟨by omega,hpn,by omega⟩⟩,(show(msgsX (gt Ys ga)).length-(j+1)<(msgsX (gt Ys ga)).length-j from by omega)⟩
   refine c_exit (f_then_exit (f_then_exit (f_exit (f_block (f_then (c_region (lv (v:=Nx (ga+1)) (e_add rfl rfl (i64n (by omega) (by omega))) ?_)))))))
   refine lE omi (l_nil (fpn [3,2,0,1] 4 ?_))
   refine f_mask [true,true,false,false] rfl ?_
   exact f_cut ⟨(ga+1,Ws,n4),⟨⟨rfl,rfl,rfl,rfl⟩,rfl,⟨by omega,hpt.next hga6 ((show j=(msgsX (gt Ys ga)).length by omega)▸hpi),by omega⟩⟩,(show 3-(ga+1)<3-ga from by omega)⟩
  refine c_exit (f_then_exit (f_then_exit (f_exit (f_block (f_then (c_region (lv (v:=Nx (pr+1)) (e_add rfl rfl (i64n (by omega) (by omega))) ?_)))))))
  refine lE omi (l_nil ?_)
  exact f_cut ⟨(pr+1,Ys,n3),⟨⟨rfl,rfl⟩,rfl,⟨by omega,⟨Zs,hps,(show ga=3 by omega)▸hpt⟩,rnd_n hn2 hn3 hga⟩⟩,(show 20-(pr+1)<20-pr from by omega)⟩
 refine c_exit (f_then_exit (f_then_exit (f_exit (fts (c_seq ?_)))))
 have hpr:pr=20:=by omega
 obtain⟨hk9,hq9⟩:=tok_rest (p:=18) hk (hpr▸hps)
 have hn22:n2≤17150000:=Nat.le_trans hn2 (Nat.add_le_add_left (Nat.mul_le_mul_left 70000 hp2) 15750000)
 refine c_region (lE omp (lE onp (lE ofp (lv (v:= .agg (g3.toL.map ptv).toArray) (e_load vh21.ok (a:=⟨b2,3,none⟩) rfl (k_twA 0 rfl) rfl) (lE omi ?_)))))
 refine lnf (c_block (c_mask [true,true] rfl ?_))
 refine c_loop (fun(gc:Nat) f L=>(f 5=pp b2 0∧f 112= .agg (g3.toL.map ptv).toArray∧f 113=Nx (gc))∧L=[twR b2 ss g3 p ms.length c tg nx,netR G3 Ss Zs n2 true]∧(gc≤3)) (fun gc=>3-gc) 0 ?_ ?_
 ·exact⟨⟨rfl,rfl,rfl⟩,rfl,(Nat.zero_le _)⟩
 rintro gc f0 L0 ⟨⟨hs5,hs112,hs113⟩,hL,hgc⟩
 subst L0
 refine rbs 5 hs5 (rbs 112 hs112 (rbs 113 hs113 (csr (lE olt (lnf (c_seq (c_if _ rfl (fun hc71=> ?_) (fun hc71=> ?_))))))))
 ·refine csk (c_seq (c_block (c_seq ?_)))
  have hgc6:gc<3:=by omega
  have hoo:=hq9 gc hgc6
  obtain⟨G72,hg73⟩:∃q_,G3[gc]? =some q_:=⟨_,List.getElem?_eq_getElem (by omega)⟩
  refine c_region ?_
  refine lv (v:=pp G72 0) (e_index1 (xs:=g3.toL.map ptv) (k:=gc) rfl rfl vh22.ok (by rw[List.getElem?_map,P3.get (by omega),((hgs3 gc (by omega)).trans hg73)]<;>rfl) (by omega) vh23.ok) ?_
  refine lE oap (lnc (lE omp (l_call rfl rfl rfl (cl0 (vs:=[pp G72 0]) vh32.ok rfl rfl) ?_)))
  intro w hw
  replace hw:=hw.perm (L':=_::_::[]) (by exact((perm_front 0 rfl).trans (perm_front 1 rfl)))
  obtain⟨β1,sb,kn,hw1,back⟩:=St.frame (L:=[_]) (M:=_::[]) hw
  refine(net_keep (R:=fun p c=>msgsR p c ([]:List KMs)) hw1 ⟨hgl,hsl,hk9.net.len⟩ hg73 fun β2 w S hw2=>(outG_ok β2 w G72 S n2 (gt Zs gc) true hw2).mono fun _ _ q_=>shownM (L':=([]:List KMs)) hoo q_).mono ?_
  rintro e w' ⟨p74,c75,rfl,hw'⟩
  refine⟨_,rfl,_,back _ _ hw',?_⟩
  clear hw hw1 hw' back kn sb
  refine lE oln (lE onq (lnf (c_if _ rfl (fun hc76=> ?_) (fun hc76=> ?_))))
  ·exact absurd hc76 (fun q_=>q_ rfl)
  refine c_skip (f_block (f_then (c_region (lv (v:=Nx (gc+1)) (e_add rfl rfl (i64n (by omega) (by omega))) (lE omi (l_nil (fpn [2,1,0] 3 ?_)))))))
  refine f_mask [true,true,false] rfl ?_
  exact f_cut ⟨gc+1,⟨⟨rfl,rfl,rfl⟩,rfl,(by omega)⟩,(show 3-(gc+1)<3-gc from by omega)⟩
 refine c_exit (f_then_exit (f_then_exit (f_exit (fts (c_conseq 1 (r':=netR G3 Ss Zs n2 false) rfl (fun _ q_=>netL_weak q_) (c_region (lE omp ?_)))))))
 refine l_call rfl rfl rfl (cl0 (vs:=[pp b2 0]) vh19.ok rfl rfl) ?_
 intro w hw
 replace hw:=hw.perm (L':=_::_::[]) (by exact((perm_front 1 rfl).trans (perm_front 1 rfl)))
 obtain⟨β1,sb,kn,hw1,back⟩:=St.frame (L:=[_,_]) (M:=[]) hw
 refine(tsound_ok β1 w b2 ss g3 p ms.length c tg nx G3 Ss Zs n2 hgl3 hsl hk9.net hgs3 i hk9 hw1).mono ?_
 rintro e w' ⟨rfl,nx_77,hw'⟩
 refine⟨_,rfl,_,back _ _ hw',?_⟩
 clear hw hw1 hw' back kn sb
 refine lE omb (g_call rfl rfl rfl rfl rfl (cl0 (vs:=[]) vh33.ok rfl rfl) ?_)
 intro w hw
 obtain⟨β1,sb,kn,hw1,back⟩:=St.frame_all hw
 refine(awake_ok β1 w hw1 (Cs.mono _ _ _ _ sb hG)).mono ?_
 rintro e w' ⟨rfl,hw'⟩
 refine⟨_,rfl,_,back _ _ hw',?_⟩
 clear hw hw1 hw' back kn sb
 refine lE oktb (lE oab (lnf (c_ret (ret1 Tryz.results6 rfl ?_))))
 intro w hw
 exact⟨rfl,st_mask [false,false] rfl hw⟩
end Go.Proofs
