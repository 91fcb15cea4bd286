/-
 Comparing, and what of a row is deleted: walked. Printed by a program of my own.
-/
import Derived.Test.YtmgpmgckbcjalaaGreatBr1
import Derived.Test.YtmgpmgckbcjalaaGreatBrPairs
import Derived.Test.YtmgpmgckbcjalaaGreatSlFn
namespace Go.Proofs
open Go Go.Sl Go.Brd
abbrev IntF:Fl Int:=⟨1,fun z=>[Ix z],fun _=>rfl,fun _=>rfl,by decide⟩
def ordP(x y:KP):Int:=orI [cmpI x.a y.a,cmpI x.b y.b]
theorem idxI_nat{α:Type}(p:α→Bool)(xs:List α):idxI p xs= -1∨∃k:Nat,idxI p xs=k:=by
 unfold idxI
 cases xs.findIdx? p with
 |none=>exact .inl rfl
 |some k=>exact .inr ⟨k,rfl⟩
theorem tf14:cfB Tryz.prog 98=true:=by kernel_rfl
theorem tf15:Tryz.prog.underlying 27=some (.slice 3):=by kernel_rfl
theorem tf16:slB Tryz.prog 27 3 1=true:=by kernel_rfl
theorem tf17:fldB Tryz.prog 87 1 1 4 true=true:=by kernel_rfl
theorem tf18:cfB Tryz.prog 58=true:=by kernel_rfl
theorem tf19:fldB Tryz.prog 55 0 0 1 false=true:=by kernel_rfl
theorem tf20:fldB Tryz.prog 55 1 1 1 false=true:=by kernel_rfl
theorem tf21:(Tryz.prog.info? 3).bind (·.zero)=some (.int .i64 (0)):=by kernel_rfl
theorem tf22:cfB Tryz.prog 57=true:=by kernel_rfl
theorem tf23:Tryz.prog.underlying 85=some (.slice 87):=by kernel_rfl
theorem tf24:slB Tryz.prog 85 87 5=true:=by kernel_rfl
theorem tf25:tyB Tryz.prog 87 true 5=true:=by kernel_rfl
theorem tf26:cfB Tryz.prog 101=true:=by kernel_rfl
theorem tf27:(Tryz.prog.info? 87).bind (·.zero)=some (.agg #[.int .i64 (0),.int .i64 (0),.int .i64 (0),.int .i64 (0),.int .i64 (0)]):=by kernel_rfl
theorem isnan_ok(β:Base)(w:World)(hw:St β [] w)(x:Int):Calls Tryz.prog 98 #[Ix x] w fun r w'=>r= .returned (.bool false)∧St β [] w':=by
 refine enter (n:=6) Tryz.func98 rfl Tryz.ntmps98 rfl ?_ hw
 refine c_seq ?_
 refine c_region ?_
 refine l_val (v:= .bool false) rfl rfl rfl (e_assign) ?_
 refine l_nil ?_
 refine f_then ?_
 refine c_seq ?_
 refine c_region ?_
 refine l_val (v:=Ix (x)) rfl rfl rfl (e_move) ?_
 refine l_val (v:=Ix (x)) rfl rfl rfl (e_move) ?_
 refine l_val (v:= .bool (decide ((x)≠(x)))) rfl rfl rfl (e_neq (a:=(x)) (b:=(x)) rfl rfl) ?_
 refine l_val (v:= .bool (decide ((x)≠(x)))) rfl rfl rfl (e_assign) ?_
 refine l_nil ?_
 refine f_then ?_
 refine c_ret ?_
 refine ret1 Tryz.results98 (v:= .bool (decide ((x)≠(x)))) rfl ?_
 intro w hw
 exact⟨congrArg Ending.returned (congrArg Value.bool (decide_eq_false (by simp))),st_mask [] rfl hw⟩
set_option maxHeartbeats 4000000 in
theorem cmp_ok(β:Base)(w:World)(hw:St β [] w)(x y:Int):Calls Tryz.prog 58 #[Ix x,Ix y] w fun r w'=>r= .returned (Ix (cmpI x y))∧St β [] w':=by
 refine enter (n:=20) Tryz.func58 rfl Tryz.ntmps58 rfl ?_ hw
 refine c_seq ?_
 refine c_region ?_
 refine l_val (v:= .int .i64 (0)) rfl rfl rfl (e_assign) ?_
 refine l_nil ?_
 refine f_then ?_
 refine c_seq ?_
 refine c_region ?_
 refine l_val (v:=Ix (x)) rfl rfl rfl (e_move) ?_
 refine l_call rfl rfl rfl (cl_value (fst:=[]) (cap:=[]) (vs:=[Ix (x)]) (all:=[Ix (x)]) tf14 rfl rfl rfl) ?_
 intro w hw
 obtain⟨β1,sb,kn,hw1,back⟩:=St.frame_all hw
 refine(isnan_ok β1 w hw1 (x)).mono ?_
 rintro e w' ⟨rfl,hw'⟩
 refine⟨_,rfl,_,back _ _ hw',?_⟩
 clear hw hw1 hw' back kn sb
 refine l_val (v:= .bool false) rfl rfl rfl (e_assign) ?_
 refine l_nil ?_
 refine f_then ?_
 refine c_seq ?_
 refine c_region ?_
 refine l_val (v:=Ix (y)) rfl rfl rfl (e_move) ?_
 refine l_call rfl rfl rfl (cl_value (fst:=[]) (cap:=[]) (vs:=[Ix (y)]) (all:=[Ix (y)]) tf14 rfl rfl rfl) ?_
 intro w hw
 obtain⟨β1,sb,kn,hw1,back⟩:=St.frame_all hw
 refine(isnan_ok β1 w hw1 (y)).mono ?_
 rintro e w' ⟨rfl,hw'⟩
 refine⟨_,rfl,_,back _ _ hw',?_⟩
 clear hw hw1 hw' back kn sb
 refine l_val (v:= .bool false) rfl rfl rfl (e_assign) ?_
 refine l_nil ?_
 refine f_then ?_
 refine c_seq ?_
 refine c_seq ?_
 refine c_region ?_
 refine l_val (v:= .bool false) rfl rfl rfl (e_move) ?_
 refine l_nil ?_
 refine f_then ?_
 refine c_no rfl ?_
 refine c_skip ?_
 refine f_then ?_
 refine c_seq ?_
 refine c_seq ?_
 refine c_region ?_
 refine l_val (v:= .bool false) rfl rfl rfl (e_move) ?_
 refine l_nil ?_
 refine f_then ?_
 refine c_no rfl ?_
 refine c_skip ?_
 refine f_then ?_
 refine c_seq ?_
 refine c_seq ?_
 refine c_region ?_
 refine l_val (v:=Ix (x)) rfl rfl rfl (e_move) ?_
 refine l_val (v:=Ix (y)) rfl rfl rfl (e_move) ?_
 refine l_val (v:= .bool (decide ((x)<(y)))) rfl rfl rfl (e_lss (a:=(x)) (b:=(y)) rfl rfl) ?_
 refine l_nil ?_
 refine f_then ?_
 refine c_if ((x)<(y)) rfl (fun hc1=> ?_) (fun hc1=> ?_)
 ·
  refine c_seq ?_
  refine c_region ?_
  refine l_val (v:= .int .i64 (-1)) rfl rfl rfl (e_assign) ?_
  refine l_nil ?_
  refine f_then ?_
  refine c_ret ?_
  refine f_then_ret ?_
  refine ret1 Tryz.results58 (v:= .int .i64 (-1)) rfl ?_
  intro w hw
  exact⟨congrArg Ending.returned (congrArg (Value.int .i64) (show(-1:Int)=cmpI x y by unfold cmpI;split<;>(try split)<;>omega)),st_mask [] rfl hw⟩
 ·
  refine c_skip ?_
  refine f_then ?_
  refine c_seq ?_
  refine c_seq ?_
  refine c_region ?_
  refine l_val (v:=Ix (x)) rfl rfl rfl (e_move) ?_
  refine l_val (v:=Ix (y)) rfl rfl rfl (e_move) ?_
  refine l_val (v:= .bool (decide ((y)<(x)))) rfl rfl rfl (e_gtr (a:=(x)) (b:=(y)) rfl rfl) ?_
  refine l_nil ?_
  refine f_then ?_
  refine c_if ((y)<(x)) rfl (fun hc2=> ?_) (fun hc2=> ?_)
  ·
   refine c_seq ?_
   refine c_region ?_
   refine l_val (v:= .int .i64 (1)) rfl rfl rfl (e_assign) ?_
   refine l_nil ?_
   refine f_then ?_
   refine c_ret ?_
   refine f_then_ret ?_
   refine ret1 Tryz.results58 (v:= .int .i64 (1)) rfl ?_
   intro w hw
   exact⟨congrArg Ending.returned (congrArg (Value.int .i64) (show(1:Int)=cmpI x y by unfold cmpI;split<;>(try split)<;>omega)),st_mask [] rfl hw⟩
  ·
   refine c_skip ?_
   refine f_then ?_
   refine c_seq ?_
   refine c_region ?_
   refine l_val (v:= .int .i64 (0)) rfl rfl rfl (e_assign) ?_
   refine l_nil ?_
   refine f_then ?_
   refine c_ret ?_
   refine ret1 Tryz.results58 (v:= .int .i64 (0)) rfl ?_
   intro w hw
   exact⟨congrArg Ending.returned (congrArg (Value.int .i64) (show(0:Int)=cmpI x y by unfold cmpI;split<;>(try split)<;>omega)),st_mask [] rfl hw⟩
set_option maxHeartbeats 4000000 in
theorem or_ok(β:Base)(w:World)(hw:St β [] w)(v:Value)(xs:List Int)(hs:Sl IntF.R β.heap v xs):Calls Tryz.prog 57 #[v] w fun r w'=>r= .returned (Ix (orI xs))∧St β [] w':=by
 obtain⟨va,vc,rfl,vl,vm,ve⟩:=hs.get
 refine enter (n:=18) Tryz.func57 rfl Tryz.ntmps57 rfl ?_ hw
 refine c_seq ?_
 refine c_region ?_
 refine l_val (v:= .int .i64 (0)) rfl rfl rfl (e_assign) ?_
 refine l_nil ?_
 refine f_then ?_
 refine c_seq ?_
 refine c_region ?_
 refine l_val (v:= .int .i64 (0)) rfl rfl rfl (e_assign) ?_
 refine l_nil ?_
 refine f_then ?_
 refine c_seq ?_
 refine c_seq ?_
 refine c_region ?_
 refine l_val (v:= .slice va (xs.length) (vc)) rfl rfl rfl (e_move) ?_
 refine l_val (v:=Nx (xs.length)) rfl rfl rfl (e_len (a:=va) (n:=xs.length) (c:=vc) rfl tf15) ?_
 refine l_val (v:= .int .i64 (0)) rfl rfl rfl (e_move) ?_
 refine l_nil ?_
 refine f_then ?_
 refine c_block ?_
 refine c_loop (fun(k:Nat) (f:Fm) (L:List Res)=>(f 3= .int .i64 (0)∧f 6= .slice va (xs.length) (vc)∧f 7=Nx (xs.length)∧f 8=Nx (k))∧L=[]∧(k≤xs.length∧∀y∈xs.take k,y=0)) (fun(k:Nat)=>xs.length-k) 0 ?_ ?_
 ·exact⟨⟨rfl,rfl,rfl,rfl⟩,rfl,⟨by omega,fun y hy=>by simp at hy⟩⟩
 rintro k f0 L0 ⟨⟨hs3,hs6,hs7,hs8⟩,hL,⟨hk,hp⟩⟩
 subst L0
 refine rebase (d:=3) hs3 ?_
 refine rebase (d:=6) hs6 ?_
 refine rebase (d:=7) hs7 ?_
 refine rebase (d:=8) hs8 ?_
 clear hs3 hs6 hs7 hs8
 refine c_seq ?_
 refine c_region ?_
 refine l_val (v:= .bool (decide (((k:Nat):Int)<((xs.length:Nat):Int)))) rfl rfl rfl (e_lss (a:=((k:Nat):Int)) (b:=((xs.length:Nat):Int)) rfl rfl) ?_
 refine l_nil ?_
 refine f_then ?_
 refine c_seq ?_
 refine c_if (((k:Nat):Int)<((xs.length:Nat):Int)) rfl (fun hc1=> ?_) (fun hc1=> ?_)
 ·
  refine c_skip ?_
  refine f_then ?_
  refine c_seq ?_
  refine c_block ?_
  refine c_seq ?_
  refine c_region ?_
  obtain⟨x2,hx2⟩:∃x_,(xs)[k]? =some x_:=⟨_,List.getElem?_eq_getElem (by omega)⟩
  obtain⟨ha4,cs5,hc6,rfl⟩:=ve _ _ hx2
  refine l_val (v:= .pointer (some ((ba va).add (k*1)))) rfl rfl rfl (e_indexAddr (k:=k) (len:=xs.length) (cap:=vc) (a:=va) rfl rfl tf16 (by omega) ha4) ?_
  refine l_val (v:=Ix (x2)) rfl rfl rfl (e_load1 tf2 (v:=Ix (x2)) rfl (Knows.of_base (Cs.mono _ _) hc6)) ?_
  refine l_val (v:=Ix (x2)) rfl rfl rfl (e_assign) ?_
  refine l_nil ?_
  refine f_then ?_
  refine c_seq ?_
  refine c_region ?_
  refine l_val (v:=Ix (x2)) rfl rfl rfl (e_move) ?_
  refine l_val (v:= .int .i64 (0)) rfl rfl rfl (e_move) ?_
  refine l_val (v:= .bool (decide ((x2)≠(0:Int)))) rfl rfl rfl (e_neq (a:=(x2)) (b:=(0:Int)) rfl rfl) ?_
  refine l_nil ?_
  refine f_then ?_
  refine c_if ((x2)≠(0:Int)) rfl (fun hc8=> ?_) (fun hc8=> ?_)
  ·
   refine c_seq ?_
   refine c_region ?_
   refine l_val (v:=Ix (x2)) rfl rfl rfl (e_move) ?_
   refine l_val (v:=Ix (x2)) rfl rfl rfl (e_assign) ?_
   refine l_nil ?_
   refine f_then ?_
   refine c_ret ?_
   refine f_block_ret ?_
   refine f_then_ret ?_
   refine f_then_ret ?_
   refine f_block_ret ?_
   refine f_then_ret ?_
   refine ret1 Tryz.results57 (v:=Ix (x2)) rfl ?_
   intro w hw
   exact⟨congrArg (fun z:Int=>Ending.returned (Ix z)) (orI_found hx2 hc8 hp).symm,st_mask [] rfl hw⟩
  ·
   refine c_skip ?_
   refine f_block ?_
   refine f_then ?_
   refine c_region ?_
   refine l_val (v:=Nx (k+1)) rfl rfl rfl (e_add (a:=((k:Nat):Int)) (b:=(1:Int)) rfl rfl (i64n (by omega) (by omega))) ?_
   refine l_val (v:=Nx (k+1)) rfl rfl rfl (e_move) ?_
   refine l_nil ?_
   exact f_cut ⟨k+1,⟨⟨rfl,rfl,rfl,rfl⟩,rfl,⟨by omega,orI_next hx2 (Decidable.not_not.1 hc8) hp⟩⟩,(show xs.length-(k+1)<xs.length-k from by omega)⟩
 ·
  refine c_exit ?_
  refine f_then_exit ?_
  refine f_then_exit ?_
  refine f_exit ?_
  refine f_then ?_
  refine c_seq ?_
  refine c_region ?_
  refine l_val (v:= .int .i64 (0)) rfl rfl rfl (e_move) ?_
  refine l_val (v:= .int .i64 (0)) rfl rfl rfl (e_assign) ?_
  refine l_nil ?_
  refine f_then ?_
  refine c_ret ?_
  refine ret1 Tryz.results57 (v:= .int .i64 (0)) rfl ?_
  intro w hw
  exact⟨congrArg (fun z:Int=>Ending.returned (Ix z)) (orI_none (by omega) hp).symm,st_mask [] rfl hw⟩
theorem cmpThing_ok(β:Base)(w:World)(hw:St β [] w)(x y:KT):Calls Tryz.prog 64 #[.agg #[Ix (x.id),Ix (x.ar.lx),Ix (x.ar.ly),Ix (x.ar.hx),Ix (x.ar.hy)],.agg #[Ix (y.id),Ix (y.ar.lx),Ix (y.ar.ly),Ix (y.ar.hx),Ix (y.ar.hy)]] w fun r w'=>r= .returned (Ix (cmpI x.ar.lx y.ar.lx))∧St β [] w':=by
 refine enter (n:=14) Tryz.func64 rfl Tryz.ntmps64 rfl ?_ hw
 refine c_seq ?_
 refine c_region ?_
 refine l_mv rfl rfl rfl (m_box (v:= .agg #[Ix (x.id),Ix (x.ar.lx),Ix (x.ar.ly),Ix (x.ar.hx),Ix (x.ar.hy)]) rfl) ?_
 rintro _ _ ⟨b1,rfl,rfl⟩
 refine l_mv rfl rfl rfl (m_box (v:= .agg #[Ix (y.id),Ix (y.ar.lx),Ix (y.ar.ly),Ix (y.ar.hx),Ix (y.ar.hy)]) rfl) ?_
 rintro _ _ ⟨b2,rfl,rfl⟩
 refine l_val (v:= .int .i64 (0)) rfl rfl rfl (e_assign) ?_
 refine l_nil ?_
 refine f_then ?_
 refine c_seq ?_
 refine c_region ?_
 refine l_val (v:= .pointer (some ⟨b1,1,none⟩)) rfl rfl rfl (e_fieldPt (b:=b1) (o:=0) rfl tf17) ?_
 refine l_val (v:= .pointer (some ⟨b1,1,none⟩)) rfl rfl rfl (e_fieldPt (b:=b1) (o:=1) rfl tf0) ?_
 refine l_val (v:= .pointer (some ⟨b1,1,none⟩)) rfl rfl rfl (e_fieldPt (b:=b1) (o:=1) rfl tf1) ?_
 refine l_val (v:=Ix (x.ar.lx)) rfl rfl rfl (e_load1 tf2 (v:=Ix (x.ar.lx)) rfl (k_pt 1 (cs:= #[Ix (x.id),Ix (x.ar.lx),Ix (x.ar.ly),Ix (x.ar.hx),Ix (x.ar.hy)]) (vs:=[Ix (x.ar.lx)]) rfl rfl)) ?_
 refine l_val (v:= .pointer (some ⟨b2,1,none⟩)) rfl rfl rfl (e_fieldPt (b:=b2) (o:=0) rfl tf17) ?_
 refine l_val (v:= .pointer (some ⟨b2,1,none⟩)) rfl rfl rfl (e_fieldPt (b:=b2) (o:=1) rfl tf0) ?_
 refine l_val (v:= .pointer (some ⟨b2,1,none⟩)) rfl rfl rfl (e_fieldPt (b:=b2) (o:=1) rfl tf1) ?_
 refine l_val (v:=Ix (y.ar.lx)) rfl rfl rfl (e_load1 tf2 (v:=Ix (y.ar.lx)) rfl (k_pt 0 (cs:= #[Ix (y.id),Ix (y.ar.lx),Ix (y.ar.ly),Ix (y.ar.hx),Ix (y.ar.hy)]) (vs:=[Ix (y.ar.lx)]) rfl rfl)) ?_
 refine l_call rfl rfl rfl (cl_value (fst:=[]) (cap:=[]) (vs:=[Ix (x.ar.lx),Ix (y.ar.lx)]) (all:=[Ix (x.ar.lx),Ix (y.ar.lx)]) tf18 rfl rfl rfl) ?_
 intro w hw
 obtain⟨β1,sb,kn,hw1,back⟩:=St.frame_all hw
 refine(cmp_ok β1 w hw1 (x.ar.lx) (y.ar.lx)).mono ?_
 rintro e w' ⟨rfl,hw'⟩
 refine⟨_,rfl,_,back _ _ hw',?_⟩
 clear hw hw1 hw' back kn sb
 refine l_val (v:=Ix (cmpI (x.ar.lx) (y.ar.lx))) rfl rfl rfl (e_assign) ?_
 refine l_nil ?_
 refine f_then ?_
 refine c_ret ?_
 refine ret1 Tryz.results64 (v:=Ix (cmpI (x.ar.lx) (y.ar.lx))) rfl ?_
 intro w hw
 exact⟨rfl,st_mask [false,false] rfl hw⟩
set_option maxHeartbeats 4000000 in
theorem order_ok(β:Base)(w:World)(hw:St β [] w)(x y:KP):Calls Tryz.prog 42 #[.agg #[Ix (x.a),Ix (x.b)],.agg #[Ix (y.a),Ix (y.b)]] w fun r w'=>r= .returned (Ix (ordP x y))∧St β [] w':=by
 refine enter (n:=17) Tryz.func42 rfl Tryz.ntmps42 rfl ?_ hw
 refine c_seq ?_
 refine c_region ?_
 refine l_mv rfl rfl rfl (m_box (v:= .agg #[Ix (x.a),Ix (x.b)]) rfl) ?_
 rintro _ _ ⟨b1,rfl,rfl⟩
 refine l_mv rfl rfl rfl (m_box (v:= .agg #[Ix (y.a),Ix (y.b)]) rfl) ?_
 rintro _ _ ⟨b2,rfl,rfl⟩
 refine l_val (v:= .int .i64 (0)) rfl rfl rfl (e_assign) ?_
 refine l_nil ?_
 refine f_then ?_
 refine c_seq ?_
 refine c_any [⟨[],[],[0],[5],fun f=>f 5= .pointer (some ⟨b1,0,none⟩)⟩,⟨[0],[0],[],[6],fun f=>f 6=Ix (x.a)⟩,⟨[],[],[1],[7],fun f=>f 7= .pointer (some ⟨b2,0,none⟩)⟩,⟨[2],[2],[],[8],fun f=>f 8=Ix (y.a)⟩,⟨[0,1,2,3],[1,3],[],[9],fun f=>f 9=Ix (cmpI (x.a) (y.a))⟩,⟨[],[],[0],[10],fun f=>f 10= .pointer (some ⟨b1,1,none⟩)⟩,⟨[5],[5],[],[11],fun f=>f 11=Ix (x.b)⟩,⟨[],[],[1],[12],fun f=>f 12= .pointer (some ⟨b2,1,none⟩)⟩,⟨[7],[7],[],[13],fun f=>f 13=Ix (y.b)⟩,⟨[0,1,2,3,4,5,6,7,8],[6,8],[],[14],fun f=>f 14=Ix (cmpI (x.b) (y.b))⟩,⟨[0,1,2,3,4,5,6,7,8,9],[4,9],[],[15],fun f=>f 15= .slice (some ⟨(blk (f 15)),0,none⟩) 2 2⟩,⟨[0,1,2,3,4,5,6,7,8,9,10],[10],[],[16],fun f=>f 16=Ix (orI [cmpI (x.a) (y.a),cmpI (x.b) (y.b)])⟩,⟨[0,1,2,3,4,5,6,7,8,9,10,11],[11],[],[4],fun f=>f 4=Ix (orI [cmpI (x.a) (y.a),cmpI (x.b) (y.b)])⟩] [⟨none,none,[3,8],[],fun _=>pt b2 (.cells #[Ix (y.a),Ix (y.b)] 55)⟩,⟨none,none,[1,6],[],fun _=>pt b1 (.cells #[Ix (x.a),Ix (x.b)] 55)⟩,⟨(some 10),none,[11],[15],fun f=>pt (blk (f 15)) (.cells #[Ix (cmpI (x.a) (y.a)),Ix (cmpI (x.b) (y.b))] 3)⟩] [(2,.pointer (some ⟨b1,0,none⟩)),(3,.pointer (some ⟨b2,0,none⟩))] [] [] (by kernel_rfl) (by kernel_rfl) (by kernel_rfl) (by kernel_rfl) rfl ⟨rfl,rfl,trivial⟩ ⟨?_,?_,?_,?_,?_,?_,?_,?_,?_,?_,?_,?_,?_,trivial⟩ ?_
 ·rintro f M-⟨i0,-⟩
  have hs2:f 2= .pointer (some ⟨b1,0,none⟩):=i0
  refine ob_start (L':=M) (by rfl) (up_cons rfl hs2) ?_
  refine l_val (v:= .pointer (some ⟨b1,0,none⟩)) rfl rfl rfl (e_fieldPt (b:=b1) (o:=0) rfl tf19) ?_
  refine l_nil ?_
  exact f_owes_d (up_cons rfl hs2) rfl (List.Perm.refl _)
 ·rintro f M ⟨k0,-⟩-
  have hs5:f 5= .pointer (some ⟨b1,0,none⟩):=k0
  refine ob_start (L':=pt b1 (.cells #[Ix (x.a),Ix (x.b)] 55)::M) (by rfl) (up_cons rfl hs5) ?_
  refine l_val (v:=Ix (x.a)) rfl rfl rfl (e_load1 tf2 (v:=Ix (x.a)) rfl (k_pt 0 (cs:= #[Ix (x.a),Ix (x.b)]) (vs:=[Ix (x.a)]) rfl rfl)) ?_
  refine l_nil ?_
  exact f_owes_d (up_cons rfl hs5) rfl (perm_front 0 rfl)
 ·rintro f M-⟨i0,-⟩
  have hs3:f 3= .pointer (some ⟨b2,0,none⟩):=i0
  refine ob_start (L':=M) (by rfl) (up_cons rfl hs3) ?_
  refine l_val (v:= .pointer (some ⟨b2,0,none⟩)) rfl rfl rfl (e_fieldPt (b:=b2) (o:=0) rfl tf19) ?_
  refine l_nil ?_
  exact f_owes_d (up_cons rfl hs3) rfl (List.Perm.refl _)
 ·rintro f M ⟨k0,-⟩-
  have hs7:f 7= .pointer (some ⟨b2,0,none⟩):=k0
  refine ob_start (L':=pt b2 (.cells #[Ix (y.a),Ix (y.b)] 55)::M) (by rfl) (up_cons rfl hs7) ?_
  refine l_val (v:=Ix (y.a)) rfl rfl rfl (e_load1 tf2 (v:=Ix (y.a)) rfl (k_pt 0 (cs:= #[Ix (y.a),Ix (y.b)]) (vs:=[Ix (y.a)]) rfl rfl)) ?_
  refine l_nil ?_
  exact f_owes_d (up_cons rfl hs7) rfl (perm_front 0 rfl)
 ·rintro f M ⟨k0,k1,-⟩-
  have hs6:f 6=Ix (x.a):=k0
  have hs8:f 8=Ix (y.a):=k1
  refine ob_start (L':=M) (by rfl) (up_cons (up_cons rfl hs6) hs8) ?_
  refine l_call rfl rfl rfl (cl_value (fst:=[]) (cap:=[]) (vs:=[Ix (x.a),Ix (y.a)]) (all:=[Ix (x.a),Ix (y.a)]) tf18 rfl rfl rfl) ?_
  intro w hw
  obtain⟨β1,sb,kn,hw1,back⟩:=St.frame_all hw
  refine(cmp_ok β1 w hw1 (x.a) (y.a)).mono ?_
  rintro e w' ⟨rfl,hw'⟩
  refine⟨_,rfl,_,back _ _ hw',?_⟩
  clear hw hw1 hw' back kn sb
  refine l_nil ?_
  exact f_owes_d (up_cons (up_cons rfl hs6) hs8) rfl (List.Perm.refl _)
 ·rintro f M-⟨i0,-⟩
  have hs2:f 2= .pointer (some ⟨b1,0,none⟩):=i0
  refine ob_start (L':=M) (by rfl) (up_cons rfl hs2) ?_
  refine l_val (v:= .pointer (some ⟨b1,1,none⟩)) rfl rfl rfl (e_fieldPt (b:=b1) (o:=0) rfl tf20) ?_
  refine l_nil ?_
  exact f_owes_d (up_cons rfl hs2) rfl (List.Perm.refl _)
 ·rintro f M ⟨k0,-⟩-
  have hs10:f 10= .pointer (some ⟨b1,1,none⟩):=k0
  refine ob_start (L':=pt b1 (.cells #[Ix (x.a),Ix (x.b)] 55)::M) (by rfl) (up_cons rfl hs10) ?_
  refine l_val (v:=Ix (x.b)) rfl rfl rfl (e_load1 tf2 (v:=Ix (x.b)) rfl (k_pt 0 (cs:= #[Ix (x.a),Ix (x.b)]) (vs:=[Ix (x.b)]) rfl rfl)) ?_
  refine l_nil ?_
  exact f_owes_d (up_cons rfl hs10) rfl (perm_front 0 rfl)
 ·rintro f M-⟨i0,-⟩
  have hs3:f 3= .pointer (some ⟨b2,0,none⟩):=i0
  refine ob_start (L':=M) (by rfl) (up_cons rfl hs3) ?_
  refine l_val (v:= .pointer (some ⟨b2,1,none⟩)) rfl rfl rfl (e_fieldPt (b:=b2) (o:=0) rfl tf20) ?_
  refine l_nil ?_
  exact f_owes_d (up_cons rfl hs3) rfl (List.Perm.refl _)
 ·rintro f M ⟨k0,-⟩-
  have hs12:f 12= .pointer (some ⟨b2,1,none⟩):=k0
  refine ob_start (L':=pt b2 (.cells #[Ix (y.a),Ix (y.b)] 55)::M) (by rfl) (up_cons rfl hs12) ?_
  refine l_val (v:=Ix (y.b)) rfl rfl rfl (e_load1 tf2 (v:=Ix (y.b)) rfl (k_pt 0 (cs:= #[Ix (y.a),Ix (y.b)]) (vs:=[Ix (y.b)]) rfl rfl)) ?_
  refine l_nil ?_
  exact f_owes_d (up_cons rfl hs12) rfl (perm_front 0 rfl)
 ·rintro f M ⟨k0,k1,-⟩-
  have hs11:f 11=Ix (x.b):=k0
  have hs13:f 13=Ix (y.b):=k1
  refine ob_start (L':=M) (by rfl) (up_cons (up_cons rfl hs11) hs13) ?_
  refine l_call rfl rfl rfl (cl_value (fst:=[]) (cap:=[]) (vs:=[Ix (x.b),Ix (y.b)]) (all:=[Ix (x.b),Ix (y.b)]) tf18 rfl rfl rfl) ?_
  intro w hw
  obtain⟨β1,sb,kn,hw1,back⟩:=St.frame_all hw
  refine(cmp_ok β1 w hw1 (x.b) (y.b)).mono ?_
  rintro e w' ⟨rfl,hw'⟩
  refine⟨_,rfl,_,back _ _ hw',?_⟩
  clear hw hw1 hw' back kn sb
  refine l_nil ?_
  exact f_owes_d (up_cons (up_cons rfl hs11) hs13) rfl (List.Perm.refl _)
 ·rintro f M ⟨k0,k1,-⟩-
  have hs9:f 9=Ix (cmpI (x.a) (y.a)):=k0
  have hs14:f 14=Ix (cmpI (x.b) (y.b)):=k1
  refine ob_start (L':=M) (by rfl) (up_cons (up_cons rfl hs9) hs14) ?_
  refine l_mv rfl rfl rfl (m_slices tf16 tf21 (vs:=[(0,Ix (cmpI (x.a) (y.a))),(1,Ix (cmpI (x.b) (y.b)))]) (cells:= #[Ix (cmpI (x.a) (y.a)),Ix (cmpI (x.b) (y.b))]) rfl rfl rfl rfl) ?_
  rintro _ _ ⟨b4,rfl,rfl⟩
  refine l_nil ?_
  exact f_owes_d (up_cons (up_cons rfl hs9) hs14) rfl (perm_front 0 rfl)
 ·rintro f M ⟨k0,-⟩-
  have hs15:f 15= .slice (some ⟨(blk (f 15)),0,none⟩) 2 2:=k0
  refine ob_start (L':=pt (blk (f 15)) (.cells #[Ix (cmpI (x.a) (y.a)),Ix (cmpI (x.b) (y.b))] 3)::M) (by rfl) (up_cons rfl hs15) ?_
  refine l_call rfl rfl rfl (cl_value (fst:=[]) (cap:=[]) (vs:=[.slice (some ⟨(blk (f 15)),0,none⟩) 2 2]) (all:=[.slice (some ⟨(blk (f 15)),0,none⟩) 2 2]) tf22 rfl rfl rfl) ?_
  intro w hw
  obtain⟨β1,sb,kn,hw1,back⟩:=St.frame_all hw
  refine(or_ok β1 w hw1 _ [cmpI (x.a) (y.a),cmpI (x.b) (y.b)] (kn _ (k_ptFls (F:=IntF) 0 (m:=2) (xs:=[cmpI (x.a) (y.a),cmpI (x.b) (y.b)]) rfl rfl rfl (by simp)))).mono ?_
  rintro e w' ⟨rfl,hw'⟩
  refine⟨_,rfl,_,back _ _ hw',?_⟩
  clear hw hw1 hw' back kn sb
  refine l_nil ?_
  exact f_owes_d (up_cons rfl hs15) rfl (perm_front 0 rfl)
 ·rintro f M ⟨k0,-⟩-
  have hs16:f 16=Ix (orI [cmpI (x.a) (y.a),cmpI (x.b) (y.b)]):=k0
  refine ob_start (L':=M) (by rfl) (up_cons rfl hs16) ?_
  refine l_val (v:=Ix (orI [cmpI (x.a) (y.a),cmpI (x.b) (y.b)])) rfl rfl rfl (e_assign) ?_
  refine l_nil ?_
  exact f_owes_d (up_cons rfl hs16) rfl (List.Perm.refl _)
 rintro fa5 ⟨-,-,-,-,-,-,-,-,-,-,-,-,k12,-⟩-
 refine f_re (L':=[pt b2 (.cells #[Ix (y.a),Ix (y.b)] 55),pt b1 (.cells #[Ix (x.a),Ix (x.b)] 55),pt (blk (fa5 15)) (.cells #[Ix (cmpI (x.a) (y.a)),Ix (cmpI (x.b) (y.b))] 3)]) (by rfl) ?_
 refine f_rebase (d:=4) (v:=Ix (orI [cmpI (x.a) (y.a),cmpI (x.b) (y.b)])) k12 ?_
 refine f_then ?_
 refine c_ret ?_
 refine ret1 Tryz.results42 (v:=Ix (orI [cmpI (x.a) (y.a),cmpI (x.b) (y.b)])) rfl ?_
 intro w hw
 exact⟨rfl,st_mask [false,false,false] rfl hw⟩
theorem left_fn(β:Base)(c:Nat)(x:KT)(hc:Cs β.heap ⟨c,0,none⟩ [Ix (x.id),Ix (x.ar.lx),Ix (x.ar.ly),Ix (x.ar.hx),Ix (x.ar.hy)]):FnV Tryz.prog β (.func (.func 66) #[] #[.pointer (some ⟨c,0,none⟩)]) (fun z:KT=>[.agg #[Ix (z.id),Ix (z.ar.lx),Ix (z.ar.ly),Ix (z.ar.hx),Ix (z.ar.hy)]]) (fun _=>True) (fun z=> .bool (decide (z.ar.hx<x.ar.lx))):=by
 refine⟨66,[],[.pointer (some (⟨c,0,none⟩))],rfl,by kernel_rfl,fun β₁ sb0 z_ hz_ w hw=> ?_⟩
 have hc1:=Cs.mono _ _ _ _ sb0 hc
 obtain⟨y,hy⟩:∃y,y=z_:=⟨_,rfl⟩
 subst hy
 refine enter (n:=13) Tryz.func66 rfl Tryz.ntmps66 rfl ?_ hw
 refine c_seq ?_
 refine c_region ?_
 refine l_mv rfl rfl rfl (m_box (v:= .agg #[Ix (y.id),Ix (y.ar.lx),Ix (y.ar.ly),Ix (y.ar.hx),Ix (y.ar.hy)]) rfl) ?_
 rintro _ _ ⟨b1,rfl,rfl⟩
 refine l_val (v:= .bool false) rfl rfl rfl (e_assign) ?_
 refine l_nil ?_
 refine f_then ?_
 refine c_seq ?_
 refine c_region ?_
 refine l_val (v:= .pointer (some ⟨b1,1,none⟩)) rfl rfl rfl (e_fieldPt (b:=b1) (o:=0) rfl tf17) ?_
 refine l_val (v:= .pointer (some ⟨b1,3,none⟩)) rfl rfl rfl (e_fieldPt (b:=b1) (o:=1) rfl tf3) ?_
 refine l_val (v:= .pointer (some ⟨b1,3,none⟩)) rfl rfl rfl (e_fieldPt (b:=b1) (o:=3) rfl tf1) ?_
 refine l_val (v:=Ix (y.ar.hx)) rfl rfl rfl (e_load1 tf2 (v:=Ix (y.ar.hx)) rfl (k_pt 0 (cs:= #[Ix (y.id),Ix (y.ar.lx),Ix (y.ar.ly),Ix (y.ar.hx),Ix (y.ar.hy)]) (vs:=[Ix (y.ar.hx)]) rfl rfl)) ?_
 refine l_val (v:= .pointer (some ((⟨c,0,none⟩:Addr).add 1))) rfl rfl rfl (e_fieldAddr (a:=⟨c,0,none⟩) rfl tf17) ?_
 refine l_val (v:= .pointer (some (((⟨c,0,none⟩:Addr).add 1:Addr).add 0))) rfl rfl rfl (e_fieldAddr (a:=(⟨c,0,none⟩:Addr).add 1) rfl tf0) ?_
 refine l_val (v:= .pointer (some ((((⟨c,0,none⟩:Addr).add 1:Addr).add 0:Addr).add 0))) rfl rfl rfl (e_fieldAddr (a:=((⟨c,0,none⟩:Addr).add 1:Addr).add 0) rfl tf1) ?_
 refine l_val (v:=Ix (x.ar.lx)) rfl rfl rfl (e_load1 tf2 (v:=Ix (x.ar.lx)) rfl (Knows.imp (Knows.imp (Knows.imp (Knows.of_base (Cs.mono _ _) hc1) (fun _ h=>Cs.sub (vs:=(areaE x.ar)) 1 h rfl)) (fun _ h=>Cs.sub (vs:=[Ix (x.ar.lx),Ix (x.ar.ly)]) 0 h rfl)) (fun _ h=>Cs.sub (vs:=[Ix (x.ar.lx)]) 0 h rfl))) ?_
 refine l_val (v:= .bool (decide ((y.ar.hx)<(x.ar.lx)))) rfl rfl rfl (e_lss (a:=(y.ar.hx)) (b:=(x.ar.lx)) rfl rfl) ?_
 refine l_val (v:= .bool (decide ((y.ar.hx)<(x.ar.lx)))) rfl rfl rfl (e_assign) ?_
 refine l_nil ?_
 refine f_then ?_
 refine c_ret ?_
 refine ret1 Tryz.results66 (v:= .bool (decide ((y.ar.hx)<(x.ar.lx)))) rfl ?_
 intro w hw
 exact⟨rfl,st_mask [false] rfl hw⟩
set_option maxHeartbeats 4000000 in
theorem indexT_ok(β:Base)(w:World)(hw:St β [] w)(v:Value)(xs:List KT)(hs:Sl ThingF.R β.heap v xs)(fn:Value)(p:KT→Bool)(hfn:FnV Tryz.prog β fn (fun z:KT=>[.agg #[Ix (z.id),Ix (z.ar.lx),Ix (z.ar.ly),Ix (z.ar.hx),Ix (z.ar.hy)]]) (fun _=>True) (fun z=> .bool (p z))):Calls Tryz.prog 101 #[v,fn] w fun r w'=>r= .returned (Ix (idxI p xs))∧St β [] w':=by
 obtain⟨va,vc,rfl,vl,vm,ve⟩:=hs.get
 obtain⟨gg,fst,cap,rfl,hcf,hf⟩:=hfn
 refine enter (n:=19) Tryz.func101 rfl Tryz.ntmps101 rfl ?_ hw
 refine c_seq ?_
 refine c_region ?_
 refine l_val (v:= .int .i64 (0)) rfl rfl rfl (e_assign) ?_
 refine l_nil ?_
 refine f_then ?_
 refine c_seq ?_
 refine c_seq ?_
 refine c_region ?_
 refine l_val (v:= .slice va (xs.length) (vc)) rfl rfl rfl (e_move) ?_
 refine l_val (v:=Nx (xs.length)) rfl rfl rfl (e_len (a:=va) (n:=xs.length) (c:=vc) rfl tf23) ?_
 refine l_val (v:= .int .i64 (0)) rfl rfl rfl (e_move) ?_
 refine l_nil ?_
 refine f_then ?_
 refine c_block ?_
 refine c_loop (fun(k:Nat) (f:Fm) (L:List Res)=>(f 0= .slice va (xs.length) (vc)∧f 1= .func (.func gg) fst.toArray cap.toArray∧f 7=Nx (xs.length)∧f 8=Nx (k))∧L=[]∧(k≤xs.length∧∀y∈xs.take k,p y=false)) (fun(k:Nat)=>xs.length-k) 0 ?_ ?_
 ·exact⟨⟨rfl,rfl,rfl,rfl⟩,rfl,⟨by omega,fun y hy=>by simp at hy⟩⟩
 rintro k f0 L0 ⟨⟨hs0,hs1,hs7,hs8⟩,hL,⟨hk,hp⟩⟩
 subst L0
 refine rebase (d:=0) hs0 ?_
 refine rebase (d:=1) hs1 ?_
 refine rebase (d:=7) hs7 ?_
 refine rebase (d:=8) hs8 ?_
 clear hs0 hs1 hs7 hs8
 refine c_seq ?_
 refine c_region ?_
 refine l_val (v:= .bool (decide (((k:Nat):Int)<((xs.length:Nat):Int)))) rfl rfl rfl (e_lss (a:=((k:Nat):Int)) (b:=((xs.length:Nat):Int)) rfl rfl) ?_
 refine l_nil ?_
 refine f_then ?_
 refine c_seq ?_
 refine c_if (((k:Nat):Int)<((xs.length:Nat):Int)) rfl (fun hc1=> ?_) (fun hc1=> ?_)
 ·
  refine c_skip ?_
  refine f_then ?_
  refine c_seq ?_
  refine c_block ?_
  refine c_seq ?_
  refine c_region ?_
  refine l_val (v:=Nx (k)) rfl rfl rfl (e_move) ?_
  refine l_val (v:=Nx (k)) rfl rfl rfl (e_assign) ?_
  refine l_nil ?_
  refine f_then ?_
  refine c_seq ?_
  refine c_region ?_
  refine l_val (v:= .func (.func gg) fst.toArray cap.toArray) rfl rfl rfl (e_move) ?_
  refine l_val (v:= .slice va (xs.length) (vc)) rfl rfl rfl (e_move) ?_
  refine l_val (v:=Nx (k)) rfl rfl rfl (e_move) ?_
  obtain⟨x2,hx2⟩:∃x_,(xs)[k]? =some x_:=⟨_,List.getElem?_eq_getElem (by omega)⟩
  obtain⟨ha4,cs5,hc6,rfl⟩:=ve _ _ hx2
  refine l_val (v:= .pointer (some ((ba va).add (k*5)))) rfl rfl rfl (e_indexAddr (k:=k) (len:=xs.length) (cap:=vc) (a:=va) rfl rfl tf24 (by omega) ha4) ?_
  refine l_val (v:= .agg #[Ix (x2.id),Ix (x2.ar.lx),Ix (x2.ar.ly),Ix (x2.ar.hx),Ix (x2.ar.hy)]) rfl rfl rfl (e_load tf25 (cs:=[Ix (x2.id),Ix (x2.ar.lx),Ix (x2.ar.ly),Ix (x2.ar.hx),Ix (x2.ar.hy)]) rfl (Knows.of_base (Cs.mono _ _) hc6) rfl) ?_
  refine l_call rfl rfl rfl (cl_value (fst:=fst) (cap:=cap) (vs:=[.agg #[Ix (x2.id),Ix (x2.ar.lx),Ix (x2.ar.ly),Ix (x2.ar.hx),Ix (x2.ar.hy)]]) (all:=fst++[.agg #[Ix (x2.id),Ix (x2.ar.lx),Ix (x2.ar.ly),Ix (x2.ar.hx),Ix (x2.ar.hy)]]++cap) hcf rfl rfl rfl) ?_
  intro w hw
  obtain⟨β1,sb,kn,hw1,back⟩:=St.frame_all hw
  refine(hf β1 sb x2 trivial w hw1).mono ?_
  rintro e w' ⟨rfl,hw'⟩
  refine⟨_,rfl,_,back _ _ hw',?_⟩
  clear hw hw1 hw' back kn sb
  refine l_nil ?_
  refine f_then ?_
  refine c_ifb (p x2) rfl (fun hc8=> ?_) (fun hc8=> ?_)
  ·
   refine c_seq ?_
   refine c_region ?_
   refine l_val (v:=Nx (k)) rfl rfl rfl (e_move) ?_
   refine l_val (v:=Nx (k)) rfl rfl rfl (e_assign) ?_
   refine l_nil ?_
   refine f_then ?_
   refine c_ret ?_
   refine f_block_ret ?_
   refine f_then_ret ?_
   refine f_then_ret ?_
   refine f_block_ret ?_
   refine f_then_ret ?_
   refine ret1 Tryz.results101 (v:=Nx (k)) rfl ?_
   intro w hw
   exact⟨congrArg (fun z:Int=>Ending.returned (Ix z)) (idx_found hx2 hc8 hp).symm,st_mask [] rfl hw⟩
  ·
   refine c_skip ?_
   refine f_block ?_
   refine f_then ?_
   refine c_region ?_
   refine l_val (v:=Nx (k+1)) rfl rfl rfl (e_add (a:=((k:Nat):Int)) (b:=(1:Int)) rfl rfl (i64n (by omega) (by omega))) ?_
   refine l_val (v:=Nx (k+1)) rfl rfl rfl (e_move) ?_
   refine l_nil ?_
   exact f_cut ⟨k+1,⟨⟨rfl,rfl,rfl,rfl⟩,rfl,⟨by omega,idx_next hx2 hc8 hp⟩⟩,(show xs.length-(k+1)<xs.length-k from by omega)⟩
 ·
  refine c_exit ?_
  refine f_then_exit ?_
  refine f_then_exit ?_
  refine f_exit ?_
  refine f_then ?_
  refine c_seq ?_
  refine c_region ?_
  refine l_val (v:= .int .i64 (-1)) rfl rfl rfl (e_assign) ?_
  refine l_nil ?_
  refine f_then ?_
  refine c_ret ?_
  refine ret1 Tryz.results101 (v:= .int .i64 (-1)) rfl ?_
  intro w hw
  exact⟨congrArg (fun z:Int=>Ending.returned (Ix z)) (idx_none (by omega) hp).symm,st_mask [] rfl hw⟩
set_option maxHeartbeats 4000000 in
theorem deleteT_ok(β:Base)(w:World)(q:Option Addr)(c:Nat)(xs:List KT)(hw:St β [rowF ThingF 87 q c xs] w)(hn:xs.length≤1048576)(fn:Value)(p:KT→Bool)(hfn:FnV Tryz.prog β fn (fun z:KT=>[.agg #[Ix (z.id),Ix (z.ar.lx),Ix (z.ar.ly),Ix (z.ar.hx),Ix (z.ar.hy)]]) (fun _=>True) (fun z=> .bool (p z))):Calls Tryz.prog 65 #[.slice q xs.length c,fn] w fun r w'=>r= .returned (.slice q (xs.filter fun z=> !p z).length c)∧St β [rowF ThingF 87 q c (xs.filter fun z=> !p z)] w':=by
 have hfn0:=hfn
 obtain⟨gg,fst,cap,rfl,hcf,hf⟩:=hfn
 refine enter (n:=42) Tryz.func65 rfl Tryz.ntmps65 rfl ?_ hw
 refine c_seq ?_
 refine c_rowcap 0 rfl (fun hcl hcm=> ?_)
 refine c_region ?_
 refine l_val (v:= .slice none 0 0) rfl rfl rfl (e_assign) ?_
 refine l_nil ?_
 refine f_then ?_
 refine c_seq ?_
 refine c_region ?_
 refine l_val (v:= .slice q (xs.length) c) rfl rfl rfl (e_move) ?_
 refine l_val (v:= .func (.func gg) fst.toArray cap.toArray) rfl rfl rfl (e_move) ?_
 refine l_call rfl rfl rfl (cl_value (fst:=[]) (cap:=[]) (vs:=[.slice q (xs.length) c,.func (.func gg) fst.toArray cap.toArray]) (all:=[.slice q (xs.length) c,.func (.func gg) fst.toArray cap.toArray]) tf26 rfl rfl rfl) ?_
 intro w hw
 obtain⟨β1,sb,kn,hw1,back⟩:=St.frame_all hw
 refine(indexT_ok β1 w hw1 _ xs (kn _ (k_flN 0 (F:=ThingF) (m:=xs.length) rfl rfl)) _ p (hfn0.mono sb)).mono ?_
 rintro e w' ⟨rfl,hw'⟩
 refine⟨_,rfl,_,back _ _ hw',?_⟩
 clear hw hw1 hw' back kn sb
 refine l_val (v:=Ix (idxI p xs)) rfl rfl rfl (e_assign) ?_
 refine l_nil ?_
 refine f_then ?_
 refine c_seq ?_
 refine c_seq ?_
 refine c_region ?_
 refine l_val (v:=Ix (idxI p xs)) rfl rfl rfl (e_move) ?_
 refine l_val (v:= .bool (decide ((idxI p xs)=(-1:Int)))) rfl rfl rfl (e_eql (a:=(idxI p xs)) (b:=(-1:Int)) rfl rfl) ?_
 refine l_nil ?_
 refine f_then ?_
 refine c_if ((idxI p xs)=(-1:Int)) rfl (fun hc1=> ?_) (fun hc1=> ?_)
 ·
  refine c_seq ?_
  refine c_region ?_
  refine l_val (v:= .slice q (xs.length) c) rfl rfl rfl (e_move) ?_
  refine l_val (v:= .slice q (xs.length) c) rfl rfl rfl (e_assign) ?_
  refine l_nil ?_
  refine f_then ?_
  refine c_ret ?_
  refine f_then_ret ?_
  refine ret1 Tryz.results65 (v:= .slice q (xs.length) c) rfl ?_
  intro w hw
  have he:=filter_none hc1
  exact⟨by rw[he],by rw[he];exact st_mask [true] rfl hw⟩
 ·
  refine c_skip ?_
  refine f_then ?_
  refine c_seq ?_
  refine c_seq ?_
  obtain⟨kq,hkq⟩:∃k:Nat,idxI p xs=k:=(idxI_nat _ _).resolve_left hc1
  have hd0:=DelInv.start hkq
  have hd1:=hd0.lj
  refine rebase (d:=5) (v:=Nx kq) (congrArg (fun z:Int=>Ix z) hkq) ?_
  refine c_region ?_
  refine l_val (v:=Nx (kq)) rfl rfl rfl (e_move) ?_
  refine l_val (v:=Nx (kq+1)) rfl rfl rfl (e_add (a:=((kq:Nat):Int)) (b:=(1:Int)) rfl rfl (i64n (by omega) (by omega))) ?_
  refine l_val (v:=Nx (kq+1)) rfl rfl rfl (e_assign) ?_
  refine l_nil ?_
  refine f_then ?_
  refine c_block ?_
  refine c_loop (fun(x_:Nat×Nat×List KT) (f:Fm) (L:List Res)=>match x_ with|(i,j,ws)=>(f 0= .slice q (xs.length) c∧f 1= .func (.func gg) fst.toArray cap.toArray∧f 5=Nx (i)∧f 6=Nx (j))∧L=[rowF ThingF 87 q c ws]∧(DelInv p xs ws i j)) (fun(x_:Nat×Nat×List KT)=>match x_ with|(i,j,ws)=>xs.length-j) (kq,(kq+1),xs) ?_ ?_
  ·exact⟨⟨rfl,rfl,rfl,rfl⟩,rfl,hd0⟩
  rintro⟨i,j,ws⟩ f0 L0 ⟨⟨hs0,hs1,hs5,hs6⟩,hL,hd⟩
  subst L0
  refine rebase (d:=0) hs0 ?_
  refine rebase (d:=1) hs1 ?_
  refine rebase (d:=5) hs5 ?_
  refine rebase (d:=6) hs6 ?_
  clear hs0 hs1 hs5 hs6
  have hdl:=hd.len
  have hde:=hd.le
  have hdj:=hd.lj
  refine c_seq ?_
  refine c_seq ?_
  refine c_region ?_
  refine l_val (v:=Nx (j)) rfl rfl rfl (e_move) ?_
  refine l_val (v:= .slice q (xs.length) c) rfl rfl rfl (e_move) ?_
  refine l_val (v:=Nx (xs.length)) rfl rfl rfl (e_len (a:=q) (n:=xs.length) (c:=c) rfl tf23) ?_
  refine l_val (v:= .bool (decide (((j:Nat):Int)<((xs.length:Nat):Int)))) rfl rfl rfl (e_lss (a:=((j:Nat):Int)) (b:=((xs.length:Nat):Int)) rfl rfl) ?_
  refine l_nil ?_
  refine f_then ?_
  refine c_if (((j:Nat):Int)<((xs.length:Nat):Int)) rfl (fun hc2=> ?_) (fun hc2=> ?_)
  ·
   refine c_skip ?_
   refine f_then ?_
   refine c_seq ?_
   refine c_block ?_
   refine c_seq ?_
   refine c_region ?_
   refine l_val (v:= .slice q (xs.length) c) rfl rfl rfl (e_move) ?_
   refine l_val (v:=Nx (j)) rfl rfl rfl (e_move) ?_
   refine l_val (v:= .pointer (some ((ba q).add (j*5)))) rfl rfl rfl (e_indexFlN 0 (F:=ThingF) (j:=j) (m:=xs.length) (xs:=ws) rfl (by omega) rfl tf24 (by omega) rfl) ?_
   obtain⟨x3,hx4⟩:∃x_,ws[j]? =some x_:=⟨_,List.getElem?_eq_getElem (by omega)⟩
   refine l_val (v:= .agg #[Ix (x3.id),Ix (x3.ar.lx),Ix (x3.ar.ly),Ix (x3.ar.hx),Ix (x3.ar.hy)]) rfl rfl rfl (e_load tf25 (cs:=[Ix (x3.id),Ix (x3.ar.lx),Ix (x3.ar.ly),Ix (x3.ar.hx),Ix (x3.ar.hy)]) rfl (k_flAt 0 (F:=ThingF) rfl hx4) rfl) ?_
   refine l_mv rfl rfl rfl (m_alloc tf27) ?_
   rintro _ _ ⟨b5,rfl,rfl⟩
   refine l_mu rfl rfl (m_store 0 tf25 (b:=b5) (o:=0) (T:=87) (cs:= #[.int .i64 (0),.int .i64 (0),.int .i64 (0),.int .i64 (0),.int .i64 (0)]) (cs':= #[Ix (x3.id),Ix (x3.ar.lx),Ix (x3.ar.ly),Ix (x3.ar.hx),Ix (x3.ar.hy)]) (v:= .agg #[Ix (x3.id),Ix (x3.ar.lx),Ix (x3.ar.ly),Ix (x3.ar.hx),Ix (x3.ar.hy)]) rfl rfl rfl rfl rfl rfl rfl) ?_
   refine l_nil ?_
   refine f_then ?_
   refine c_seq ?_
   refine c_region ?_
   refine l_val (v:= .func (.func gg) fst.toArray cap.toArray) rfl rfl rfl (e_move) ?_
   refine l_val (v:= .agg #[Ix (x3.id),Ix (x3.ar.lx),Ix (x3.ar.ly),Ix (x3.ar.hx),Ix (x3.ar.hy)]) rfl rfl rfl (e_load tf25 (cs:=[Ix (x3.id),Ix (x3.ar.lx),Ix (x3.ar.ly),Ix (x3.ar.hx),Ix (x3.ar.hy)]) rfl (k_pt 0 (cs:= #[Ix (x3.id),Ix (x3.ar.lx),Ix (x3.ar.ly),Ix (x3.ar.hx),Ix (x3.ar.hy)]) (vs:=[Ix (x3.id),Ix (x3.ar.lx),Ix (x3.ar.ly),Ix (x3.ar.hx),Ix (x3.ar.hy)]) rfl rfl) rfl) ?_
   refine l_call rfl rfl rfl (cl_value (fst:=fst) (cap:=cap) (vs:=[.agg #[Ix (x3.id),Ix (x3.ar.lx),Ix (x3.ar.ly),Ix (x3.ar.hx),Ix (x3.ar.hy)]]) (all:=fst++[.agg #[Ix (x3.id),Ix (x3.ar.lx),Ix (x3.ar.ly),Ix (x3.ar.hx),Ix (x3.ar.hy)]]++cap) hcf rfl rfl rfl) ?_
   intro w hw
   obtain⟨β1,sb,kn,hw1,back⟩:=St.frame_all hw
   refine(hf β1 sb x3 trivial w hw1).mono ?_
   rintro e w' ⟨rfl,hw'⟩
   refine⟨_,rfl,_,back _ _ hw',?_⟩
   clear hw hw1 hw' back kn sb
   refine l_val (v:= .bool (!(p x3))) rfl rfl rfl (e_not rfl) ?_
   refine l_nil ?_
   refine f_then ?_
   refine c_ifb (!(p x3)) rfl (fun hc6=> ?_) (fun hc6=> ?_)
   ·
    refine c_seq ?_
    refine c_region ?_
    refine l_val (v:= .slice q (xs.length) c) rfl rfl rfl (e_move) ?_
    refine l_val (v:=Nx (i)) rfl rfl rfl (e_move) ?_
    refine l_val (v:= .agg #[Ix (x3.id),Ix (x3.ar.lx),Ix (x3.ar.ly),Ix (x3.ar.hx),Ix (x3.ar.hy)]) rfl rfl rfl (e_load tf25 (cs:=[Ix (x3.id),Ix (x3.ar.lx),Ix (x3.ar.ly),Ix (x3.ar.hx),Ix (x3.ar.hy)]) rfl (k_pt 0 (cs:= #[Ix (x3.id),Ix (x3.ar.lx),Ix (x3.ar.ly),Ix (x3.ar.hx),Ix (x3.ar.hy)]) (vs:=[Ix (x3.id),Ix (x3.ar.lx),Ix (x3.ar.ly),Ix (x3.ar.hx),Ix (x3.ar.hy)]) rfl rfl) rfl) ?_
    refine l_val (v:= .pointer (some ((ba q).add (i*5)))) rfl rfl rfl (e_indexFlN 1 (F:=ThingF) (j:=i) (m:=xs.length) (xs:=ws) rfl (by omega) rfl tf24 (by omega) rfl) ?_
    refine l_mu rfl rfl (m_storeFl 1 (F:=ThingF) (p:=q) (k:=i) (xs:=ws) (z:=x3) tf25 rfl rfl rfl rfl (by omega)) ?_
    refine l_nil ?_
    refine f_then ?_
    refine c_region ?_
    refine l_val (v:=Nx (i)) rfl rfl rfl (e_move) ?_
    refine l_val (v:=Nx (i+1)) rfl rfl rfl (e_add (a:=((i:Nat):Int)) (b:=(1:Int)) rfl rfl (i64n (by omega) (by omega))) ?_
    refine l_val (v:=Nx (i+1)) rfl rfl rfl (e_assign) ?_
    refine l_nil ?_
    refine f_block ?_
    refine f_then ?_
    refine c_region ?_
    refine l_val (v:=Nx (j)) rfl rfl rfl (e_move) ?_
    refine l_val (v:=Nx (j+1)) rfl rfl rfl (e_add (a:=((j:Nat):Int)) (b:=(1:Int)) rfl rfl (i64n (by omega) (by omega))) ?_
    refine l_val (v:=Nx (j+1)) rfl rfl rfl (e_assign) ?_
    refine l_nil ?_
    refine f_mask (L':=[rowF ThingF 87 q c (ws.set i x3)]) [false,true] rfl ?_
    exact f_cut ⟨(i+1,j+1,(ws.set i x3)),⟨⟨rfl,rfl,rfl,rfl⟩,rfl,hd.keep hx4 (by simpa using hc6)⟩,(show xs.length-(j+1)<xs.length-j from by omega)⟩
   ·
    refine c_skip ?_
    refine f_block ?_
    refine f_then ?_
    refine c_region ?_
    refine l_val (v:=Nx (j)) rfl rfl rfl (e_move) ?_
    refine l_val (v:=Nx (j+1)) rfl rfl rfl (e_add (a:=((j:Nat):Int)) (b:=(1:Int)) rfl rfl (i64n (by omega) (by omega))) ?_
    refine l_val (v:=Nx (j+1)) rfl rfl rfl (e_assign) ?_
    refine l_nil ?_
    refine f_mask (L':=[rowF ThingF 87 q c ws]) [false,true] rfl ?_
    exact f_cut ⟨(i,j+1,ws),⟨⟨rfl,rfl,rfl,rfl⟩,rfl,hd.skip hx4 (by simpa using hc6)⟩,(show xs.length-(j+1)<xs.length-j from by omega)⟩
  ·
   refine c_exit ?_
   refine f_then_exit ?_
   refine f_then_exit ?_
   refine f_exit ?_
   refine f_then ?_
   refine c_seq ?_
   have hdl:=hd.len
   have hde:=hd.le
   have hdj:=hd.lj
   refine c_region ?_
   refine l_val (v:= .slice q (xs.length) c) rfl rfl rfl (e_move) ?_
   refine l_val (v:=Nx (i)) rfl rfl rfl (e_move) ?_
   refine l_val (v:= .slice (adv q c i 5) (ws.length-i) (c-i)) rfl rfl rfl (ev_eq (by rw[show ws.length=xs.length by omega]) (e_slice_lo (a:=q) (len:=xs.length) (cap:=c) (l:=i) tf24 rfl rfl (by omega))) ?_
   refine l_mc rfl rfl (m_clearFl (F:=ThingF) (p:=q) (c:=c) (k:=i) (xs:=ws) 0 tf24 tf27 rfl rfl rfl rfl (by omega)) ?_
   rintro _ _ ⟨rfl,rfl⟩
   refine l_nil ?_
   refine f_then ?_
   refine c_seq ?_
   refine c_region ?_
   refine l_val (v:= .slice q (xs.length) c) rfl rfl rfl (e_move) ?_
   refine l_val (v:=Nx (i)) rfl rfl rfl (e_move) ?_
   refine l_val (v:= .slice q (i) c) rfl rfl rfl (e_slice_hi (a:=q) (len:=xs.length) (cap:=c) (h:=i) tf24 rfl rfl (by omega)) ?_
   refine l_val (v:= .slice q (i) c) rfl rfl rfl (e_assign) ?_
   refine l_nil ?_
   refine f_then ?_
   refine c_ret ?_
   refine ret1 Tryz.results65 (v:= .slice q (i) c) rfl ?_
   intro w hw
   have he:=hd.done (by omega)
   have hil:i=(xs.filter fun z=> !p z).length:=by rw[←he,List.length_take];omega
   exact⟨by rw[←hil],by rw[←he];exact st_mask [true] rfl hw⟩
end Go.Proofs
