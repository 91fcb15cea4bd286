/-
 The chapter's examples: walked. Printed by a program of my own.
-/
import Derived.Test.YtmgpmgckbcjalaaGreatBr7
import Derived.Test.YtmgpmgckbcjalaaGreatBrAwk
namespace Go.Brd
theorem same_done{α:Type}{xs ys:List α}{k:Nat}(h1:xs.length≤k)(h2:ys.length≤k)(h:xs.take k=ys.take k):xs=ys:=by
 rwa [List.take_of_length_le h1,List.take_of_length_le h2]at h
theorem same_at{α:Type}{xs ys:List α}{k:Nat}{x y:α}(h:xs=ys)(hx:xs[k]? =some x)(hy:ys[k]? =some y):x=y:=by
 subst h;rw[hx]at hy;injection hy
theorem same_next{α:Type}{xs ys:List α}{k:Nat}{x y:α}(hx:xs[k]? =some x)(hy:ys[k]? =some y)(e:x=y)(h:xs.take k=ys.take k):xs.take (k+1)=ys.take (k+1):=by
 rw[List.take_add_one,List.take_add_one,hx,hy,h,e]
end Go.Brd
namespace Go.Proofs
open Go Go.Sl Go.Brd
theorem tf68:lay Tryz.prog 10000 55=some [.int .i64,.int .i64]:=by kernel_rfl
theorem tf69:isAggT Tryz.prog 55=true:=by kernel_rfl
theorem tf70:Tryz.prog.eqGuardType Tryz.prog.depth 55=false:=by kernel_rfl
theorem tf71:cfB Tryz.prog 10=true:=by kernel_rfl
theorem tf72:cfB Tryz.prog 22=true:=by kernel_rfl
theorem tf73:cfB Tryz.prog 17=true:=by kernel_rfl
theorem tf74:cfB Tryz.prog 11=true:=by kernel_rfl
theorem tf75:cfB Tryz.prog 12=true:=by kernel_rfl
theorem tf76:cfB Tryz.prog 15=true:=by kernel_rfl
theorem tf77:cfB Tryz.prog 13=true:=by kernel_rfl
theorem tf78:cfB Tryz.prog 23=true:=by kernel_rfl
theorem tf79:lay Tryz.prog 10000 32=some [.int .i64,.int .i64,.int .i64,.int .i64]:=by kernel_rfl
theorem tf80:isAggT Tryz.prog 32=true:=by kernel_rfl
theorem tf81:Tryz.prog.eqGuardType Tryz.prog.depth 32=false:=by kernel_rfl
theorem tf82:cfB Tryz.prog 24=true:=by kernel_rfl
theorem tf83:cfB Tryz.prog 19=true:=by kernel_rfl
theorem tf84:cfB Tryz.prog 26=true:=by kernel_rfl
theorem tf85:cfB Tryz.prog 25=true:=by kernel_rfl
set_option maxHeartbeats 4000000 in
theorem same_ok(β:Base)(w:World)(hw:St β [] w)(v u:Value)(xs ys:List KP)(hs:Sl PairF.R β.heap v xs)(ht:Sl PairF.R β.heap u ys):Calls Tryz.prog 19 #[v,u] w fun r w'=>r= .returned (.bool (decide (xs=ys)))∧St β [] w':=by
 obtain⟨va,vc,rfl,vl,vm,ve⟩:=hs.get
 obtain⟨ua,uc,rfl,ul,um,ue⟩:=ht.get
 refine enter (n:=26) Tryz.func19 rfl Tryz.ntmps19 rfl ?_ hw
 refine c_seq ?_
 refine c_region ?_
 refine l_val (v:= .bool false) rfl rfl rfl (e_assign) ?_
 refine l_nil ?_
 refine f_then ?_
 refine c_seq ?_
 refine c_seq ?_
 refine c_region ?_
 refine l_val (v:= .slice va (xs.length) (vc)) rfl rfl rfl (e_move) ?_
 refine l_val (v:=Nx (xs.length)) rfl rfl rfl (e_len (a:=va) (n:=xs.length) (c:=vc) rfl tf65) ?_
 refine l_val (v:= .slice ua (ys.length) (uc)) rfl rfl rfl (e_move) ?_
 refine l_val (v:=Nx (ys.length)) rfl rfl rfl (e_len (a:=ua) (n:=ys.length) (c:=uc) rfl tf65) ?_
 refine l_val (v:= .bool (decide (((xs.length:Nat):Int)≠((ys.length:Nat):Int)))) rfl rfl rfl (e_neq (a:=((xs.length:Nat):Int)) (b:=((ys.length:Nat):Int)) rfl rfl) ?_
 refine l_nil ?_
 refine f_then ?_
 refine c_if (((xs.length:Nat):Int)≠((ys.length:Nat):Int)) rfl (fun hc1=> ?_) (fun hc1=> ?_)
 ·
  refine c_seq ?_
  refine c_region ?_
  refine l_val (v:= .bool false) rfl rfl rfl (e_assign) ?_
  refine l_nil ?_
  refine f_then ?_
  refine c_ret ?_
  refine f_then_ret ?_
  refine ret1 Tryz.results19 (v:= .bool false) rfl ?_
  intro w hw
  exact⟨congrArg (fun b:Bool=>Ending.returned (.bool b)) (decide_eq_false (fun q=>hc1 (by rw[q]))).symm,st_mask [] rfl hw⟩
 ·
  refine c_skip ?_
  refine f_then ?_
  refine c_seq ?_
  refine c_seq ?_
  refine c_region ?_
  refine l_val (v:= .int .i64 (0)) rfl rfl rfl (e_assign) ?_
  refine l_nil ?_
  refine f_then ?_
  refine c_block ?_
  refine c_loop (fun(k:Nat) (f:Fm) (L:List Res)=>(f 0= .slice va (xs.length) (vc)∧f 1= .slice ua (ys.length) (uc)∧f 5=Nx (k))∧L=[]∧(k≤xs.length∧xs.take k=ys.take k)) (fun(k:Nat)=>xs.length-k) 0 ?_ ?_
  ·exact⟨⟨rfl,rfl,rfl⟩,rfl,⟨by omega,by simp⟩⟩
  rintro k f0 L0 ⟨⟨hs0,hs1,hs5⟩,hL,⟨hk,hp⟩⟩
  subst L0
  refine rebase (d:=0) hs0 ?_
  refine rebase (d:=1) hs1 ?_
  refine rebase (d:=5) hs5 ?_
  clear hs0 hs1 hs5
  refine c_seq ?_
  refine c_seq ?_
  refine c_region ?_
  refine l_val (v:=Nx (k)) rfl rfl rfl (e_move) ?_
  refine l_val (v:= .slice va (xs.length) (vc)) rfl rfl rfl (e_move) ?_
  refine l_val (v:=Nx (xs.length)) rfl rfl rfl (e_len (a:=va) (n:=xs.length) (c:=vc) rfl tf65) ?_
  refine l_val (v:= .bool (decide (((k:Nat):Int)<((xs.length:Nat):Int)))) rfl rfl rfl (e_lss (a:=((k:Nat):Int)) (b:=((xs.length:Nat):Int)) rfl rfl) ?_
  refine l_nil ?_
  refine f_then ?_
  refine c_if (((k:Nat):Int)<((xs.length:Nat):Int)) rfl (fun hc2=> ?_) (fun hc2=> ?_)
  ·
   refine c_skip ?_
   refine f_then ?_
   refine c_seq ?_
   refine c_block ?_
   refine c_seq ?_
   refine c_quiet (by kernel_rfl) (by kernel_rfl) ?_
   refine q_val (v:= .slice va (xs.length) (vc)) rfl rfl rfl (e_move) ?_
   refine q_val (v:=Nx (k)) rfl rfl rfl (e_move) ?_
   obtain⟨x3,hx4⟩:∃x_,(xs)[k]? =some x_:=⟨_,List.getElem?_eq_getElem (by omega)⟩
   obtain⟨ha5,cs6,hc7,rfl⟩:=ve _ _ hx4
   refine q_val (v:= .pointer (some ((ba va).add (k*2)))) rfl rfl rfl (e_indexAddr (k:=k) (len:=xs.length) (cap:=vc) (a:=va) rfl rfl tf37 (by omega) ha5) ?_
   refine q_val (v:= .agg #[Ix (x3.a),Ix (x3.b)]) rfl rfl rfl (e_load tf35 (cs:=[Ix (x3.a),Ix (x3.b)]) rfl (Knows.of_base (Cs.mono _ _) hc7) rfl) ?_
   refine q_val (v:= .slice ua (ys.length) (uc)) rfl rfl rfl (e_move) ?_
   refine q_val (v:=Nx (k)) rfl rfl rfl (e_move) ?_
   obtain⟨x9,hx10⟩:∃x_,(ys)[k]? =some x_:=⟨_,List.getElem?_eq_getElem (by omega)⟩
   obtain⟨ha11,cs12,hc13,rfl⟩:=ue _ _ hx10
   refine q_val (v:= .pointer (some ((ba ua).add (k*2)))) rfl rfl rfl (e_indexAddr (k:=k) (len:=ys.length) (cap:=uc) (a:=ua) rfl rfl tf37 (by omega) ha11) ?_
   refine q_val (v:= .agg #[Ix (x9.a),Ix (x9.b)]) rfl rfl rfl (e_load tf35 (cs:=[Ix (x9.a),Ix (x9.b)]) rfl (Knows.of_base (Cs.mono _ _) hc13) rfl) ?_
   refine q_val (v:= .bool (decide (¬(x3=x9)))) rfl rfl rfl (e_neq_t (xs:=pairE x3) (ys:=pairE x9) tf68 tf69 tf70 rfl rfl rfl rfl (not_congr (pair_eq (x:=x3) (y:=x9)))) ?_
   refine q_nil ?_
   refine f_then ?_
   refine c_if (¬(x3=x9)) rfl (fun hc15=> ?_) (fun hc15=> ?_)
   ·
    refine c_seq ?_
    refine c_region ?_
    refine l_val (v:= .bool false) rfl rfl rfl (e_assign) ?_
    refine l_nil ?_
    refine f_then ?_
    refine c_ret ?_
    refine f_block_ret ?_
    refine f_then_ret ?_
    refine f_then_ret ?_
    refine f_block_ret ?_
    refine f_then_ret ?_
    refine ret1 Tryz.results19 (v:= .bool false) rfl ?_
    intro w hw
    exact⟨congrArg (fun b:Bool=>Ending.returned (.bool b)) (decide_eq_false (fun q=>hc15 (same_at q hx4 hx10))).symm,st_mask [] rfl hw⟩
   ·
    refine c_skip ?_
    refine f_block ?_
    refine f_then ?_
    refine c_region ?_
    refine l_val (v:=Nx (k)) rfl rfl rfl (e_move) ?_
    refine l_val (v:=Nx (k+1)) rfl rfl rfl (e_add (a:=((k:Nat):Int)) (b:=(1:Int)) rfl rfl (i64n (by omega) (by omega))) ?_
    refine l_val (v:=Nx (k+1)) rfl rfl rfl (e_assign) ?_
    refine l_nil ?_
    exact f_cut ⟨k+1,⟨⟨rfl,rfl,rfl⟩,rfl,⟨by omega,same_next hx4 hx10 (Decidable.not_not.1 hc15) hp⟩⟩,(show xs.length-(k+1)<xs.length-k from by omega)⟩
  ·
   refine c_exit ?_
   refine f_then_exit ?_
   refine f_then_exit ?_
   refine f_exit ?_
   refine f_then ?_
   refine c_seq ?_
   refine c_region ?_
   refine l_val (v:= .bool true) rfl rfl rfl (e_assign) ?_
   refine l_nil ?_
   refine f_then ?_
   refine c_ret ?_
   refine ret1 Tryz.results19 (v:= .bool true) rfl ?_
   intro w hw
   exact⟨congrArg (fun b:Bool=>Ending.returned (.bool b)) (decide_eq_true (same_done (by omega) (by omega) hp)).symm,st_mask [] rfl hw⟩
set_option maxHeartbeats 4000000 in
theorem sameI_ok(β:Base)(w:World)(hw:St β [] w)(v u:Value)(xs ys:List Int)(hs:Sl IntF.R β.heap v xs)(ht:Sl IntF.R β.heap u ys):Calls Tryz.prog 25 #[v,u] w fun r w'=>r= .returned (.bool (decide (xs=ys)))∧St β [] w':=by
 obtain⟨va,vc,rfl,vl,vm,ve⟩:=hs.get
 obtain⟨ua,uc,rfl,ul,um,ue⟩:=ht.get
 refine enter (n:=26) Tryz.func25 rfl Tryz.ntmps25 rfl ?_ hw
 refine c_seq ?_
 refine c_region ?_
 refine l_val (v:= .bool false) rfl rfl rfl (e_assign) ?_
 refine l_nil ?_
 refine f_then ?_
 refine c_seq ?_
 refine c_seq ?_
 refine c_region ?_
 refine l_val (v:= .slice va (xs.length) (vc)) rfl rfl rfl (e_move) ?_
 refine l_val (v:=Nx (xs.length)) rfl rfl rfl (e_len (a:=va) (n:=xs.length) (c:=vc) rfl tf15) ?_
 refine l_val (v:= .slice ua (ys.length) (uc)) rfl rfl rfl (e_move) ?_
 refine l_val (v:=Nx (ys.length)) rfl rfl rfl (e_len (a:=ua) (n:=ys.length) (c:=uc) rfl tf15) ?_
 refine l_val (v:= .bool (decide (((xs.length:Nat):Int)≠((ys.length:Nat):Int)))) rfl rfl rfl (e_neq (a:=((xs.length:Nat):Int)) (b:=((ys.length:Nat):Int)) rfl rfl) ?_
 refine l_nil ?_
 refine f_then ?_
 refine c_if (((xs.length:Nat):Int)≠((ys.length:Nat):Int)) rfl (fun hc1=> ?_) (fun hc1=> ?_)
 ·
  refine c_seq ?_
  refine c_region ?_
  refine l_val (v:= .bool false) rfl rfl rfl (e_assign) ?_
  refine l_nil ?_
  refine f_then ?_
  refine c_ret ?_
  refine f_then_ret ?_
  refine ret1 Tryz.results25 (v:= .bool false) rfl ?_
  intro w hw
  exact⟨congrArg (fun b:Bool=>Ending.returned (.bool b)) (decide_eq_false (fun q=>hc1 (by rw[q]))).symm,st_mask [] rfl hw⟩
 ·
  refine c_skip ?_
  refine f_then ?_
  refine c_seq ?_
  refine c_seq ?_
  refine c_region ?_
  refine l_val (v:= .int .i64 (0)) rfl rfl rfl (e_assign) ?_
  refine l_nil ?_
  refine f_then ?_
  refine c_block ?_
  refine c_loop (fun(k:Nat) (f:Fm) (L:List Res)=>(f 0= .slice va (xs.length) (vc)∧f 1= .slice ua (ys.length) (uc)∧f 5=Nx (k))∧L=[]∧(k≤xs.length∧xs.take k=ys.take k)) (fun(k:Nat)=>xs.length-k) 0 ?_ ?_
  ·exact⟨⟨rfl,rfl,rfl⟩,rfl,⟨by omega,by simp⟩⟩
  rintro k f0 L0 ⟨⟨hs0,hs1,hs5⟩,hL,⟨hk,hp⟩⟩
  subst L0
  refine rebase (d:=0) hs0 ?_
  refine rebase (d:=1) hs1 ?_
  refine rebase (d:=5) hs5 ?_
  clear hs0 hs1 hs5
  refine c_seq ?_
  refine c_seq ?_
  refine c_region ?_
  refine l_val (v:=Nx (k)) rfl rfl rfl (e_move) ?_
  refine l_val (v:= .slice va (xs.length) (vc)) rfl rfl rfl (e_move) ?_
  refine l_val (v:=Nx (xs.length)) rfl rfl rfl (e_len (a:=va) (n:=xs.length) (c:=vc) rfl tf15) ?_
  refine l_val (v:= .bool (decide (((k:Nat):Int)<((xs.length:Nat):Int)))) rfl rfl rfl (e_lss (a:=((k:Nat):Int)) (b:=((xs.length:Nat):Int)) rfl rfl) ?_
  refine l_nil ?_
  refine f_then ?_
  refine c_if (((k:Nat):Int)<((xs.length:Nat):Int)) rfl (fun hc2=> ?_) (fun hc2=> ?_)
  ·
   refine c_skip ?_
   refine f_then ?_
   refine c_seq ?_
   refine c_block ?_
   refine c_seq ?_
   refine c_quiet (by kernel_rfl) (by kernel_rfl) ?_
   refine q_val (v:= .slice va (xs.length) (vc)) rfl rfl rfl (e_move) ?_
   refine q_val (v:=Nx (k)) rfl rfl rfl (e_move) ?_
   obtain⟨x3,hx4⟩:∃x_,(xs)[k]? =some x_:=⟨_,List.getElem?_eq_getElem (by omega)⟩
   obtain⟨ha5,cs6,hc7,rfl⟩:=ve _ _ hx4
   refine q_val (v:= .pointer (some ((ba va).add (k*1)))) rfl rfl rfl (e_indexAddr (k:=k) (len:=xs.length) (cap:=vc) (a:=va) rfl rfl tf16 (by omega) ha5) ?_
   refine q_val (v:=Ix (x3)) rfl rfl rfl (e_load1 tf2 (v:=Ix (x3)) rfl (Knows.of_base (Cs.mono _ _) hc7)) ?_
   refine q_val (v:= .slice ua (ys.length) (uc)) rfl rfl rfl (e_move) ?_
   refine q_val (v:=Nx (k)) rfl rfl rfl (e_move) ?_
   obtain⟨x9,hx10⟩:∃x_,(ys)[k]? =some x_:=⟨_,List.getElem?_eq_getElem (by omega)⟩
   obtain⟨ha11,cs12,hc13,rfl⟩:=ue _ _ hx10
   refine q_val (v:= .pointer (some ((ba ua).add (k*1)))) rfl rfl rfl (e_indexAddr (k:=k) (len:=ys.length) (cap:=uc) (a:=ua) rfl rfl tf16 (by omega) ha11) ?_
   refine q_val (v:=Ix (x9)) rfl rfl rfl (e_load1 tf2 (v:=Ix (x9)) rfl (Knows.of_base (Cs.mono _ _) hc13)) ?_
   refine q_val (v:= .bool (decide ((x3)≠(x9)))) rfl rfl rfl (e_neq (a:=(x3)) (b:=(x9)) rfl rfl) ?_
   refine q_nil ?_
   refine f_then ?_
   refine c_if ((x3)≠(x9)) rfl (fun hc15=> ?_) (fun hc15=> ?_)
   ·
    refine c_seq ?_
    refine c_region ?_
    refine l_val (v:= .bool false) rfl rfl rfl (e_assign) ?_
    refine l_nil ?_
    refine f_then ?_
    refine c_ret ?_
    refine f_block_ret ?_
    refine f_then_ret ?_
    refine f_then_ret ?_
    refine f_block_ret ?_
    refine f_then_ret ?_
    refine ret1 Tryz.results25 (v:= .bool false) rfl ?_
    intro w hw
    exact⟨congrArg (fun b:Bool=>Ending.returned (.bool b)) (decide_eq_false (fun q=>hc15 (same_at q hx4 hx10))).symm,st_mask [] rfl hw⟩
   ·
    refine c_skip ?_
    refine f_block ?_
    refine f_then ?_
    refine c_region ?_
    refine l_val (v:=Nx (k)) rfl rfl rfl (e_move) ?_
    refine l_val (v:=Nx (k+1)) rfl rfl rfl (e_add (a:=((k:Nat):Int)) (b:=(1:Int)) rfl rfl (i64n (by omega) (by omega))) ?_
    refine l_val (v:=Nx (k+1)) rfl rfl rfl (e_assign) ?_
    refine l_nil ?_
    exact f_cut ⟨k+1,⟨⟨rfl,rfl,rfl⟩,rfl,⟨by omega,same_next hx4 hx10 (Decidable.not_not.1 hc15) hp⟩⟩,(show xs.length-(k+1)<xs.length-k from by omega)⟩
  ·
   refine c_exit ?_
   refine f_then_exit ?_
   refine f_then_exit ?_
   refine f_exit ?_
   refine f_then ?_
   refine c_seq ?_
   refine c_region ?_
   refine l_val (v:= .bool true) rfl rfl rfl (e_assign) ?_
   refine l_nil ?_
   refine f_then ?_
   refine c_ret ?_
   refine ret1 Tryz.results25 (v:= .bool true) rfl ?_
   intro w hw
   exact⟨congrArg (fun b:Bool=>Ending.returned (.bool b)) (decide_eq_true (same_done (by omega) (by omega) hp)).symm,st_mask [] rfl hw⟩
theorem four_ok(β:Base)(w:World)(hw:St β [] w):Calls Tryz.prog 22 #[] w fun r w'=>∃b,r= .returned (.slice (some ⟨b,0,none⟩) 4 4)∧St β [rowF AreaF 32 (some ⟨b,0,none⟩) 4 fourL] w':=by
 refine enter (n:=6) Tryz.func22 rfl Tryz.ntmps22 rfl ?_ hw
 refine c_seq ?_
 refine c_region ?_
 refine l_val (v:= .slice none 0 0) rfl rfl rfl (e_assign) ?_
 refine l_nil ?_
 refine f_then ?_
 refine c_seq ?_
 refine c_region ?_
 refine l_call rfl rfl rfl (cl_value (fst:=[]) (cap:=[]) (vs:=[.int .i64 (0),.int .i64 (0),.int .i64 (4),.int .i64 (4)]) (all:=[.int .i64 (0),.int .i64 (0),.int .i64 (4),.int .i64 (4)]) tf71 rfl rfl rfl) ?_
 intro w hw
 obtain⟨β1,sb,kn,hw1,back⟩:=St.frame_all hw
 refine(area_ok β1 w hw1 0 0 4 4).mono ?_
 rintro e w' ⟨rfl,hw'⟩
 refine⟨_,rfl,_,back _ _ hw',?_⟩
 clear hw hw1 hw' back kn sb
 refine l_call rfl rfl rfl (cl_value (fst:=[]) (cap:=[]) (vs:=[.int .i64 (4),.int .i64 (4),.int .i64 (6),.int .i64 (6)]) (all:=[.int .i64 (4),.int .i64 (4),.int .i64 (6),.int .i64 (6)]) tf71 rfl rfl rfl) ?_
 intro w hw
 obtain⟨β1,sb,kn,hw1,back⟩:=St.frame_all hw
 refine(area_ok β1 w hw1 4 4 6 6).mono ?_
 rintro e w' ⟨rfl,hw'⟩
 refine⟨_,rfl,_,back _ _ hw',?_⟩
 clear hw hw1 hw' back kn sb
 refine l_call rfl rfl rfl (cl_value (fst:=[]) (cap:=[]) (vs:=[.int .i64 (5),.int .i64 (0),.int .i64 (9),.int .i64 (3)]) (all:=[.int .i64 (5),.int .i64 (0),.int .i64 (9),.int .i64 (3)]) tf71 rfl rfl rfl) ?_
 intro w hw
 obtain⟨β1,sb,kn,hw1,back⟩:=St.frame_all hw
 refine(area_ok β1 w hw1 5 0 9 3).mono ?_
 rintro e w' ⟨rfl,hw'⟩
 refine⟨_,rfl,_,back _ _ hw',?_⟩
 clear hw hw1 hw' back kn sb
 refine l_call rfl rfl rfl (cl_value (fst:=[]) (cap:=[]) (vs:=[.int .i64 (9),.int .i64 (3),.int .i64 (9),.int .i64 (3)]) (all:=[.int .i64 (9),.int .i64 (3),.int .i64 (9),.int .i64 (3)]) tf71 rfl rfl rfl) ?_
 intro w hw
 obtain⟨β1,sb,kn,hw1,back⟩:=St.frame_all hw
 refine(area_ok β1 w hw1 9 3 9 3).mono ?_
 rintro e w' ⟨rfl,hw'⟩
 refine⟨_,rfl,_,back _ _ hw',?_⟩
 clear hw hw1 hw' back kn sb
 refine l_mv rfl rfl rfl (m_slices tf43 tf6 (vs:=[(0,.agg #[.int .i64 (0),.int .i64 (0),.int .i64 (4),.int .i64 (4)]),(1,.agg #[.int .i64 (4),.int .i64 (4),.int .i64 (6),.int .i64 (6)]),(2,.agg #[.int .i64 (5),.int .i64 (0),.int .i64 (9),.int .i64 (3)]),(3,.agg #[.int .i64 (9),.int .i64 (3),.int .i64 (9),.int .i64 (3)])]) (cells:= #[.int .i64 (0),.int .i64 (0),.int .i64 (4),.int .i64 (4),.int .i64 (4),.int .i64 (4),.int .i64 (6),.int .i64 (6),.int .i64 (5),.int .i64 (0),.int .i64 (9),.int .i64 (3),.int .i64 (9),.int .i64 (3),.int .i64 (9),.int .i64 (3)]) rfl rfl rfl rfl) ?_
 rintro _ _ ⟨b1,rfl,rfl⟩
 refine l_val (v:= .slice (some ⟨b1,0,none⟩) 4 4) rfl rfl rfl (e_assign) ?_
 refine l_nil ?_
 refine f_then ?_
 refine c_ret ?_
 refine ret1 Tryz.results22 (v:= .slice (some ⟨b1,0,none⟩) 4 4) rfl ?_
 intro w hw
 exact⟨b1,rfl,(st_mask [true] rfl hw).conseq (pt_rowF (F:=AreaF) (xs:=fourL) rfl (by decide))⟩
set_option maxHeartbeats 4000000 in
theorem awake_ok(β:Base)(w:World)(hw:St β [] w):Calls Tryz.prog 7 #[] w fun r w'=>r= .returned (.bool true)∧St β [] w':=by
 refine enter (n:=132) Tryz.func7 rfl Tryz.ntmps7 rfl ?_ hw
 refine c_seq ?_
 refine c_region ?_
 refine l_val (v:= .bool false) rfl rfl rfl (e_assign) ?_
 refine l_nil ?_
 refine f_then ?_
 refine c_seq ?_
 refine c_region ?_
 refine l_call rfl rfl rfl (cl_value (fst:=[]) (cap:=[]) (vs:=[]) (all:=[]) tf72 rfl rfl rfl) ?_
 intro w hw
 obtain⟨β1,sb,kn,hw1,back⟩:=St.frame_all hw
 refine(four_ok β1 w hw1).mono ?_
 rintro e w' ⟨b1,rfl,hw'⟩
 refine⟨_,rfl,_,back _ _ hw',?_⟩
 clear hw hw1 hw' back kn sb
 refine l_call rfl rfl rfl (cl_value (fst:=[]) (cap:=[]) (vs:=[.slice (some ⟨b1,0,none⟩) (4) 4]) (all:=[.slice (some ⟨b1,0,none⟩) (4) 4]) tf73 rfl rfl rfl) ?_
 intro w hw
 obtain⟨β1,sb,kn,hw1,back⟩:=St.frame_all hw
 refine(pairs_ok β1 w hw1 _ fourL (kn _ (k_flN 0 (F:=AreaF) (m:=4) rfl rfl)) (by decide)).mono ?_
 rintro e w' ⟨p2,c3,rfl,hw'⟩
 refine⟨_,rfl,_,back _ _ hw',?_⟩
 clear hw hw1 hw' back kn sb
 refine l_val (v:= .tuple #[.slice p2 ((pairsX fourL).length) c3,Ix (errP fourL)]) rfl rfl rfl (e_move) ?_
 refine l_val (v:= .slice p2 ((pairsX fourL).length) c3) rfl rfl rfl (e_extract (vs:= #[.slice p2 ((pairsX fourL).length) c3,Ix (errP fourL)]) rfl rfl) ?_
 refine l_val (v:=Ix (errP fourL)) rfl rfl rfl (e_extract (vs:= #[.slice p2 ((pairsX fourL).length) c3,Ix (errP fourL)]) rfl rfl) ?_
 refine l_val (v:= .slice p2 ((pairsX fourL).length) c3) rfl rfl rfl (e_assign) ?_
 refine l_val (v:=Ix (errP fourL)) rfl rfl rfl (e_assign) ?_
 refine l_nil ?_
 refine f_then ?_
 refine c_seq ?_
 refine c_region ?_
 refine l_call rfl rfl rfl (cl_value (fst:=[]) (cap:=[]) (vs:=[]) (all:=[]) tf74 rfl rfl rfl) ?_
 intro w hw
 obtain⟨β1,sb,kn,hw1,back⟩:=St.frame_all hw
 refine(new_ok β1 w hw1).mono ?_
 rintro e w' ⟨b4,rfl,hw'⟩
 refine⟨_,rfl,_,back _ _ hw',?_⟩
 clear hw hw1 hw' back kn sb
 refine l_val (v:= .pointer (some ⟨b4,0,none⟩)) rfl rfl rfl (e_assign) ?_
 refine l_nil ?_
 refine f_then ?_
 refine c_seq ?_
 refine c_seq ?_
 refine c_region ?_
 refine l_mv rfl rfl rfl (m_slices tf16 tf21 (vs:=[(0,.int .i64 (7)),(1,.int .i64 (3)),(2,.int .i64 (5)),(3,.int .i64 (1))]) (cells:= #[.int .i64 (7),.int .i64 (3),.int .i64 (5),.int .i64 (1)]) rfl rfl rfl rfl) ?_
 rintro _ _ ⟨b5,rfl,rfl⟩
 refine l_val (v:= .int .i64 (4)) rfl rfl rfl (e_len (n:=4) rfl tf15) ?_
 refine l_val (v:= .int .i64 (0)) rfl rfl rfl (e_move) ?_
 refine l_nil ?_
 refine f_then ?_
 refine c_block ?_
 refine c_conseq 0 (r':=rowF IntF 3 (some ⟨b5,0,none⟩) 4 idsL) rfl (pt_rowF (F:=IntF) (xs:=idsL) rfl (by decide)) ?_
 refine c_re (L':=[rowF IntF 3 (some ⟨b5,0,none⟩) 4 idsL,spcR b4 (awS 0),rowF PairF 55 p2 c3 (pairsX fourL),rowF AreaF 32 (some ⟨b1,0,none⟩) 4 fourL]) rfl ?_
 refine c_loop (fun(k:Nat) (f:Fm) (L:List Res)=>(f 1= .slice p2 ((pairsX fourL).length) c3∧f 2= .int .i64 (0)∧f 3= .pointer (some ⟨b4,0,none⟩)∧f 20= .slice (some ⟨b5,0,none⟩) (4) 4∧f 21= .int .i64 (4)∧f 22=Nx (k))∧L=[rowF IntF 3 (some ⟨b5,0,none⟩) 4 idsL,spcR b4 (awS k),rowF PairF 55 p2 c3 (pairsX fourL),rowF AreaF 32 (some ⟨b1,0,none⟩) 4 fourL]∧(k≤4)) (fun(k:Nat)=>4-k) 0 ?_ ?_
 ·exact⟨⟨rfl,rfl,rfl,rfl,rfl,rfl⟩,rfl,by decide⟩
 rintro k f0 L0 ⟨⟨hs1,hs2,hs3,hs20,hs21,hs22⟩,hL,hk⟩
 subst L0
 refine rebase (d:=1) hs1 ?_
 refine rebase (d:=2) hs2 ?_
 refine rebase (d:=3) hs3 ?_
 refine rebase (d:=20) hs20 ?_
 refine rebase (d:=21) hs21 ?_
 refine rebase (d:=22) hs22 ?_
 clear hs1 hs2 hs3 hs20 hs21 hs22
 have hfl:fourL.length=4:=rfl
 have hil:idsL.length=4:=rfl
 refine c_seq ?_
 refine c_region ?_
 refine l_val (v:= .bool (decide (((k:Nat):Int)<(4:Int)))) rfl rfl rfl (e_lss (a:=((k:Nat):Int)) (b:=(4:Int)) rfl rfl) ?_
 refine l_nil ?_
 refine f_then ?_
 refine c_seq ?_
 refine c_if (((k:Nat):Int)<(4:Int)) rfl (fun hc6=> ?_) (fun hc6=> ?_)
 ·
  refine c_skip ?_
  refine f_then ?_
  refine c_seq ?_
  refine c_block ?_
  refine c_seq ?_
  refine c_region ?_
  refine l_val (v:=Nx (k)) rfl rfl rfl (e_move) ?_
  refine l_val (v:= .pointer (some ((ba (some ⟨b5,0,none⟩)).add (k*1)))) rfl rfl rfl (e_indexFlN 0 (F:=IntF) (j:=k) (m:=4) (xs:=idsL) rfl rfl rfl tf16 (by omega) rfl) ?_
  obtain⟨x7,hx8⟩:∃x_,idsL[k]? =some x_:=⟨_,List.getElem?_eq_getElem (by omega)⟩
  refine l_val (v:=Ix (x7)) rfl rfl rfl (e_load1 tf2 (v:=Ix (x7)) rfl (k_flAt 0 (F:=IntF) rfl hx8)) ?_
  refine l_val (v:=Nx (k)) rfl rfl rfl (e_assign) ?_
  refine l_val (v:=Ix (x7)) rfl rfl rfl (e_assign) ?_
  refine l_nil ?_
  refine f_then ?_
  refine c_region ?_
  refine l_val (v:= .int .i64 (0)) rfl rfl rfl (e_move) ?_
  refine l_val (v:= .pointer (some ⟨b4,0,none⟩)) rfl rfl rfl (e_move) ?_
  refine l_val (v:=Ix (x7)) rfl rfl rfl (e_move) ?_
  refine l_call rfl rfl rfl (cl_value (fst:=[]) (cap:=[]) (vs:=[]) (all:=[]) tf72 rfl rfl rfl) ?_
  intro w hw
  obtain⟨β1,sb,kn,hw1,back⟩:=St.frame_all hw
  refine(four_ok β1 w hw1).mono ?_
  rintro e w' ⟨b9,rfl,hw'⟩
  refine⟨_,rfl,_,back _ _ hw',?_⟩
  clear hw hw1 hw' back kn sb
  refine l_val (v:=Nx (k)) rfl rfl rfl (e_move) ?_
  refine l_val (v:= .pointer (some ((ba (some ⟨b9,0,none⟩)).add (k*4)))) rfl rfl rfl (e_indexFlN 0 (F:=AreaF) (j:=k) (m:=4) (xs:=fourL) rfl rfl rfl tf43 (by omega) rfl) ?_
  obtain⟨x10,hx11⟩:∃x_,fourL[k]? =some x_:=⟨_,List.getElem?_eq_getElem (by omega)⟩
  refine l_val (v:= .agg (aC x10)) rfl rfl rfl (e_load tf10 (cs:=(areaE x10)) rfl (k_flAt 0 (F:=AreaF) rfl hx11) rfl) ?_
  refine l_call rfl rfl rfl (cl_value (fst:=[]) (cap:=[]) (vs:=[.pointer (some ⟨b4,0,none⟩),Ix (x7),.agg (aC x10)]) (all:=[.pointer (some ⟨b4,0,none⟩),Ix (x7),.agg (aC x10)]) tf75 rfl rfl rfl) ?_
  intro w hw
  replace hw:=hw.perm (L':=_::_::_::_::_::[]) (by exact(((((perm_front 4 rfl).trans (perm_front 4 rfl)).trans (perm_front 3 rfl)).trans (perm_front 3 rfl)).trans (perm_front 4 rfl)))
  obtain⟨β1,sb,kn,hw1,back⟩:=St.frame (L:=[_]) (M:=_::_::_::_::[]) hw
  refine(put_ok' β1 w b4 (awS k) hw1 (awS_ok k) x7 x10).mono ?_
  rintro e w' ⟨rfl,hw'⟩
  refine⟨_,rfl,_,back _ _ hw',?_⟩
  clear hw hw1 hw' back kn sb
  have hpe:=errPut_le (awS k) x7 x10
  refine l_val (v:=Ix ((0:Int)+(errPut (awS k) x7 x10))) rfl rfl rfl (e_add (a:=(0:Int)) (b:=(errPut (awS k) x7 x10)) rfl rfl (i64w (by omega))) ?_
  refine l_val (v:=Ix ((0:Int)+(errPut (awS k) x7 x10))) rfl rfl rfl (e_assign) ?_
  refine l_nil ?_
  refine f_block ?_
  refine f_then ?_
  refine c_region ?_
  refine l_val (v:=Nx (k+1)) rfl rfl rfl (e_add (a:=((k:Nat):Int)) (b:=(1:Int)) rfl rfl (i64n (by omega) (by omega))) ?_
  refine l_val (v:=Nx (k+1)) rfl rfl rfl (e_move) ?_
  refine l_nil ?_
  obtain⟨he,hn⟩:=aw_step hx8 hx11
  refine f_perm (L':=[rowF IntF 3 (some ⟨b5,0,none⟩) 4 idsL,spcR b4 (putX (awS k) x7 x10),rowF PairF 55 p2 c3 (pairsX fourL),rowF AreaF 32 (some ⟨b1,0,none⟩) 4 fourL,rowF AreaF 32 (some ⟨b9,0,none⟩) 4 fourL]) (perm_ix [2,0,3,4,1] 5 rfl (by kernel_rfl) (by kernel_rfl)) ?_
  refine f_mask (L':=[rowF IntF 3 (some ⟨b5,0,none⟩) 4 idsL,spcR b4 (putX (awS k) x7 x10),rowF PairF 55 p2 c3 (pairsX fourL),rowF AreaF 32 (some ⟨b1,0,none⟩) 4 fourL]) [true,true,true,true,false] rfl ?_
  exact f_cut ⟨k+1,⟨⟨rfl,(by show Value.int .i64 _=_;rw[he];rfl),rfl,rfl,rfl,rfl⟩,by rw[hn],(by omega)⟩,(show 4-(k+1)<4-k from by omega)⟩
 ·
  refine c_exit ?_
  refine f_then_exit ?_
  refine f_then_exit ?_
  refine f_exit ?_
  refine f_then ?_
  refine c_seq ?_
  refine c_mask [false,true,true,false] rfl ?_
  obtain rfl:k=4:=by omega
  refine c_region ?_
  refine l_val (v:= .pointer (some ⟨b4,0,none⟩)) rfl rfl rfl (e_move) ?_
  refine l_call rfl rfl rfl (cl_value (fst:=[]) (cap:=[]) (vs:=[.pointer (some ⟨b4,0,none⟩)]) (all:=[.pointer (some ⟨b4,0,none⟩)]) tf76 rfl rfl rfl) ?_
  intro w hw
  replace hw:=hw.perm (L':=_::_::[]) (by exact((perm_front 1 rfl).trans (perm_front 1 rfl)))
  obtain⟨β1,sb,kn,hw1,back⟩:=St.frame (L:=[_]) (M:=_::[]) hw
  refine(spairsx_ok β1 w b4 (awS 4) hw1 (awS_ok 4)).mono ?_
  rintro e w' ⟨p12,c13,rfl,hw'⟩
  refine⟨_,rfl,_,back _ _ hw',?_⟩
  clear hw hw1 hw' back kn sb
  refine l_val (v:= .slice p12 ((pairsS (awS 4)).length) c13) rfl rfl rfl (e_assign) ?_
  refine l_nil ?_
  refine f_then ?_
  refine c_seq ?_
  refine c_region ?_
  refine l_val (v:= .pointer (some ⟨b4,0,none⟩)) rfl rfl rfl (e_move) ?_
  refine l_call rfl rfl rfl (cl_value (fst:=[]) (cap:=[]) (vs:=[.pointer (some ⟨b4,0,none⟩)]) (all:=[.pointer (some ⟨b4,0,none⟩)]) tf77 rfl rfl rfl) ?_
  intro w hw
  replace hw:=hw.perm (L':=_::_::_::[]) (by exact(((perm_front 2 rfl).trans (perm_front 1 rfl)).trans (perm_front 2 rfl)))
  obtain⟨β1,sb,kn,hw1,back⟩:=St.frame (L:=[_]) (M:=_::_::[]) hw
  refine(changes_ok β1 w b4 (awS 4) hw1 (awS_ok 4)).mono ?_
  rintro e w' ⟨p14,c15,q16,d17,rfl,hw'⟩
  refine⟨_,rfl,_,back _ _ hw',?_⟩
  clear hw hw1 hw' back kn sb
  refine l_val (v:= .tuple #[.slice p14 ((beganS (awS 4)).length) c15,.slice q16 ((endedS (awS 4)).length) d17]) rfl rfl rfl (e_move) ?_
  refine l_val (v:= .slice p14 ((beganS (awS 4)).length) c15) rfl rfl rfl (e_extract (vs:= #[.slice p14 ((beganS (awS 4)).length) c15,.slice q16 ((endedS (awS 4)).length) d17]) rfl rfl) ?_
  refine l_val (v:= .slice q16 ((endedS (awS 4)).length) d17) rfl rfl rfl (e_extract (vs:= #[.slice p14 ((beganS (awS 4)).length) c15,.slice q16 ((endedS (awS 4)).length) d17]) rfl rfl) ?_
  refine l_val (v:= .slice p14 ((beganS (awS 4)).length) c15) rfl rfl rfl (e_assign) ?_
  refine l_val (v:= .slice q16 ((endedS (awS 4)).length) d17) rfl rfl rfl (e_assign) ?_
  refine l_nil ?_
  refine f_then ?_
  refine c_seq ?_
  refine c_re (L':=[rowF PairF 55 p14 c15 (beganS (awS 4)),rowF PairF 55 q16 d17 (endedS (awS 4)),spcR b4 aw5,rowF PairF 55 p12 c13 (pairsS (awS 4)),rowF PairF 55 p2 c3 (pairsX fourL)]) rfl ?_
  refine c_region ?_
  refine l_val (v:= .int .i64 (0)) rfl rfl rfl (e_move) ?_
  refine l_val (v:= .pointer (some ⟨b4,0,none⟩)) rfl rfl rfl (e_move) ?_
  refine l_call rfl rfl rfl (cl_value (fst:=[]) (cap:=[]) (vs:=[.int .i64 (5),.int .i64 (2),.int .i64 (6),.int .i64 (6)]) (all:=[.int .i64 (5),.int .i64 (2),.int .i64 (6),.int .i64 (6)]) tf71 rfl rfl rfl) ?_
  intro w hw
  obtain⟨β1,sb,kn,hw1,back⟩:=St.frame_all hw
  refine(area_ok β1 w hw1 5 2 6 6).mono ?_
  rintro e w' ⟨rfl,hw'⟩
  refine⟨_,rfl,_,back _ _ hw',?_⟩
  clear hw hw1 hw' back kn sb
  refine l_call rfl rfl rfl (cl_value (fst:=[]) (cap:=[]) (vs:=[.pointer (some ⟨b4,0,none⟩),.int .i64 (3),.agg #[.int .i64 (5),.int .i64 (2),.int .i64 (6),.int .i64 (6)]]) (all:=[.pointer (some ⟨b4,0,none⟩),.int .i64 (3),.agg #[.int .i64 (5),.int .i64 (2),.int .i64 (6),.int .i64 (6)]]) tf75 rfl rfl rfl) ?_
  intro w hw
  replace hw:=hw.perm (L':=_::_::_::_::_::[]) (by exact(((((perm_front 4 rfl).trans (perm_front 4 rfl)).trans (perm_front 3 rfl)).trans (perm_front 3 rfl)).trans (perm_front 4 rfl)))
  obtain⟨β1,sb,kn,hw1,back⟩:=St.frame (L:=[_]) (M:=_::_::_::_::[]) hw
  refine(put_ok' β1 w b4 aw5 hw1 aw5_ok 3 (⟨5,2,6,6⟩:KA)).mono ?_
  rintro e w' ⟨rfl,hw'⟩
  refine⟨_,rfl,_,back _ _ hw',?_⟩
  clear hw hw1 hw' back kn sb
  have hpe:=errPut_le aw5 3 (⟨5,2,6,6⟩:KA)
  refine l_val (v:=Ix ((0:Int)+(errPut aw5 3 (⟨5,2,6,6⟩:KA)))) rfl rfl rfl (e_add (a:=(0:Int)) (b:=(errPut aw5 3 (⟨5,2,6,6⟩:KA))) rfl rfl (i64w (by omega))) ?_
  refine l_val (v:=Ix ((0:Int)+(errPut aw5 3 (⟨5,2,6,6⟩:KA)))) rfl rfl rfl (e_assign) ?_
  refine l_nil ?_
  refine f_then ?_
  refine c_seq ?_
  refine c_re (L':=[spcR b4 aw6,rowF PairF 55 p14 c15 (beganS (awS 4)),rowF PairF 55 q16 d17 (endedS (awS 4)),rowF PairF 55 p12 c13 (pairsS (awS 4)),rowF PairF 55 p2 c3 (pairsX fourL)]) rfl ?_
  refine c_region ?_
  refine l_val (v:= .pointer (some ⟨b4,0,none⟩)) rfl rfl rfl (e_move) ?_
  refine l_call rfl rfl rfl (cl_value (fst:=[]) (cap:=[]) (vs:=[.pointer (some ⟨b4,0,none⟩)]) (all:=[.pointer (some ⟨b4,0,none⟩)]) tf77 rfl rfl rfl) ?_
  intro w hw
  replace hw:=hw.perm (L':=_::_::_::_::_::[]) (by exact(((((perm_front 4 rfl).trans (perm_front 4 rfl)).trans (perm_front 4 rfl)).trans (perm_front 4 rfl)).trans (perm_front 4 rfl)))
  obtain⟨β1,sb,kn,hw1,back⟩:=St.frame (L:=[_]) (M:=_::_::_::_::[]) hw
  refine(changes_ok β1 w b4 aw6 hw1 aw6_ok).mono ?_
  rintro e w' ⟨p18,c19,q20,d21,rfl,hw'⟩
  refine⟨_,rfl,_,back _ _ hw',?_⟩
  clear hw hw1 hw' back kn sb
  refine l_val (v:= .tuple #[.slice p18 ((beganS aw6).length) c19,.slice q20 ((endedS aw6).length) d21]) rfl rfl rfl (e_move) ?_
  refine l_val (v:= .slice p18 ((beganS aw6).length) c19) rfl rfl rfl (e_extract (vs:= #[.slice p18 ((beganS aw6).length) c19,.slice q20 ((endedS aw6).length) d21]) rfl rfl) ?_
  refine l_val (v:= .slice q20 ((endedS aw6).length) d21) rfl rfl rfl (e_extract (vs:= #[.slice p18 ((beganS aw6).length) c19,.slice q20 ((endedS aw6).length) d21]) rfl rfl) ?_
  refine l_val (v:= .slice p18 ((beganS aw6).length) c19) rfl rfl rfl (e_assign) ?_
  refine l_val (v:= .slice q20 ((endedS aw6).length) d21) rfl rfl rfl (e_assign) ?_
  refine l_nil ?_
  refine f_then ?_
  refine c_seq ?_
  refine c_mask [true,true,true,true,true,true,true] rfl ?_
  refine c_re (L':=[rowF PairF 55 p18 c19 (beganS aw6),rowF PairF 55 q20 d21 (endedS aw6),spcR b4 aw7,rowF PairF 55 p14 c15 (beganS (awS 4)),rowF PairF 55 q16 d17 (endedS (awS 4)),rowF PairF 55 p12 c13 (pairsS (awS 4)),rowF PairF 55 p2 c3 (pairsX fourL)]) rfl ?_
  refine c_any [⟨[],[],[],[55],fun f=>f 55= .slice (some ⟨(blk (f 55)),0,none⟩) (4) 4⟩,⟨[0],[0],[],[55,56],fun f=>f 56= .pointer (some ((ba (some ⟨(blk (f 55)),0,none⟩)).add (0*4)))⟩,⟨[0,1],[1],[],[57],fun f=>f 57= .agg (aC (⟨0,0,4,4⟩:KA))⟩,⟨[0],[],[],[58],fun f=>f 58= .slice (some ⟨(blk (f 58)),0,none⟩) (4) 4⟩,⟨[0,3],[3],[],[58,59],fun f=>f 59= .pointer (some ((ba (some ⟨(blk (f 58)),0,none⟩)).add (1*4)))⟩,⟨[0,3,4],[4],[],[60],fun f=>f 60= .agg (aC (⟨4,4,6,6⟩:KA))⟩,⟨[0,1,2,3,4,5],[2,5],[],[61],fun f=>f 61= .tuple #[.agg (aC (comR (⟨0,0,4,4⟩:KA) (⟨4,4,6,6⟩:KA))),.bool (decide (meetA (⟨0,0,4,4⟩:KA) (⟨4,4,6,6⟩:KA)))]⟩,⟨[0,1,2,3,4,5,6],[6],[],[54],fun f=>f 54= .tuple #[.agg (aC (comR (⟨0,0,4,4⟩:KA) (⟨4,4,6,6⟩:KA))),.bool (decide (meetA (⟨0,0,4,4⟩:KA) (⟨4,4,6,6⟩:KA)))]⟩,⟨[0,1,2,3,4,5,6,7],[7],[],[62],fun f=>f 62= .agg (aC (comR (⟨0,0,4,4⟩:KA) (⟨4,4,6,6⟩:KA)))⟩,⟨[0,1,2,3,4,5,6,7],[7],[],[63],fun f=>f 63= .bool true⟩,⟨[],[],[],[11],fun f=>f 11= .pointer (some ⟨(blk (f 11)),0,none⟩)⟩,⟨[0,1,2,3,4,5,6,7,8,10],[10,8],[],[],fun _=>True⟩,⟨[0,1,2,3,4,5,6,7,8,9,10,11],[9],[],[12],fun f=>f 12= .bool true⟩] [⟨none,none,[],[],fun _=>rowF PairF 55 p18 c19 (beganS aw6)⟩,⟨none,none,[],[],fun _=>rowF PairF 55 q20 d21 (endedS aw6)⟩,⟨none,none,[],[],fun _=>spcR b4 aw7⟩,⟨none,none,[],[],fun _=>rowF PairF 55 p14 c15 (beganS (awS 4))⟩,⟨none,none,[],[],fun _=>rowF PairF 55 q16 d17 (endedS (awS 4))⟩,⟨none,none,[],[],fun _=>rowF PairF 55 p12 c13 (pairsS (awS 4))⟩,⟨none,none,[],[],fun _=>rowF PairF 55 p2 c3 (pairsX fourL)⟩,⟨(some 0),none,[1,2],[55],fun f=>rowF AreaF 32 (some ⟨(blk (f 55)),0,none⟩) 4 fourL⟩,⟨(some 3),none,[4,5],[58],fun f=>rowF AreaF 32 (some ⟨(blk (f 58)),0,none⟩) 4 fourL⟩,⟨(some 10),(some 11),[11],[11],fun f=>pt (blk (f 11)) (.cells #[.int .i64 (0),.int .i64 (0),.int .i64 (0),.int .i64 (0)] 32)⟩,⟨(some 11),none,[],[11],fun f=>pt (blk (f 11)) (.cells (aC (comR (⟨0,0,4,4⟩:KA) (⟨4,4,6,6⟩:KA))) 32)⟩] [(1,.slice p2 ((pairsX fourL).length) c3),(2,Ix ((0:Int)+(errPut aw5 3 (⟨5,2,6,6⟩:KA)))),(3,.pointer (some ⟨b4,0,none⟩)),(6,.slice p12 ((pairsS (awS 4)).length) c13),(7,.slice p14 ((beganS (awS 4)).length) c15),(8,.slice q16 ((endedS (awS 4)).length) d17),(9,.slice p18 ((beganS aw6).length) c19),(10,.slice q20 ((endedS aw6).length) d21)] [0,1,2,3,4,5,6,7] [] (by kernel_rfl) (by kernel_rfl) (by kernel_rfl) (by kernel_rfl) rfl ⟨rfl,rfl,rfl,rfl,rfl,rfl,rfl,rfl,trivial⟩ ⟨?_,?_,?_,?_,?_,?_,?_,?_,?_,?_,?_,?_,?_,trivial⟩ ?_
  ·rintro f M- -
   refine ob_start (L':=M) (by rfl) rfl ?_
   refine l_call rfl rfl rfl (cl_value (fst:=[]) (cap:=[]) (vs:=[]) (all:=[]) tf72 rfl rfl rfl) ?_
   intro w hw
   obtain⟨β1,sb,kn,hw1,back⟩:=St.frame_all hw
   refine(four_ok β1 w hw1).mono ?_
   rintro e w' ⟨b23,rfl,hw'⟩
   refine⟨_,rfl,_,back _ _ hw',?_⟩
   clear hw hw1 hw' back kn sb
   refine l_nil ?_
   exact f_owes_d rfl rfl (perm_front 0 rfl)
  ·rintro f M ⟨k0,-⟩-
   have hs55:f 55= .slice (some ⟨(blk (f 55)),0,none⟩) (4) 4:=k0
   refine ob_start (L':=rowF AreaF 32 (some ⟨(blk (f 55)),0,none⟩) 4 fourL::M) (by rfl) (up_cons rfl hs55) ?_
   refine l_val (v:= .pointer (some ((ba (some ⟨(blk (f 55)),0,none⟩)).add (0*4)))) rfl rfl rfl (e_indexFlN 0 (F:=AreaF) (j:=0) (m:=4) (xs:=fourL) rfl rfl rfl tf43 (by omega) rfl) ?_
   refine l_nil ?_
   exact f_owes_d (up_cons rfl hs55) rfl (perm_front 0 rfl)
  ·rintro f M ⟨k0,-⟩-
   have hs56:f 56= .pointer (some ((ba (some ⟨(blk (f 55)),0,none⟩)).add (0*4))):=k0
   refine ob_start (L':=rowF AreaF 32 (some ⟨(blk (f 55)),0,none⟩) 4 fourL::M) (by rfl) (up_cons rfl hs56) ?_
   refine l_val (v:= .agg (aC (⟨0,0,4,4⟩:KA))) rfl rfl rfl (e_load tf10 (cs:=(areaE (⟨0,0,4,4⟩:KA))) rfl (k_flAt 0 (F:=AreaF) rfl (show fourL[0]? =some (⟨0,0,4,4⟩:KA)from rfl)) rfl) ?_
   refine l_nil ?_
   exact f_owes_d (up_cons rfl hs56) rfl (perm_front 0 rfl)
  ·rintro f M- -
   refine ob_start (L':=M) (by rfl) rfl ?_
   refine l_call rfl rfl rfl (cl_value (fst:=[]) (cap:=[]) (vs:=[]) (all:=[]) tf72 rfl rfl rfl) ?_
   intro w hw
   obtain⟨β1,sb,kn,hw1,back⟩:=St.frame_all hw
   refine(four_ok β1 w hw1).mono ?_
   rintro e w' ⟨b25,rfl,hw'⟩
   refine⟨_,rfl,_,back _ _ hw',?_⟩
   clear hw hw1 hw' back kn sb
   refine l_nil ?_
   exact f_owes_d rfl rfl (perm_front 0 rfl)
  ·rintro f M ⟨k0,-⟩-
   have hs58:f 58= .slice (some ⟨(blk (f 58)),0,none⟩) (4) 4:=k0
   refine ob_start (L':=rowF AreaF 32 (some ⟨(blk (f 58)),0,none⟩) 4 fourL::M) (by rfl) (up_cons rfl hs58) ?_
   refine l_val (v:= .pointer (some ((ba (some ⟨(blk (f 58)),0,none⟩)).add (1*4)))) rfl rfl rfl (e_indexFlN 0 (F:=AreaF) (j:=1) (m:=4) (xs:=fourL) rfl rfl rfl tf43 (by omega) rfl) ?_
   refine l_nil ?_
   exact f_owes_d (up_cons rfl hs58) rfl (perm_front 0 rfl)
  ·rintro f M ⟨k0,-⟩-
   have hs59:f 59= .pointer (some ((ba (some ⟨(blk (f 58)),0,none⟩)).add (1*4))):=k0
   refine ob_start (L':=rowF AreaF 32 (some ⟨(blk (f 58)),0,none⟩) 4 fourL::M) (by rfl) (up_cons rfl hs59) ?_
   refine l_val (v:= .agg (aC (⟨4,4,6,6⟩:KA))) rfl rfl rfl (e_load tf10 (cs:=(areaE (⟨4,4,6,6⟩:KA))) rfl (k_flAt 0 (F:=AreaF) rfl (show fourL[1]? =some (⟨4,4,6,6⟩:KA)from rfl)) rfl) ?_
   refine l_nil ?_
   exact f_owes_d (up_cons rfl hs59) rfl (perm_front 0 rfl)
  ·rintro f M ⟨k0,k1,-⟩-
   have hs57:f 57= .agg (aC (⟨0,0,4,4⟩:KA)):=k0
   have hs60:f 60= .agg (aC (⟨4,4,6,6⟩:KA)):=k1
   refine ob_start (L':=M) (by rfl) (up_cons (up_cons rfl hs57) hs60) ?_
   refine l_call rfl rfl rfl (cl_value (fst:=[]) (cap:=[]) (vs:=[.agg (aC (⟨0,0,4,4⟩:KA)),.agg (aC (⟨4,4,6,6⟩:KA))]) (all:=[.agg (aC (⟨0,0,4,4⟩:KA)),.agg (aC (⟨4,4,6,6⟩:KA))]) tf78 rfl rfl rfl) ?_
   intro w hw
   obtain⟨β1,sb,kn,hw1,back⟩:=St.frame_all hw
   refine(commonR_ok β1 w hw1 (⟨0,0,4,4⟩:KA) (⟨4,4,6,6⟩:KA)).mono ?_
   rintro e w' ⟨rfl,hw'⟩
   refine⟨_,rfl,_,back _ _ hw',?_⟩
   clear hw hw1 hw' back kn sb
   refine l_nil ?_
   exact f_owes_d (up_cons (up_cons rfl hs57) hs60) rfl (List.Perm.refl _)
  ·rintro f M ⟨k0,-⟩-
   have hs61:f 61= .tuple #[.agg (aC (comR (⟨0,0,4,4⟩:KA) (⟨4,4,6,6⟩:KA))),.bool (decide (meetA (⟨0,0,4,4⟩:KA) (⟨4,4,6,6⟩:KA)))]:=k0
   refine ob_start (L':=M) (by rfl) (up_cons rfl hs61) ?_
   refine l_val (v:= .tuple #[.agg (aC (comR (⟨0,0,4,4⟩:KA) (⟨4,4,6,6⟩:KA))),.bool (decide (meetA (⟨0,0,4,4⟩:KA) (⟨4,4,6,6⟩:KA)))]) rfl rfl rfl (e_move) ?_
   refine l_nil ?_
   exact f_owes_d (up_cons rfl hs61) rfl (List.Perm.refl _)
  ·rintro f M ⟨k0,-⟩-
   have hs54:f 54= .tuple #[.agg (aC (comR (⟨0,0,4,4⟩:KA) (⟨4,4,6,6⟩:KA))),.bool (decide (meetA (⟨0,0,4,4⟩:KA) (⟨4,4,6,6⟩:KA)))]:=k0
   refine ob_start (L':=M) (by rfl) (up_cons rfl hs54) ?_
   refine l_val (v:= .agg (aC (comR (⟨0,0,4,4⟩:KA) (⟨4,4,6,6⟩:KA)))) rfl rfl rfl (e_extract (vs:= #[.agg (aC (comR (⟨0,0,4,4⟩:KA) (⟨4,4,6,6⟩:KA))),.bool (decide (meetA (⟨0,0,4,4⟩:KA) (⟨4,4,6,6⟩:KA)))]) rfl rfl) ?_
   refine l_nil ?_
   exact f_owes_d (up_cons rfl hs54) rfl (List.Perm.refl _)
  ·rintro f M ⟨k0,-⟩-
   have hs54:f 54= .tuple #[.agg (aC (comR (⟨0,0,4,4⟩:KA) (⟨4,4,6,6⟩:KA))),.bool (decide (meetA (⟨0,0,4,4⟩:KA) (⟨4,4,6,6⟩:KA)))]:=k0
   refine ob_start (L':=M) (by rfl) (up_cons rfl hs54) ?_
   refine l_val (v:= .bool true) rfl rfl rfl ((ev_t (by decide) (e_extract (vs:= #[.agg (aC (comR (⟨0,0,4,4⟩:KA) (⟨4,4,6,6⟩:KA))),.bool (decide (meetA (⟨0,0,4,4⟩:KA) (⟨4,4,6,6⟩:KA)))]) rfl rfl))) ?_
   refine l_nil ?_
   exact f_owes_d (up_cons rfl hs54) rfl (List.Perm.refl _)
  ·rintro f M- -
   refine ob_start (L':=M) (by rfl) rfl ?_
   refine l_mv rfl rfl rfl (m_alloc tf6) ?_
   rintro _ _ ⟨b27,rfl,rfl⟩
   refine l_nil ?_
   exact f_owes_d rfl rfl (perm_front 0 rfl)
  ·rintro f M ⟨k0,k1,-⟩-
   have hs11:f 11= .pointer (some ⟨(blk (f 11)),0,none⟩):=k0
   have hs62:f 62= .agg (aC (comR (⟨0,0,4,4⟩:KA) (⟨4,4,6,6⟩:KA))):=k1
   refine ob_start (L':=pt (blk (f 11)) (.cells #[.int .i64 (0),.int .i64 (0),.int .i64 (0),.int .i64 (0)] 32)::M) (by rfl) (up_cons (up_cons rfl hs11) hs62) ?_
   refine l_mu rfl rfl (m_store 0 tf10 (b:=(blk (f 11))) (o:=0) (T:=32) (cs:= #[.int .i64 (0),.int .i64 (0),.int .i64 (0),.int .i64 (0)]) (cs':=(aC (comR (⟨0,0,4,4⟩:KA) (⟨4,4,6,6⟩:KA)))) (v:= .agg (aC (comR (⟨0,0,4,4⟩:KA) (⟨4,4,6,6⟩:KA)))) rfl rfl rfl rfl rfl rfl rfl) ?_
   refine l_nil ?_
   exact f_owes_n (up_cons (up_cons rfl hs11) hs62) trivial (perm_front 0 rfl)
  ·rintro f M ⟨k0,-⟩-
   have hs63:f 63= .bool true:=k0
   refine ob_start (L':=M) (by rfl) (up_cons rfl hs63) ?_
   refine l_val (v:= .bool true) rfl rfl rfl (e_assign) ?_
   refine l_nil ?_
   exact f_owes_d (up_cons rfl hs63) rfl (List.Perm.refl _)
  rintro fa28 ⟨-,-,-,-,-,-,-,-,-,-,k10,-,k12,-⟩ ⟨j0,j1,j2,j3,j4,j5,j6,j7,-⟩
  refine f_re (L':=[rowF PairF 55 p18 c19 (beganS aw6),rowF PairF 55 q20 d21 (endedS aw6),spcR b4 aw7,rowF PairF 55 p14 c15 (beganS (awS 4)),rowF PairF 55 q16 d17 (endedS (awS 4)),rowF PairF 55 p12 c13 (pairsS (awS 4)),rowF PairF 55 p2 c3 (pairsX fourL),rowF AreaF 32 (some ⟨(blk (fa28 55)),0,none⟩) 4 fourL,rowF AreaF 32 (some ⟨(blk (fa28 58)),0,none⟩) 4 fourL,pt (blk (fa28 11)) (.cells (aC (comR (⟨0,0,4,4⟩:KA) (⟨4,4,6,6⟩:KA))) 32)]) (by rfl) ?_
  refine f_rebase (d:=1) (v:= .slice p2 ((pairsX fourL).length) c3) j0 ?_
  refine f_rebase (d:=2) (v:=Ix ((0:Int)+(errPut aw5 3 (⟨5,2,6,6⟩:KA)))) j1 ?_
  refine f_rebase (d:=3) (v:= .pointer (some ⟨b4,0,none⟩)) j2 ?_
  refine f_rebase (d:=6) (v:= .slice p12 ((pairsS (awS 4)).length) c13) j3 ?_
  refine f_rebase (d:=7) (v:= .slice p14 ((beganS (awS 4)).length) c15) j4 ?_
  refine f_rebase (d:=8) (v:= .slice q16 ((endedS (awS 4)).length) d17) j5 ?_
  refine f_rebase (d:=9) (v:= .slice p18 ((beganS aw6).length) c19) j6 ?_
  refine f_rebase (d:=10) (v:= .slice q20 ((endedS aw6).length) d21) j7 ?_
  refine f_rebase (d:=11) (v:= .pointer (some ⟨(blk (fa28 11)),0,none⟩)) k10 ?_
  refine f_rebase (d:=12) (v:= .bool true) k12 ?_
  refine f_then ?_
  refine c_seq ?_
  refine c_seq ?_
  refine c_any [⟨[],[],[0],[64],fun f=>f 64=Ix ((0:Int)+(errPut aw5 3 (⟨5,2,6,6⟩:KA)))⟩,⟨[0],[0],[],[65],fun f=>f 65= .bool false⟩,⟨[0,1],[1],[],[66],fun f=>f 66= .bool false⟩,⟨[0,1,2],[2],[1],[67],fun f=>f 67= .bool true⟩,⟨[0,1,2,3],[3,2],[],[68],fun f=>f 68= .bool false⟩,⟨[0,1,2,3,4],[2,4],[],[69],fun f=>f 69= .bool false⟩,⟨[0,1,2,3,4,5],[5],[],[70],fun f=>f 70= .bool false⟩,⟨[0,1,2,3,4,5,6],[6],[2],[71],fun f=>f 71= .agg (aC (comR (⟨0,0,4,4⟩:KA) (⟨4,4,6,6⟩:KA)))⟩,⟨[0,1,2,3,4,5,6],[6],[],[72],fun f=>f 72= .agg #[.int .i64 (4),.int .i64 (4),.int .i64 (4),.int .i64 (4)]⟩,⟨[0,1,2,3,4,5,6,7,8],[7,8,6],[],[73],fun f=>f 73= .bool false⟩,⟨[0,1,2,3,4,5,6,7,8,9],[6,9],[],[74],fun f=>f 74= .bool false⟩,⟨[0,1,2,3,4,5,6,7,8,9,10],[10],[],[75],fun f=>f 75= .bool false⟩,⟨[0,1,2,3,4,5,6,7,8,9,10,11],[11],[],[76],fun f=>f 76= .slice (some ⟨(blk (f 76)),0,none⟩) (4) 4⟩,⟨[0,1,2,3,4,5,6,7,8,9,10,11,12],[12,11],[],[76,77],fun f=>f 77= .pointer (some ((ba (some ⟨(blk (f 76)),0,none⟩)).add (0*4)))⟩,⟨[0,1,2,3,4,5,6,7,8,9,10,11,12,13],[13,11],[],[78],fun f=>f 78= .agg (aC (⟨0,0,4,4⟩:KA))⟩,⟨[0,1,2,3,4,5,6,7,8,9,10,11,12],[11],[],[79],fun f=>f 79= .slice (some ⟨(blk (f 79)),0,none⟩) (4) 4⟩,⟨[0,1,2,3,4,5,6,7,8,9,10,11,12,15],[15,11],[],[79,80],fun f=>f 80= .pointer (some ((ba (some ⟨(blk (f 79)),0,none⟩)).add (1*4)))⟩,⟨[0,1,2,3,4,5,6,7,8,9,10,11,12,15,16],[16,11],[],[81],fun f=>f 81= .agg (aC (⟨4,4,6,6⟩:KA))⟩,⟨[0,1,2,3,4,5,6,7,8,9,10,11,12,13,14,15,16,17],[14,17,11],[],[82],fun f=>f 82= .agg (aC (joinR (⟨0,0,4,4⟩:KA) (⟨4,4,6,6⟩:KA)))⟩,⟨[0,1,2,3,4,5,6,7,8,9,10,11,12,13,14,15,16,17,18],[11],[],[83],fun f=>f 83= .agg #[.int .i64 (0),.int .i64 (0),.int .i64 (6),.int .i64 (6)]⟩,⟨[0,1,2,3,4,5,6,7,8,9,10,11,12,13,14,15,16,17,18,19],[18,19,11],[],[84],fun f=>f 84= .bool false⟩,⟨[0,1,2,3,4,5,6,7,8,9,10,11,12,13,14,15,16,17,18,19,20],[11,20],[],[85],fun f=>f 85= .bool false⟩,⟨[0,1,2,3,4,5,6,7,8,9,10,11,12,13,14,15,16,17,18,19,20,21],[21],[],[86],fun f=>f 86= .bool false⟩,⟨[0,1,2,3,4,5,6,7,8,9,10,11,12,13,14,15,16,17,18,19,20,21,22],[22],[3],[87],fun f=>f 87= .slice q16 ((endedS (awS 4)).length) d17⟩,⟨[0,1,2,3,4,5,6,7,8,9,10,11,12,13,14,15,16,17,18,19,20,21,22,23],[23,22],[],[88],fun f=>f 88=Nx ((endedS (awS 4)).length)⟩,⟨[0,1,2,3,4,5,6,7,8,9,10,11,12,13,14,15,16,17,18,19,20,21,22,23,24],[24,22],[],[89],fun f=>f 89= .bool false⟩,⟨[0,1,2,3,4,5,6,7,8,9,10,11,12,13,14,15,16,17,18,19,20,21,22,23,24,25],[22,25],[],[90],fun f=>f 90= .bool false⟩] [⟨none,none,[],[],fun _=>rowF PairF 55 p18 c19 (beganS aw6)⟩,⟨none,none,[],[],fun _=>rowF PairF 55 q20 d21 (endedS aw6)⟩,⟨none,none,[],[],fun _=>spcR b4 aw7⟩,⟨none,none,[],[],fun _=>rowF PairF 55 p14 c15 (beganS (awS 4))⟩,⟨none,none,[],[],fun _=>rowF PairF 55 q16 d17 (endedS (awS 4))⟩,⟨none,none,[],[],fun _=>rowF PairF 55 p12 c13 (pairsS (awS 4))⟩,⟨none,none,[],[],fun _=>rowF PairF 55 p2 c3 (pairsX fourL)⟩,⟨none,none,[],[],fun _=>rowF AreaF 32 (some ⟨(blk (fa28 55)),0,none⟩) 4 fourL⟩,⟨none,none,[],[],fun _=>rowF AreaF 32 (some ⟨(blk (fa28 58)),0,none⟩) 4 fourL⟩,⟨none,none,[7],[],fun _=>pt (blk (fa28 11)) (.cells (aC (comR (⟨0,0,4,4⟩:KA) (⟨4,4,6,6⟩:KA))) 32)⟩,⟨(some 12),none,[13,14],[76],fun f=>rowF AreaF 32 (some ⟨(blk (f 76)),0,none⟩) 4 fourL⟩,⟨(some 15),none,[16,17],[79],fun f=>rowF AreaF 32 (some ⟨(blk (f 79)),0,none⟩) 4 fourL⟩] [(2,Ix ((0:Int)+(errPut aw5 3 (⟨5,2,6,6⟩:KA)))),(12,.bool true),(11,.pointer (some ⟨(blk (fa28 11)),0,none⟩)),(8,.slice q16 ((endedS (awS 4)).length) d17),(1,.slice p2 ((pairsX fourL).length) c3),(3,.pointer (some ⟨b4,0,none⟩)),(6,.slice p12 ((pairsS (awS 4)).length) c13),(7,.slice p14 ((beganS (awS 4)).length) c15),(9,.slice p18 ((beganS aw6).length) c19),(10,.slice q20 ((endedS aw6).length) d21)] [4,5,6,7,8,9] [] (by kernel_rfl) (by kernel_rfl) (by kernel_rfl) (by kernel_rfl) rfl ⟨rfl,rfl,rfl,rfl,rfl,rfl,rfl,rfl,rfl,rfl,trivial⟩ ⟨?_,?_,?_,?_,?_,?_,?_,?_,?_,?_,?_,?_,?_,?_,?_,?_,?_,?_,?_,?_,?_,?_,?_,?_,?_,?_,?_,trivial⟩ ?_
  ·rintro f M-⟨i0,-⟩
   have hs2:f 2=Ix ((0:Int)+(errPut aw5 3 (⟨5,2,6,6⟩:KA))):=i0
   refine ob_start (L':=M) (by rfl) (up_cons rfl hs2) ?_
   refine l_val (v:=Ix ((0:Int)+(errPut aw5 3 (⟨5,2,6,6⟩:KA)))) rfl rfl rfl (e_move) ?_
   refine l_nil ?_
   exact f_owes_d (up_cons rfl hs2) rfl (List.Perm.refl _)
  ·rintro f M ⟨k0,-⟩-
   have hs64:f 64=Ix ((0:Int)+(errPut aw5 3 (⟨5,2,6,6⟩:KA))):=k0
   refine ob_start (L':=M) (by rfl) (up_cons rfl hs64) ?_
   refine l_val (v:= .bool false) rfl rfl rfl ((ev_f (by rw[aw_put];decide) (e_neq (a:=((0:Int)+(errPut aw5 3 (⟨5,2,6,6⟩:KA)))) (b:=(0:Int)) rfl rfl))) ?_
   refine l_nil ?_
   exact f_owes_d (up_cons rfl hs64) rfl (List.Perm.refl _)
  ·rintro f M ⟨k0,-⟩-
   have hs65:f 65= .bool false:=k0
   refine ob_start (L':=M) (by rfl) (up_cons rfl hs65) ?_
   refine l_val (v:= .bool false) rfl rfl rfl (e_move) ?_
   refine l_nil ?_
   exact f_owes_d (up_cons rfl hs65) rfl (List.Perm.refl _)
  ·rintro f M ⟨k0,-⟩ ⟨i0,-⟩
   have hs12:f 12= .bool true:=i0
   have hs66:f 66= .bool false:=k0
   refine ob_start (L':=M) (by rfl) (up_cons (up_cons rfl hs12) hs66) ?_
   refine g_val (v:= .bool true) rfl rfl rfl rfl rfl (e_move) ?_
   refine l_nil ?_
   exact f_owes_d (up_cons (up_cons rfl hs12) hs66) rfl (List.Perm.refl _)
  ·rintro f M ⟨k0,k1,-⟩-
   have hs67:f 67= .bool true:=k0
   have hs66:f 66= .bool false:=k1
   refine ob_start (L':=M) (by rfl) (up_cons (up_cons rfl hs67) hs66) ?_
   refine g_val (v:= .bool false) rfl rfl rfl rfl rfl (e_not (a:=true) rfl) ?_
   refine l_nil ?_
   exact f_owes_d (up_cons (up_cons rfl hs67) hs66) rfl (List.Perm.refl _)
  ·rintro f M ⟨k0,k1,-⟩-
   have hs66:f 66= .bool false:=k0
   have hs68:f 68= .bool false:=k1
   refine ob_start (L':=M) (by rfl) (up_cons (up_cons rfl hs66) hs68) ?_
   refine l_val (v:= .bool false) rfl rfl rfl (e_pick_f rfl) ?_
   refine l_nil ?_
   exact f_owes_d (up_cons (up_cons rfl hs66) hs68) rfl (List.Perm.refl _)
  ·rintro f M ⟨k0,-⟩-
   have hs69:f 69= .bool false:=k0
   refine ob_start (L':=M) (by rfl) (up_cons rfl hs69) ?_
   refine l_val (v:= .bool false) rfl rfl rfl (e_move) ?_
   refine l_nil ?_
   exact f_owes_d (up_cons rfl hs69) rfl (List.Perm.refl _)
  ·rintro f M ⟨k0,-⟩ ⟨i0,-⟩
   have hs11:f 11= .pointer (some ⟨(blk (fa28 11)),0,none⟩):=i0
   have hs70:f 70= .bool false:=k0
   refine ob_start (L':=pt (blk (fa28 11)) (.cells (aC (comR (⟨0,0,4,4⟩:KA) (⟨4,4,6,6⟩:KA))) 32)::M) (by rfl) (up_cons (up_cons rfl hs11) hs70) ?_
   refine g_val (v:= .agg (aC (comR (⟨0,0,4,4⟩:KA) (⟨4,4,6,6⟩:KA)))) rfl rfl rfl rfl rfl (e_load tf10 (cs:=(areaE (comR (⟨0,0,4,4⟩:KA) (⟨4,4,6,6⟩:KA)))) rfl (k_pt 0 (cs:=(aC (comR (⟨0,0,4,4⟩:KA) (⟨4,4,6,6⟩:KA)))) (vs:=(areaE (comR (⟨0,0,4,4⟩:KA) (⟨4,4,6,6⟩:KA)))) rfl rfl) rfl) ?_
   refine l_nil ?_
   exact f_owes_d (up_cons (up_cons rfl hs11) hs70) rfl (perm_front 0 rfl)
  ·rintro f M ⟨k0,-⟩-
   have hs70:f 70= .bool false:=k0
   refine ob_start (L':=M) (by rfl) (up_cons rfl hs70) ?_
   refine g_call rfl rfl rfl rfl rfl (cl_value (fst:=[]) (cap:=[]) (vs:=[.int .i64 (4),.int .i64 (4),.int .i64 (4),.int .i64 (4)]) (all:=[.int .i64 (4),.int .i64 (4),.int .i64 (4),.int .i64 (4)]) tf71 rfl rfl rfl) ?_
   intro w hw
   obtain⟨β1,sb,kn,hw1,back⟩:=St.frame_all hw
   refine(area_ok β1 w hw1 4 4 4 4).mono ?_
   rintro e w' ⟨rfl,hw'⟩
   refine⟨_,rfl,_,back _ _ hw',?_⟩
   clear hw hw1 hw' back kn sb
   refine l_nil ?_
   exact f_owes_d (up_cons rfl hs70) rfl (List.Perm.refl _)
  ·rintro f M ⟨k0,k1,k2,-⟩-
   have hs71:f 71= .agg (aC (comR (⟨0,0,4,4⟩:KA) (⟨4,4,6,6⟩:KA))):=k0
   have hs72:f 72= .agg #[.int .i64 (4),.int .i64 (4),.int .i64 (4),.int .i64 (4)]:=k1
   have hs70:f 70= .bool false:=k2
   refine ob_start (L':=M) (by rfl) (up_cons (up_cons (up_cons rfl hs71) hs72) hs70) ?_
   refine g_val (v:= .bool false) rfl rfl rfl rfl rfl ((ev_f (by decide) (e_neq_t (xs:=areaE (comR (⟨0,0,4,4⟩:KA) (⟨4,4,6,6⟩:KA))) (ys:=areaE (⟨4,4,4,4⟩:KA)) tf79 tf80 tf81 rfl rfl rfl rfl (not_congr (area_eq (x:=(comR (⟨0,0,4,4⟩:KA) (⟨4,4,6,6⟩:KA))) (y:=(⟨4,4,4,4⟩:KA))))))) ?_
   refine l_nil ?_
   exact f_owes_d (up_cons (up_cons (up_cons rfl hs71) hs72) hs70) rfl (List.Perm.refl _)
  ·rintro f M ⟨k0,k1,-⟩-
   have hs70:f 70= .bool false:=k0
   have hs73:f 73= .bool false:=k1
   refine ob_start (L':=M) (by rfl) (up_cons (up_cons rfl hs70) hs73) ?_
   refine l_val (v:= .bool false) rfl rfl rfl (e_pick_f rfl) ?_
   refine l_nil ?_
   exact f_owes_d (up_cons (up_cons rfl hs70) hs73) rfl (List.Perm.refl _)
  ·rintro f M ⟨k0,-⟩-
   have hs74:f 74= .bool false:=k0
   refine ob_start (L':=M) (by rfl) (up_cons rfl hs74) ?_
   refine l_val (v:= .bool false) rfl rfl rfl (e_move) ?_
   refine l_nil ?_
   exact f_owes_d (up_cons rfl hs74) rfl (List.Perm.refl _)
  ·rintro f M ⟨k0,-⟩-
   have hs75:f 75= .bool false:=k0
   refine ob_start (L':=M) (by rfl) (up_cons rfl hs75) ?_
   refine g_call rfl rfl rfl rfl rfl (cl_value (fst:=[]) (cap:=[]) (vs:=[]) (all:=[]) tf72 rfl rfl rfl) ?_
   intro w hw
   obtain⟨β1,sb,kn,hw1,back⟩:=St.frame_all hw
   refine(four_ok β1 w hw1).mono ?_
   rintro e w' ⟨b30,rfl,hw'⟩
   refine⟨_,rfl,_,back _ _ hw',?_⟩
   clear hw hw1 hw' back kn sb
   refine l_nil ?_
   exact f_owes_d (up_cons rfl hs75) rfl (perm_front 0 rfl)
  ·rintro f M ⟨k0,k1,-⟩-
   have hs76:f 76= .slice (some ⟨(blk (f 76)),0,none⟩) (4) 4:=k0
   have hs75:f 75= .bool false:=k1
   refine ob_start (L':=rowF AreaF 32 (some ⟨(blk (f 76)),0,none⟩) 4 fourL::M) (by rfl) (up_cons (up_cons rfl hs76) hs75) ?_
   refine g_val (v:= .pointer (some ((ba (some ⟨(blk (f 76)),0,none⟩)).add (0*4)))) rfl rfl rfl rfl rfl (e_indexFlN 0 (F:=AreaF) (j:=0) (m:=4) (xs:=fourL) rfl rfl rfl tf43 (by omega) rfl) ?_
   refine l_nil ?_
   exact f_owes_d (up_cons (up_cons rfl hs76) hs75) rfl (perm_front 0 rfl)
  ·rintro f M ⟨k0,k1,-⟩-
   have hs77:f 77= .pointer (some ((ba (some ⟨(blk (f 76)),0,none⟩)).add (0*4))):=k0
   have hs75:f 75= .bool false:=k1
   refine ob_start (L':=rowF AreaF 32 (some ⟨(blk (f 76)),0,none⟩) 4 fourL::M) (by rfl) (up_cons (up_cons rfl hs77) hs75) ?_
   refine g_val (v:= .agg (aC (⟨0,0,4,4⟩:KA))) rfl rfl rfl rfl rfl (e_load tf10 (cs:=(areaE (⟨0,0,4,4⟩:KA))) rfl (k_flAt 0 (F:=AreaF) rfl (show fourL[0]? =some (⟨0,0,4,4⟩:KA)from rfl)) rfl) ?_
   refine l_nil ?_
   exact f_owes_d (up_cons (up_cons rfl hs77) hs75) rfl (perm_front 0 rfl)
  ·rintro f M ⟨k0,-⟩-
   have hs75:f 75= .bool false:=k0
   refine ob_start (L':=M) (by rfl) (up_cons rfl hs75) ?_
   refine g_call rfl rfl rfl rfl rfl (cl_value (fst:=[]) (cap:=[]) (vs:=[]) (all:=[]) tf72 rfl rfl rfl) ?_
   intro w hw
   obtain⟨β1,sb,kn,hw1,back⟩:=St.frame_all hw
   refine(four_ok β1 w hw1).mono ?_
   rintro e w' ⟨b32,rfl,hw'⟩
   refine⟨_,rfl,_,back _ _ hw',?_⟩
   clear hw hw1 hw' back kn sb
   refine l_nil ?_
   exact f_owes_d (up_cons rfl hs75) rfl (perm_front 0 rfl)
  ·rintro f M ⟨k0,k1,-⟩-
   have hs79:f 79= .slice (some ⟨(blk (f 79)),0,none⟩) (4) 4:=k0
   have hs75:f 75= .bool false:=k1
   refine ob_start (L':=rowF AreaF 32 (some ⟨(blk (f 79)),0,none⟩) 4 fourL::M) (by rfl) (up_cons (up_cons rfl hs79) hs75) ?_
   refine g_val (v:= .pointer (some ((ba (some ⟨(blk (f 79)),0,none⟩)).add (1*4)))) rfl rfl rfl rfl rfl (e_indexFlN 0 (F:=AreaF) (j:=1) (m:=4) (xs:=fourL) rfl rfl rfl tf43 (by omega) rfl) ?_
   refine l_nil ?_
   exact f_owes_d (up_cons (up_cons rfl hs79) hs75) rfl (perm_front 0 rfl)
  ·rintro f M ⟨k0,k1,-⟩-
   have hs80:f 80= .pointer (some ((ba (some ⟨(blk (f 79)),0,none⟩)).add (1*4))):=k0
   have hs75:f 75= .bool false:=k1
   refine ob_start (L':=rowF AreaF 32 (some ⟨(blk (f 79)),0,none⟩) 4 fourL::M) (by rfl) (up_cons (up_cons rfl hs80) hs75) ?_
   refine g_val (v:= .agg (aC (⟨4,4,6,6⟩:KA))) rfl rfl rfl rfl rfl (e_load tf10 (cs:=(areaE (⟨4,4,6,6⟩:KA))) rfl (k_flAt 0 (F:=AreaF) rfl (show fourL[1]? =some (⟨4,4,6,6⟩:KA)from rfl)) rfl) ?_
   refine l_nil ?_
   exact f_owes_d (up_cons (up_cons rfl hs80) hs75) rfl (perm_front 0 rfl)
  ·rintro f M ⟨k0,k1,k2,-⟩-
   have hs78:f 78= .agg (aC (⟨0,0,4,4⟩:KA)):=k0
   have hs81:f 81= .agg (aC (⟨4,4,6,6⟩:KA)):=k1
   have hs75:f 75= .bool false:=k2
   refine ob_start (L':=M) (by rfl) (up_cons (up_cons (up_cons rfl hs78) hs81) hs75) ?_
   refine g_call rfl rfl rfl rfl rfl (cl_value (fst:=[]) (cap:=[]) (vs:=[.agg (aC (⟨0,0,4,4⟩:KA)),.agg (aC (⟨4,4,6,6⟩:KA))]) (all:=[.agg (aC (⟨0,0,4,4⟩:KA)),.agg (aC (⟨4,4,6,6⟩:KA))]) tf82 rfl rfl rfl) ?_
   intro w hw
   obtain⟨β1,sb,kn,hw1,back⟩:=St.frame_all hw
   refine(join_ok β1 w hw1 (⟨0,0,4,4⟩:KA) (⟨4,4,6,6⟩:KA)).mono ?_
   rintro e w' ⟨rfl,hw'⟩
   refine⟨_,rfl,_,back _ _ hw',?_⟩
   clear hw hw1 hw' back kn sb
   refine l_nil ?_
   exact f_owes_d (up_cons (up_cons (up_cons rfl hs78) hs81) hs75) rfl (List.Perm.refl _)
  ·rintro f M ⟨k0,-⟩-
   have hs75:f 75= .bool false:=k0
   refine ob_start (L':=M) (by rfl) (up_cons rfl hs75) ?_
   refine g_call rfl rfl rfl rfl rfl (cl_value (fst:=[]) (cap:=[]) (vs:=[.int .i64 (0),.int .i64 (0),.int .i64 (6),.int .i64 (6)]) (all:=[.int .i64 (0),.int .i64 (0),.int .i64 (6),.int .i64 (6)]) tf71 rfl rfl rfl) ?_
   intro w hw
   obtain⟨β1,sb,kn,hw1,back⟩:=St.frame_all hw
   refine(area_ok β1 w hw1 0 0 6 6).mono ?_
   rintro e w' ⟨rfl,hw'⟩
   refine⟨_,rfl,_,back _ _ hw',?_⟩
   clear hw hw1 hw' back kn sb
   refine l_nil ?_
   exact f_owes_d (up_cons rfl hs75) rfl (List.Perm.refl _)
  ·rintro f M ⟨k0,k1,k2,-⟩-
   have hs82:f 82= .agg (aC (joinR (⟨0,0,4,4⟩:KA) (⟨4,4,6,6⟩:KA))):=k0
   have hs83:f 83= .agg #[.int .i64 (0),.int .i64 (0),.int .i64 (6),.int .i64 (6)]:=k1
   have hs75:f 75= .bool false:=k2
   refine ob_start (L':=M) (by rfl) (up_cons (up_cons (up_cons rfl hs82) hs83) hs75) ?_
   refine g_val (v:= .bool false) rfl rfl rfl rfl rfl ((ev_f (by decide) (e_neq_t (xs:=areaE (joinR (⟨0,0,4,4⟩:KA) (⟨4,4,6,6⟩:KA))) (ys:=areaE (⟨0,0,6,6⟩:KA)) tf79 tf80 tf81 rfl rfl rfl rfl (not_congr (area_eq (x:=(joinR (⟨0,0,4,4⟩:KA) (⟨4,4,6,6⟩:KA))) (y:=(⟨0,0,6,6⟩:KA))))))) ?_
   refine l_nil ?_
   exact f_owes_d (up_cons (up_cons (up_cons rfl hs82) hs83) hs75) rfl (List.Perm.refl _)
  ·rintro f M ⟨k0,k1,-⟩-
   have hs75:f 75= .bool false:=k0
   have hs84:f 84= .bool false:=k1
   refine ob_start (L':=M) (by rfl) (up_cons (up_cons rfl hs75) hs84) ?_
   refine l_val (v:= .bool false) rfl rfl rfl (e_pick_f rfl) ?_
   refine l_nil ?_
   exact f_owes_d (up_cons (up_cons rfl hs75) hs84) rfl (List.Perm.refl _)
  ·rintro f M ⟨k0,-⟩-
   have hs85:f 85= .bool false:=k0
   refine ob_start (L':=M) (by rfl) (up_cons rfl hs85) ?_
   refine l_val (v:= .bool false) rfl rfl rfl (e_move) ?_
   refine l_nil ?_
   exact f_owes_d (up_cons rfl hs85) rfl (List.Perm.refl _)
  ·rintro f M ⟨k0,-⟩ ⟨i0,-⟩
   have hs8:f 8= .slice q16 ((endedS (awS 4)).length) d17:=i0
   have hs86:f 86= .bool false:=k0
   refine ob_start (L':=M) (by rfl) (up_cons (up_cons rfl hs8) hs86) ?_
   refine g_val (v:= .slice q16 ((endedS (awS 4)).length) d17) rfl rfl rfl rfl rfl (e_move) ?_
   refine l_nil ?_
   exact f_owes_d (up_cons (up_cons rfl hs8) hs86) rfl (List.Perm.refl _)
  ·rintro f M ⟨k0,k1,-⟩-
   have hs87:f 87= .slice q16 ((endedS (awS 4)).length) d17:=k0
   have hs86:f 86= .bool false:=k1
   refine ob_start (L':=M) (by rfl) (up_cons (up_cons rfl hs87) hs86) ?_
   refine g_val (v:=Nx ((endedS (awS 4)).length)) rfl rfl rfl rfl rfl (e_len (a:=q16) (n:=(endedS (awS 4)).length) (c:=d17) rfl tf65) ?_
   refine l_nil ?_
   exact f_owes_d (up_cons (up_cons rfl hs87) hs86) rfl (List.Perm.refl _)
  ·rintro f M ⟨k0,k1,-⟩-
   have hs88:f 88=Nx ((endedS (awS 4)).length):=k0
   have hs86:f 86= .bool false:=k1
   refine ob_start (L':=M) (by rfl) (up_cons (up_cons rfl hs88) hs86) ?_
   refine g_val (v:= .bool false) rfl rfl rfl rfl rfl ((ev_f (by rw[aw_ended];decide) (e_neq (a:=(((endedS (awS 4)).length:Nat):Int)) (b:=(0:Int)) rfl rfl))) ?_
   refine l_nil ?_
   exact f_owes_d (up_cons (up_cons rfl hs88) hs86) rfl (List.Perm.refl _)
  ·rintro f M ⟨k0,k1,-⟩-
   have hs86:f 86= .bool false:=k0
   have hs89:f 89= .bool false:=k1
   refine ob_start (L':=M) (by rfl) (up_cons (up_cons rfl hs86) hs89) ?_
   refine l_val (v:= .bool false) rfl rfl rfl (e_pick_f rfl) ?_
   refine l_nil ?_
   exact f_owes_d (up_cons (up_cons rfl hs86) hs89) rfl (List.Perm.refl _)
  rintro fa33 ⟨-,-,-,-,-,-,-,-,-,-,-,-,-,-,-,-,-,-,-,-,-,-,-,-,-,-,k26,-⟩ ⟨j0,j1,j2,j3,j4,j5,-⟩
  refine f_re (L':=[rowF PairF 55 p18 c19 (beganS aw6),rowF PairF 55 q20 d21 (endedS aw6),spcR b4 aw7,rowF PairF 55 p14 c15 (beganS (awS 4)),rowF PairF 55 q16 d17 (endedS (awS 4)),rowF PairF 55 p12 c13 (pairsS (awS 4)),rowF PairF 55 p2 c3 (pairsX fourL),rowF AreaF 32 (some ⟨(blk (fa28 55)),0,none⟩) 4 fourL,rowF AreaF 32 (some ⟨(blk (fa28 58)),0,none⟩) 4 fourL,pt (blk (fa28 11)) (.cells (aC (comR (⟨0,0,4,4⟩:KA) (⟨4,4,6,6⟩:KA))) 32),rowF AreaF 32 (some ⟨(blk (fa33 76)),0,none⟩) 4 fourL,rowF AreaF 32 (some ⟨(blk (fa33 79)),0,none⟩) 4 fourL]) (by rfl) ?_
  refine f_rebase (d:=1) (v:= .slice p2 ((pairsX fourL).length) c3) j0 ?_
  refine f_rebase (d:=3) (v:= .pointer (some ⟨b4,0,none⟩)) j1 ?_
  refine f_rebase (d:=6) (v:= .slice p12 ((pairsS (awS 4)).length) c13) j2 ?_
  refine f_rebase (d:=7) (v:= .slice p14 ((beganS (awS 4)).length) c15) j3 ?_
  refine f_rebase (d:=9) (v:= .slice p18 ((beganS aw6).length) c19) j4 ?_
  refine f_rebase (d:=10) (v:= .slice q20 ((endedS aw6).length) d21) j5 ?_
  refine f_rebase (d:=90) (v:= .bool false) k26 ?_
  refine f_then ?_
  refine c_no rfl ?_
  refine c_skip ?_
  refine f_then ?_
  refine c_seq ?_
  refine c_mask [true,true,true,true,true,true,true,false,false,false,false,false] rfl ?_
  refine c_region ?_
  refine l_val (v:= .func (.func 19) #[] #[]) rfl rfl rfl (e_assign) ?_
  refine l_nil ?_
  refine f_then ?_
  refine c_seq ?_
  refine c_region ?_
  refine l_val (v:= .func (.func 19) #[] #[]) rfl rfl rfl (e_move) ?_
  refine l_val (v:= .slice p2 ((pairsX fourL).length) c3) rfl rfl rfl (e_move) ?_
  refine l_val (v:= .agg #[.int .i64 (0),.int .i64 (1)]) rfl rfl rfl (e_build tf33 tf32 (vs:=[(0,.int .i64 (0)),(1,.int .i64 (1))]) (cells:= #[.int .i64 (0),.int .i64 (1)]) rfl rfl) ?_
  refine l_val (v:= .agg #[.int .i64 (2),.int .i64 (3)]) rfl rfl rfl (e_build tf33 tf32 (vs:=[(0,.int .i64 (2)),(1,.int .i64 (3))]) (cells:= #[.int .i64 (2),.int .i64 (3)]) rfl rfl) ?_
  refine l_mv rfl rfl rfl (m_slices tf37 tf33 (vs:=[(0,.agg #[.int .i64 (0),.int .i64 (1)]),(1,.agg #[.int .i64 (2),.int .i64 (3)])]) (cells:= #[.int .i64 (0),.int .i64 (1),.int .i64 (2),.int .i64 (3)]) rfl rfl rfl rfl) ?_
  rintro _ _ ⟨b34,rfl,rfl⟩
  refine l_call rfl rfl rfl (cl_value (fst:=[]) (cap:=[]) (vs:=[.slice p2 ((pairsX fourL).length) c3,.slice (some ⟨b34,0,none⟩) 2 2]) (all:=[.slice p2 ((pairsX fourL).length) c3,.slice (some ⟨b34,0,none⟩) 2 2]) tf83 rfl rfl rfl) ?_
  intro w hw
  obtain⟨β1,sb,kn,hw1,back⟩:=St.frame_all hw
  refine(same_ok β1 w hw1 _ _ (pairsX fourL) [(⟨0,1⟩:KP),(⟨2,3⟩:KP)] (kn _ (k_flN 7 (F:=PairF) (m:=(pairsX fourL).length) rfl rfl)) (kn _ (k_ptFls (F:=PairF) 0 (m:=2) (xs:=[(⟨0,1⟩:KP),(⟨2,3⟩:KP)]) rfl rfl rfl (by decide)))).mono ?_
  rintro e w' ⟨rfl,hw'⟩
  refine⟨_,rfl,_,back _ _ hw',?_⟩
  clear hw hw1 hw' back kn sb
  refine l_val (v:= .bool (decide ((pairsX fourL)=[(⟨0,1⟩:KP),(⟨2,3⟩:KP)]))) rfl rfl rfl (e_move) ?_
  refine l_split (s:=97) (p:=(pairsX fourL)=[(⟨0,1⟩:KP),(⟨2,3⟩:KP)]) rfl (fun h=> ?_) (fun h=> ?_)
  rotate_left;exact absurd ((pairsX_ok (by decide)).trans aw_four) h
  refine g_val (v:= .func (.func 19) #[] #[]) rfl rfl rfl rfl rfl (e_move) ?_
  refine g_val (v:= .slice p12 ((pairsS (awS 4)).length) c13) rfl rfl rfl rfl rfl (e_move) ?_
  refine g_val (v:= .agg #[.int .i64 (1),.int .i64 (5)]) rfl rfl rfl rfl rfl (e_build tf33 tf32 (vs:=[(0,.int .i64 (1)),(1,.int .i64 (5))]) (cells:= #[.int .i64 (1),.int .i64 (5)]) rfl rfl) ?_
  refine g_val (v:= .agg #[.int .i64 (3),.int .i64 (7)]) rfl rfl rfl rfl rfl (e_build tf33 tf32 (vs:=[(0,.int .i64 (3)),(1,.int .i64 (7))]) (cells:= #[.int .i64 (3),.int .i64 (7)]) rfl rfl) ?_
  refine g_mv rfl rfl rfl rfl rfl (m_slices tf37 tf33 (vs:=[(0,.agg #[.int .i64 (1),.int .i64 (5)]),(1,.agg #[.int .i64 (3),.int .i64 (7)])]) (cells:= #[.int .i64 (1),.int .i64 (5),.int .i64 (3),.int .i64 (7)]) rfl rfl rfl rfl) ?_
  rintro _ _ ⟨b35,rfl,rfl⟩
  refine g_call rfl rfl rfl rfl rfl (cl_value (fst:=[]) (cap:=[]) (vs:=[.slice p12 ((pairsS (awS 4)).length) c13,.slice (some ⟨b35,0,none⟩) 2 2]) (all:=[.slice p12 ((pairsS (awS 4)).length) c13,.slice (some ⟨b35,0,none⟩) 2 2]) tf83 rfl rfl rfl) ?_
  intro w hw
  obtain⟨β1,sb,kn,hw1,back⟩:=St.frame_all hw
  refine(same_ok β1 w hw1 _ _ (pairsS (awS 4)) [(⟨1,5⟩:KP),(⟨3,7⟩:KP)] (kn _ (k_flN 7 (F:=PairF) (m:=(pairsS (awS 4)).length) rfl rfl)) (kn _ (k_ptFls (F:=PairF) 0 (m:=2) (xs:=[(⟨1,5⟩:KP),(⟨3,7⟩:KP)]) rfl rfl rfl (by decide)))).mono ?_
  rintro e w' ⟨rfl,hw'⟩
  refine⟨_,rfl,_,back _ _ hw',?_⟩
  clear hw hw1 hw' back kn sb
  refine l_val (v:= .bool (decide ((pairsS (awS 4))=[(⟨1,5⟩:KP),(⟨3,7⟩:KP)]))) rfl rfl rfl (e_pick_t rfl) ?_
  refine l_val (v:= .bool (decide ((pairsS (awS 4))=[(⟨1,5⟩:KP),(⟨3,7⟩:KP)]))) rfl rfl rfl (e_move) ?_
  refine l_split (s:=105) (p:=(pairsS (awS 4))=[(⟨1,5⟩:KP),(⟨3,7⟩:KP)]) rfl (fun h=> ?_) (fun h=> ?_)
  rotate_left;exact absurd aw_now h
  refine g_val (v:= .func (.func 19) #[] #[]) rfl rfl rfl rfl rfl (e_move) ?_
  refine g_val (v:= .slice p14 ((beganS (awS 4)).length) c15) rfl rfl rfl rfl rfl (e_move) ?_
  refine g_val (v:= .slice p12 ((pairsS (awS 4)).length) c13) rfl rfl rfl rfl rfl (e_move) ?_
  refine g_call rfl rfl rfl rfl rfl (cl_value (fst:=[]) (cap:=[]) (vs:=[.slice p14 ((beganS (awS 4)).length) c15,.slice p12 ((pairsS (awS 4)).length) c13]) (all:=[.slice p14 ((beganS (awS 4)).length) c15,.slice p12 ((pairsS (awS 4)).length) c13]) tf83 rfl rfl rfl) ?_
  intro w hw
  obtain⟨β1,sb,kn,hw1,back⟩:=St.frame_all hw
  refine(same_ok β1 w hw1 _ _ (beganS (awS 4)) (pairsS (awS 4)) (kn _ (k_flN 5 (F:=PairF) (m:=(beganS (awS 4)).length) rfl rfl)) (kn _ (k_flN 7 (F:=PairF) (m:=(pairsS (awS 4)).length) rfl rfl))).mono ?_
  rintro e w' ⟨rfl,hw'⟩
  refine⟨_,rfl,_,back _ _ hw',?_⟩
  clear hw hw1 hw' back kn sb
  refine l_val (v:= .bool (decide ((beganS (awS 4))=(pairsS (awS 4))))) rfl rfl rfl (e_pick_t rfl) ?_
  refine l_val (v:= .bool (decide ((beganS (awS 4))=(pairsS (awS 4))))) rfl rfl rfl (e_move) ?_
  refine l_split (s:=111) (p:=(beganS (awS 4))=(pairsS (awS 4))) rfl (fun h=> ?_) (fun h=> ?_)
  rotate_left;exact absurd aw_began h
  refine g_val (v:= .func (.func 19) #[] #[]) rfl rfl rfl rfl rfl (e_move) ?_
  refine g_val (v:= .slice p18 ((beganS aw6).length) c19) rfl rfl rfl rfl rfl (e_move) ?_
  refine g_val (v:= .agg #[.int .i64 (3),.int .i64 (5)]) rfl rfl rfl rfl rfl (e_build tf33 tf32 (vs:=[(0,.int .i64 (3)),(1,.int .i64 (5))]) (cells:= #[.int .i64 (3),.int .i64 (5)]) rfl rfl) ?_
  refine g_mv rfl rfl rfl rfl rfl (m_slices tf37 tf33 (vs:=[(0,.agg #[.int .i64 (3),.int .i64 (5)])]) (cells:= #[.int .i64 (3),.int .i64 (5)]) rfl rfl rfl rfl) ?_
  rintro _ _ ⟨b36,rfl,rfl⟩
  refine g_call rfl rfl rfl rfl rfl (cl_value (fst:=[]) (cap:=[]) (vs:=[.slice p18 ((beganS aw6).length) c19,.slice (some ⟨b36,0,none⟩) 1 1]) (all:=[.slice p18 ((beganS aw6).length) c19,.slice (some ⟨b36,0,none⟩) 1 1]) tf83 rfl rfl rfl) ?_
  intro w hw
  obtain⟨β1,sb,kn,hw1,back⟩:=St.frame_all hw
  refine(same_ok β1 w hw1 _ _ (beganS aw6) [(⟨3,5⟩:KP)] (kn _ (k_flN 3 (F:=PairF) (m:=(beganS aw6).length) rfl rfl)) (kn _ (k_ptFls (F:=PairF) 0 (m:=1) (xs:=[(⟨3,5⟩:KP)]) rfl rfl rfl (by decide)))).mono ?_
  rintro e w' ⟨rfl,hw'⟩
  refine⟨_,rfl,_,back _ _ hw',?_⟩
  clear hw hw1 hw' back kn sb
  refine l_val (v:= .bool (decide ((beganS aw6)=[(⟨3,5⟩:KP)]))) rfl rfl rfl (e_pick_t rfl) ?_
  refine l_val (v:= .bool (decide ((beganS aw6)=[(⟨3,5⟩:KP)]))) rfl rfl rfl (e_move) ?_
  refine l_split (s:=118) (p:=(beganS aw6)=[(⟨3,5⟩:KP)]) rfl (fun h=> ?_) (fun h=> ?_)
  rotate_left;exact absurd aw_next h
  refine g_val (v:= .func (.func 19) #[] #[]) rfl rfl rfl rfl rfl (e_move) ?_
  refine g_val (v:= .slice q20 ((endedS aw6).length) d21) rfl rfl rfl rfl rfl (e_move) ?_
  refine g_val (v:= .agg #[.int .i64 (3),.int .i64 (7)]) rfl rfl rfl rfl rfl (e_build tf33 tf32 (vs:=[(0,.int .i64 (3)),(1,.int .i64 (7))]) (cells:= #[.int .i64 (3),.int .i64 (7)]) rfl rfl) ?_
  refine g_mv rfl rfl rfl rfl rfl (m_slices tf37 tf33 (vs:=[(0,.agg #[.int .i64 (3),.int .i64 (7)])]) (cells:= #[.int .i64 (3),.int .i64 (7)]) rfl rfl rfl rfl) ?_
  rintro _ _ ⟨b37,rfl,rfl⟩
  refine g_call rfl rfl rfl rfl rfl (cl_value (fst:=[]) (cap:=[]) (vs:=[.slice q20 ((endedS aw6).length) d21,.slice (some ⟨b37,0,none⟩) 1 1]) (all:=[.slice q20 ((endedS aw6).length) d21,.slice (some ⟨b37,0,none⟩) 1 1]) tf83 rfl rfl rfl) ?_
  intro w hw
  obtain⟨β1,sb,kn,hw1,back⟩:=St.frame_all hw
  refine(same_ok β1 w hw1 _ _ (endedS aw6) [(⟨3,7⟩:KP)] (kn _ (k_flN 5 (F:=PairF) (m:=(endedS aw6).length) rfl rfl)) (kn _ (k_ptFls (F:=PairF) 0 (m:=1) (xs:=[(⟨3,7⟩:KP)]) rfl rfl rfl (by decide)))).mono ?_
  rintro e w' ⟨rfl,hw'⟩
  refine⟨_,rfl,_,back _ _ hw',?_⟩
  clear hw hw1 hw' back kn sb
  refine l_val (v:= .bool (decide ((endedS aw6)=[(⟨3,7⟩:KP)]))) rfl rfl rfl (e_pick_t rfl) ?_
  refine l_val (v:= .bool (decide ((endedS aw6)=[(⟨3,7⟩:KP)]))) rfl rfl rfl (e_move) ?_
  refine l_split (s:=125) (p:=(endedS aw6)=[(⟨3,7⟩:KP)]) rfl (fun h=> ?_) (fun h=> ?_)
  rotate_left;exact absurd aw_over h
  refine g_val (v:= .pointer (some ⟨b4,0,none⟩)) rfl rfl rfl rfl rfl (e_move) ?_
  refine g_call rfl rfl rfl rfl rfl (cl_value (fst:=[]) (cap:=[]) (vs:=[.int .i64 (4),.int .i64 (0),.int .i64 (5),.int .i64 (0)]) (all:=[.int .i64 (4),.int .i64 (0),.int .i64 (5),.int .i64 (0)]) tf71 rfl rfl rfl) ?_
  intro w hw
  obtain⟨β1,sb,kn,hw1,back⟩:=St.frame_all hw
  refine(area_ok β1 w hw1 4 0 5 0).mono ?_
  rintro e w' ⟨rfl,hw'⟩
  refine⟨_,rfl,_,back _ _ hw',?_⟩
  clear hw hw1 hw' back kn sb
  refine g_call rfl rfl rfl rfl rfl (cl_value (fst:=[]) (cap:=[]) (vs:=[.pointer (some ⟨b4,0,none⟩),.agg #[.int .i64 (4),.int .i64 (0),.int .i64 (5),.int .i64 (0)]]) (all:=[.pointer (some ⟨b4,0,none⟩),.agg #[.int .i64 (4),.int .i64 (0),.int .i64 (5),.int .i64 (0)]]) tf84 rfl rfl rfl) ?_
  intro w hw
  replace hw:=hw.perm (L':=_::_::_::_::_::_::_::_::_::_::_::[]) (by exact(((((((((((perm_front 10 rfl).trans (perm_front 10 rfl)).trans (perm_front 10 rfl)).trans (perm_front 10 rfl)).trans (perm_front 9 rfl)).trans (perm_front 9 rfl)).trans (perm_front 9 rfl)).trans (perm_front 9 rfl)).trans (perm_front 9 rfl)).trans (perm_front 9 rfl)).trans (perm_front 10 rfl)))
  obtain⟨β1,sb,kn,hw1,back⟩:=St.frame (L:=[_]) (M:=_::_::_::_::_::_::_::_::_::_::[]) hw
  refine(query_ok β1 w b4 aw7 hw1 aw7_ok (⟨4,0,5,0⟩:KA)).mono ?_
  rintro e w' ⟨p38,c39,rfl,hw'⟩
  refine⟨_,rfl,_,back _ _ hw',?_⟩
  clear hw hw1 hw' back kn sb
  refine g_mv rfl rfl rfl rfl rfl (m_slices tf16 tf21 (vs:=[(0,.int .i64 (5)),(1,.int .i64 (7))]) (cells:= #[.int .i64 (5),.int .i64 (7)]) rfl rfl rfl rfl) ?_
  rintro _ _ ⟨b40,rfl,rfl⟩
  refine g_call rfl rfl rfl rfl rfl (cl_value (fst:=[]) (cap:=[]) (vs:=[.slice p38 ((queryX aw7 (⟨4,0,5,0⟩:KA)).length) c39,.slice (some ⟨b40,0,none⟩) 2 2]) (all:=[.slice p38 ((queryX aw7 (⟨4,0,5,0⟩:KA)).length) c39,.slice (some ⟨b40,0,none⟩) 2 2]) tf85 rfl rfl rfl) ?_
  intro w hw
  obtain⟨β1,sb,kn,hw1,back⟩:=St.frame_all hw
  refine(sameI_ok β1 w hw1 _ _ (queryX aw7 (⟨4,0,5,0⟩:KA)) [5,7] (kn _ (k_flN 1 (F:=IntF) (m:=(queryX aw7 (⟨4,0,5,0⟩:KA)).length) rfl rfl)) (kn _ (k_ptFls (F:=IntF) 0 (m:=2) (xs:=[5,7]) rfl rfl rfl (by decide)))).mono ?_
  rintro e w' ⟨rfl,hw'⟩
  refine⟨_,rfl,_,back _ _ hw',?_⟩
  clear hw hw1 hw' back kn sb
  refine l_val (v:= .bool (decide ((queryX aw7 (⟨4,0,5,0⟩:KA))=[5,7]))) rfl rfl rfl (e_pick_t rfl) ?_
  refine l_val (v:= .bool (decide ((queryX aw7 (⟨4,0,5,0⟩:KA))=[5,7]))) rfl rfl rfl (e_assign) ?_
  refine l_nil ?_
  refine f_then ?_
  refine c_ret ?_
  refine ret1 Tryz.results7 (v:= .bool (decide ((queryX aw7 (⟨4,0,5,0⟩:KA))=[5,7]))) rfl ?_
  intro w hw
  exact⟨congrArg (fun b:Bool=>Ending.returned (.bool b)) (decide_eq_true aw_query),st_mask [false,false,false,false,false,false,false,false,false,false,false,false,false] rfl hw⟩
end Go.Proofs
