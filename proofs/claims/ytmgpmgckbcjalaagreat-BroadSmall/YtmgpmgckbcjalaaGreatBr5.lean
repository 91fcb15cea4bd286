/-
 Pairs. Printed by a program of my own.
-/
import Derived.Test.YtmgpmgckbcjalaaGreatBr4
namespace Go.Brd
open Go.Sl
def okL(l:List KA):Prop:=(∀a∈l,okA a)∧l.length≤128
instance (l:List KA):Decidable (okL l):=by unfold okL;infer_instance
def errP(l:List KA):Int:=if ∀a∈l,okA a then(if 128<l.length then 5 else 0)else 2
def pairsX(l:List KA):List KP:=if errP l=0 then pairsA l else []
theorem errP_ok{l:List KA}(h:okL l):errP l=0:=by unfold errP;rw[if_pos h.1,if_neg (by have:=h.2;omega)]
theorem pairsX_ok{l:List KA}(h:okL l):pairsX l=pairsA l:=if_pos (errP_ok h)
theorem pairsX_bad{l:List KA}(h:errP l≠0):pairsX l=[]:=if_neg h
theorem errP_arg{l:List KA}{k:Nat}{a:KA}(ha:l[k]? =some a)(h:¬okA a):errP l=2:=if_neg fun q=>h (q a (List.mem_of_getElem? ha))
theorem errP_many{l:List KA}(h1:∀a∈l,okA a)(h2:128<l.length):errP l=5:=by unfold errP;rw[if_pos h1,if_pos h2]
theorem okall_next{l:List KA}{k:Nat}{a:KA}(ha:l[k]? =some a)(h:∀a∈l.take k,okA a)(h2:okA a):∀a∈l.take (k+1),okA a:=by
 rw[List.take_add_one,ha]
 intro b hb
 rcases List.mem_append.1 hb with hb|hb
 ·exact h b hb
 ·simp at hb;rw[hb];exact h2
theorem things_take{l:List KA}{k:Nat}{a:KA}(ha:l[k]? =some a):things (l.take (k+1)) 0=things (l.take k) 0++[⟨((k:Nat):Int),a⟩]:=by
 have hk:=(List.getElem?_eq_some_iff.1 ha).1
 rw[List.take_add_one,ha]
 show things (l.take k++[a]) 0=_
 rw[things_snoc,List.length_take,Nat.zero_add,Nat.min_eq_left (by omega)]
theorem things_lx{l:List KA}(h:∀a∈l,okA a):∀(x:KT),x∈things l 0→x.ar.lx≤x.ar.hx:=by
 intro x hx
 obtain⟨k,hk⟩:=List.getElem?_of_mem hx
 rw[things_get]at hk
 cases hl:l[k]? with
 |none=>rw[hl]at hk;cases hk
 |some a=>rw[hl]at hk;injection hk with hk;rw[←hk];exact(h a (List.mem_of_getElem? hl)).1.2.1
theorem pairsT_len:∀(l:List KT),(pairsT l).length≤l.length*l.length
 |[]=>by simp[pairsT]
 |x::l=>by
  have h1:=pairsT_len l
  have h2:(hitsT x l).length≤l.length:=by unfold hitsT;rw[List.length_map];exact List.length_filter_le _ _
  show(hitsT x l++pairsT l).length≤(l.length+1)*(l.length+1)
  rw[List.length_append,Nat.add_mul,Nat.mul_add];omega
theorem pairs_few{ts:List KT}(h:ts.length≤128):∀l:List KP,l.Perm (pairsT ts)→l.length≤1048576:=by
 intro l hl
 rw[hl.length_eq]
 have h1:=pairsT_len ts
 have h2:ts.length*ts.length≤128*128:=Nat.mul_le_mul h h
 omega
end Go.Brd
namespace Go.Proofs
open Go Go.Sl Go.Brd
theorem tf42:Tryz.prog.underlying 22=some (.slice 32):=by kernel_rfl
theorem tf43:slB Tryz.prog 22 32 4=true:=by kernel_rfl
theorem tf44:stB Tryz.prog 87 [(0,1),(1,4)]=true:=by kernel_rfl
theorem tf45:cfB Tryz.prog 46=true:=by kernel_rfl
theorem tf46:cfB Tryz.prog 43=true:=by kernel_rfl
theorem sweep_ok(β:Base)(w:World)(hw:St β [] w)(a:Option Addr)(n c:Nat):Calls Tryz.prog 46 #[.slice a n c] w fun r w'=>∃b,r= .returned (.func (.func 62) #[] #[.pointer (some ⟨b,0,none⟩)])∧St β [pt b (.cells #[.slice a n c] 85)] w':=by
 refine enter (n:=4) Tryz.func46 rfl Tryz.ntmps46 rfl ?_ hw
 refine c_seq ?_
 refine c_region ?_
 refine l_mv rfl rfl rfl (m_box (v:= .slice a n c) rfl) ?_
 rintro _ _ ⟨b1,rfl,rfl⟩
 refine l_val (v:= .nilFunc) rfl rfl rfl (e_assign) ?_
 refine l_nil ?_
 refine f_then ?_
 refine c_seq ?_
 refine c_region ?_
 refine l_val (v:= .func (.func 62) #[] #[.pointer (some ⟨b1,0,none⟩)]) rfl rfl rfl (e_func (u:=[]) (v:=[.pointer (some ⟨b1,0,none⟩)]) rfl rfl) ?_
 refine l_val (v:= .func (.func 62) #[] #[.pointer (some ⟨b1,0,none⟩)]) rfl rfl rfl (e_assign) ?_
 refine l_nil ?_
 refine f_then ?_
 refine c_ret ?_
 refine ret1 Tryz.results46 (v:= .func (.func 62) #[] #[.pointer (some ⟨b1,0,none⟩)]) rfl ?_
 intro w hw
 exact⟨b1,rfl,st_mask [true] rfl hw⟩
set_option maxHeartbeats 4000000 in
theorem pairs_ok(β:Base)(w:World)(hw:St β [] w)(v:Value)(l:List KA)(hs:Sl AreaF.R β.heap v l)(hn:l.length≤1048576):Calls Tryz.prog 17 #[v] w fun r w'=>∃p c,r= .returned (.tuple #[.slice p (pairsX l).length c,Ix (errP l)])∧St β [rowF PairF 55 p c (pairsX l)] w':=by
 obtain⟨va,vc,rfl,vl,vm,ve⟩:=hs.get
 refine enter (n:=30) Tryz.func17 rfl Tryz.ntmps17 rfl ?_ hw
 refine c_seq ?_
 refine c_region ?_
 refine l_val (v:= .slice none 0 0) rfl rfl rfl (e_assign) ?_
 refine l_val (v:= .int .i64 (0)) rfl rfl rfl (e_assign) ?_
 refine l_nil ?_
 refine f_then ?_
 refine c_seq ?_
 refine c_region ?_
 refine l_val (v:= .slice none 0 0) rfl rfl rfl (e_assign) ?_
 refine l_nil ?_
 refine f_then ?_
 refine c_seq ?_
 refine c_seq ?_
 refine c_emp (r:=rowF ThingF 87 none 0 []) (row_nil _ _ _) ?_
 refine c_region ?_
 refine l_val (v:= .slice va (l.length) (vc)) rfl rfl rfl (e_move) ?_
 refine l_val (v:=Nx (l.length)) rfl rfl rfl (e_len (a:=va) (n:=l.length) (c:=vc) rfl tf42) ?_
 refine l_val (v:= .int .i64 (0)) rfl rfl rfl (e_move) ?_
 refine l_nil ?_
 refine f_then ?_
 refine c_block ?_
 refine c_loop (fun(x_:Nat×List KT×Option Addr×Nat) (f:Fm) (L:List Res)=>match x_ with|(k,ts,tp,tc)=>(f 0= .slice va (l.length) (vc)∧f 4= .slice tp (ts.length) tc∧f 7= .slice va (l.length) (vc)∧f 8=Nx (l.length)∧f 9=Nx (k))∧L=[rowF ThingF 87 tp tc ts]∧(k≤l.length∧ts=things (l.take k) 0∧∀a∈l.take k,okA a)) (fun(x_:Nat×List KT×Option Addr×Nat)=>match x_ with|(k,ts,tp,tc)=>l.length-k) (0,[],none,0) ?_ ?_
 ·exact⟨⟨rfl,rfl,rfl,rfl,rfl⟩,rfl,⟨by omega,rfl,fun a ha=>by simp at ha⟩⟩
 rintro⟨k,ts,tp,tc⟩ f0 L0 ⟨⟨hs0,hs4,hs7,hs8,hs9⟩,hL,⟨hk,hts,hok⟩⟩
 subst L0
 refine rebase (d:=0) hs0 ?_
 refine rebase (d:=4) hs4 ?_
 refine rebase (d:=7) hs7 ?_
 refine rebase (d:=8) hs8 ?_
 refine rebase (d:=9) hs9 ?_
 clear hs0 hs4 hs7 hs8 hs9
 have htl:ts.length=k:=by rw[hts,things_len,List.length_take];omega
 refine c_seq ?_
 refine c_region ?_
 refine l_val (v:= .bool (decide (((k:Nat):Int)<((l.length:Nat):Int)))) rfl rfl rfl (e_lss (a:=((k:Nat):Int)) (b:=((l.length:Nat):Int)) rfl rfl) ?_
 refine l_nil ?_
 refine f_then ?_
 refine c_seq ?_
 refine c_if (((k:Nat):Int)<((l.length:Nat):Int)) rfl (fun hc1=> ?_) (fun hc1=> ?_)
 ·
  refine c_skip ?_
  refine f_then ?_
  refine c_seq ?_
  refine c_block ?_
  refine c_seq ?_
  refine c_region ?_
  refine l_val (v:=Nx (k)) rfl rfl rfl (e_move) ?_
  obtain⟨x2,hx3⟩:∃x_,(l)[k]? =some x_:=⟨_,List.getElem?_eq_getElem (by omega)⟩
  obtain⟨ha4,cs5,hc6,rfl⟩:=ve _ _ hx3
  refine l_val (v:= .pointer (some ((ba va).add (k*4)))) rfl rfl rfl (e_indexAddr (k:=k) (len:=l.length) (cap:=vc) (a:=va) rfl rfl tf43 (by omega) ha4) ?_
  refine l_val (v:= .agg (aC x2)) rfl rfl rfl (e_load tf10 (cs:=(areaE x2)) rfl (Knows.of_base (Cs.mono _ _) hc6) rfl) ?_
  refine l_mv rfl rfl rfl (m_alloc tf6) ?_
  rintro _ _ ⟨b8,rfl,rfl⟩
  refine l_val (v:=Nx (k)) rfl rfl rfl (e_assign) ?_
  refine l_mu rfl rfl (m_store 0 tf10 (b:=b8) (o:=0) (T:=32) (cs:= #[.int .i64 (0),.int .i64 (0),.int .i64 (0),.int .i64 (0)]) (cs':=(aC x2)) (v:= .agg (aC x2)) rfl rfl rfl rfl rfl rfl rfl) ?_
  refine l_nil ?_
  refine f_then ?_
  refine c_seq ?_
  refine c_seq ?_
  refine c_region ?_
  refine l_val (v:= .agg (aC x2)) rfl rfl rfl (e_load tf10 (cs:=(areaE x2)) rfl (k_pt 0 (cs:=(aC x2)) (vs:=(areaE x2)) rfl rfl) rfl) ?_
  refine l_call rfl rfl rfl (cl_value (fst:=[]) (cap:=[]) (vs:=[.agg (aC x2)]) (all:=[.agg (aC x2)]) tf11 rfl rfl rfl) ?_
  intro w hw
  obtain⟨β1,sb,kn,hw1,back⟩:=St.frame_all hw
  refine(avalid_ok β1 w hw1 x2).mono ?_
  rintro e w' ⟨rfl,hw'⟩
  refine⟨_,rfl,_,back _ _ hw',?_⟩
  clear hw hw1 hw' back kn sb
  refine l_val (v:= .bool (decide (¬(okA x2)))) rfl rfl rfl (e_not_p (p:=okA x2) rfl) ?_
  refine l_nil ?_
  refine f_then ?_
  refine c_if (¬(okA x2)) rfl (fun hc9=> ?_) (fun hc9=> ?_)
  ·
   refine c_seq ?_
   refine c_region ?_
   refine l_val (v:= .slice none 0 0) rfl rfl rfl (e_assign) ?_
   refine l_val (v:= .int .i64 (2)) rfl rfl rfl (e_assign) ?_
   refine l_nil ?_
   refine f_then ?_
   refine c_ret ?_
   refine f_then_ret ?_
   refine f_block_ret ?_
   refine f_then_ret ?_
   refine f_then_ret ?_
   refine f_block_ret ?_
   refine f_then_ret ?_
   refine ret2 (v:= .slice none 0 0) (v':= .int .i64 (2)) Tryz.results17 rfl rfl ?_
   intro w hw
   have hg:=errP_arg hx3 (by simpa using hc9)
   refine⟨none,0,by rw[pairsX_bad (by rw[hg];decide),hg]<;>rfl,?_⟩
   rw[pairsX_bad (by rw[hg];decide)]
   exact(st_mask [false,false] rfl hw).emp (row_nil _ _ _)
  ·
   refine c_skip ?_
   refine f_then ?_
   refine c_region ?_
   refine l_val (v:= .slice tp (ts.length) tc) rfl rfl rfl (e_move) ?_
   refine l_val (v:=Nx (k)) rfl rfl rfl (e_move) ?_
   refine l_val (v:= .agg (aC x2)) rfl rfl rfl (e_load tf10 (cs:=(areaE x2)) rfl (k_pt 0 (cs:=(aC x2)) (vs:=(areaE x2)) rfl rfl) rfl) ?_
   refine l_val (v:= .agg #[Nx (k),Ix (x2.lx),Ix (x2.ly),Ix (x2.hx),Ix (x2.hy)]) rfl rfl rfl (e_build tf27 tf44 (vs:=[(0,Nx (k)),(1,.agg (aC x2))]) (cells:= #[Nx (k),Ix (x2.lx),Ix (x2.ly),Ix (x2.hx),Ix (x2.hy)]) rfl rfl) ?_
   refine l_mv rfl rfl rfl (m_slices tf24 tf27 (vs:=[(0,.agg #[Nx (k),Ix (x2.lx),Ix (x2.ly),Ix (x2.hx),Ix (x2.hy)])]) (cells:= #[Nx (k),Ix (x2.lx),Ix (x2.ly),Ix (x2.hx),Ix (x2.hy)]) rfl rfl rfl rfl) ?_
   rintro _ _ ⟨b10,rfl,rfl⟩
   refine l_mv rfl rfl rfl (m_appendFlN (F:=ThingF) 2 tf24 tf34 (p:=tp) (m:=ts.length) (xs:=ts) (ys:=[(⟨((k:Nat):Int),x2⟩:KT)]) (ao:=(some ⟨b10,0,none⟩)) (k:=1) (c:=1) rfl rfl rfl rfl rfl (k_ptFl (z:=(⟨((k:Nat):Int),x2⟩:KT)) 0 rfl rfl) (by first|omega|simp only[List.length_nil,List.length_cons,List.length_append,List.length_set];omega) (by first|omega|simp only[List.length_nil,List.length_cons,List.length_append,List.length_set];omega)) ?_
   rintro _ _ ⟨rp11,rc12,rfl,rfl⟩
   refine l_val (v:= .slice rp11 ((ts++[(⟨((k:Nat):Int),x2⟩:KT)]).length) rc12) rfl rfl rfl (e_assign) ?_
   refine l_nil ?_
   refine f_block ?_
   refine f_then ?_
   refine c_region ?_
   refine l_val (v:=Nx (k+1)) rfl rfl rfl (e_add (a:=((k:Nat):Int)) (b:=(1:Int)) rfl rfl (i64n (by omega) (by omega))) ?_
   refine l_val (v:=Nx (k+1)) rfl rfl rfl (e_move) ?_
   refine l_nil ?_
   refine f_mask (L':=[rowF ThingF 87 rp11 rc12 (ts++[(⟨((k:Nat):Int),x2⟩:KT)])]) [false,false,true] rfl ?_
   exact f_cut ⟨(k+1,(ts++[(⟨((k:Nat):Int),x2⟩:KT)]),rp11,rc12),⟨⟨rfl,rfl,rfl,rfl,rfl⟩,rfl,⟨by omega,by rw[hts];exact(things_take hx3).symm,okall_next hx3 hok (by simpa using hc9)⟩⟩,(show l.length-(k+1)<l.length-k from by omega)⟩
 ·
  refine c_exit ?_
  refine f_then_exit ?_
  refine f_then_exit ?_
  refine f_exit ?_
  refine f_then ?_
  refine c_seq ?_
  refine c_seq ?_
  refine c_region ?_
  refine l_val (v:= .slice va (l.length) (vc)) rfl rfl rfl (e_move) ?_
  refine l_val (v:=Nx (l.length)) rfl rfl rfl (e_len (a:=va) (n:=l.length) (c:=vc) rfl tf42) ?_
  refine l_val (v:= .bool (decide ((128:Int)<((l.length:Nat):Int)))) rfl rfl rfl (e_gtr (a:=((l.length:Nat):Int)) (b:=(128:Int)) rfl rfl) ?_
  refine l_nil ?_
  refine f_then ?_
  refine c_if ((128:Int)<((l.length:Nat):Int)) rfl (fun hc13=> ?_) (fun hc13=> ?_)
  ·
   refine c_seq ?_
   refine c_region ?_
   refine l_val (v:= .slice none 0 0) rfl rfl rfl (e_assign) ?_
   refine l_val (v:= .int .i64 (5)) rfl rfl rfl (e_assign) ?_
   refine l_nil ?_
   refine f_then ?_
   refine c_ret ?_
   refine f_then_ret ?_
   refine ret2 (v:= .slice none 0 0) (v':= .int .i64 (5)) Tryz.results17 rfl rfl ?_
   intro w hw
   have hg:=errP_many (by rw[List.take_of_length_le (by omega)]at hok;exact hok) (by omega)
   refine⟨none,0,by rw[pairsX_bad (by rw[hg];decide),hg]<;>rfl,?_⟩
   rw[pairsX_bad (by rw[hg];decide)]
   exact(st_mask [false] rfl hw).emp (row_nil _ _ _)
  ·
   refine c_skip ?_
   refine f_then ?_
   refine c_seq ?_
   rw[List.take_of_length_le (by omega)]at hts hok
   have htl:ts.length=l.length:=by rw[hts,things_len]
   have hvt:∀x∈ts,x.ar.lx≤x.ar.hx:=by rw[hts];exact things_lx hok
   refine c_region ?_
   refine l_val (v:= .slice tp (ts.length) tc) rfl rfl rfl (e_move) ?_
   refine l_call rfl rfl rfl (cl_value (fst:=[]) (cap:=[]) (vs:=[.slice tp (ts.length) tc]) (all:=[.slice tp (ts.length) tc]) tf45 rfl rfl rfl) ?_
   intro w hw
   obtain⟨β1,sb,kn,hw1,back⟩:=St.frame_all hw
   refine(sweep_ok β1 w hw1 tp ts.length tc).mono ?_
   rintro e w' ⟨b14,rfl,hw'⟩
   refine⟨_,rfl,_,back _ _ hw',?_⟩
   clear hw hw1 hw' back kn sb
   refine l_call rfl rfl rfl (cl_value (fst:=[]) (cap:=[]) (vs:=[.func (.func 62) #[] #[.pointer (some ⟨b14,0,none⟩)],.func (.func 42) #[] #[]]) (all:=[.func (.func 62) #[] #[.pointer (some ⟨b14,0,none⟩)],.func (.func 42) #[] #[]]) tf46 rfl rfl rfl) ?_
   intro w hw
   replace hw:=hw.perm (L':=_::_::[]) (by exact((perm_front 1 rfl).trans (perm_front 1 rfl)))
   obtain⟨β1,sb,kn,hw1,back⟩:=St.frame (L:=[_,_]) (M:=[]) hw
   refine(sorted_ok β1 w _ _ _ (sweep_seq β1 b14 _ _ ts (by omega) hvt) (pairs_few (by omega)) hw1).mono ?_
   rintro e w' ⟨p15,c16,xs17,hS18,rfl,hw'⟩
   refine⟨_,rfl,_,back _ _ hw',?_⟩
   clear hw hw1 hw' back kn sb
   refine l_val (v:= .slice p15 ((sortP xs17).length) c16) rfl rfl rfl (e_assign) ?_
   refine l_val (v:= .int .i64 (0)) rfl rfl rfl (e_assign) ?_
   refine l_nil ?_
   refine f_then ?_
   refine c_ret ?_
   refine ret2 (v:= .slice p15 ((sortP xs17).length) c16) (v':= .int .i64 (0)) Tryz.results17 rfl rfl ?_
   intro w hw
   have he:sortP xs17=pairsA l:=by rw[pairsA,←hts];exact sortP_eq ((sortP_perm _).trans hS18) (sortP_sorted _)
   have hg:okL l:=⟨hok,by omega⟩
   refine⟨p15,c16,by rw[pairsX_ok hg,errP_ok hg,←he],by rw[pairsX_ok hg,←he];exact st_mask [true] rfl hw⟩
end Go.Proofs
