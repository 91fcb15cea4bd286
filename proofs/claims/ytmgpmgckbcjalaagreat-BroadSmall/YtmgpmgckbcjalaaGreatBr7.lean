/-
 Query, Changes: walked. Printed by a program of my own.
-/
import Derived.Test.YtmgpmgckbcjalaaGreatBr6
import Derived.Test.YtmgpmgckbcjalaaGreatBrSortI
namespace Go.Proofs
open Go Go.Sl Go.Brd
def swb:Value→Nat| .func _ _ ⟨[.pointer (some a)]⟩=>a.block|_=>0
theorem sortI_len(xs:List Int):(sortI xs).length=xs.length:=(sortI_perm xs).length_eq
theorem keys_pre{pre:List (KP×Unit)}{x:KP×Unit}{tz:List KP}(h:∃rs,(pre++[x]++rs).Perm (tz.map tg)):∃l:List KP,l.Perm tz∧pre.map (·.1)++[x.1]<+:l:=by
 obtain⟨rs,h⟩:=h
 refine⟨(pre++[x]++rs).map (·.1),?_,?_⟩
 ·have:=h.map (·.1)
  rwa [List.map_map,show((fun x:KP×Unit=>x.1)∘tg)=id from rfl,List.map_id]at this
 ·rw[List.map_append,List.map_append];exact List.prefix_append _ _
theorem keys_all{pre:List (KP×Unit)}{tz:List KP}(h:pre.Perm (tz.map tg)):(pre.map (·.1)).Perm tz:=by
 have:=h.map (·.1)
 rwa [List.map_map,show((fun x:KP×Unit=>x.1)∘tg)=id from rfl,List.map_id]at this
theorem sortedE_ok(β:Base)(w:World)(fn:Value)(E:List KP)(K:List Res)(hs:SeqK Tryz.prog β fn (fun z:KP=>[.agg #[Ix (z.a),Ix (z.b)]]) (fun l=>l.Perm E) K)(hn:E.length≤1048576)(hw:St β K w):Calls Tryz.prog 43 #[fn,.func (.func 42) #[] #[]] w fun r w'=>∃p c,r= .returned (.slice p (sortP E).length c)∧St β [rowF PairF 55 p c (sortP E)] w':=by
 refine(sorted_ok β w fn _ K hs (fun l hl=>by rw[hl.length_eq];exact hn) hw).mono ?_
 rintro r w' ⟨p,c,xs,hS,rfl,hw'⟩
 rw[sortP_perm_eq hS]at hw'⊢
 exact⟨p,c,rfl,hw'⟩
theorem tf55:cfB Tryz.prog 50=true:=by kernel_rfl
theorem tf56:elB Tryz.prog 3 1 8=true:=by kernel_rfl
theorem tf57:Tryz.prog.underlying 71=some (.map 55 75):=by kernel_rfl
theorem tf58:tyB Tryz.prog 71 false 1=true:=by kernel_rfl
theorem tf59:(Tryz.prog.info? 38).bind (·.zero)=some (.slice none 0 0):=by kernel_rfl
theorem tf60:fldB Tryz.prog 73 1 1 1 false=true:=by kernel_rfl
theorem tf61:cfB Tryz.prog 39=true:=by kernel_rfl
theorem tf62:(Tryz.prog.info? 71).bind (·.zero)=some (.map none):=by kernel_rfl
theorem tf63:(Tryz.prog.info? 75).bind (·.zero)=some (.agg #[]):=by kernel_rfl
theorem tf64:tyB Tryz.prog 75 true 0=true:=by kernel_rfl
theorem tf65:Tryz.prog.underlying 38=some (.slice 55):=by kernel_rfl
theorem tf66:stB Tryz.prog 75 []=true:=by kernel_rfl
theorem tf67:cfB Tryz.prog 44=true:=by kernel_rfl
set_option maxHeartbeats 4000000 in
theorem query_ok(β:Base)(w:World)(b:Nat)(s:KSp)(hw:St β [spcR b s] w)(hk:s.ok)(a:KA):Calls Tryz.prog 26 #[.pointer (some ⟨b,0,none⟩),.agg (aC a)] w fun r w'=>∃p c,r= .returned (.slice p (queryX s a).length c)∧St β [rowF IntF 3 p c (queryX s a),spcR b s] w':=by
 refine enter (n:=37) Tryz.func26 rfl Tryz.ntmps26 rfl ?_ hw
 refine c_seq ?_
 refine c_openSpc rfl (fun ma mt az tz hpa hpt=> ?_)
 have hal:=hpa.length_eq
 have htl:=hpt.length_eq
 have hkf:=hk.few
 have hkm:=hk.many
 refine c_region ?_
 refine l_mv rfl rfl rfl (m_box (v:= .agg (aC a)) rfl) ?_
 rintro _ _ ⟨b1,rfl,rfl⟩
 refine l_val (v:= .slice none 0 0) rfl rfl rfl (e_assign) ?_
 refine l_nil ?_
 refine f_then ?_
 refine c_seq ?_
 refine c_seq ?_
 refine c_region ?_
 refine l_val (v:= .pointer (some ⟨b,0,none⟩)) rfl rfl rfl (e_move) ?_
 refine l_call rfl rfl rfl (cl_value (fst:=[]) (cap:=[]) (vs:=[.pointer (some ⟨b,0,none⟩)]) (all:=[.pointer (some ⟨b,0,none⟩)]) tf53 rfl rfl rfl) ?_
 intro w hw
 obtain⟨β1,sb,kn,hw1,back⟩:=St.frame_all hw
 refine(right_ok β1 w hw1 _ _ _ (kn _ (k_pt 1 (o:=0) (cs:= #[.map (some ma),.map (some mt)]) (vs:=[.map (some ma),.map (some mt)]) rfl rfl))).mono ?_
 rintro e w' ⟨rfl,hw'⟩
 refine⟨_,rfl,_,back _ _ hw',?_⟩
 clear hw hw1 hw' back kn sb
 refine l_val (v:= .bool false) rfl rfl rfl (e_not (a:=true) rfl) ?_
 refine l_val (v:= .bool false) rfl rfl rfl (e_move) ?_
 refine g_val (v:= .agg (aC a)) rfl rfl rfl rfl rfl (e_load tf10 (cs:=(areaE a)) rfl (k_pt 0 (cs:=(aC a)) (vs:=(areaE a)) rfl rfl) rfl) ?_
 refine g_call rfl rfl rfl rfl rfl (cl_value (fst:=[]) (cap:=[]) (vs:=[.agg (aC a)]) (all:=[.agg (aC a)]) tf11 rfl rfl rfl) ?_
 intro w hw
 obtain⟨β1,sb,kn,hw1,back⟩:=St.frame_all hw
 refine(avalid_ok β1 w hw1 a).mono ?_
 rintro e w' ⟨rfl,hw'⟩
 refine⟨_,rfl,_,back _ _ hw',?_⟩
 clear hw hw1 hw' back kn sb
 refine g_val (v:= .bool (decide (¬(okA a)))) rfl rfl rfl rfl rfl (e_not_p (p:=okA a) rfl) ?_
 refine l_val (v:= .bool (decide (¬(okA a)))) rfl rfl rfl (e_pick_f rfl) ?_
 refine l_nil ?_
 refine f_then ?_
 refine c_if (¬(okA a)) rfl (fun hc2=> ?_) (fun hc2=> ?_)
 ·
  refine c_seq ?_
  refine c_region ?_
  refine l_val (v:= .slice none 0 0) rfl rfl rfl (e_assign) ?_
  refine l_nil ?_
  refine f_then ?_
  refine c_ret ?_
  refine f_then_ret ?_
  refine ret1 Tryz.results26 (v:= .slice none 0 0) rfl ?_
  intro w hw
  have hx:queryX s a=[]:=if_neg (by simpa using hc2)
  replace hw:=hw.perm (L':=[pt b (.cells #[.map (some ma),.map (some mt)] 73),mpR ArM ma az,mpR ToM mt (tz.map tg),pt b1 (.cells (aC a) 32)]) (by exact(perm_ix [1,2,3,0] 4 rfl (by kernel_rfl) (by kernel_rfl)))
  have hs:=St.closeSpc (M:=[pt b1 (.cells (aC a) 32)]) hw hpa hpt
  exact⟨none,0,by rw[hx]<;>rfl,by rw[hx];exact(st_mask [true,false] rfl hs).emp (row_nil _ _ _)⟩
 ·
  refine c_skip ?_
  refine f_then ?_
  refine c_seq ?_
  refine c_region ?_
  refine l_val (v:= .slice none 0 0) rfl rfl rfl (e_assign) ?_
  refine l_nil ?_
  refine f_then ?_
  refine c_seq ?_
  refine c_seq ?_
  refine c_emp (r:=rowF IntF 3 none 0 []) (row_nil _ _ _) ?_
  refine c_region ?_
  refine l_val (v:= .pointer (some ⟨b,0,none⟩)) rfl rfl rfl (e_move) ?_
  refine l_val (v:= .pointer (some ⟨b,0,none⟩)) rfl rfl rfl (e_nil (a:=⟨b,0,none⟩) rfl) ?_
  refine l_val (v:= .pointer (some ⟨b,0,none⟩)) rfl rfl rfl (e_fieldPt (b:=b) (o:=0) rfl tf50) ?_
  refine l_val (v:= .map (some ma)) rfl rfl rfl (e_load1 tf51 (v:= .map (some ma)) rfl (k_pt 2 (cs:= #[.map (some ma),.map (some mt)]) (vs:=[.map (some ma)]) rfl rfl)) ?_
  refine l_mv rfl rfl rfl (m_range (K:=ArM) (b:=ma) (ks:=az) 3 rfl rfl rfl) ?_
  rintro _ _ ⟨it3,rfl,rfl⟩
  refine l_nil ?_
  refine f_then ?_
  refine c_block ?_
  refine c_loop (fun(x_:List (Int×KA)×List Int×Option Addr×Nat) (f:Fm) (L:List Res)=>match x_ with|(pre,qs,qp,qc)=>(f 3= .pointer (some ⟨b1,0,none⟩)∧f 5= .slice qp (qs.length) qc∧f 20= .pointer (some ⟨it3,0,none⟩))∧L=[rowF IntF 3 qp qc qs,pt b1 (.cells (aC a) 32),pt b (.cells #[.map (some ma),.map (some mt)] 73),rgR ArM ma it3 az pre,mpR ToM mt (tz.map tg)]∧(pre.length≤az.length∧qs=(pre.filter fun p=>decide (okA (comA a p.2))).map (·.1))) (fun(x_:List (Int×KA)×List Int×Option Addr×Nat)=>match x_ with|(pre,qs,qp,qc)=>az.length-pre.length) ([],[],none,0) ?_ ?_
  ·exact⟨⟨rfl,rfl,rfl⟩,rfl,⟨Nat.zero_le _,rfl⟩⟩
  rintro⟨pre,qs,qp,qc⟩ f0 L0 ⟨⟨hs3,hs5,hs20⟩,hL,⟨hpl,hqs⟩⟩
  subst L0
  refine rebase (d:=3) hs3 ?_
  refine rebase (d:=5) hs5 ?_
  refine rebase (d:=20) hs20 ?_
  clear hs3 hs5 hs20
  have hql:qs.length≤pre.length:=by rw[hqs];exact hits_le _ _
  refine c_seq ?_
  refine c_region ?_
  refine l_mv rfl rfl rfl (m_next (K:=ArM) (b:=ma) (r:=it3) (ks:=az) (pre:=pre) 3 rfl rfl) ?_
  rintro _ _ (⟨rfl,he6,rfl⟩|⟨x4,rfl,hx5,rfl⟩)
  ·
   refine l_val (v:= .bool false) rfl rfl rfl (e_extract (vs:= #[.bool false]) rfl rfl) ?_
   refine l_nil ?_
   refine f_then ?_
   refine c_seq ?_
   refine c_no rfl ?_
   refine c_exit ?_
   refine f_then_exit ?_
   refine f_then_exit ?_
   refine f_exit ?_
   refine f_then ?_
   refine c_seq ?_
   refine c_conseq 3 (r':=mpR ArM ma az) rfl (fun a h=>rgR_mp a h) ?_
   have hql:qs.length≤pre.length:=by rw[hqs];exact hits_le _ _
   refine c_region ?_
   refine l_val (v:= .slice qp (qs.length) qc) rfl rfl rfl (e_move) ?_
   refine l_call rfl rfl rfl (cl_value (fst:=[]) (cap:=[]) (vs:=[.slice qp (qs.length) qc]) (all:=[.slice qp (qs.length) qc]) tf55 rfl rfl rfl) ?_
   intro w hw
   replace hw:=hw.perm (L':=_::_::_::_::_::[]) (by exact(((((perm_front 4 rfl).trans (perm_front 4 rfl)).trans (perm_front 4 rfl)).trans (perm_front 4 rfl)).trans (perm_front 4 rfl)))
   obtain⟨β1,sb,kn,hw1,back⟩:=St.frame (L:=[_]) (M:=_::_::_::_::[]) hw
   refine(sortI_ok β1 w _ _ qs hw1 (by omega)).mono ?_
   rintro e w' ⟨rfl,hw'⟩
   refine⟨_,rfl,_,back _ _ hw',?_⟩
   clear hw hw1 hw' back kn sb
   refine l_nil ?_
   refine f_then ?_
   refine c_seq ?_
   refine c_region ?_
   refine l_val (v:= .slice qp (qs.length) qc) rfl rfl rfl (e_move) ?_
   refine l_val (v:= .slice qp (qs.length) qc) rfl rfl rfl (e_assign) ?_
   refine l_nil ?_
   refine f_then ?_
   refine c_ret ?_
   refine ret1 Tryz.results26 (v:= .slice qp (qs.length) qc) rfl ?_
   intro w hw
   have hx:sortI qs=queryX s a:=by rw[queryX,if_pos (by simpa using hc2),queryS,hqs];exact sortI_eq (hitS_of he6 hpa)
   replace hw:=hw.perm (L':=[pt b (.cells #[.map (some ma),.map (some mt)] 73),mpR ArM ma az,mpR ToM mt (tz.map tg),rowF IntF 3 qp qc (sortI qs),pt b1 (.cells (aC a) 32)]) (by exact(perm_ix [2,3,4,0,1] 5 rfl (by kernel_rfl) (by kernel_rfl)))
   have hs:=St.closeSpc (M:=[rowF IntF 3 qp qc (sortI qs),pt b1 (.cells (aC a) 32)]) hw hpa hpt
   replace hs:=hs.perm (L':=[rowF IntF 3 qp qc (sortI qs),spcR b s,pt b1 (.cells (aC a) 32)]) (by exact(perm_ix [1,0,2] 3 rfl (by kernel_rfl) (by kernel_rfl)))
   exact⟨qp,qc,by rw[←hx,sortI_len],by rw[←hx];exact st_mask [true,true,false] rfl hs⟩
  ·
   refine l_val (v:= .bool true) rfl rfl rfl (e_extract (vs:= #[.bool true,Ix (x4.1),.agg (aC x4.2)]) rfl rfl) ?_
   refine l_nil ?_
   refine f_then ?_
   refine c_seq ?_
   refine c_yes rfl ?_
   refine c_skip ?_
   refine f_then ?_
   refine c_block ?_
   refine c_seq ?_
   refine c_region ?_
   refine l_val (v:= .tuple #[Ix (x4.1),.agg (aC x4.2)]) rfl rfl rfl (e_entry (K:=ArM) (b:=ma) (r:=it3) (ks:=az) (pre:=pre) (y:=x4) 3 rfl rfl) ?_
   refine l_val (v:=Ix (x4.1)) rfl rfl rfl (e_extract (vs:= #[Ix (x4.1),.agg (aC x4.2)]) rfl rfl) ?_
   refine l_val (v:= .agg (aC x4.2)) rfl rfl rfl (e_extract (vs:= #[Ix (x4.1),.agg (aC x4.2)]) rfl rfl) ?_
   refine l_mv rfl rfl rfl (m_alloc tf6) ?_
   rintro _ _ ⟨b7,rfl,rfl⟩
   refine l_val (v:=Ix (x4.1)) rfl rfl rfl (e_assign) ?_
   refine l_mu rfl rfl (m_store 0 tf10 (b:=b7) (o:=0) (T:=32) (cs:= #[.int .i64 (0),.int .i64 (0),.int .i64 (0),.int .i64 (0)]) (cs':=(aC x4.2)) (v:= .agg (aC x4.2)) rfl rfl rfl rfl rfl rfl rfl) ?_
   refine l_nil ?_
   refine f_then ?_
   refine c_seq ?_
   refine c_region ?_
   refine l_val (v:= .agg (aC a)) rfl rfl rfl (e_load tf10 (cs:=(areaE a)) rfl (k_pt 2 (cs:=(aC a)) (vs:=(areaE a)) rfl rfl) rfl) ?_
   refine l_val (v:= .agg (aC x4.2)) rfl rfl rfl (e_load tf10 (cs:=(areaE x4.2)) rfl (k_pt 0 (cs:=(aC x4.2)) (vs:=(areaE x4.2)) rfl rfl) rfl) ?_
   refine l_call rfl rfl rfl (cl_value (fst:=[]) (cap:=[]) (vs:=[.agg (aC a),.agg (aC x4.2)]) (all:=[.agg (aC a),.agg (aC x4.2)]) tf12 rfl rfl rfl) ?_
   intro w hw
   obtain⟨β1,sb,kn,hw1,back⟩:=St.frame_all hw
   refine(common_ok β1 w hw1 a x4.2).mono ?_
   rintro e w' ⟨rfl,hw'⟩
   refine⟨_,rfl,_,back _ _ hw',?_⟩
   clear hw hw1 hw' back kn sb
   refine l_call rfl rfl rfl (cl_value (fst:=[]) (cap:=[]) (vs:=[.agg (aC (comA a x4.2))]) (all:=[.agg (aC (comA a x4.2))]) tf11 rfl rfl rfl) ?_
   intro w hw
   obtain⟨β1,sb,kn,hw1,back⟩:=St.frame_all hw
   refine(avalid_ok β1 w hw1 (comA a x4.2)).mono ?_
   rintro e w' ⟨rfl,hw'⟩
   refine⟨_,rfl,_,back _ _ hw',?_⟩
   clear hw hw1 hw' back kn sb
   refine l_nil ?_
   refine f_then ?_
   refine c_if (okA (comA a x4.2)) rfl (fun hc8=> ?_) (fun hc8=> ?_)
   ·
    refine c_region ?_
    refine l_val (v:= .slice qp (qs.length) qc) rfl rfl rfl (e_move) ?_
    refine l_val (v:=Ix (x4.1)) rfl rfl rfl (e_move) ?_
    refine l_mv rfl rfl rfl (m_slices tf16 tf21 (vs:=[(0,Ix (x4.1))]) (cells:= #[Ix (x4.1)]) rfl rfl rfl rfl) ?_
    rintro _ _ ⟨b9,rfl,rfl⟩
    refine l_mv rfl rfl rfl (m_appendFlN (F:=IntF) 2 tf16 tf56 (p:=qp) (m:=qs.length) (xs:=qs) (ys:=[x4.1]) (ao:=(some ⟨b9,0,none⟩)) (k:=1) (c:=1) rfl rfl rfl rfl rfl (k_ptFl (z:=x4.1) 0 rfl rfl) (by first|omega|simp only[List.length_nil,List.length_cons,List.length_append,List.length_set];omega) (by first|omega|simp only[List.length_nil,List.length_cons,List.length_append,List.length_set];omega)) ?_
    rintro _ _ ⟨rp10,rc11,rfl,rfl⟩
    refine l_val (v:= .slice rp10 ((qs++[x4.1]).length) rc11) rfl rfl rfl (e_assign) ?_
    refine l_nil ?_
    refine f_block ?_
    refine f_mask (L':=[rowF IntF 3 rp10 rc11 (qs++[x4.1]),pt b1 (.cells (aC a) 32),pt b (.cells #[.map (some ma),.map (some mt)] 73),rgR ArM ma it3 az (pre++[x4]),mpR ToM mt (tz.map tg)]) [false,false,true,true,true,true,true] rfl ?_
    exact f_cut ⟨((pre++[x4]),(qs++[x4.1]),rp10,rc11),⟨⟨rfl,rfl,rfl⟩,rfl,⟨pre_le hx5,by rw[hqs];exact hit_yes hc8⟩⟩,(pre_lt hx5)⟩
   ·
    refine c_skip ?_
    refine f_block ?_
    refine f_mask (L':=[rowF IntF 3 qp qc qs,pt b1 (.cells (aC a) 32),pt b (.cells #[.map (some ma),.map (some mt)] 73),rgR ArM ma it3 az (pre++[x4]),mpR ToM mt (tz.map tg)]) [false,true,true,true,true,true] rfl ?_
    exact f_cut ⟨((pre++[x4]),qs,qp,qc),⟨⟨rfl,rfl,rfl⟩,rfl,⟨pre_le hx5,by rw[hqs];exact hit_no hc8⟩⟩,(pre_lt hx5)⟩
theorem clone_ok(β:Base)(w:World)(m:Nat)(ks:List (KP×Unit))(hw:St β [mpR ToM m ks] w):Calls Tryz.prog 39 #[.map (some m)] w fun r w'=>∃b,r= .returned (.map (some b))∧St β [mpR ToM b ks,mpR ToM m ks] w':=by
 refine enter (n:=9) Tryz.func39 rfl Tryz.ntmps39 rfl ?_ hw
 refine c_seq ?_
 refine c_region ?_
 refine l_val (v:= .map none) rfl rfl rfl (e_assign) ?_
 refine l_nil ?_
 refine f_then ?_
 refine c_seq ?_
 refine c_seq ?_
 refine c_region ?_
 refine l_val (v:= .map (some m)) rfl rfl rfl (e_move) ?_
 refine l_val (v:= .bool false) rfl rfl rfl (e_eql_mnil (b:=some m) rfl rfl tf57) ?_
 refine l_nil ?_
 refine f_then ?_
 refine c_no rfl ?_
 refine c_skip ?_
 refine f_then ?_
 refine c_seq ?_
 refine c_region ?_
 refine l_val (v:= .map (some m)) rfl rfl rfl (e_move) ?_
 refine l_val (v:= .iface 71 (.map (some m))) rfl rfl rfl (e_mkiface (v:= .map (some m)) rfl tf57 rfl) ?_
 refine l_mv rfl rfl rfl (m_clone (K:=ToM) (h:=54) (b:=m) (ks:=ks) 0 rfl clone59 rfl rfl) ?_
 rintro _ _ ⟨b1,rfl,rfl⟩
 refine l_val (v:= .map (some b1)) rfl rfl rfl (e_assert (v:= .map (some b1)) rfl tf57 rfl) ?_
 refine l_val (v:= .map (some b1)) rfl rfl rfl (e_assign) ?_
 refine l_nil ?_
 refine f_then ?_
 refine c_ret ?_
 refine ret1 Tryz.results39 (v:= .map (some b1)) rfl ?_
 intro w hw
 exact⟨b1,rfl,st_mask [true,true] rfl hw⟩
theorem keys_ok(β:Base)(w:World)(hw:St β [] w)(m:Nat):Calls Tryz.prog 44 #[.map (some m)] w fun r w'=>∃b,r= .returned (.func (.func 60) #[] #[.pointer (some ⟨b,0,none⟩)])∧St β [pt b (.cells #[.map (some m)] 71)] w':=by
 refine enter (n:=4) Tryz.func44 rfl Tryz.ntmps44 rfl ?_ hw
 refine c_seq ?_
 refine c_region ?_
 refine l_mv rfl rfl rfl (m_box (v:= .map (some m)) rfl) ?_
 rintro _ _ ⟨b1,rfl,rfl⟩
 refine l_val (v:= .nilFunc) rfl rfl rfl (e_assign) ?_
 refine l_nil ?_
 refine f_then ?_
 refine c_seq ?_
 refine c_region ?_
 refine l_val (v:= .func (.func 60) #[] #[.pointer (some ⟨b1,0,none⟩)]) rfl rfl rfl (e_func (u:=[]) (v:=[.pointer (some ⟨b1,0,none⟩)]) rfl rfl) ?_
 refine l_val (v:= .func (.func 60) #[] #[.pointer (some ⟨b1,0,none⟩)]) rfl rfl rfl (e_assign) ?_
 refine l_nil ?_
 refine f_then ?_
 refine c_ret ?_
 refine ret1 Tryz.results44 (v:= .func (.func 60) #[] #[.pointer (some ⟨b1,0,none⟩)]) rfl ?_
 intro w hw
 exact⟨b1,rfl,st_mask [true] rfl hw⟩
theorem keys_seq(β:Base)(b m:Nat)(tz:List KP):SeqK Tryz.prog β (.func (.func 60) #[] #[.pointer (some ⟨b,0,none⟩)]) (fun z:KP=>[.agg #[Ix (z.a),Ix (z.b)]]) (fun l=>l.Perm tz) [pt b (.cells #[.map (some m)] 71),mpR ToM m (tz.map tg)]:=by
 refine⟨60,[],[.pointer (some ⟨b,0,none⟩)],rfl,by kernel_rfl,fun β₁ ext l J X hY M w hJ hw=> ?_⟩
 replace hw:=hw.perm (List.perm_append_comm)
 refine enter (n:=14) Tryz.func60 rfl Tryz.ntmps60 rfl ?_ hw
 refine c_seq ?_
 refine c_region ?_
 refine l_val (v:= .map (some m)) rfl rfl rfl (e_load1 tf58 (v:= .map (some m)) rfl (k_pt 0 (cs:= #[.map (some m)]) (vs:=[.map (some m)]) rfl rfl)) ?_
 refine l_mv rfl rfl rfl (m_range (K:=ToM) (b:=m) (ks:=(tz.map tg)) 1 rfl rfl rfl) ?_
 rintro _ _ ⟨it1,rfl,rfl⟩
 refine l_nil ?_
 refine f_then ?_
 refine c_block ?_
 refine c_loop (fun(x_:List (KP×Unit)×List Res) (f:Fm) (L:List Res)=>match x_ with|(pre,M)=>(f 0=yfn l∧f 5= .pointer (some ⟨it1,0,none⟩))∧L=(pt b (.cells #[.map (some m)] 71)::rgR ToM m it1 (tz.map tg) pre::M)∧(pre.length≤(tz.map tg).length∧J (pre.map (·.1)) M)) (fun(x_:List (KP×Unit)×List Res)=>match x_ with|(pre,M)=>(tz.map tg).length-pre.length) ([],M) ?_ ?_
 ·exact⟨⟨rfl,rfl⟩,rfl,⟨Nat.zero_le _,hJ⟩⟩
 rintro⟨pre,M⟩ f0 L0 ⟨⟨hs0,hs5⟩,hL,⟨hpl,hJ⟩⟩
 subst L0
 refine rebase (d:=0) hs0 ?_
 refine rebase (d:=5) hs5 ?_
 clear hs0 hs5
 refine c_seq ?_
 refine c_region ?_
 refine l_mv rfl rfl rfl (m_next (K:=ToM) (b:=m) (r:=it1) (ks:=(tz.map tg)) (pre:=pre) 1 rfl rfl) ?_
 rintro _ _ (⟨rfl,he4,rfl⟩|⟨x2,rfl,hx3,rfl⟩)
 ·
  refine l_val (v:= .bool false) rfl rfl rfl (e_extract (vs:= #[.bool false]) rfl rfl) ?_
  refine l_nil ?_
  refine f_then ?_
  refine c_seq ?_
  refine c_no rfl ?_
  refine c_exit ?_
  refine f_then_exit ?_
  refine f_then_exit ?_
  refine f_exit ?_
  refine end0 Tryz.results60 ?_
  intro w hw
  exact⟨⟨_,rfl⟩,.inl ⟨_,M,keys_all he4,hJ,st_mask [false,false] rfl hw⟩⟩
 ·
  refine l_val (v:= .bool true) rfl rfl rfl (e_extract (vs:= #[.bool true,.agg #[Ix (x2.1.a),Ix (x2.1.b)],.agg #[]]) rfl rfl) ?_
  refine l_nil ?_
  refine f_then ?_
  refine c_seq ?_
  refine c_yes rfl ?_
  refine c_skip ?_
  refine f_then ?_
  refine c_block ?_
  refine c_seq ?_
  refine c_region ?_
  refine l_val (v:= .tuple #[.agg #[Ix (x2.1.a),Ix (x2.1.b)],.agg #[]]) rfl rfl rfl (e_entry (K:=ToM) (b:=m) (r:=it1) (ks:=(tz.map tg)) (pre:=pre) (y:=x2) 1 rfl rfl) ?_
  refine l_val (v:= .agg #[Ix (x2.1.a),Ix (x2.1.b)]) rfl rfl rfl (e_extract (vs:= #[.agg #[Ix (x2.1.a),Ix (x2.1.b)],.agg #[]]) rfl rfl) ?_
  refine l_mv rfl rfl rfl (m_alloc tf33) ?_
  rintro _ _ ⟨b5,rfl,rfl⟩
  refine l_mu rfl rfl (m_store 0 tf35 (b:=b5) (o:=0) (T:=55) (cs:= #[.int .i64 (0),.int .i64 (0)]) (cs':= #[Ix (x2.1.a),Ix (x2.1.b)]) (v:= .agg #[Ix (x2.1.a),Ix (x2.1.b)]) rfl rfl rfl rfl rfl rfl rfl) ?_
  refine l_nil ?_
  refine f_then ?_
  refine c_seq ?_
  refine c_region ?_
  refine l_val (v:=yfn l) rfl rfl rfl (e_move) ?_
  refine l_val (v:= .agg #[Ix (x2.1.a),Ix (x2.1.b)]) rfl rfl rfl (e_load tf35 (cs:=[Ix (x2.1.a),Ix (x2.1.b)]) rfl (k_pt 0 (cs:= #[Ix (x2.1.a),Ix (x2.1.b)]) (vs:=[Ix (x2.1.a),Ix (x2.1.b)]) rfl rfl) rfl) ?_
  refine l_yield (own:=[pt b5 (.cells #[Ix (x2.1.a),Ix (x2.1.b)] 55),pt b (.cells #[.map (some m)] 71),rgR ToM m it1 (tz.map tg) (pre++[x2])]) (M:=M) (d:=12) (enc:=fun z:KP=>[.agg #[Ix (z.a),Ix (z.b)]]) (pre:=pre.map (·.1)) (x:=x2.1) rfl rfl rfl rfl hY (keys_pre hx3) hJ (fun M1 hJ1=> ?_) (fun M1 hX1=> ?_)
  ·
   refine l_val (v:= .bool false) rfl rfl rfl (e_not (a:=true) rfl) ?_
   refine l_nil ?_
   refine f_then ?_
   refine c_no rfl ?_
   refine c_skip ?_
   refine f_block ?_
   refine f_mask (L':=(pt b (.cells #[.map (some m)] 71)::rgR ToM m it1 (tz.map tg) (pre++[x2])::M1)) [false,true,true] rfl ?_
   exact f_cut ⟨((pre++[x2]),M1),⟨⟨rfl,rfl⟩,rfl,⟨pre_le hx3,by rw[List.map_append];exact hJ1⟩⟩,(pre_lt hx3)⟩
  ·
   refine l_val (v:= .bool true) rfl rfl rfl (e_not (a:=false) rfl) ?_
   refine l_nil ?_
   refine f_then ?_
   refine c_yes rfl ?_
   refine c_ret ?_
   refine f_block_ret ?_
   refine f_then_ret ?_
   refine f_block_ret ?_
   refine ret0 Tryz.results60 ?_
   intro w hw
   exact⟨⟨_,rfl⟩,.inr ⟨_,M1,hX1,st_mask [false,false,false] rfl hw⟩⟩
set_option maxHeartbeats 4000000 in
theorem changes_ok(β:Base)(w:World)(b:Nat)(s:KSp)(hw:St β [spcR b s] w)(hk:s.ok):Calls Tryz.prog 13 #[.pointer (some ⟨b,0,none⟩)] w fun r w'=>∃p c q d,r= .returned (.tuple #[.slice p (beganS s).length c,.slice q (endedS s).length d])∧St β [rowF PairF 55 p c (beganS s),rowF PairF 55 q d (endedS s),spcR b (toldS s)] w':=by
 refine enterM (n:=66) Tryz.func13 rfl Tryz.ntmps13 rfl ?_ hw
 refine c_seq ?_
 refine c_region ?_
 refine l_val (v:= .slice none 0 0) rfl rfl rfl (e_assign) ?_
 refine l_val (v:= .slice none 0 0) rfl rfl rfl (e_assign) ?_
 refine l_nil ?_
 refine f_then ?_
 refine c_seq ?_
 refine c_seq ?_
 refine c_region ?_
 refine l_val (v:= .pointer (some ⟨b,0,none⟩)) rfl rfl rfl (e_move) ?_
 refine l_call rfl rfl rfl (cl_value (fst:=[]) (cap:=[]) (vs:=[.pointer (some ⟨b,0,none⟩)]) (all:=[.pointer (some ⟨b,0,none⟩)]) tf53 rfl rfl rfl) ?_
 intro w hw
 replace hw:=hw.perm (L':=_::[]) (by exact(perm_front 0 rfl))
 obtain⟨β1,sb,kn,hw1,back⟩:=St.frame (L:=[_]) (M:=[]) hw
 refine(right_s β1 w b s hw1).mono ?_
 rintro e w' ⟨rfl,hw'⟩
 refine⟨_,rfl,_,back _ _ hw',?_⟩
 clear hw hw1 hw' back kn sb
 refine l_val (v:= .bool false) rfl rfl rfl (e_not (a:=true) rfl) ?_
 refine l_nil ?_
 refine f_then ?_
 refine c_no rfl ?_
 refine c_skip ?_
 refine f_then ?_
 refine c_seq ?_
 refine c_region ?_
 refine l_mv rfl rfl rfl (m_alloc tf59) ?_
 rintro _ _ ⟨b1,rfl,rfl⟩
 refine l_nil ?_
 refine f_then ?_
 refine c_seq ?_
 refine c_perm (L':=[spcR b s,pt b1 (.cells #[.slice none 0 0] 38)]) (perm_ix [1,0] 2 rfl (by kernel_rfl) (by kernel_rfl)) ?_
 refine c_openSpc rfl (fun ma mt az tz hpa hpt=> ?_)
 have hkm:=hk.many
 have htl:=hpt.length_eq
 refine c_region ?_
 refine l_val (v:= .pointer (some ⟨b,0,none⟩)) rfl rfl rfl (e_move) ?_
 refine l_val (v:= .pointer (some ⟨b,0,none⟩)) rfl rfl rfl (e_nil (a:=⟨b,0,none⟩) rfl) ?_
 refine l_val (v:= .pointer (some ⟨b,1,none⟩)) rfl rfl rfl (e_fieldPt (b:=b) (o:=0) rfl tf60) ?_
 refine l_val (v:= .map (some mt)) rfl rfl rfl (e_load1 tf58 (v:= .map (some mt)) rfl (k_pt 0 (cs:= #[.map (some ma),.map (some mt)]) (vs:=[.map (some mt)]) rfl rfl)) ?_
 refine l_call rfl rfl rfl (cl_value (fst:=[]) (cap:=[]) (vs:=[.map (some mt)]) (all:=[.map (some mt)]) tf61 rfl rfl rfl) ?_
 intro w hw
 replace hw:=hw.perm (L':=_::_::_::_::[]) (by exact((((perm_front 3 rfl).trans (perm_front 2 rfl)).trans (perm_front 2 rfl)).trans (perm_front 3 rfl)))
 obtain⟨β1,sb,kn,hw1,back⟩:=St.frame (L:=[_]) (M:=_::_::_::[]) hw
 refine(clone_ok β1 w mt (tz.map tg) hw1).mono ?_
 rintro e w' ⟨b2,rfl,hw'⟩
 refine⟨_,rfl,_,back _ _ hw',?_⟩
 clear hw hw1 hw' back kn sb
 refine l_mv rfl rfl rfl (m_alloc tf62) ?_
 rintro _ _ ⟨b3,rfl,rfl⟩
 refine l_mu rfl rfl (m_store 0 tf58 (b:=b3) (o:=0) (T:=71) (cs:= #[.map none]) (cs':= #[.map (some b2)]) (v:= .map (some b2)) rfl rfl rfl rfl rfl rfl rfl) ?_
 refine l_nil ?_
 refine f_then ?_
 refine c_seq ?_
 refine c_seq ?_
 refine c_perm (L':=[pt b (.cells #[.map (some ma),.map (some mt)] 73),mpR ArM ma az,mpR ToM mt (tz.map tg),pt b3 (.cells #[.map (some b2)] 71),mpR ToM b2 (tz.map tg),pt b1 (.cells #[.slice none 0 0] 38)]) (perm_ix [3,4,2,0,1,5] 6 rfl (by kernel_rfl) (by kernel_rfl)) ?_
 refine c_closeSpc (M:=[pt b3 (.cells #[.map (some b2)] 71),mpR ToM b2 (tz.map tg),pt b1 (.cells #[.slice none 0 0] 38)]) rfl hpa hpt ?_
 refine c_emp (r:=rowF PairF 55 none 0 []) (row_nil _ _ _) ?_
 have he0:endedL tz []=tz:=List.filter_eq_self.2 (fun _ _=>by simp)
 refine c_re (L':=[rowF PairF 55 none 0 (beganL tz []),spcR b s,pt b3 (.cells #[.map (some b2)] 71),mpR ToM b2 ((endedL tz []).map tg),pt b1 (.cells #[.slice none ((beganL tz []).length) 0] 38)]) (by rw[he0];rfl) ?_
 refine c_region ?_
 refine l_val (v:= .pointer (some ⟨b,0,none⟩)) rfl rfl rfl (e_move) ?_
 refine l_call rfl rfl rfl (cl_value (fst:=[]) (cap:=[]) (vs:=[.pointer (some ⟨b,0,none⟩)]) (all:=[.pointer (some ⟨b,0,none⟩)]) tf54 rfl rfl rfl) ?_
 intro w hw
 replace hw:=hw.perm (L':=_::_::_::_::_::[]) (by exact(((((perm_front 4 rfl).trans (perm_front 4 rfl)).trans (perm_front 4 rfl)).trans (perm_front 3 rfl)).trans (perm_front 4 rfl)))
 obtain⟨β1,sb,kn,hw1,back⟩:=St.frame (L:=[_]) (M:=_::_::_::_::[]) hw
 refine(spairs_ok β1 w b s hw1 hk).mono ?_
 rintro e w' ⟨b4,p5,c6,xs7,hxs8,rfl,hw'⟩
 refine⟨_,rfl,_,back _ _ hw',?_⟩
 clear hw hw1 hw' back kn sb
 refine l_nil ?_
 refine f_then ?_
 refine c_block ?_
 have hxl:=hxs8.length_eq
 rw[List.length_map]at hxl
 have hkf:=hk.few
 have hpn:∀l:List KP,l.Perm (pairsT xs7)→l.Nodup:=fun l hl=>(hl.trans (pairsT_perm hxs8)).nodup_iff.2 (pairsT_nodup (by rw[thg_ids];exact hk.keys))
 have hB:=pairs_few (ts:=xs7) (by omega)
 refine c_perm (L':=[spcR b s,rowF PairF 55 none 0 (beganL tz []),pt b3 (.cells #[.map (some b2)] 71),mpR ToM b2 ((endedL tz []).map tg),pt b1 (.cells #[.slice none ((beganL tz []).length) 0] 38),pt b4 (.cells #[.slice p5 (xs7.length) c6] 85),rowF ThingF 87 p5 c6 xs7]) (perm_ix [2,3,4,5,6,0,1] 7 rfl (by kernel_rfl) (by kernel_rfl)) ?_
 refine c_rangeK (L:=[spcR b s,rowF PairF 55 none 0 (beganL tz []),pt b3 (.cells #[.map (some b2)] 71),mpR ToM b2 ((endedL tz []).map tg),pt b1 (.cells #[.slice none ((beganL tz []).length) 0] 38)]) (K:=[pt b4 (.cells #[.slice p5 (xs7.length) c6] 85),rowF ThingF 87 p5 c6 xs7]) (α:=KP) (enc:=fun z:KP=>[.agg #[Ix (z.a),Ix (z.b)]]) (S:=fun l=>l.Perm (pairsT xs7)) (ps:=[22]) (I:=fun(pre:List (KP)) (L:List Res)=>∃(bp:Option Addr),∃(bc:Nat),L=[spcR b s,rowF PairF 55 bp bc (beganL tz pre),pt b3 (.cells #[.map (some b2)] 71),mpR ToM b2 ((endedL tz pre).map tg),pt b1 (.cells #[.slice bp ((beganL tz pre).length) bc] 38)]∧(True)) (X:=fun _ _ _=>False) rfl ((sweep_seq β b4 _ _ xs7 (by omega) (thg_lx hxs8 hk))) (fun _=>rfl) rfl ⟨none,0,rfl,trivial⟩ ?_ ?_ ?_
 ·rintro l β1 pre x M ext hpre ⟨bp,bc,rfl,-⟩
  have hnp:x∉pre:=by obtain⟨l,h1,h2⟩:=hpre;exact sub_nodup (hpn l h1) h2
  have hpl:pre.length≤1048576:=by obtain⟨l,h1,h2⟩:=hpre;have h3:=h2.length_le;have h4:=hB l h1;rw[List.length_append]at h3;omega
  have hbl:=beganL_le tz pre
  refine c_region ?_
  refine l_mv rfl rfl rfl (m_alloc tf33) ?_
  rintro _ _ ⟨b9,rfl,rfl⟩
  refine l_mu rfl rfl (m_store 0 tf35 (b:=b9) (o:=0) (T:=55) (cs:= #[.int .i64 (0),.int .i64 (0)]) (cs':= #[Ix (x.a),Ix (x.b)]) (v:= .agg #[Ix (x.a),Ix (x.b)]) rfl rfl rfl rfl rfl rfl rfl) ?_
  refine l_nil ?_
  refine f_cut (fun β2 ext2=> ?_)
  refine c_block ?_
  refine c_seq ?_
  refine c_region ?_
  refine l_val (v:= .map (some b2)) rfl rfl rfl (e_load1 tf58 (v:= .map (some b2)) rfl (k_pt 3 (cs:= #[.map (some b2)]) (vs:=[.map (some b2)]) rfl rfl)) ?_
  refine l_val (v:= .agg #[Ix (x.a),Ix (x.b)]) rfl rfl rfl (e_load tf35 (cs:=[Ix (x.a),Ix (x.b)]) rfl (k_pt 0 (cs:= #[Ix (x.a),Ix (x.b)]) (vs:=[Ix (x.a),Ix (x.b)]) rfl rfl) rfl) ?_
  refine l_val (v:= .tuple #[.agg #[],.bool ((ToM.look ((endedL tz pre).map tg) x).isSome)]) rfl rfl rfl (e_look2 (K:=ToM) (b:=b2) (ks:=((endedL tz pre).map tg)) (k:=x) rfl rfl rfl (Knows.of_res 4 rfl (mpR.mono _ _ _) fun _ h=>h)) ?_
  refine l_val (v:= .tuple #[.agg #[],.bool ((ToM.look ((endedL tz pre).map tg) x).isSome)]) rfl rfl rfl (e_move) ?_
  refine l_val (v:= .agg #[]) rfl rfl rfl (e_extract (vs:= #[.agg #[],.bool ((ToM.look ((endedL tz pre).map tg) x).isSome)]) rfl rfl) ?_
  refine l_val (v:= .bool ((ToM.look ((endedL tz pre).map tg) x).isSome)) rfl rfl rfl (e_extract (vs:= #[.agg #[],.bool ((ToM.look ((endedL tz pre).map tg) x).isSome)]) rfl rfl) ?_
  refine l_mv rfl rfl rfl (m_alloc tf63) ?_
  rintro _ _ ⟨b10,rfl,rfl⟩
  refine l_mu rfl rfl (m_store 0 tf64 (b:=b10) (o:=0) (T:=75) (cs:= #[]) (cs':= #[]) (v:= .agg #[]) rfl rfl rfl rfl rfl rfl rfl) ?_
  refine l_val (v:= .bool ((ToM.look ((endedL tz pre).map tg) x).isSome)) rfl rfl rfl (e_assign) ?_
  refine l_nil ?_
  refine f_then ?_
  refine c_seq ?_
  refine c_region ?_
  refine l_val (v:= .bool ((ToM.look ((endedL tz pre).map tg) x).isSome)) rfl rfl rfl (e_move) ?_
  refine l_nil ?_
  refine f_then ?_
  refine c_ifb ((ToM.look ((endedL tz pre).map tg) x).isSome) rfl (fun hc11=> ?_) (fun hc11=> ?_)
  ·
   refine c_region ?_
   refine l_val (v:= .map (some b2)) rfl rfl rfl (e_load1 tf58 (v:= .map (some b2)) rfl (k_pt 4 (cs:= #[.map (some b2)]) (vs:=[.map (some b2)]) rfl rfl)) ?_
   refine l_val (v:= .agg #[Ix (x.a),Ix (x.b)]) rfl rfl rfl (e_load tf35 (cs:=[Ix (x.a),Ix (x.b)]) rfl (k_pt 1 (cs:= #[Ix (x.a),Ix (x.b)]) (vs:=[Ix (x.a),Ix (x.b)]) rfl rfl) rfl) ?_
   refine l_mc rfl rfl (m_mdel (K:=ToM) (b:=b2) (ks:=((endedL tz pre).map tg)) (k:=x) 5 rfl rfl rfl rfl) ?_
   rintro _ _ ⟨rfl,rfl⟩
   refine l_nil ?_
   refine f_block ?_
   refine f_mask (L':=[spcR b s,rowF PairF 55 bp bc (beganL tz pre),pt b3 (.cells #[.map (some b2)] 71),mpR ToM b2 (ToM.del ((endedL tz pre).map tg) x),pt b1 (.cells #[.slice bp ((beganL tz pre).length) bc] 38)]) [false,false,true,true,true,true,true] rfl ?_
   exact fun a w ha hw=>⟨_,⟨bp,bc,by rw[endedL_gone,beganL_no (by rw[told_look]at hc11;simpa[endedL_mem hnp]using hc11)],trivial⟩,hw⟩
  ·
   refine c_region ?_
   refine l_val (v:= .slice bp ((beganL tz pre).length) bc) rfl rfl rfl (e_load1 tf36 (v:= .slice bp ((beganL tz pre).length) bc) rfl (k_pt 6 (cs:= #[.slice bp ((beganL tz pre).length) bc]) (vs:=[.slice bp ((beganL tz pre).length) bc]) rfl rfl)) ?_
   refine l_val (v:= .agg #[Ix (x.a),Ix (x.b)]) rfl rfl rfl (e_load tf35 (cs:=[Ix (x.a),Ix (x.b)]) rfl (k_pt 1 (cs:= #[Ix (x.a),Ix (x.b)]) (vs:=[Ix (x.a),Ix (x.b)]) rfl rfl) rfl) ?_
   refine l_mv rfl rfl rfl (m_slices tf37 tf33 (vs:=[(0,.agg #[Ix (x.a),Ix (x.b)])]) (cells:= #[Ix (x.a),Ix (x.b)]) rfl rfl rfl rfl) ?_
   rintro _ _ ⟨b12,rfl,rfl⟩
   refine l_mv rfl rfl rfl (m_appendFlN (F:=PairF) 4 tf37 tf38 (p:=bp) (m:=(beganL tz pre).length) (xs:=(beganL tz pre)) (ys:=[x]) (ao:=(some ⟨b12,0,none⟩)) (k:=1) (c:=1) rfl rfl rfl rfl rfl (k_ptFl (z:=x) 0 rfl rfl) (by first|omega|simp only[List.length_nil,List.length_cons,List.length_append,List.length_set];omega) (by first|omega|simp only[List.length_nil,List.length_cons,List.length_append,List.length_set];omega)) ?_
   rintro _ _ ⟨rp13,rc14,rfl,rfl⟩
   refine l_mu rfl rfl (m_store 7 tf36 (b:=b1) (o:=0) (T:=38) (cs:= #[.slice bp ((beganL tz pre).length) bc]) (cs':= #[.slice rp13 (((beganL tz pre)++[x]).length) rc14]) (v:= .slice rp13 (((beganL tz pre)++[x]).length) rc14) rfl rfl rfl rfl rfl rfl rfl) ?_
   refine l_nil ?_
   refine f_block ?_
   refine f_mask (L':=[spcR b s,rowF PairF 55 rp13 rc14 ((beganL tz pre)++[x]),pt b3 (.cells #[.map (some b2)] 71),mpR ToM b2 ((endedL tz pre).map tg),pt b1 (.cells #[.slice rp13 (((beganL tz pre)++[x]).length) rc14] 38)]) [false,false,false,true,true,true,true,true] rfl ?_
   exact fun a w ha hw=>⟨_,⟨rp13,rc14,by rw[←endedL_stay (by rw[told_look]at hc11;simpa[endedL_mem hnp]using hc11),beganL_yes (by rw[told_look]at hc11;simpa[endedL_mem hnp]using hc11)],trivial⟩,hw⟩
 ·rintro D1 ys1 M hS1 ⟨bp,bc,rfl,-⟩
  have hbl:=beganL_le tz ys1
  have hyl:=hB ys1 hS1
  have hel:(endedL tz ys1).length≤tz.length:=List.length_filter_le _ _
  have hys:ys1.Perm (pairsS s):=(hS1.trans (pairsT_perm hxs8)).trans (sortP_perm _).symm
  refine f_block ?_
  refine f_then ?_
  refine c_seq ?_
  refine c_seq ?_
  refine c_openSpc rfl (fun ma2 mt2 az2 tz2 hpa2 hpt2=> ?_)
  have htl2:=hpt2.length_eq
  refine c_region ?_
  refine l_val (v:= .map (some b2)) rfl rfl rfl (e_load1 tf58 (v:= .map (some b2)) rfl (k_pt 4 (cs:= #[.map (some b2)]) (vs:=[.map (some b2)]) rfl rfl)) ?_
  refine l_mv rfl rfl rfl (m_range (K:=ToM) (b:=b2) (ks:=((endedL tz ys1).map tg)) 5 rfl rfl rfl) ?_
  rintro _ _ ⟨it15,rfl,rfl⟩
  refine l_nil ?_
  refine f_then ?_
  refine c_block ?_
  refine c_loop (fun(pre:List (KP×Unit)) (f:Fm) (L:List Res)=>(f 0= .pointer (some ⟨b,0,none⟩)∧f 4= .pointer (some ⟨b1,0,none⟩)∧f 5= .pointer (some ⟨b3,0,none⟩)∧f 37= .pointer (some ⟨it15,0,none⟩))∧L=[pt b (.cells #[.map (some ma2),.map (some mt2)] 73),mpR ArM ma2 az2,mpR ToM mt2 ((endedL tz2 (pre.map (·.1))).map tg),rowF PairF 55 bp bc (beganL tz ys1),pt b3 (.cells #[.map (some b2)] 71),rgR ToM b2 it15 ((endedL tz ys1).map tg) pre,pt b1 (.cells #[.slice bp ((beganL tz ys1).length) bc] 38),pt D1 (.deferred (some []))]∧(pre.length≤((endedL tz ys1).map tg).length)) (fun(pre:List (KP×Unit))=>((endedL tz ys1).map tg).length-pre.length) [] ?_ ?_
  ·exact⟨⟨rfl,rfl,rfl,rfl⟩,by rw[show endedL tz2 (([]:List (KP×Unit)).map (·.1))=tz2 from List.filter_eq_self.2 (fun _ _=>by simp)];rfl,Nat.zero_le _⟩
  rintro pre f0 L0 ⟨⟨hs0,hs4,hs5,hs37⟩,hL,hpl⟩
  subst L0
  refine rebase (d:=0) hs0 ?_
  refine rebase (d:=4) hs4 ?_
  refine rebase (d:=5) hs5 ?_
  refine rebase (d:=37) hs37 ?_
  clear hs0 hs4 hs5 hs37
  refine c_seq ?_
  refine c_region ?_
  refine l_mv rfl rfl rfl (m_next (K:=ToM) (b:=b2) (r:=it15) (ks:=((endedL tz ys1).map tg)) (pre:=pre) 5 rfl rfl) ?_
  rintro _ _ (⟨rfl,he18,rfl⟩|⟨x16,rfl,hx17,rfl⟩)
  ·
   refine l_val (v:= .bool false) rfl rfl rfl (e_extract (vs:= #[.bool false]) rfl rfl) ?_
   refine l_nil ?_
   refine f_then ?_
   refine c_seq ?_
   refine c_no rfl ?_
   refine c_exit ?_
   refine f_then_exit ?_
   refine f_then_exit ?_
   refine f_exit ?_
   refine f_then ?_
   refine c_seq ?_
   refine c_seq ?_
   refine c_conseq 5 (r':=mpR ToM b2 ((endedL tz ys1).map tg)) rfl (fun a h=>rgR_mp a h) ?_
   obtain⟨ds,hds⟩:∃ds,ds=pre.map (·.1):=⟨_,rfl⟩
   have hdp:ds.Perm (endedL tz ys1):=hds▸keys_all he18
   refine c_re (L':=[pt b (.cells #[.map (some ma2),.map (some mt2)] 73),mpR ArM ma2 az2,mpR ToM mt2 ((endedL tz2 ds++(beganL tz ys1).take 0).map tg),rowF PairF 55 bp bc (beganL tz ys1),pt b3 (.cells #[.map (some b2)] 71),mpR ToM b2 ((endedL tz ys1).map tg),pt b1 (.cells #[.slice bp ((beganL tz ys1).length) bc] 38),pt D1 (.deferred (some []))]) (by rw[List.take_zero,List.append_nil,hds];rfl) ?_
   refine c_region ?_
   refine l_val (v:= .slice bp ((beganL tz ys1).length) bc) rfl rfl rfl (e_load1 tf36 (v:= .slice bp ((beganL tz ys1).length) bc) rfl (k_pt 6 (cs:= #[.slice bp ((beganL tz ys1).length) bc]) (vs:=[.slice bp ((beganL tz ys1).length) bc]) rfl rfl)) ?_
   refine l_val (v:=Nx ((beganL tz ys1).length)) rfl rfl rfl (e_len (a:=bp) (n:=(beganL tz ys1).length) (c:=bc) rfl tf65) ?_
   refine l_val (v:= .int .i64 (0)) rfl rfl rfl (e_move) ?_
   refine l_nil ?_
   refine f_then ?_
   refine c_block ?_
   refine c_loop (fun(k:Nat) (f:Fm) (L:List Res)=>(f 0= .pointer (some ⟨b,0,none⟩)∧f 4= .pointer (some ⟨b1,0,none⟩)∧f 5= .pointer (some ⟨b3,0,none⟩)∧f 47= .slice bp ((beganL tz ys1).length) bc∧f 48=Nx ((beganL tz ys1).length)∧f 49=Nx (k))∧L=[pt b (.cells #[.map (some ma2),.map (some mt2)] 73),mpR ArM ma2 az2,mpR ToM mt2 ((endedL tz2 ds++(beganL tz ys1).take k).map tg),rowF PairF 55 bp bc (beganL tz ys1),pt b3 (.cells #[.map (some b2)] 71),mpR ToM b2 ((endedL tz ys1).map tg),pt b1 (.cells #[.slice bp ((beganL tz ys1).length) bc] 38),pt D1 (.deferred (some []))]∧(k≤(beganL tz ys1).length)) (fun(k:Nat)=>(beganL tz ys1).length-k) 0 ?_ ?_
   ·exact⟨⟨rfl,rfl,rfl,rfl,rfl,rfl⟩,rfl,Nat.zero_le _⟩
   rintro k f0 L0 ⟨⟨hs0,hs4,hs5,hs47,hs48,hs49⟩,hL,hkb⟩
   subst L0
   refine rebase (d:=0) hs0 ?_
   refine rebase (d:=4) hs4 ?_
   refine rebase (d:=5) hs5 ?_
   refine rebase (d:=47) hs47 ?_
   refine rebase (d:=48) hs48 ?_
   refine rebase (d:=49) hs49 ?_
   clear hs0 hs4 hs5 hs47 hs48 hs49
   refine c_seq ?_
   refine c_region ?_
   refine l_val (v:= .bool (decide (((k:Nat):Int)<(((beganL tz ys1).length:Nat):Int)))) rfl rfl rfl (e_lss (a:=((k:Nat):Int)) (b:=(((beganL tz ys1).length:Nat):Int)) rfl rfl) ?_
   refine l_nil ?_
   refine f_then ?_
   refine c_seq ?_
   refine c_if (((k:Nat):Int)<(((beganL tz ys1).length:Nat):Int)) rfl (fun hc19=> ?_) (fun hc19=> ?_)
   ·
    refine c_skip ?_
    refine f_then ?_
    refine c_seq ?_
    refine c_block ?_
    refine c_seq ?_
    refine c_region ?_
    refine l_val (v:= .pointer (some ((ba bp).add (k*2)))) rfl rfl rfl (e_indexFlN 3 (F:=PairF) (j:=k) (m:=(beganL tz ys1).length) (xs:=(beganL tz ys1)) rfl rfl rfl tf37 (by omega) rfl) ?_
    obtain⟨x20,hx21⟩:∃x_,(beganL tz ys1)[k]? =some x_:=⟨_,List.getElem?_eq_getElem (by omega)⟩
    refine l_val (v:= .agg #[Ix (x20.a),Ix (x20.b)]) rfl rfl rfl (e_load tf35 (cs:=[Ix (x20.a),Ix (x20.b)]) rfl (k_flAt 3 (F:=PairF) rfl hx21) rfl) ?_
    refine l_mv rfl rfl rfl (m_alloc tf33) ?_
    rintro _ _ ⟨b22,rfl,rfl⟩
    refine l_mu rfl rfl (m_store 0 tf35 (b:=b22) (o:=0) (T:=55) (cs:= #[.int .i64 (0),.int .i64 (0)]) (cs':= #[Ix (x20.a),Ix (x20.b)]) (v:= .agg #[Ix (x20.a),Ix (x20.b)]) rfl rfl rfl rfl rfl rfl rfl) ?_
    refine l_nil ?_
    refine f_then ?_
    refine c_any [⟨[],[],[0],[53],fun f=>f 53= .pointer (some ⟨b,0,none⟩)⟩,⟨[0],[0],[],[54],fun f=>f 54= .pointer (some ⟨b,0,none⟩)⟩,⟨[0,1],[1],[],[55],fun f=>f 55= .pointer (some ⟨b,1,none⟩)⟩,⟨[0,1,2],[2],[],[56],fun f=>f 56= .map (some mt2)⟩,⟨[],[],[1],[57],fun f=>f 57= .agg #[Ix (x20.a),Ix (x20.b)]⟩,⟨[],[],[],[58],fun f=>f 58= .agg #[]⟩,⟨[0,1,2,3,4,5],[3,4,5],[],[],fun _=>True⟩] [⟨none,none,[4],[],fun _=>pt b22 (.cells #[Ix (x20.a),Ix (x20.b)] 55)⟩,⟨none,none,[3],[],fun _=>pt b (.cells #[.map (some ma2),.map (some mt2)] 73)⟩,⟨none,none,[],[],fun _=>mpR ArM ma2 az2⟩,⟨none,(some 6),[6],[],fun _=>mpR ToM mt2 ((endedL tz2 ds++(beganL tz ys1).take k).map tg)⟩,⟨none,none,[],[],fun _=>rowF PairF 55 bp bc (beganL tz ys1)⟩,⟨none,none,[],[],fun _=>pt b3 (.cells #[.map (some b2)] 71)⟩,⟨none,none,[],[],fun _=>mpR ToM b2 ((endedL tz ys1).map tg)⟩,⟨none,none,[],[],fun _=>pt b1 (.cells #[.slice bp ((beganL tz ys1).length) bc] 38)⟩,⟨none,none,[],[],fun _=>pt D1 (.deferred (some []))⟩,⟨(some 6),none,[],[],fun _=>mpR ToM mt2 (ToM.put ((endedL tz2 ds++(beganL tz ys1).take k).map tg) x20 ())⟩] [(0,.pointer (some ⟨b,0,none⟩)),(11,.pointer (some ⟨b22,0,none⟩)),(4,.pointer (some ⟨b1,0,none⟩)),(5,.pointer (some ⟨b3,0,none⟩)),(47,.slice bp ((beganL tz ys1).length) bc),(48,Nx ((beganL tz ys1).length)),(49,Nx (k))] [0,2,3,4,5,6] [] (by kernel_rfl) (by kernel_rfl) (by kernel_rfl) (by kernel_rfl) rfl ⟨rfl,rfl,rfl,rfl,rfl,rfl,rfl,trivial⟩ ⟨?_,?_,?_,?_,?_,?_,?_,trivial⟩ ?_
    ·rintro f M-⟨i0,-⟩
     have hs0:f 0= .pointer (some ⟨b,0,none⟩):=i0
     refine ob_start (L':=M) (by rfl) (up_cons rfl hs0) ?_
     refine l_val (v:= .pointer (some ⟨b,0,none⟩)) rfl rfl rfl (e_move) ?_
     refine l_nil ?_
     exact f_owes_d (up_cons rfl hs0) rfl (List.Perm.refl _)
    ·rintro f M ⟨k0,-⟩-
     have hs53:f 53= .pointer (some ⟨b,0,none⟩):=k0
     refine ob_start (L':=M) (by rfl) (up_cons rfl hs53) ?_
     refine l_val (v:= .pointer (some ⟨b,0,none⟩)) rfl rfl rfl (e_nil (a:=⟨b,0,none⟩) rfl) ?_
     refine l_nil ?_
     exact f_owes_d (up_cons rfl hs53) rfl (List.Perm.refl _)
    ·rintro f M ⟨k0,-⟩-
     have hs54:f 54= .pointer (some ⟨b,0,none⟩):=k0
     refine ob_start (L':=M) (by rfl) (up_cons rfl hs54) ?_
     refine l_val (v:= .pointer (some ⟨b,1,none⟩)) rfl rfl rfl (e_fieldPt (b:=b) (o:=0) rfl tf60) ?_
     refine l_nil ?_
     exact f_owes_d (up_cons rfl hs54) rfl (List.Perm.refl _)
    ·rintro f M ⟨k0,-⟩-
     have hs55:f 55= .pointer (some ⟨b,1,none⟩):=k0
     refine ob_start (L':=pt b (.cells #[.map (some ma2),.map (some mt2)] 73)::M) (by rfl) (up_cons rfl hs55) ?_
     refine l_val (v:= .map (some mt2)) rfl rfl rfl (e_load1 tf58 (v:= .map (some mt2)) rfl (k_pt 0 (cs:= #[.map (some ma2),.map (some mt2)]) (vs:=[.map (some mt2)]) rfl rfl)) ?_
     refine l_nil ?_
     exact f_owes_d (up_cons rfl hs55) rfl (perm_front 0 rfl)
    ·rintro f M-⟨i0,-⟩
     have hs11:f 11= .pointer (some ⟨b22,0,none⟩):=i0
     refine ob_start (L':=pt b22 (.cells #[Ix (x20.a),Ix (x20.b)] 55)::M) (by rfl) (up_cons rfl hs11) ?_
     refine l_val (v:= .agg #[Ix (x20.a),Ix (x20.b)]) rfl rfl rfl (e_load tf35 (cs:=[Ix (x20.a),Ix (x20.b)]) rfl (k_pt 0 (cs:= #[Ix (x20.a),Ix (x20.b)]) (vs:=[Ix (x20.a),Ix (x20.b)]) rfl rfl) rfl) ?_
     refine l_nil ?_
     exact f_owes_d (up_cons rfl hs11) rfl (perm_front 0 rfl)
    ·rintro f M- -
     refine ob_start (L':=M) (by rfl) rfl ?_
     refine l_val (v:= .agg #[]) rfl rfl rfl (e_build tf63 tf66 (vs:=[]) (cells:= #[]) rfl rfl) ?_
     refine l_nil ?_
     exact f_owes_d rfl rfl (List.Perm.refl _)
    ·rintro f M ⟨k0,k1,k2,-⟩-
     have hs56:f 56= .map (some mt2):=k0
     have hs57:f 57= .agg #[Ix (x20.a),Ix (x20.b)]:=k1
     have hs58:f 58= .agg #[]:=k2
     refine ob_start (L':=mpR ToM mt2 ((endedL tz2 ds++(beganL tz ys1).take k).map tg)::M) (by rfl) (up_cons (up_cons (up_cons rfl hs56) hs57) hs58) ?_
     refine l_mu rfl rfl (m_mput (K:=ToM) (b:=mt2) (ks:=((endedL tz2 ds++(beganL tz ys1).take k).map tg)) (k:=x20) (v:=()) 0 rfl rfl rfl rfl rfl) ?_
     refine l_nil ?_
     exact f_owes_n (up_cons (up_cons (up_cons rfl hs56) hs57) hs58) trivial (perm_front 0 rfl)
    rintro fa23 ⟨-,-,-,-,-,-,-,-⟩ ⟨j0,j1,j2,j3,j4,j5,-⟩
    refine f_re (L':=[pt b22 (.cells #[Ix (x20.a),Ix (x20.b)] 55),pt b (.cells #[.map (some ma2),.map (some mt2)] 73),mpR ArM ma2 az2,rowF PairF 55 bp bc (beganL tz ys1),pt b3 (.cells #[.map (some b2)] 71),mpR ToM b2 ((endedL tz ys1).map tg),pt b1 (.cells #[.slice bp ((beganL tz ys1).length) bc] 38),pt D1 (.deferred (some [])),mpR ToM mt2 (ToM.put ((endedL tz2 ds++(beganL tz ys1).take k).map tg) x20 ())]) (by rfl) ?_
    refine f_rebase (d:=0) (v:= .pointer (some ⟨b,0,none⟩)) j0 ?_
    refine f_rebase (d:=4) (v:= .pointer (some ⟨b1,0,none⟩)) j1 ?_
    refine f_rebase (d:=5) (v:= .pointer (some ⟨b3,0,none⟩)) j2 ?_
    refine f_rebase (d:=47) (v:= .slice bp ((beganL tz ys1).length) bc) j3 ?_
    refine f_rebase (d:=48) (v:=Nx ((beganL tz ys1).length)) j4 ?_
    refine f_rebase (d:=49) (v:=Nx (k)) j5 ?_
    refine f_block ?_
    refine f_then ?_
    refine c_region ?_
    refine l_val (v:=Nx (k+1)) rfl rfl rfl (e_add (a:=((k:Nat):Int)) (b:=(1:Int)) rfl rfl (i64n (by omega) (by omega))) ?_
    refine l_val (v:=Nx (k+1)) rfl rfl rfl (e_move) ?_
    refine l_nil ?_
    refine f_perm (L':=[pt b (.cells #[.map (some ma2),.map (some mt2)] 73),mpR ArM ma2 az2,mpR ToM mt2 (ToM.put ((endedL tz2 ds++(beganL tz ys1).take k).map tg) x20 ()),rowF PairF 55 bp bc (beganL tz ys1),pt b3 (.cells #[.map (some b2)] 71),mpR ToM b2 ((endedL tz ys1).map tg),pt b1 (.cells #[.slice bp ((beganL tz ys1).length) bc] 38),pt D1 (.deferred (some [])),pt b22 (.cells #[Ix (x20.a),Ix (x20.b)] 55)]) (perm_ix [1,2,8,3,4,5,6,7,0] 9 rfl (by kernel_rfl) (by kernel_rfl)) ?_
    refine f_mask (L':=[pt b (.cells #[.map (some ma2),.map (some mt2)] 73),mpR ArM ma2 az2,mpR ToM mt2 (ToM.put ((endedL tz2 ds++(beganL tz ys1).take k).map tg) x20 ()),rowF PairF 55 bp bc (beganL tz ys1),pt b3 (.cells #[.map (some b2)] 71),mpR ToM b2 ((endedL tz ys1).map tg),pt b1 (.cells #[.slice bp ((beganL tz ys1).length) bc] 38),pt D1 (.deferred (some []))]) [true,true,true,true,true,true,true,true,false] rfl ?_
    exact f_cut ⟨k+1,⟨⟨rfl,rfl,rfl,rfl,rfl,rfl⟩,by rw[told_put (began_new hk hys hpt hpt2 hx21),tk_next hx21],(by omega)⟩,(show(beganL tz ys1).length-(k+1)<(beganL tz ys1).length-k from by omega)⟩
   ·
    refine c_exit ?_
    refine f_then_exit ?_
    refine f_then_exit ?_
    refine f_exit ?_
    refine f_then ?_
    refine c_seq ?_
    refine c_re (L':=[pt b (.cells #[.map (some ma2),.map (some mt2)] 73),mpR ArM ma2 az2,mpR ToM mt2 ((endedL tz2 ds++beganL tz ys1).map tg),rowF PairF 55 bp bc (beganL tz ys1),pt b3 (.cells #[.map (some b2)] 71),mpR ToM b2 ((endedL tz ys1).map tg),pt b1 (.cells #[.slice bp ((beganL tz ys1).length) bc] 38),pt D1 (.deferred (some []))]) (by rw[List.take_of_length_le (by omega)]<;>rfl) ?_
    refine c_region ?_
    refine l_val (v:= .slice bp ((beganL tz ys1).length) bc) rfl rfl rfl (e_load1 tf36 (v:= .slice bp ((beganL tz ys1).length) bc) rfl (k_pt 6 (cs:= #[.slice bp ((beganL tz ys1).length) bc]) (vs:=[.slice bp ((beganL tz ys1).length) bc]) rfl rfl)) ?_
    refine l_call rfl rfl rfl (cl_value (fst:=[]) (cap:=[]) (vs:=[.slice bp ((beganL tz ys1).length) bc,.func (.func 42) #[] #[]]) (all:=[.slice bp ((beganL tz ys1).length) bc,.func (.func 42) #[] #[]]) tf41 rfl rfl rfl) ?_
    intro w hw
    replace hw:=hw.perm (L':=_::_::_::_::_::_::_::_::[]) (by exact((((((((perm_front 7 rfl).trans (perm_front 7 rfl)).trans (perm_front 7 rfl)).trans (perm_front 7 rfl)).trans (perm_front 6 rfl)).trans (perm_front 6 rfl)).trans (perm_front 6 rfl)).trans (perm_front 7 rfl)))
    obtain⟨β1,sb,kn,hw1,back⟩:=St.frame (L:=[_]) (M:=_::_::_::_::_::_::_::[]) hw
    refine(sortP_ok β1 w _ _ (beganL tz ys1) hw1 (by omega)).mono ?_
    rintro e w' ⟨rfl,hw'⟩
    refine⟨_,rfl,_,back _ _ hw',?_⟩
    clear hw hw1 hw' back kn sb
    refine l_nil ?_
    refine f_then ?_
    refine c_seq ?_
    refine c_any [⟨[],[],[0],[62],fun f=>f 62= .slice bp ((beganL tz ys1).length) bc⟩,⟨[],[],[1],[63],fun f=>f 63= .map (some b2)⟩,⟨[1],[1],[],[64],fun f=>f 64= .func (.func 60) #[] #[.pointer (some ⟨(swb (f 64)),0,none⟩)]⟩,⟨[1,2],[2],[],[65],fun f=>f 65= .slice (sla (f 65)) ((sortP (endedL tz ys1)).length) (slc (f 65))⟩,⟨[0,1,2,3],[0],[],[2],fun f=>f 2= .slice bp ((beganL tz ys1).length) bc⟩,⟨[0,1,2,3,4],[3],[],[3,65],fun f=>f 3= .slice (sla (f 65)) ((sortP (endedL tz ys1)).length) (slc (f 65))⟩] [⟨none,none,[],[],fun _=>rowF PairF 55 bp bc (sortP (beganL tz ys1))⟩,⟨none,none,[],[],fun _=>pt b (.cells #[.map (some ma2),.map (some mt2)] 73)⟩,⟨none,none,[],[],fun _=>mpR ArM ma2 az2⟩,⟨none,none,[],[],fun _=>mpR ToM mt2 ((endedL tz2 ds++beganL tz ys1).map tg)⟩,⟨none,none,[1],[],fun _=>pt b3 (.cells #[.map (some b2)] 71)⟩,⟨none,(some 3),[3],[],fun _=>mpR ToM b2 ((endedL tz ys1).map tg)⟩,⟨none,none,[0],[],fun _=>pt b1 (.cells #[.slice bp ((beganL tz ys1).length) bc] 38)⟩,⟨none,none,[],[],fun _=>pt D1 (.deferred (some []))⟩,⟨(some 2),(some 3),[3],[64],fun f=>pt (swb (f 64)) (.cells #[.map (some b2)] 71)⟩,⟨(some 3),none,[],[65],fun f=>rowF PairF 55 (sla (f 65)) (slc (f 65)) (sortP (endedL tz ys1))⟩] [(4,.pointer (some ⟨b1,0,none⟩)),(5,.pointer (some ⟨b3,0,none⟩))] [] [] (by kernel_rfl) (by kernel_rfl) (by kernel_rfl) (by kernel_rfl) rfl ⟨rfl,rfl,trivial⟩ ⟨?_,?_,?_,?_,?_,?_,trivial⟩ ?_
    ·rintro f M-⟨i0,-⟩
     have hs4:f 4= .pointer (some ⟨b1,0,none⟩):=i0
     refine ob_start (L':=pt b1 (.cells #[.slice bp ((beganL tz ys1).length) bc] 38)::M) (by rfl) (up_cons rfl hs4) ?_
     refine l_val (v:= .slice bp ((beganL tz ys1).length) bc) rfl rfl rfl (e_load1 tf36 (v:= .slice bp ((beganL tz ys1).length) bc) rfl (k_pt 0 (cs:= #[.slice bp ((beganL tz ys1).length) bc]) (vs:=[.slice bp ((beganL tz ys1).length) bc]) rfl rfl)) ?_
     refine l_nil ?_
     exact f_owes_d (up_cons rfl hs4) rfl (perm_front 0 rfl)
    ·rintro f M-⟨i0,-⟩
     have hs5:f 5= .pointer (some ⟨b3,0,none⟩):=i0
     refine ob_start (L':=pt b3 (.cells #[.map (some b2)] 71)::M) (by rfl) (up_cons rfl hs5) ?_
     refine l_val (v:= .map (some b2)) rfl rfl rfl (e_load1 tf58 (v:= .map (some b2)) rfl (k_pt 0 (cs:= #[.map (some b2)]) (vs:=[.map (some b2)]) rfl rfl)) ?_
     refine l_nil ?_
     exact f_owes_d (up_cons rfl hs5) rfl (perm_front 0 rfl)
    ·rintro f M ⟨k0,-⟩-
     have hs63:f 63= .map (some b2):=k0
     refine ob_start (L':=M) (by rfl) (up_cons rfl hs63) ?_
     refine l_call rfl rfl rfl (cl_value (fst:=[]) (cap:=[]) (vs:=[.map (some b2)]) (all:=[.map (some b2)]) tf67 rfl rfl rfl) ?_
     intro w hw
     obtain⟨β1,sb,kn,hw1,back⟩:=St.frame_all hw
     refine(keys_ok β1 w hw1 b2).mono ?_
     rintro e w' ⟨b25,rfl,hw'⟩
     refine⟨_,rfl,_,back _ _ hw',?_⟩
     clear hw hw1 hw' back kn sb
     refine l_nil ?_
     exact f_owes_d (up_cons rfl hs63) rfl (perm_front 0 rfl)
    ·rintro f M ⟨k0,-⟩-
     have hs64:f 64= .func (.func 60) #[] #[.pointer (some ⟨(swb (f 64)),0,none⟩)]:=k0
     refine ob_start (L':=mpR ToM b2 ((endedL tz ys1).map tg)::pt (swb (f 64)) (.cells #[.map (some b2)] 71)::M) (by rfl) (up_cons rfl hs64) ?_
     refine l_call rfl rfl rfl (cl_value (fst:=[]) (cap:=[]) (vs:=[.func (.func 60) #[] #[.pointer (some ⟨(swb (f 64)),0,none⟩)],.func (.func 42) #[] #[]]) (all:=[.func (.func 60) #[] #[.pointer (some ⟨(swb (f 64)),0,none⟩)],.func (.func 42) #[] #[]]) tf46 rfl rfl rfl) ?_
     intro w hw
     replace hw:=hw.perm (L':=_::_::M) (by exact((perm_front 0 rfl).trans (perm_front 1 rfl)))
     obtain⟨β1,sb,kn,hw1,back⟩:=St.frame (L:=[_,_]) (M:=M) hw
     refine(sortedE_ok β1 w _ _ _ (keys_seq β1 (swb (f 64)) b2 (endedL tz ys1)) (by omega) hw1).mono ?_
     rintro e w' ⟨p28,c29,rfl,hw'⟩
     refine⟨_,rfl,_,back _ _ hw',?_⟩
     clear hw hw1 hw' back kn sb
     refine l_nil ?_
     exact f_owes_d (up_cons rfl hs64) rfl (perm_front 0 rfl)
    ·rintro f M ⟨k0,-⟩-
     have hs62:f 62= .slice bp ((beganL tz ys1).length) bc:=k0
     refine ob_start (L':=M) (by rfl) (up_cons rfl hs62) ?_
     refine l_val (v:= .slice bp ((beganL tz ys1).length) bc) rfl rfl rfl (e_assign) ?_
     refine l_nil ?_
     exact f_owes_d (up_cons rfl hs62) rfl (List.Perm.refl _)
    ·rintro f M ⟨k0,-⟩-
     have hs65:f 65= .slice (sla (f 65)) ((sortP (endedL tz ys1)).length) (slc (f 65)):=k0
     refine ob_start (L':=M) (by rfl) (up_cons rfl hs65) ?_
     refine l_val (v:= .slice (sla (f 65)) ((sortP (endedL tz ys1)).length) (slc (f 65))) rfl rfl rfl (e_assign) ?_
     refine l_nil ?_
     exact f_owes_d (up_cons rfl hs65) rfl (List.Perm.refl _)
    rintro fa30 ⟨-,-,-,-,k4,k5,-⟩-
    refine f_re (L':=[rowF PairF 55 bp bc (sortP (beganL tz ys1)),pt b (.cells #[.map (some ma2),.map (some mt2)] 73),mpR ArM ma2 az2,mpR ToM mt2 ((endedL tz2 ds++beganL tz ys1).map tg),pt b3 (.cells #[.map (some b2)] 71),pt b1 (.cells #[.slice bp ((beganL tz ys1).length) bc] 38),pt D1 (.deferred (some [])),rowF PairF 55 (sla (fa30 65)) (slc (fa30 65)) (sortP (endedL tz ys1))]) (by rfl) ?_
    refine f_rebase (d:=2) (v:= .slice bp ((beganL tz ys1).length) bc) k4 ?_
    refine f_rebase (d:=3) (v:= .slice (sla (fa30 65)) ((sortP (endedL tz ys1)).length) (slc (fa30 65))) k5 ?_
    refine f_then ?_
    refine c_ret ?_
    refine retM12 6 rfl Tryz.results13 (v:= .slice bp ((beganL tz ys1).length) bc) (v':= .slice (sla (fa30 65)) ((sortP (endedL tz ys1)).length) (slc (fa30 65))) rfl rfl ?_
    intro w hw
    replace hw:=hw.perm (L':=[pt b (.cells #[.map (some ma2),.map (some mt2)] 73),mpR ArM ma2 az2,mpR ToM mt2 ((endedL tz2 ds++beganL tz ys1).map tg),rowF PairF 55 bp bc (sortP (beganL tz ys1)),pt b3 (.cells #[.map (some b2)] 71),pt b1 (.cells #[.slice bp ((beganL tz ys1).length) bc] 38),pt D1 (.deferred none),rowF PairF 55 (sla (fa30 65)) (slc (fa30 65)) (sortP (endedL tz ys1))]) (by exact(perm_ix [1,2,3,0,4,5,6,7] 8 rfl (by kernel_rfl) (by kernel_rfl)))
    have hs:=St.closeSpc (s:=toldS s) (M:=[rowF PairF 55 bp bc (sortP (beganL tz ys1)),pt b3 (.cells #[.map (some b2)] 71),pt b1 (.cells #[.slice bp ((beganL tz ys1).length) bc] 38),pt D1 (.deferred none),rowF PairF 55 (sla (fa30 65)) (slc (fa30 65)) (sortP (endedL tz ys1))]) hw hpa2 (told_end hk hys hpt hpt2 hdp)
    replace hs:=hs.perm (L':=[rowF PairF 55 bp bc (sortP (beganL tz ys1)),rowF PairF 55 (sla (fa30 65)) (slc (fa30 65)) (sortP (endedL tz ys1)),spcR b (toldS s),pt b3 (.cells #[.map (some b2)] 71),pt b1 (.cells #[.slice bp ((beganL tz ys1).length) bc] 38),pt D1 (.deferred none)]) (by exact(perm_ix [1,5,0,2,3,4] 6 rfl (by kernel_rfl) (by kernel_rfl)))
    rw[began_eq hys hpt,ended_eq hys hpt]at hs
    exact⟨bp,bc,(sla (fa30 65)),(slc (fa30 65)),by rw[←began_eq hys hpt,←ended_eq hys hpt,sortP_len,sortP_len]<;>rfl,st_mask [true,true,true,false,false,false] rfl hs⟩
  ·
   refine l_val (v:= .bool true) rfl rfl rfl (e_extract (vs:= #[.bool true,.agg #[Ix (x16.1.a),Ix (x16.1.b)],.agg #[]]) rfl rfl) ?_
   refine l_nil ?_
   refine f_then ?_
   refine c_seq ?_
   refine c_yes rfl ?_
   refine c_skip ?_
   refine f_then ?_
   refine c_block ?_
   refine c_seq ?_
   refine c_region ?_
   refine l_val (v:= .tuple #[.agg #[Ix (x16.1.a),Ix (x16.1.b)],.agg #[]]) rfl rfl rfl (e_entry (K:=ToM) (b:=b2) (r:=it15) (ks:=((endedL tz ys1).map tg)) (pre:=pre) (y:=x16) 5 rfl rfl) ?_
   refine l_val (v:= .agg #[Ix (x16.1.a),Ix (x16.1.b)]) rfl rfl rfl (e_extract (vs:= #[.agg #[Ix (x16.1.a),Ix (x16.1.b)],.agg #[]]) rfl rfl) ?_
   refine l_mv rfl rfl rfl (m_alloc tf33) ?_
   rintro _ _ ⟨b31,rfl,rfl⟩
   refine l_mu rfl rfl (m_store 0 tf35 (b:=b31) (o:=0) (T:=55) (cs:= #[.int .i64 (0),.int .i64 (0)]) (cs':= #[Ix (x16.1.a),Ix (x16.1.b)]) (v:= .agg #[Ix (x16.1.a),Ix (x16.1.b)]) rfl rfl rfl rfl rfl rfl rfl) ?_
   refine l_nil ?_
   refine f_then ?_
   refine c_any [⟨[],[],[0],[42],fun f=>f 42= .pointer (some ⟨b,0,none⟩)⟩,⟨[0],[0],[],[43],fun f=>f 43= .pointer (some ⟨b,0,none⟩)⟩,⟨[0,1],[1],[],[44],fun f=>f 44= .pointer (some ⟨b,1,none⟩)⟩,⟨[0,1,2],[2],[],[45],fun f=>f 45= .map (some mt2)⟩,⟨[],[],[1],[46],fun f=>f 46= .agg #[Ix (x16.1.a),Ix (x16.1.b)]⟩,⟨[0,1,2,3,4],[3,4],[],[],fun _=>True⟩] [⟨none,none,[4],[],fun _=>pt b31 (.cells #[Ix (x16.1.a),Ix (x16.1.b)] 55)⟩,⟨none,none,[3],[],fun _=>pt b (.cells #[.map (some ma2),.map (some mt2)] 73)⟩,⟨none,none,[],[],fun _=>mpR ArM ma2 az2⟩,⟨none,(some 5),[5],[],fun _=>mpR ToM mt2 ((endedL tz2 (pre.map (·.1))).map tg)⟩,⟨none,none,[],[],fun _=>rowF PairF 55 bp bc (beganL tz ys1)⟩,⟨none,none,[],[],fun _=>pt b3 (.cells #[.map (some b2)] 71)⟩,⟨none,none,[],[],fun _=>rgR ToM b2 it15 ((endedL tz ys1).map tg) (pre++[x16])⟩,⟨none,none,[],[],fun _=>pt b1 (.cells #[.slice bp ((beganL tz ys1).length) bc] 38)⟩,⟨none,none,[],[],fun _=>pt D1 (.deferred (some []))⟩,⟨(some 5),none,[],[],fun _=>mpR ToM mt2 (ToM.del ((endedL tz2 (pre.map (·.1))).map tg) x16.1)⟩] [(0,.pointer (some ⟨b,0,none⟩)),(9,.pointer (some ⟨b31,0,none⟩)),(4,.pointer (some ⟨b1,0,none⟩)),(5,.pointer (some ⟨b3,0,none⟩)),(37,.pointer (some ⟨it15,0,none⟩))] [0,2,3,4] [] (by kernel_rfl) (by kernel_rfl) (by kernel_rfl) (by kernel_rfl) rfl ⟨rfl,rfl,rfl,rfl,rfl,trivial⟩ ⟨?_,?_,?_,?_,?_,?_,trivial⟩ ?_
   ·rintro f M-⟨i0,-⟩
    have hs0:f 0= .pointer (some ⟨b,0,none⟩):=i0
    refine ob_start (L':=M) (by rfl) (up_cons rfl hs0) ?_
    refine l_val (v:= .pointer (some ⟨b,0,none⟩)) rfl rfl rfl (e_move) ?_
    refine l_nil ?_
    exact f_owes_d (up_cons rfl hs0) rfl (List.Perm.refl _)
   ·rintro f M ⟨k0,-⟩-
    have hs42:f 42= .pointer (some ⟨b,0,none⟩):=k0
    refine ob_start (L':=M) (by rfl) (up_cons rfl hs42) ?_
    refine l_val (v:= .pointer (some ⟨b,0,none⟩)) rfl rfl rfl (e_nil (a:=⟨b,0,none⟩) rfl) ?_
    refine l_nil ?_
    exact f_owes_d (up_cons rfl hs42) rfl (List.Perm.refl _)
   ·rintro f M ⟨k0,-⟩-
    have hs43:f 43= .pointer (some ⟨b,0,none⟩):=k0
    refine ob_start (L':=M) (by rfl) (up_cons rfl hs43) ?_
    refine l_val (v:= .pointer (some ⟨b,1,none⟩)) rfl rfl rfl (e_fieldPt (b:=b) (o:=0) rfl tf60) ?_
    refine l_nil ?_
    exact f_owes_d (up_cons rfl hs43) rfl (List.Perm.refl _)
   ·rintro f M ⟨k0,-⟩-
    have hs44:f 44= .pointer (some ⟨b,1,none⟩):=k0
    refine ob_start (L':=pt b (.cells #[.map (some ma2),.map (some mt2)] 73)::M) (by rfl) (up_cons rfl hs44) ?_
    refine l_val (v:= .map (some mt2)) rfl rfl rfl (e_load1 tf58 (v:= .map (some mt2)) rfl (k_pt 0 (cs:= #[.map (some ma2),.map (some mt2)]) (vs:=[.map (some mt2)]) rfl rfl)) ?_
    refine l_nil ?_
    exact f_owes_d (up_cons rfl hs44) rfl (perm_front 0 rfl)
   ·rintro f M-⟨i0,-⟩
    have hs9:f 9= .pointer (some ⟨b31,0,none⟩):=i0
    refine ob_start (L':=pt b31 (.cells #[Ix (x16.1.a),Ix (x16.1.b)] 55)::M) (by rfl) (up_cons rfl hs9) ?_
    refine l_val (v:= .agg #[Ix (x16.1.a),Ix (x16.1.b)]) rfl rfl rfl (e_load tf35 (cs:=[Ix (x16.1.a),Ix (x16.1.b)]) rfl (k_pt 0 (cs:= #[Ix (x16.1.a),Ix (x16.1.b)]) (vs:=[Ix (x16.1.a),Ix (x16.1.b)]) rfl rfl) rfl) ?_
    refine l_nil ?_
    exact f_owes_d (up_cons rfl hs9) rfl (perm_front 0 rfl)
   ·rintro f M ⟨k0,k1,-⟩-
    have hs45:f 45= .map (some mt2):=k0
    have hs46:f 46= .agg #[Ix (x16.1.a),Ix (x16.1.b)]:=k1
    refine ob_start (L':=mpR ToM mt2 ((endedL tz2 (pre.map (·.1))).map tg)::M) (by rfl) (up_cons (up_cons rfl hs45) hs46) ?_
    refine l_mc rfl rfl (m_mdel (K:=ToM) (b:=mt2) (ks:=((endedL tz2 (pre.map (·.1))).map tg)) (k:=x16.1) 0 rfl rfl rfl rfl) ?_
    rintro _ _ ⟨rfl,rfl⟩
    refine l_nil ?_
    exact f_owes_n (up_cons (up_cons rfl hs45) hs46) trivial (perm_front 0 rfl)
   rintro fa32 ⟨-,-,-,-,-,-,-⟩ ⟨j0,j1,j2,j3,-⟩
   refine f_re (L':=[pt b31 (.cells #[Ix (x16.1.a),Ix (x16.1.b)] 55),pt b (.cells #[.map (some ma2),.map (some mt2)] 73),mpR ArM ma2 az2,rowF PairF 55 bp bc (beganL tz ys1),pt b3 (.cells #[.map (some b2)] 71),rgR ToM b2 it15 ((endedL tz ys1).map tg) (pre++[x16]),pt b1 (.cells #[.slice bp ((beganL tz ys1).length) bc] 38),pt D1 (.deferred (some [])),mpR ToM mt2 (ToM.del ((endedL tz2 (pre.map (·.1))).map tg) x16.1)]) (by rfl) ?_
   refine f_rebase (d:=0) (v:= .pointer (some ⟨b,0,none⟩)) j0 ?_
   refine f_rebase (d:=4) (v:= .pointer (some ⟨b1,0,none⟩)) j1 ?_
   refine f_rebase (d:=5) (v:= .pointer (some ⟨b3,0,none⟩)) j2 ?_
   refine f_rebase (d:=37) (v:= .pointer (some ⟨it15,0,none⟩)) j3 ?_
   refine f_block ?_
   refine f_perm (L':=[pt b (.cells #[.map (some ma2),.map (some mt2)] 73),mpR ArM ma2 az2,mpR ToM mt2 (ToM.del ((endedL tz2 (pre.map (·.1))).map tg) x16.1),rowF PairF 55 bp bc (beganL tz ys1),pt b3 (.cells #[.map (some b2)] 71),rgR ToM b2 it15 ((endedL tz ys1).map tg) (pre++[x16]),pt b1 (.cells #[.slice bp ((beganL tz ys1).length) bc] 38),pt D1 (.deferred (some [])),pt b31 (.cells #[Ix (x16.1.a),Ix (x16.1.b)] 55)]) (perm_ix [1,2,8,3,4,5,6,7,0] 9 rfl (by kernel_rfl) (by kernel_rfl)) ?_
   refine f_mask (L':=[pt b (.cells #[.map (some ma2),.map (some mt2)] 73),mpR ArM ma2 az2,mpR ToM mt2 (ToM.del ((endedL tz2 (pre.map (·.1))).map tg) x16.1),rowF PairF 55 bp bc (beganL tz ys1),pt b3 (.cells #[.map (some b2)] 71),rgR ToM b2 it15 ((endedL tz ys1).map tg) (pre++[x16]),pt b1 (.cells #[.slice bp ((beganL tz ys1).length) bc] 38),pt D1 (.deferred (some []))]) [true,true,true,true,true,true,true,true,false] rfl ?_
   exact f_cut ⟨(pre++[x16]),⟨⟨rfl,rfl,rfl,rfl⟩,by rw[endedL_gone,List.map_append];rfl,pre_le hx17⟩,(pre_lt hx17)⟩
 ·intro D c pre M h;exact h.elim
end Go.Proofs
