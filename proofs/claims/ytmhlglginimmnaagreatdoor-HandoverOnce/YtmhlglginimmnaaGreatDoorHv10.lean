/-
 Own work; plain Lean (Hv8, Hv9, Hv10).
-/
import Derived.Test.YtmhlglginimmnaaGreatDoorHv7
set_option linter.all false
namespace Go.Proofs
open Go Go.Sl Go.Hv
open Go.Td (sortI sortI_perm sortI_eq sortI_sorted)
theorem sortI_len(xs:List Int):(sortI xs).length=xs.length:=(sortI_perm xs).length_eq
theorem mkeys_pre{ν:Type}{pre ks:List (Int×ν)}{x:Int×ν}(h:∃rs,(pre++[x]++rs).Perm ks):∃l:List Int,l.Perm (ks.map (·.1))∧pre.map (·.1)++[x.1]<+:l:=by
 obtain⟨rs,h⟩:=h
 exact⟨(pre++[x]++rs).map (·.1),h.map _,by rw[List.map_append,List.map_append];exact List.prefix_append _ _⟩
theorem pre_le{α:Type}{pre ks:List α}{x:α}(h:∃rs,(pre++[x]++rs).Perm ks):(pre++[x]).length≤ks.length:=by
 obtain⟨rs,h⟩:=h;rw[←h.length_eq];simp only[List.length_append,List.length_singleton];omega
theorem pre_lt{α:Type}{pre ks:List α}{x:α}(h:∃rs,(pre++[x]++rs).Perm ks):ks.length-(pre++[x]).length<ks.length-pre.length:=by
 have:=pre_le h;simp at this⊢;omega
instance vz0:TyC Tryz.prog 73 false 1:={}
instance vz1:TyC Tryz.prog 81 false 1:={}
theorem vz2:slB Tryz.prog 81 3 1=true:=by kernel_rfl
instance vz3:ZerC Tryz.prog 3 (.int .i64 (0)):={}
theorem vz4:elB Tryz.prog 3 1 8=true:=by kernel_rfl
instance vz5:CfC Tryz.prog 105:={}
instance vz6:CfC Tryz.prog 87:={}
instance vz7:CfC Tryz.prog 88:={}
theorem keysE_ok(β:Base)(w:World)(hw:St β [] w)(m:Nat):Calls Tryz.prog 51 #[.map (some m)] w fun r w'=>∃b,r= .returned (.func (.func 89) #[] #[pp b 0])∧St β [pt b (.cells #[.map (some m)] 73)] w':=by
 refine enter (n:=4) Tryz.func51 rfl Tryz.ntmps51 rfl ?_ hw
 refine csr (l_mv rfl rfl rfl (m_box (v:= .map (some m)) rfl) ?_)
 rintro _ _ ⟨b1,rfl,rfl⟩
 refine lv e_assign (lnc (lv (v:= .func (.func 89) #[] #[pp b1 0]) (e_func (u:=[]) (v:=[pp b1 0]) rfl rfl) (lE oaf (lnf (c_ret ?_)))))
 refine ret1 Tryz.results51 rfl ?_
 intro w hw
 exact⟨b1,rfl,st_mask [true] rfl hw⟩
theorem keysE_seq(β:Base)(b m:Nat)(ks:List (Int×KEh))(hm:mpR EnM m ks β.heap):SeqK Tryz.prog β (.func (.func 89) #[] #[pp b 0]) (fun z:Int=>[Ix z]) (fun l=>l.Perm (ks.map (·.1))) [pt b (.cells #[.map (some m)] 73)]:=by
 refine⟨89,[],[pp b 0],rfl,by kernel_rfl,fun β₁ ext l J X hY M w hJ hw=> ?_⟩
 replace hw:=hw.perm (List.perm_append_comm)
 have hm:=mpR.mono _ _ _ _ _ ext.1 hm
 refine enter (n:=14) Tryz.func89 rfl Tryz.ntmps89 rfl ?_ hw
 refine csr (lv (v:= .map (some m)) (e_load1 vz0.ok rfl (k_pt 0 rfl rfl)) (l_mv rfl rfl rfl (m_rangeB (K:=EnM) (b:=m) (ks:=ks) rfl rfl hm) ?_))
 rintro _ _ ⟨it1,rfl,rfl⟩
 refine lnf (c_block ?_)
 refine c_loop (fun(x_:List (Int×KEh)×List Res) f L=>match x_ with|(pre,M)=>(f 0=yfn l∧f 5=pp it1 0)∧L=(itR EnM β₁ m it1 ks pre::pt b (.cells #[.map (some m)] 73)::M)∧(pre.length≤ks.length∧J (pre.map (·.1)) M)) (fun(pre,M)=>ks.length-pre.length) ([],M) ?_ ?_
 ·exact⟨⟨rfl,rfl⟩,rfl,⟨Nat.zero_le _,hJ⟩⟩
 rintro⟨pre,M⟩ f0 L0 ⟨⟨hs0,hs5⟩,hL,⟨hpl,hJ⟩⟩
 subst L0
 refine rbs 0 hs0 (rbs 5 hs5 (csr (l_mv rfl rfl rfl (m_nextB (K:=EnM) (b:=m) (r:=it1) (ks:=ks) (pre:=pre) 0 rfl rfl) ?_)))
 rintro _ _ (⟨rfl,he4,rfl⟩|⟨x2,rfl,hx3,rfl⟩)
 ·refine lE oxb (lnf (c_seq (c_no rfl (c_exit (f_then_exit (f_then_exit (f_exit (end0 Tryz.results89 ?_))))))))
  intro w hw
  exact⟨⟨_,rfl⟩,.inl ⟨_,M,he4.map _,hJ,st_mask [false,false] rfl hw⟩⟩
 refine lE oxb (lnf (c_seq (c_yes rfl (csk (c_block (csr ?_))))))
 refine lv (v:= .tuple #[Ix (x2.1),.agg #[Ix (x2.2.id),.slice x2.2.p (x2.2.n) x2.2.c]]) (e_entryB (K:=EnM) (b:=m) (r:=it1) (ks:=ks) (pre:=pre) (y:=x2) 0 rfl rfl) ?_
 refine lE oxi (lE oai (lnc (lv e_move (lE omi ?_))))
 refine l_yield (own:=[itR EnM β₁ m it1 ks (pre++[x2]),pt b (.cells #[.map (some m)] 73)]) (M:=M) (d:=12) (enc:=fun z:Int=>[Ix z]) (pre:=pre.map (·.1)) (x:=x2.1) rfl rfl rfl rfl hY (mkeys_pre hx3) hJ (fun M1 hJ1=> ?_) (fun M1 hX1=> ?_)
 ·refine lE ont (lnf (c_no rfl (c_skip (f_block ?_))))
  exact f_cut ⟨((pre++[x2]),M1),⟨⟨rfl,rfl⟩,rfl,⟨pre_le hx3,by rw[List.map_append];exact hJ1⟩⟩,(pre_lt hx3)⟩
 refine lE ont (lnf (c_yes rfl (c_ret (f_block_ret (f_then_ret (f_block_ret (ret0 Tryz.results89 ?_)))))))
 intro w hw
 exact⟨⟨_,rfl⟩,.inr ⟨_,M1,hX1,st_mask [false,false] rfl hw⟩⟩
theorem appendSeqI_ok(β:Base)(w:World)(fn:Value)(S:List Int→Prop)(K:List Res)(hs:SeqK Tryz.prog β fn (fun z:Int=>[Ix z]) S K)(hB:∀l,S l→l.length≤1048576)(hw:St β K w):Calls Tryz.prog 105 #[.slice none 0 0,fn] w fun r w'=>∃p c xs,S xs∧r= .returned (sB p xs c)∧St β [rowF IntF 3 p c xs] w':=by
 refine enterM (n:=13) Tryz.func105 rfl Tryz.ntmps105 rfl ?_ hw
 refine csr (bxs fun b1=> ?_)
 refine lE oas (lnf (cs2 (c_emp (r:=rowF IntF 3 none 0 []) (row_nil _ _ _) (c_region (lv e_move (lnf (c_block ?_)))))))
 refine c_rangeK (L:=[rowF IntF 3 none 0 [],pt b1 (.cells #[.slice none 0 0] 81)]) (K:=K) (α:=Int) (enc:=fun z:Int=>[Ix z]) (S:=S) (ps:=[7]) (I:=fun(pre:List (Int)) (L:List Res)=>∃(p:Option Addr),∃(c:Nat),L=[rowF IntF 3 p c pre,pt b1 (.cells #[sB p pre c] 81)]∧(True)) (X:=fun _ _ _=>False) rfl (hs) (fun _=>rfl) rfl ⟨none,0,rfl,trivial⟩ ?_ ?_ ?_
 ·rintro l β1 pre x M ext hpre ⟨p,c,rfl,-⟩
  have hpl:pre.length≤1048576:=by obtain⟨l,h1,h2⟩:=hpre;have h3:=h2.length_le;have h4:=hB l h1;rw[List.length_append]at h3;omega
  refine c_region (lE oai (l_nil (f_cut (fun β2 ext2=> ?_))))
  refine c_block (c_region (lE (ols 1) (lE omi (l_mv rfl rfl rfl (m_slices vz2 vz3.ok (cells:= #[Ix (x)]) rfl rfl rfl rfl) ?_))))
  rintro _ _ ⟨b2,rfl,rfl⟩
  refine l_mv rfl rfl rfl (m_appendFlN (F:=IntF) 1 vz2 vz4 (p:=p) (m:=pre.length) (xs:=pre) (ys:=[x]) (ao:=(some ⟨b2,0,none⟩)) (k:=1) (c:=1) rfl rfl rfl rfl rfl (k_ptFl (z:=x) 0 rfl rfl) (by first|omega|simp only[List.length_nil,List.length_cons,List.length_append,List.length_set];omega) (by first|omega|simp only[List.length_nil,List.length_cons,List.length_append,List.length_set];omega)) ?_
  rintro _ _ ⟨rp3,rc4,rfl,rfl⟩
  refine lu (mS 2 (#[sB rp3 (pre++[x]) rc4])) (l_nil (f_block (f_mask [false,true,true] rfl ?_)))
  exact fun a w ha hw=>⟨_,⟨rp3,rc4,rfl,trivial⟩,hw⟩
 ·rintro D1 ys1 M hS1 ⟨p,c,rfl,-⟩
  refine f_block (ftc (lE (ols 1) (lE oas (lnf (c_ret (retM 2 rfl Tryz.results105 (v:=sB p ys1 c) rfl ?_))))))
  intro w hw
  exact⟨p,c,ys1,hS1,rfl,st_mask [true,false,false] rfl hw⟩
 intro D c pre M h;exact h.elim
theorem collectI_ok(β:Base)(w:World)(fn:Value)(S:List Int→Prop)(K:List Res)(hs:SeqK Tryz.prog β fn (fun z:Int=>[Ix z]) S K)(hB:∀l,S l→l.length≤1048576)(hw:St β K w):Calls Tryz.prog 87 #[fn] w fun r w'=>∃p c xs,S xs∧r= .returned (sB p xs c)∧St β [rowF IntF 3 p c xs] w':=by
 refine enter (n:=5) Tryz.func87 rfl Tryz.ntmps87 rfl ?_ hw
 refine csr (lE oas (lnc (lv e_move (l_call rfl rfl rfl (cl0 (vs:=[.slice none 0 0,fn]) vz5.ok rfl rfl) ?_))))
 intro w hw
 refine(appendSeqI_ok β w fn S K hs hB hw).mono ?_
 rintro e w' ⟨p,c,xs,hS,rfl,hw'⟩
 refine⟨_,rfl,_,hw',?_⟩
 clear hw hw'
 refine lE oas (lnf (c_ret (ret1 Tryz.results87 rfl ?_)))
 intro w hw
 exact⟨p,c,xs,hS,rfl,st_mask [true] rfl hw⟩
theorem sortedI_ok(β:Base)(w:World)(fn:Value)(S:List Int→Prop)(K:List Res)(hs:SeqK Tryz.prog β fn (fun z:Int=>[Ix z]) S K)(hB:∀l,S l→l.length≤1048576)(hw:St β K w):Calls Tryz.prog 50 #[fn] w fun r w'=>∃p c xs,S xs∧r= .returned (sB p (sortI xs) c)∧St β [rowF IntF 3 p c (sortI xs)] w':=by
 refine enter (n:=9) Tryz.func50 rfl Tryz.ntmps50 rfl ?_ hw
 refine csr (lE oas (lnc (lv e_move (l_call rfl rfl rfl (cl0 (vs:=[fn]) vz6.ok rfl rfl) ?_))))
 intro w hw
 refine(collectI_ok β w fn S K hs hB hw).mono ?_
 rintro e w' ⟨p,c,xs,hS,rfl,hw'⟩
 refine⟨_,rfl,_,hw',?_⟩
 clear hw hw'
 refine lE oas (lnf (c_seq ?_))
 have hxl:=hB _ hS
 refine c_region (lE oms (l_call rfl rfl rfl (cl0 (vs:=[sB p xs c]) vz7.ok rfl rfl) ?_))
 intro w hw
 replace hw:=hw.perm (L':=_::[]) (by exact(perm_front 0 rfl))
 obtain⟨β1,sb,kn,hw1,back⟩:=St.frame (L:=[_]) (M:=[]) hw
 refine(sortI_ok β1 w _ _ xs hw1 (by omega)).mono ?_
 rintro e w' ⟨rfl,hw'⟩
 refine⟨_,rfl,_,back _ _ hw',?_⟩
 clear hw hw1 hw' back kn sb
 refine lnc (lE oms (lE oas (lnf (c_ret (ret1 Tryz.results50 (v:=sB p xs c) rfl ?_)))))
 intro w hw
 exact⟨p,c,xs,hS,by unfold sB;rw[sortI_len],st_mask [true] rfl hw⟩
theorem sortedE_ok(β:Base)(w:World)(fn:Value)(E:List Int)(K:List Res)(hs:SeqK Tryz.prog β fn (fun z:Int=>[Ix z]) (fun l=>l.Perm E) K)(hn:E.length≤1048576)(hw:St β K w):Calls Tryz.prog 50 #[fn] w fun r w'=>∃p c,r= .returned (sB p (sortI E) c)∧St β [rowF IntF 3 p c (sortI E)] w':=by
 refine(sortedI_ok β w fn _ K hs (fun l hl=>by rw[hl.length_eq];exact hn) hw).mono ?_
 rintro r w' ⟨p,c,xs,hS,h1,h2⟩
 have e:sortI xs=sortI E:=sortI_eq (hS.trans (sortI_perm E).symm) (sortI_sorted E)
 rw[e]at h1 h2
 exact⟨p,c,h1,h2⟩
end Go.Proofs
namespace Go.Proofs
open Go Go.Sl Go.Hv
open Go.Td (sortI sortI_perm sortI_eq sortI_sorted)
theorem sortedX_ok(β:Base)(w:World)(fn:Value)(E:List Int)(K:List Res)(hs:SeqK Tryz.prog β fn (fun z:Int=>[Ix z]) (fun l=>l.Perm E) K)(hn:E.length≤1048576){Y:List Int}(hY:sortI E=Y)(hw:St β K w):Calls Tryz.prog 50 #[fn] w fun r w'=>∃p c,r= .returned (sB p Y c)∧St β [rowF IntF 3 p c Y] w':=by
 subst hY;exact sortedE_ok β w fn E K hs hn hw
theorem perm_3{α:Type _}(a b c:α):[a,b,c].Perm ([b,c]++[a]):=(List.perm_append_comm (l₁:=[a]) (l₂:=[b,c]))
instance ua0:CfC Tryz.prog 35:={}
instance ua1:FldC Tryz.prog 77 2 2 16 true:={}
instance ua2:FldC Tryz.prog 75 0 0 1 false:={}
instance ua3:TyC Tryz.prog 73 false 1:={}
instance ua4:CfC Tryz.prog 51:={}
instance ua5:CfC Tryz.prog 50:={}
instance ua6:UndC Tryz.prog 81 3:={}
theorem ua7:slB Tryz.prog 81 3 1=true:=by kernel_rfl
instance ua8:TyC Tryz.prog 3 false 1:={}
instance ua9:CfC Tryz.prog 38:={}
theorem ua10:slB Tryz.prog 40 32 2=true:=by kernel_rfl
instance ua11:ZerC Tryz.prog 32 (.agg #[.int .i64 (0),.slice none 0 0]):={}
theorem ua12:elB Tryz.prog 32 2 32=true:=by kernel_rfl
instance ua13:UndC Tryz.prog 35 38:={}
theorem ua14:slB Tryz.prog 35 38 6=true:=by kernel_rfl
theorem ua15:elB Tryz.prog 38 6 64=true:=by kernel_rfl
instance ua16:FldC Tryz.prog 75 1 1 1 false:={}
instance ua17:TyC Tryz.prog 35 false 1:={}
instance ua18:CfC Tryz.prog 52:={}
instance ua19:FldC Tryz.prog 38 4 4 2 true:={}
instance ua20:TyC Tryz.prog 32 true 2:={}
instance ua21:CfC Tryz.prog 43:={}
instance ua22:FldC Tryz.prog 75 3 9 7 true:={}
instance ua23:ArrC Tryz.prog 56 7 3 1:={}
instance ua24:CfC Tryz.prog 20:={}
instance ua25:TyC Tryz.prog 56 true 7:={}
instance ua26:FldC Tryz.prog 77 0 0 1 false:={}
theorem ua27:stB Tryz.prog 38 [(0,1),(1,1),(2,1),(3,1),(4,2)]=true:=by kernel_rfl
instance ua28:ZerC Tryz.prog 38 (.agg #[.int .i64 (0),.int .i64 (0),.int .i64 (0),.bool false,.int .i64 (0),.slice none 0 0]):={}
set_option maxHeartbeats 4000000 in
theorem hereV_ok(β:Base)(w:World)(G J:Nat)(X:KG)(N:Int)(hX:XOk X N)(hw:St β [gvR G J X false] w):Calls Tryz.prog 16 #[pp G 0] w fun r w'=>∃p c,r= .returned (sB p X.here c)∧St β [entsR p c X.here,gvR G J X false] w':=by
 obtain⟨m,p,c,ks,mz,zs,hk,hw⟩:=St.openGv hw
 have hml:(X.here.map KEnt.id).length=X.here.length:=List.length_map _
 refine enter (n:=34) Tryz.func16 rfl Tryz.ntmps16 rfl ?_ hw
 refine csr (lE oas (lnf (cs2 (c_region (lE omp ?_)))))
 refine lcR clA (fun w β1 sb kn hw1=>up_ok β1 w hw1 G J m X.zone p mz.length c X.gv X.lv (kn _ (k_pt 0 (o:=0) rfl rfl))) (lE onq (lnf (c_no rfl ?_)))
 refine csk (csr (lE oas (lnf (cs2 (c_emp (r:=rowF EhF 32 none 0 []) (row_nil _ _ _) (c_emp (r:=poolR []) poolR_nil (c_region (lE omp (lE onp ?_)))))))))
 refine lE ofp (lE ofp (lv (v:= .map (some m)) (e_load1 ua3.ok rfl (k_pt 2 rfl rfl)) ?_))
 refine lcf (cl0 (vs:=[.map (some m)]) ua4.ok rfl rfl) rfl fun w β1 sb kn hw1 back=>(keysE_ok β1 w hw1 m).mono ?_
 rintro e w' ⟨b1,rfl,hw'⟩
 refine⟨_,rfl,_,back _ _ hw',?_⟩
 clear hw1 hw' back kn sb
 refine l_call rfl rfl rfl (cl0 (vs:=[.func (.func 89) #[] #[pp b1 0]]) ua5.ok rfl rfl) ?_
 intro w hw
 replace hw:=hw.perm (L':=_::_::_::_::_::_::_::[]) (by exact(((((((perm_front 6 rfl).trans (perm_front 6 rfl)).trans (perm_front 6 rfl)).trans (perm_front 6 rfl)).trans (perm_front 6 rfl)).trans (perm_front 6 rfl)).trans (perm_front 6 rfl)))
 obtain⟨β1,sb,kn,hw1,back⟩:=St.frame (L:=[_]) (M:=_::_::_::_::_::_::[]) hw
 refine(sortedX_ok β1 w _ _ _ (keysE_seq β1 b1 m ks (kn _ (Knows.of_res 3 rfl (mpR.mono _ _ _) fun _ h=>h))) (by rw[List.length_map,hk.klen];exact Nat.le_trans hX.few (by decide)) (hk.sorted hX) hw1).mono ?_
 rintro e w' ⟨p2,c3,rfl,hw'⟩
 refine⟨_,rfl,_,back _ _ hw',?_⟩
 clear hw hw1 hw' back kn sb
 refine lE oln (lE omi (lnf (c_block (c_mask [true,true,true,true,true,true,true] rfl ?_))))
 refine c_loop (fun(x_:Nat×EPool×Option Addr×Nat) f L=>match x_ with|(k,ys,q,d)=>(f 0=pp G 0∧f 3=sB q ys d∧f 15=sB p2 (X.here.map KEnt.id) c3∧f 16=Nx ((X.here.map KEnt.id).length)∧f 17=Nx (k))∧L=[rowF IntF 3 p2 c3 (X.here.map KEnt.id),poolR ys,rowF EhF 32 q d (ys.map Prod.fst),pt G (.cells (gC (X.zone) J m p (mz.length) c X.gv X.lv false) 77),mpR EnM m ks,rowF MgF 38 p c (mz.map Prod.fst),poolR zs]∧(k≤X.here.length∧ys.map Prod.snd=X.here.take k∧∀z∈ys,EHd z)) (fun(k,ys,q,d)=>X.here.length-k) (0,[],none,0) ?_ ?_
 ·exact⟨⟨rfl,rfl,rfl,rfl,rfl⟩,rfl,⟨Nat.zero_le _,rfl,fun z hz=>by cases hz⟩⟩
 rintro⟨k,ys,q,d⟩ f0 L0 ⟨⟨hs0,hs3,hs15,hs16,hs17⟩,hL,⟨hkl,hys,hyh⟩⟩
 subst L0
 refine rbs 0 hs0 (rbs 3 hs3 (rbs 15 hs15 (rbs 16 hs16 (rbs 17 hs17 ?_))))
 have hyl:ys.length=k:=by have:=congrArg List.length hys;rw[List.length_map,List.length_take]at this;omega
 have hyl2:(ys.map Prod.fst).length=k:=by rw[List.length_map];exact hyl
 have hf:=hX.few
 refine csr (lE olt (lnf (c_seq (c_if _ rfl (fun hc4=> ?_) (fun hc4=> ?_)))))
 ·refine csk (c_seq (c_block (csr (lv (v:= .pointer (some ((ba p2).add (k*1)))) (e_indexFlN 0 (F:=IntF) rfl rfl rfl ua7 (by omega) rfl) ?_))))
  obtain⟨x5,hx6⟩:∃x_,(X.here.map KEnt.id)[k]? =some x_:=⟨_,List.getElem?_eq_getElem (by first|omega|decide)⟩
  refine lv (v:=Ix (x5)) (e_load1 ua8.ok rfl (k_flAt 0 (F:=IntF) rfl hx6)) (lE oai (lnf ?_))
  obtain⟨e,hd,he,hem,hex,hlk,hez,hhd⟩:=hk.here hx6
  have hel:=(hX.right e hem).len
  have he2:X.here[k]? =some (⟨hd.id,e.comps⟩:KEnt):=by rw[show hd.id=e.id from hhd.id];exact he
  refine c_region (lE oms (lE omp (lE onp (lE ofp (lE ofp (lv (v:= .map (some m)) (e_load1 ua3.ok rfl (k_pt 3 rfl rfl)) (lE omi ?_)))))))
  refine lv (v:= .agg #[Ix (hd.id),.slice hd.p (hd.n) hd.c]) (ev_eq (congrArg EnM.encv hlk) (e_look1 (K:=EnM) (b:=m) (ks:=ks) (k:=x5) rfl rfl rfl (Knows.of_res 4 rfl (mpR.mono _ _ _) fun _ h=>h))) ?_
  refine lcf (cl0 (vs:=[.agg #[Ix (hd.id),.slice hd.p (hd.n) hd.c]]) ua9.ok rfl rfl) rfl fun w β1 sb kn hw1 back=>(own_ok β1 w hw1 hd.id _ e.comps (kn _ (k_poolS (zs:=zs) (z:=(hd,e)) 6 rfl hez hhd)) (by omega)).mono ?_
  rintro e w' ⟨p7,c8,rfl,hw'⟩
  refine⟨_,rfl,_,back _ _ hw',?_⟩
  clear hw1 hw' back kn sb
  refine l_mv rfl rfl rfl (m_slices ua10 ua11.ok (cells:= #[Ix (hd.id),sB p7 e.comps c8]) rfl rfl rfl rfl) ?_
  rintro _ _ ⟨b9,rfl,rfl⟩
  refine l_mv rfl rfl rfl (m_appendFlN (F:=EhF) 4 ua10 ua12 (p:=q) (m:=ys.length) (xs:=(ys.map Prod.fst)) (ys:=[(⟨hd.id,p7,e.comps.length,c8⟩:KEh)]) (ao:=(some ⟨b9,0,none⟩)) (k:=1) (c:=1) rfl (List.length_map _).symm rfl rfl rfl (k_ptFl (z:=(⟨hd.id,p7,e.comps.length,c8⟩:KEh)) 0 rfl rfl) (by first|omega|simp only[List.length_nil,List.length_cons,List.length_append,List.length_set];omega) (by first|omega|simp only[List.length_nil,List.length_cons,List.length_append,List.length_set];omega)) ?_
  rintro _ _ ⟨rp10,rc11,rfl,rfl⟩
  refine lE oas (l_nil (f_block (f_then (c_region ?_))))
  refine lv (v:=Nx (k+1)) (e_add (a:=((k:Nat):Int)) (b:=(1:Int)) rfl rfl (i64n (by omega) (by omega))) (lE omi (l_nil ?_))
  refine f_pi [1,3,0,2,4,5,6,7,8] 9 rfl (by kernel_rfl) ?_
  refine f_merge (L:=[rowF CpF 100 p7 c8 e.comps,poolR ys]) (M:=[pt b9 (.cells #[Ix (hd.id),sB p7 e.comps c8] 32),rowF IntF 3 p2 c3 (X.here.map KEnt.id),rowF EhF 32 rp10 rc11 ((ys.map Prod.fst)++[(⟨hd.id,p7,e.comps.length,c8⟩:KEh)]),pt G (.cells (gC (X.zone) J m p (mz.length) c X.gv X.lv false) 77),mpR EnM m ks,rowF MgF 38 p c (mz.map Prod.fst),poolR zs]) (r:=poolR (ys++[((⟨hd.id,p7,e.comps.length,c8⟩:KEh),(⟨hd.id,e.comps⟩:KEnt))])) (poolR_add rfl) ?_
  refine f_re (L':=[poolR (ys++[((⟨hd.id,p7,e.comps.length,c8⟩:KEh),(⟨hd.id,e.comps⟩:KEnt))]),pt b9 (.cells #[Ix (hd.id),sB p7 e.comps c8] 32),rowF IntF 3 p2 c3 (X.here.map KEnt.id),rowF EhF 32 rp10 rc11 ((ys++[((⟨hd.id,p7,e.comps.length,c8⟩:KEh),(⟨hd.id,e.comps⟩:KEnt))]).map Prod.fst),pt G (.cells (gC (X.zone) J m p (mz.length) c X.gv X.lv false) 77),mpR EnM m ks,rowF MgF 38 p c (mz.map Prod.fst),poolR zs]) (by simp only[List.map_append,List.map_cons,List.map_nil]) ?_
  refine f_rebase (d:=3) (show(sB rp10 ((ys.map Prod.fst)++[(⟨hd.id,p7,e.comps.length,c8⟩:KEh)]) rc11:Value)=sB rp10 (ys++[((⟨hd.id,p7,e.comps.length,c8⟩:KEh),(⟨hd.id,e.comps⟩:KEnt))]) rc11 from congrArg (fun z=>Value.slice rp10 z rc11) (by simp only[List.length_append,List.length_map,List.length_cons,List.length_nil]<;>rfl)) ?_
  refine f_perm (L':=[rowF IntF 3 p2 c3 (X.here.map KEnt.id),poolR (ys++[((⟨hd.id,p7,e.comps.length,c8⟩:KEh),(⟨hd.id,e.comps⟩:KEnt))]),rowF EhF 32 rp10 rc11 ((ys++[((⟨hd.id,p7,e.comps.length,c8⟩:KEh),(⟨hd.id,e.comps⟩:KEnt))]).map Prod.fst),pt G (.cells (gC (X.zone) J m p (mz.length) c X.gv X.lv false) 77),mpR EnM m ks,rowF MgF 38 p c (mz.map Prod.fst),poolR zs,pt b9 (.cells #[Ix (hd.id),sB p7 e.comps c8] 32)]) (perm_ix [2,0,3,4,5,6,7,1] 8 rfl (by kernel_rfl) (by kernel_rfl)) ?_
  refine f_mask (L':=[rowF IntF 3 p2 c3 (X.here.map KEnt.id),poolR (ys++[((⟨hd.id,p7,e.comps.length,c8⟩:KEh),(⟨hd.id,e.comps⟩:KEnt))]),rowF EhF 32 rp10 rc11 ((ys++[((⟨hd.id,p7,e.comps.length,c8⟩:KEh),(⟨hd.id,e.comps⟩:KEnt))]).map Prod.fst),pt G (.cells (gC (X.zone) J m p (mz.length) c X.gv X.lv false) 77),mpR EnM m ks,rowF MgF 38 p c (mz.map Prod.fst),poolR zs]) [true,true,true,true,true,true,true,false] rfl ?_
  exact f_cut ⟨(k+1,(ys++[((⟨hd.id,p7,e.comps.length,c8⟩:KEh),(⟨hd.id,e.comps⟩:KEnt))]),rp10,rc11),⟨⟨rfl,rfl,rfl,rfl,rfl⟩,rfl,⟨by omega,take_snd hys he2,all_snoc hyh ⟨rfl,rfl⟩⟩⟩,(show X.here.length-(k+1)<X.here.length-k from by omega)⟩
 refine c_exit (f_then_exit (f_then_exit (f_exit (ftc (lE oms (lE oas (lnf (c_ret (ret1 Tryz.results16 (v:=sB q ys d) rfl ?_)))))))))
 intro w hw
 have hye:ys.map Prod.snd=X.here:=by rw[hys,List.take_of_length_le (by omega)]
 have hyn:ys.length=X.here.length:=by rw[←hye,List.length_map]
 replace hw:=hw.perm (L':=[pt G (.cells (gC (X.zone) J m p (mz.length) c X.gv X.lv false) 77),mpR EnM m ks,rowF MgF 38 p c (mz.map Prod.fst),poolR zs,rowF EhF 32 q d (ys.map Prod.fst),poolR ys,rowF IntF 3 p2 c3 (X.here.map KEnt.id)]) (by exact(perm_ix [3,4,5,6,2,1,0] 7 rfl (by kernel_rfl) (by kernel_rfl)))
 replace hw:=st_mask (L':=[pt G (.cells (gC (X.zone) J m p (mz.length) c X.gv X.lv false) 77),mpR EnM m ks,rowF MgF 38 p c (mz.map Prod.fst),poolR zs,rowF EhF 32 q d (ys.map Prod.fst),poolR ys]) [true,true,true,true,true,true,false] rfl hw
 replace hw:=St.closeGv (M:=[rowF EhF 32 q d (ys.map Prod.fst),poolR ys]) hk hw
 exact⟨q,d,by unfold sB;rw[hyn],(St.merge (L:=[rowF EhF 32 q d (ys.map Prod.fst),poolR ys]) (hw.perm (perm_3 _ _ _)) (ents_close hye hyh))⟩
theorem cloneM_ok(β:Base)(w:World)(hw:St β [] w)(v:Value)(xs:List KMg)(hs:Sl MgF.R β.heap v xs)(hn:xs.length≤1048576):Calls Tryz.prog 52 #[v] w fun r w'=>∃p c,r= .returned (sB p xs c)∧St β [rowF MgF 38 p c xs] w':=by
 obtain⟨va,vc,rfl,vl,vm,ve⟩:=hs.get
 refine enter (n:=8) Tryz.func52 rfl Tryz.ntmps52 rfl ?_ hw
 refine csr (lE oas (lnf (cs2 (c_region (lE oms (lv (v:= .bool (va.isNone)) (e_eql_snil (a:=va) rfl rfl ua13.ok) (lnf ?_)))))))
 refine c_ifb (va.isNone) rfl (fun hc1=> ?_) (fun hc1=> ?_)
 ·refine csr (lE oas (lnf (c_ret (f_then_ret (ret1 Tryz.results52 rfl ?_)))))
  intro w hw
  obtain rfl:=nil_empty ve hc1
  exact⟨none,0,rfl,(st_mask [] rfl hw).emp (row_nil _ _ _)⟩
 refine csk (csr (l_mv rfl rfl rfl (m_slice0 ua14) ?_))
 rintro _ _ ⟨b2,rfl,rfl⟩
 refine l_conseq 0 rfl (r':=rowF MgF 38 (some ⟨b2,0,none⟩) 0 []) (fun a h=>pt_rowF (F:=MgF) (xs:=[]) rfl (by decide) a h) (lE oms ?_)
 refine l_mv rfl rfl rfl (m_appendFlN (F:=MgF) 0 ua14 ua15 (p:=(some ⟨b2,0,none⟩)) (m:=0) (xs:=[]) (ys:=xs) (ao:=va) (k:=xs.length) (c:=vc) rfl rfl rfl rfl rfl (Knows.of_base (Elems.mono _ _ _) ve) (by first|omega|simp only[List.length_nil,List.length_cons,List.length_append,List.length_set];omega) (by first|omega|simp only[List.length_nil,List.length_cons,List.length_append,List.length_set];omega)) ?_
 rintro _ _ ⟨rp3,rc4,rfl,rfl⟩
 refine lE oas (lnf (c_ret (ret1 Tryz.results52 rfl ?_)))
 intro w hw
 exact⟨_,_,rfl,st_mask (L':=[rowF MgF 38 rp3 rc4 xs]) [true] rfl hw⟩
set_option maxHeartbeats 4000000 in
theorem outV_ok(β:Base)(w:World)(G J:Nat)(X:KG)(N:Int)(hX:XOk X N)(hw:St β [gvR G J X false] w):Calls Tryz.prog 20 #[pp G 0] w fun r w'=>∃p c,r= .returned (sB p X.out c)∧St β [msgsR p c X.out,gvR G J X false] w':=by
 obtain⟨m,p,c,ks,mz,zs,hk,hw⟩:=St.openGv hw
 have hmlm:(mz.map Prod.fst).length=mz.length:=List.length_map _
 have hmf:(mz.map Prod.fst).length≤1048576:=by rw[List.length_map,hk.mlen];exact Nat.le_trans hX.ofew (by decide)
 refine enter (n:=31) Tryz.func20 rfl Tryz.ntmps20 rfl ?_ hw
 refine csr (lE oas (lnf (cs2 (c_region (lE omp ?_)))))
 refine lcR clA (fun w β1 sb kn hw1=>up_ok β1 w hw1 G J m X.zone p mz.length c X.gv X.lv (kn _ (k_pt 0 (o:=0) rfl rfl))) (lE onq (lnf (c_no rfl ?_)))
 refine csk (csr (lE omp (lE onp (lE ofp (lE ofp (lE (ols 0) ?_))))))
 refine lcf (cl0 (vs:=[sB p mz c]) ua18.ok rfl rfl) rfl fun w β1 sb kn hw1 back=>(cloneM_ok β1 w hw1 _ (mz.map Prod.fst) (kn _ (k_flN 2 (F:=MgF) (m:=mz.length) rfl (List.length_map _).symm)) (by omega)).mono ?_
 rintro e w' ⟨p1,c2,rfl,hw'⟩
 refine⟨_,rfl,_,back _ _ hw',?_⟩
 clear hw1 hw' back kn sb
 refine lE oas (lnf (cs2 (c_emp (r:=poolR []) poolR_nil (c_region (lE oms (lE oln (lE omi (lnf (c_block ?_)))))))))
 refine c_mask [true,true,true,true,true,true] rfl ?_
 refine c_loop (fun(x_:Nat×MPool) f L=>match x_ with|(k,nz)=>(f 3=sB p1 (mz.map Prod.fst) c2∧f 15=Nx ((mz.map Prod.fst).length)∧f 16=Nx (k))∧L=[poolR (MPool.e nz),rowF MgF 38 p1 c2 ((nz.map Prod.fst)++(mz.map Prod.fst).drop k),pt G (.cells (gC (X.zone) J m p (mz.length) c X.gv X.lv false) 77),mpR EnM m ks,rowF MgF 38 p c (mz.map Prod.fst),poolR zs]∧(k≤mz.length∧nz.map Prod.snd=X.out.take k∧(∀z∈nz,MHd z)∧nz.length=k)) (fun(k,nz)=>mz.length-k) (0,[]) ?_ ?_
 ·exact⟨⟨rfl,rfl,rfl⟩,rfl,⟨Nat.zero_le _,rfl,(fun z hz=>by cases hz),rfl⟩⟩
 rintro⟨k,nz⟩ f0 L0 ⟨⟨hs3,hs15,hs16⟩,hL,⟨hkl,hys,hyh,hnl⟩⟩
 subst L0
 refine rbs 3 hs3 (rbs 15 hs15 (rbs 16 hs16 ?_))
 have hfl:((nz.map Prod.fst)++(mz.map Prod.fst).drop k).length=mz.length:=by rw[List.length_append,List.length_map,List.length_drop,List.length_map];omega
 have hmo:=hk.mlen
 have hf:=hX.ofew
 refine csr (lE olt (lnf (c_seq (c_if _ rfl (fun hc3=> ?_) (fun hc3=> ?_)))))
 ·refine csk (c_seq (c_block (csr (lE omi (lE oai (lnf ?_))))))
  obtain⟨x4,hx5⟩:∃x_,((nz.map Prod.fst)++(mz.map Prod.fst).drop k)[k]? =some x_:=⟨_,List.getElem?_eq_getElem (by first|omega|decide)⟩
  obtain⟨z,hz,hzx⟩:=fill_get hnl hx5
  obtain⟨ho,hmh,hez,hhd⟩:=hk.outAt hz
  rw[hzx]at hez hhd
  have hel:=(hX.oright _ (List.mem_of_getElem? ho)).len
  refine c_region (lE oms (lE omi (lE oms (lE omi ?_))))
  refine lv (v:= .pointer (some ((ba p1).add (k*6)))) (e_indexFlN 1 (F:=MgF) rfl (by omega) rfl ua14 (by omega) rfl) (lE ofd ?_)
  refine lv (v:= .agg #[Ix (x4.id),.slice x4.p (x4.n) x4.c]) (e_load ua20.ok rfl (k_flPart 1 (F:=MgF) (o:=4) (us:=[Ix (x4.id),.slice x4.p (x4.n) x4.c]) rfl hx5 rfl) rfl) ?_
  refine lcf (cl0 (vs:=[.agg #[Ix (x4.id),.slice x4.p (x4.n) x4.c]]) ua9.ok rfl rfl) rfl fun w β1 sb kn hw1 back=>(own_ok β1 w hw1 x4.id _ z.2.e.comps (kn _ (k_poolS (zs:=zs) (z:=(x4.eh,z.2.e)) 5 rfl hez hhd)) (by omega)).mono ?_
  rintro e w' ⟨p6,c7,rfl,hw'⟩
  refine⟨_,rfl,_,back _ _ hw',?_⟩
  clear hw1 hw' back kn sb
  refine lv (v:= .pointer (some ((ba p1).add (k*6)))) (e_indexFlN 2 (F:=MgF) rfl (by omega) rfl ua14 (by omega) rfl) (lE ofd ?_)
  refine lu (m_storeFlPart 2 (F:=MgF) (p:=p1) (k:=k) (o:=4) (xs:=((nz.map Prod.fst)++(mz.map Prod.fst).drop k)) (z0:=x4) (z:=({x4 with id:=x4.id,p:=p6,n:=z.2.e.comps.length,c:=c7}:KMg)) ua20.ok rfl rfl rfl rfl rfl hx5 (by decide) rfl) ?_
  refine l_nil (f_block (f_then (c_region (lv (v:=Nx (k+1)) (e_add rfl rfl (i64n (by omega) (by omega))) (lE omi (l_nil ?_))))))
  refine f_merge (L:=[rowF CpF 100 p6 c7 z.2.e.comps,poolR (MPool.e nz)]) (M:=[rowF MgF 38 p1 c2 (((nz.map Prod.fst)++(mz.map Prod.fst).drop k).set k ({x4 with id:=x4.id,p:=p6,n:=z.2.e.comps.length,c:=c7}:KMg)),pt G (.cells (gC (X.zone) J m p (mz.length) c X.gv X.lv false) 77),mpR EnM m ks,rowF MgF 38 p c (mz.map Prod.fst),poolR zs]) (r:=poolR (MPool.e (nz++[(({x4 with id:=x4.id,p:=p6,n:=z.2.e.comps.length,c:=c7}:KMg),z.2)]))) (poolM_put rfl rfl rfl) ?_
  refine f_re (L':=[poolR (MPool.e (nz++[(({x4 with id:=x4.id,p:=p6,n:=z.2.e.comps.length,c:=c7}:KMg),z.2)])),rowF MgF 38 p1 c2 (((nz++[(({x4 with id:=x4.id,p:=p6,n:=z.2.e.comps.length,c:=c7}:KMg),z.2)]).map Prod.fst)++(mz.map Prod.fst).drop (k+1)),pt G (.cells (gC (X.zone) J m p (mz.length) c X.gv X.lv false) 77),mpR EnM m ks,rowF MgF 38 p c (mz.map Prod.fst),poolR zs]) (by rw[fill_step (s:=z.2) hnl hz]) ?_
  have hmn:MHd (({x4 with id:=x4.id,p:=p6,n:=z.2.e.comps.length,c:=c7}:KMg),z.2):=by rw[←hzx];exact⟨hmh.src,hmh.to,hmh.number,hmh.ack,hmh.id,rfl⟩
  exact f_cut ⟨(k+1,(nz++[(({x4 with id:=x4.id,p:=p6,n:=z.2.e.comps.length,c:=c7}:KMg),z.2)])),⟨⟨rfl,rfl,rfl⟩,rfl,⟨by omega,take_snd hys ho,all_snoc hyh hmn,by rw[List.length_append,hnl];rfl⟩⟩,(show mz.length-(k+1)<mz.length-k from by omega)⟩
 refine c_exit (f_then_exit (f_then_exit (f_exit (ftc (lE oms (lE oas (lnf (c_ret (ret1 Tryz.results20 (v:=sB p1 (mz.map Prod.fst) c2) rfl ?_)))))))))
 intro w hw
 have hmo:=hk.mlen
 have hke:k=mz.length:=by omega
 have hye:nz.map Prod.snd=X.out:=by rw[hys,List.take_of_length_le (by omega)]
 have hyn:nz.length=X.out.length:=by rw[←hye,List.length_map]
 replace hw:=hw.perm (L':=[pt G (.cells (gC (X.zone) J m p (mz.length) c X.gv X.lv false) 77),mpR EnM m ks,rowF MgF 38 p c (mz.map Prod.fst),poolR zs,rowF MgF 38 p1 c2 ((nz.map Prod.fst)++(mz.map Prod.fst).drop k),poolR (MPool.e nz)]) (by exact(perm_ix [2,3,4,5,1,0] 6 rfl (by kernel_rfl) (by kernel_rfl)))
 replace hw:=St.closeGv (M:=[rowF MgF 38 p1 c2 ((nz.map Prod.fst)++(mz.map Prod.fst).drop k),poolR (MPool.e nz)]) hk hw
 rw[hke,List.drop_of_length_le (by rw[List.length_map];omega),List.append_nil]at hw
 exact⟨p1,c2,by unfold sB;rw[List.length_map,hmo],(St.merge (L:=[rowF MgF 38 p1 c2 (nz.map Prod.fst),poolR nz.e]) (hw.perm (perm_3 _ _ _)) (msgs_close hye hyh))⟩
theorem lastV_ok(β:Base)(w:World)(G J:Nat)(X:KG)(hw:St β [gvR G J X false] w)(k:Int):Calls Tryz.prog 17 #[pp G 0,Ix k] w fun r w'=>r= .returned (Ix (lastX X k))∧St β [gvR G J X false] w':=by
 obtain⟨m,p,c,ks,mz,zs,hk,hw⟩:=St.openGv hw
 refine enter (n:=21) Tryz.func17 rfl Tryz.ntmps17 rfl ?_ hw
 refine csr (lE oai (lnf (cs2 (c_region (lE omp ?_)))))
 refine lcR clA (fun w β1 sb kn hw1=>up_ok β1 w hw1 G J m X.zone p mz.length c X.gv X.lv (kn _ (k_pt 0 (o:=0) rfl rfl))) (lE onq (lE omb ?_))
 refine gE omp (gE omi (g_call rfl rfl rfl rfl rfl (cl0 (vs:=[pp G 0,Ix (k)]) ua21.ok rfl rfl) ?_))
 intro w hw
 obtain⟨β1,sb,kn,hw1,back⟩:=St.frame_all hw
 refine(other_ok β1 w hw1 G J m X.zone p mz.length c X.gv X.lv false (kn _ (k_pt 0 (o:=0) rfl rfl)) k).mono ?_
 rintro e w' ⟨rfl,hw'⟩
 refine⟨_,rfl,_,back _ _ hw',?_⟩
 clear hw hw1 hw' back kn sb
 refine gE ont (lE okfb (lnf (c_ifb (!(otherB X.zone k)) rfl (fun hc1=> ?_) (fun hc1=> ?_))))
 ·refine csr (lE oai (lnf (c_ret (f_then_ret (ret1 Tryz.results17 rfl ?_)))))
  intro w hw
  replace hw:=St.closeGv (M:=[]) hk hw
  exact⟨congrArg (fun z:Int=>Ending.returned (Ix z)) (show 0=lastX X k by unfold lastX;rw[if_neg (by simpa using hc1)]),hw⟩
 refine csk (c_seq ?_)
 obtain⟨hf1,hf2,hf3⟩:=other_iff.1 (show otherB X.zone k=true by simpa using hc1)
 refine c_region (lE omp (lE omi (lE onp (lE ofp (lE ofp ?_)))))
 refine lv (v:= .pointer (some ((⟨G,11,none⟩:Addr).add (((k).toNat)*1)))) (e_indexArrI (a:=⟨G,11,none⟩) (k:=(k).toNat) rfl (show Ix (k)=Ix (((k).toNat:Nat):Int)from congrArg (Value.int .i64) (by omega)) ua23.ok (by omega)) ?_
 refine lv (v:=Ix (X.lv.at ((k).toNat))) (e_load1 ua8.ok rfl (Knows.imp (k_pt 0 (o:=11) rfl rfl) fun _ h=>cs_fl (F:=IntF) (xs:=X.lv.toL) h (KN7.get (by omega)))) ?_
 refine lE oai (lnf (c_ret (ret1 Tryz.results17 rfl ?_)))
 intro w hw
 replace hw:=St.closeGv (M:=[]) hk hw
 exact⟨congrArg (fun z:Int=>Ending.returned (Ix z)) (show X.lv.at ((k).toNat)=lastX X k by unfold lastX;rw[if_pos (other_iff.2 ⟨hf1,hf2,hf3⟩)]),hw⟩
theorem upV_ok(β:Base)(w:World)(G J:Nat)(X:KG)(hw:St β [gvR G J X false] w):Calls Tryz.prog 35 #[pp G 0] w fun r w'=>r= .returned (Ix 0)∧St β [gvR G J X false] w':=by
 obtain⟨m,p,c,ks,mz,zs,hk,hw⟩:=St.openGv hw
 obtain⟨β1,sb,kn,hw1,back⟩:=St.frame_all hw
 refine(up_ok β1 w hw1 G J m X.zone p mz.length c X.gv X.lv (kn _ (k_pt 0 (o:=0) rfl rfl))).mono ?_
 rintro r w' ⟨h,hw'⟩
 exact⟨h,St.closeGv hk (back _ _ hw')⟩
set_option maxHeartbeats 4000000 in
theorem msgsV_ok(β:Base)(w:World)(G J:Nat)(X:KG)(N:Int)(hX:XOk X N)(hw:St β [gvR G J X false] w):Calls Tryz.prog 14 #[pp G 0] w fun r w'=>∃p c,r= .returned (sB p (msgsX X) c)∧St β [msgsR p c (msgsX X),gvR G J X false] w':=by
 refine enter (n:=34) Tryz.func14 rfl Tryz.ntmps14 rfl ?_ hw
 refine csr (lE oas (lnf (cs2 (c_region (lE omp (l_call rfl rfl rfl (cl0 (vs:=[pp G 0]) ua0.ok rfl rfl) ?_))))))
 intro w hw
 replace hw:=hw.perm (L':=_::[]) (by exact(perm_front 0 rfl))
 obtain⟨β1,sb,kn,hw1,back⟩:=St.frame (L:=[_]) (M:=[]) hw
 refine(upV_ok β1 w G J X hw1).mono ?_
 rintro e w' ⟨rfl,hw'⟩
 refine⟨_,rfl,_,back _ _ hw',?_⟩
 clear hw hw1 hw' back kn sb
 refine lE onq (lnf (c_no rfl (csk (csr (lE omp (l_call rfl rfl rfl (cl0 (vs:=[pp G 0]) ua24.ok rfl rfl) ?_))))))
 intro w hw
 replace hw:=hw.perm (L':=_::[]) (by exact(perm_front 0 rfl))
 obtain⟨β1,sb,kn,hw1,back⟩:=St.frame (L:=[_]) (M:=[]) hw
 refine(outV_ok β1 w G J X _ hX hw1).mono ?_
 rintro e w' ⟨p1,c2,rfl,hw'⟩
 refine⟨_,rfl,_,back _ _ hw',?_⟩
 clear hw hw1 hw' back kn sb
 refine lE oas (lnf (cs2 (c_openMsgs rfl fun oz hoz hoh=>c_pi [2,0,1] 3 rfl (by kernel_rfl) (c_openGv rfl fun m p c ks mz zs hk=> ?_))))
 have hol:oz.length=X.out.length:=by rw[←hoz,List.length_map]
 refine rbs 3 (v:=sB p1 oz c2) (show(sB p1 X.out c2:Value)=sB p1 oz c2 from congrArg (fun z=>Value.slice p1 z c2) hol.symm) (c_region ?_)
 refine lE omp (lE onp (lE ofp (lE ofp (lE (olg 0) (lE omi (lnf (c_block (c_mask [true,true,true,true,true,true] rfl ?_))))))))
 refine c_loop (fun(x_:Nat×MPool×Option Addr×Nat) f L=>match x_ with|(k,yz,q,d)=>(f 0=pp G 0∧f 3=sB q yz d∧f 15= .agg #[Ix (X.lv.n0),Ix (X.lv.n1),Ix (X.lv.n2),Ix (X.lv.n3),Ix (X.lv.n4),Ix (X.lv.n5),Ix (X.lv.n6)]∧f 16=Nx (k))∧L=[pt G (.cells (gC (X.zone) J m p (mz.length) c X.gv X.lv false) 77),mpR EnM m ks,rowF MgF 38 p c (mz.map Prod.fst),poolR zs,rowF MgF 38 q d (yz.map Prod.fst),poolR (MPool.e yz)]∧(k≤7∧yz.map Prod.snd=X.out++acksTo X k∧∀z∈yz,MHd z)) (fun(k,yz,q,d)=>7-k) (0,oz,p1,c2) ?_ ?_
 ·exact⟨⟨rfl,rfl,rfl,rfl⟩,rfl,⟨Nat.zero_le _,by rw[hoz];exact(List.append_nil _).symm,hoh⟩⟩
 rintro⟨k,yz,q,d⟩ f0 L0 ⟨⟨hs0,hs3,hs15,hs16⟩,hL,⟨hkl,hys,hyh⟩⟩
 subst L0
 refine rbs 0 hs0 (rbs 3 hs3 (rbs 15 hs15 (rbs 16 hs16 ?_)))
 have hyl2:(yz.map Prod.fst).length≤72:=by have h1:=congrArg List.length hys;have h2:=acks_len X k;have h3:=hX.ofew;rw[List.length_map,List.length_append]at h1;rw[List.length_map];omega
 refine csr (lE olt (lnf (c_seq (c_if _ rfl (fun hc3=> ?_) (fun hc3=> ?_)))))
 ·refine csk (c_seq (c_block (csr (lE omi ?_))))
  refine lv (v:=Ix (X.lv.at k)) (e_indexF1 (xs:=X.lv.toL) (k:=k) rfl rfl ua23.ok (KN7.get (by omega)) (by omega) ua8.ok) (lE oai (lE oai (lnc ?_)))
  refine lE omi (lE ogt (lnf (c_if _ rfl (fun hc4=> ?_) (fun hc4=> ?_))))
  ·refine c_region (lE oms (lE omp (lE onp (lE ofp (lE (oli 0) (lE omi (lE omi ?_)))))))
   refine lv (v:= .agg #[Ix (X.zone),Nx (k),Ix (X.lv.at k),.bool true,.int .i64 (0),.slice none 0 0]) (e_build ua28.ok ua27 (vs:=[(0,Ix (X.zone)),(1,Nx (k)),(2,Ix (X.lv.at k)),(3,.bool true)]) (cells:= #[Ix (X.zone),Nx (k),Ix (X.lv.at k),.bool true,.int .i64 (0),.slice none 0 0]) rfl (by kernel_rfl)) ?_
   refine l_mv rfl rfl rfl (m_slices ua14 ua28.ok (cells:= #[Ix (X.zone),Nx (k),Ix (X.lv.at k),.bool true,.int .i64 (0),.slice none 0 0]) rfl rfl rfl (by kernel_rfl)) ?_
   rintro _ _ ⟨b5,rfl,rfl⟩
   refine l_mv rfl rfl rfl (m_appendFlN (F:=MgF) 5 ua14 ua15 (p:=q) (m:=yz.length) (xs:=(yz.map Prod.fst)) (ys:=[(⟨X.zone,((k:Nat):Int),X.lv.at k,true,0,none,0,0⟩:KMg)]) (ao:=(some ⟨b5,0,none⟩)) (k:=1) (c:=1) rfl (List.length_map _).symm rfl rfl rfl (k_ptFl (z:=(⟨X.zone,((k:Nat):Int),X.lv.at k,true,0,none,0,0⟩:KMg)) 0 rfl rfl) (by first|omega|simp only[List.length_nil,List.length_cons,List.length_append,List.length_set];omega) (by first|omega|simp only[List.length_nil,List.length_cons,List.length_append,List.length_set];omega)) ?_
   rintro _ _ ⟨rp6,rc7,rfl,rfl⟩
   refine lE oas (l_nil (f_block (f_then (c_region ?_))))
   refine lv (v:=Nx (k+1)) (e_add (a:=((k:Nat):Int)) (b:=(1:Int)) rfl rfl (i64n (by omega) (by omega))) (lE omi (l_nil ?_))
   refine f_conseq 6 rfl (poolM_nil (m:=(⟨X.zone,((k:Nat):Int),X.lv.at k,true,0,none,0,0⟩:KMg)) (s:=(⟨X.zone,((k:Nat):Int),X.lv.at k,true,⟨0,[]⟩⟩:KMs)) rfl rfl rfl) ?_
   refine f_re (L':=[pt b5 (.cells #[Ix (X.zone),Nx (k),Ix (X.lv.at k),.bool true,.int .i64 (0),.slice none 0 0] 38),pt G (.cells (gC (X.zone) J m p (mz.length) c X.gv X.lv false) 77),mpR EnM m ks,rowF MgF 38 p c (mz.map Prod.fst),poolR zs,rowF MgF 38 rp6 rc7 ((yz++[((⟨X.zone,((k:Nat):Int),X.lv.at k,true,0,none,0,0⟩:KMg),(⟨X.zone,((k:Nat):Int),X.lv.at k,true,⟨0,[]⟩⟩:KMs))]).map Prod.fst),poolR (MPool.e (yz++[((⟨X.zone,((k:Nat):Int),X.lv.at k,true,0,none,0,0⟩:KMg),(⟨X.zone,((k:Nat):Int),X.lv.at k,true,⟨0,[]⟩⟩:KMs))]))]) (by simp only[List.map_append,List.map_cons,List.map_nil]<;>rfl) ?_
   refine f_rebase (d:=3) (show(sB rp6 ((yz.map Prod.fst)++[(⟨X.zone,((k:Nat):Int),X.lv.at k,true,0,none,0,0⟩:KMg)]) rc7:Value)=sB rp6 (yz++[((⟨X.zone,((k:Nat):Int),X.lv.at k,true,0,none,0,0⟩:KMg),(⟨X.zone,((k:Nat):Int),X.lv.at k,true,⟨0,[]⟩⟩:KMs))]) rc7 from congrArg (fun z=>Value.slice rp6 z rc7) (by simp only[List.length_append,List.length_map,List.length_cons,List.length_nil]<;>rfl)) ?_
   refine f_mask (L':=[pt G (.cells (gC (X.zone) J m p (mz.length) c X.gv X.lv false) 77),mpR EnM m ks,rowF MgF 38 p c (mz.map Prod.fst),poolR zs,rowF MgF 38 rp6 rc7 ((yz++[((⟨X.zone,((k:Nat):Int),X.lv.at k,true,0,none,0,0⟩:KMg),(⟨X.zone,((k:Nat):Int),X.lv.at k,true,⟨0,[]⟩⟩:KMs))]).map Prod.fst),poolR (MPool.e (yz++[((⟨X.zone,((k:Nat):Int),X.lv.at k,true,0,none,0,0⟩:KMg),(⟨X.zone,((k:Nat):Int),X.lv.at k,true,⟨0,[]⟩⟩:KMs))]))]) [false,true,true,true,true,true,true] rfl ?_
   exact f_cut ⟨(k+1,(yz++[((⟨X.zone,((k:Nat):Int),X.lv.at k,true,0,none,0,0⟩:KMg),(⟨X.zone,((k:Nat):Int),X.lv.at k,true,⟨0,[]⟩⟩:KMs))]),rp6,rc7),⟨⟨rfl,rfl,rfl,rfl⟩,rfl,⟨by omega,by rw[List.map_append,hys,acks_yes hc4,List.append_assoc]<;>rfl,all_snoc hyh ⟨rfl,rfl,rfl,rfl,rfl,rfl⟩⟩⟩,(show 7-(k+1)<7-k from by omega)⟩
  refine c_skip (f_block (f_then (c_region ?_)))
  refine lv (v:=Nx (k+1)) (e_add (a:=((k:Nat):Int)) (b:=(1:Int)) rfl rfl (i64n (by omega) (by omega))) (lE omi (l_nil ?_))
  exact f_cut ⟨(k+1,yz,q,d),⟨⟨rfl,rfl,rfl,rfl⟩,rfl,⟨by omega,by rw[hys,acks_no hc4],hyh⟩⟩,(show 7-(k+1)<7-k from by omega)⟩
 refine c_exit (f_then_exit (f_then_exit (f_exit (ftc (lE oms (lE oas (lnf (c_ret (ret1 Tryz.results14 (v:=sB q yz d) rfl ?_)))))))))
 intro w hw
 have hke:k=7:=by omega
 subst hke
 have hyn:yz.length=(msgsX X).length:=by unfold msgsX;rw[←hys,List.length_map]
 replace hw:=St.closeGv (M:=[rowF MgF 38 q d (yz.map Prod.fst),poolR (MPool.e yz)]) hk hw
 exact⟨q,d,by unfold sB;rw[hyn],(St.merge (L:=[rowF MgF 38 q d (yz.map Prod.fst),poolR yz.e]) (hw.perm (perm_3 _ _ _)) (msgs_close hys hyh))⟩
end Go.Proofs
namespace Go.Proofs
open Go Go.Sl Go.Hv
theorem perm_r3{α:Type _}(z a b c:α):[z,a,b,c].Perm ([a,b,c,z]++[]):=(List.perm_append_comm (l₁:=[z]) (l₂:=[a,b,c]))
instance ub0:ZerC Tryz.prog 32 (.agg #[.int .i64 (0),.slice none 0 0]):={}
instance ub1:TyC Tryz.prog 93 false 1:={}
instance ub2:CfC Tryz.prog 41:={}
instance ub3:TyC Tryz.prog 127 false 1:={}
instance ub4:FldC Tryz.prog 75 0 0 1 false:={}
instance ub5:TyC Tryz.prog 73 false 1:={}
instance ub6:FldC Tryz.prog 32 0 0 1 false:={}
instance ub7:TyC Tryz.prog 3 false 1:={}
instance ub8:TyC Tryz.prog 32 true 2:={}
instance ub9:CfC Tryz.prog 68:={}
theorem entR2_ok(β:Base)(w:World)(H:PHeap)(hH:Sub H β.heap)(T:Nat)(e:KEnt)(rest:List UInt8)(q:Addr)(R:Int→Option Addr→Nat→Nat→Res)(hP:Plc q R)(hw:St β [tpR H T (entB e++rest),R 0 none 0 0] w)(hid:inI e.id)(hcl:e.comps.length≤10)(hci:∀x∈e.comps,CpI x):Calls Tryz.prog 41 #[.pointer (some q),.func (.func 66) #[pp T 0] #[]] w fun r w'=>∃p c,r= .returned (.tuple #[])∧St β [tpR H T rest,R e.id p e.comps.length c,rowF CpF 100 p c e.comps] w':=by
 refine entR_ok β w H hH T e.id e.comps rest q R hP ?_ hid hcl hci
 rw[show vint e.id++(vint ((e.comps.length:Nat):Int)++(cpsB e.comps++rest))=entB e++rest by unfold entB;simp only[List.append_assoc]]
 exact hw
set_option maxHeartbeats 4000000 in
theorem pput_ok(β:Base)(w:World)(X:KG)(N:Int)(hX:XOk X N)(dn:Bool)(H:PHeap)(hH:Sub H β.heap)(T G J q6 q3 q4:Nat)(h6:Cs β.heap ⟨q6,0,none⟩ [pp T 0])(h3:Cs β.heap ⟨q3,0,none⟩ [pp G 2])(h4:Cs β.heap ⟨q4,0,none⟩ [Ix X.zone])(e:KEnt)(hid:inI e.id)(hcl:e.comps.length≤10)(hci:∀x∈e.comps,CpI x)(hw:St β [tpR H T (entB e++[]),gvR G J X dn] w):Calls Tryz.prog 65 #[pp q6 0,pp q3 0] w fun r w'=>r= .returned (.tuple #[])∧St β [gvR G J (playX X (.put e)) dn] w':=by
 replace hw:=hw.perm (List.Perm.swap _ _ _)
 obtain⟨m,p,c,ks,mz,zs,hk,hw⟩:=St.openGv hw
 refine enter (n:=13) Tryz.func65 rfl Tryz.ntmps65 rfl ?_ hw
 refine csr (alE fun b1=>lnc (lv (v:=pp T 0) (e_load1 ub1.ok rfl (kB h6)) ?_))
 refine lv (v:= .func (.func 66) #[pp T 0] #[]) (e_func (u:=[pp T 0]) (v:=[]) rfl rfl) ?_
 refine l_call rfl rfl rfl (cl0 (vs:=[pp b1 0,.func (.func 66) #[pp T 0] #[]]) ub2.ok rfl rfl) ?_
 intro w hw
 replace hw:=hw.perm (L':=_::_::_::_::_::_::[]) (by exact((((((perm_front 4 rfl).trans (perm_front 4 rfl)).trans (perm_front 4 rfl)).trans (perm_front 4 rfl)).trans (perm_front 4 rfl)).trans (perm_front 5 rfl)))
 obtain⟨β1,sb,kn,hw1,back⟩:=St.frame (L:=[_,_]) (M:=_::_::_::_::[]) hw
 refine(entR2_ok β1 w H (hH.trans sb) T e [] _ _ (plc_pt b1 32) hw1 hid hcl hci).mono ?_
 rintro e w' ⟨p2,c3,rfl,hw'⟩
 refine⟨_,rfl,_,back _ _ hw',?_⟩
 clear hw hw1 hw' back kn sb
 refine lnf ?_
 refine cnz [sv 6 (pp G 2) [] [] [0],sv 7 (pp G 2) [0] [0] [],sv 8 (pp G 2) [0,1] [1] [],sv 9 (.map (some m)) [0,1,2] [2] [],sv 10 (pp b1 0) [] [] [1],sv 11 (Ix (e.id)) [4] [4] [],sv 12 (.agg #[Ix (e.id),sB p2 e.comps c3]) [] [] [1],⟨(List.range 7),[3,5,6],[],[],fun _=>True⟩] [u0,u1 [5,6],u0,u1 [3],(some 7,[7])] [⟨(some 7),none,[],[],fun _=>mpR EnM m (EnM.put ks (e.id) (⟨e.id,p2,e.comps.length,c3⟩:KEh))⟩] [(1,.pointer (some (⟨q3,0,none⟩))),(2,pp b1 0)] [] ⟨rfl,rfl,trivial⟩ ⟨?_,?_,?_,?_,?_,?_,?_,?_,trivial⟩ ?_
 ·rintro f M-⟨i0,-⟩
  exact ob0 (up_cons (d:=1) rfl i0) rfl (e_load1 ub3.ok rfl (kB h3)) (.refl _)
 ·rintro f M ⟨k0,-⟩-
  exact obE onp
 ·rintro f M ⟨k0,-⟩-
  exact obE ofp
 ·rintro f M ⟨k0,-⟩-
  exact obv (L':=pt G (.cells (gC (X.zone) J m p (mz.length) c X.gv X.lv (dn)) 77)::M) (up_cons (d:=8) rfl k0) rfl (e_load1 ub5.ok rfl (k_pt 0 rfl rfl)) (perm_front 0 rfl) (by rfl)
 ·rintro f M-⟨i0,-⟩
  exact obE ofp
 ·rintro f M ⟨k0,-⟩-
  exact obE (oli 0)
 ·rintro f M-⟨i0,-⟩
  exact obE (olg 0)
 ·rintro f M ⟨k0,k1,k2,-⟩-
  refine obS (up_cons (d:=12) (up_cons (d:=11) (up_cons (d:=9) rfl k0) k1) k2) ?_
  refine lu (m_mput (K:=EnM) (b:=m) (ks:=ks) (k:=(e.id)) (v:=(⟨e.id,p2,e.comps.length,c3⟩:KEh)) 0 rfl rfl rfl rfl rfl) (l_nil ?_)
  exact f_owes_n (up_cons (d:=12) (up_cons (d:=11) (up_cons (d:=9) rfl k0) k1) k2) trivial (perm_front 0 rfl)
 rintro fa4 ⟨-,-,-,-,-,-,-,-,-⟩-
 refine fre ?_
 refine end0 Tryz.results65 ?_
 intro w hw
 replace hw:=hw.perm (L':=[rowF CpF 100 p2 c3 e.comps,poolR zs,pt G (.cells (gC (X.zone) J m p (mz.length) c X.gv X.lv (dn)) 77),mpR EnM m (EnM.put ks (e.id) (⟨e.id,p2,e.comps.length,c3⟩:KEh)),rowF MgF 38 p c (mz.map Prod.fst),tpR H T [],pt b1 (.cells #[Ix (e.id),sB p2 e.comps c3] 32)]) (by exact(perm_ix [2,5,3,6,4,0,1] 7 rfl (by kernel_rfl) (by kernel_rfl)))
 replace hw:=st_mask (L':=[rowF CpF 100 p2 c3 e.comps,poolR zs,pt G (.cells (gC (X.zone) J m p (mz.length) c X.gv X.lv (dn)) 77),mpR EnM m (EnM.put ks (e.id) (⟨e.id,p2,e.comps.length,c3⟩:KEh)),rowF MgF 38 p c (mz.map Prod.fst)]) [true,true,true,true,true,false,false] rfl hw
 replace hw:=St.merge (L:=[rowF CpF 100 p2 c3 e.comps,poolR zs]) (M:=[pt G (.cells (gC (X.zone) J m p (mz.length) c X.gv X.lv (dn)) 77),mpR EnM m (EnM.put ks (e.id) (⟨e.id,p2,e.comps.length,c3⟩:KEh)),rowF MgF 38 p c (mz.map Prod.fst)]) hw (poolR_add (id:=e.id) rfl)
 replace hw:=hw.perm (perm_r3 _ _ _ _)
 exact⟨rfl,St.closeGv (M:=[]) (hk.put hX.sort ⟨rfl,rfl⟩) hw⟩
theorem pdrop_ok(β:Base)(w:World)(X:KG)(N:Int)(hX:XOk X N)(dn:Bool)(H:PHeap)(hH:Sub H β.heap)(T G J q6 q3 q4:Nat)(h6:Cs β.heap ⟨q6,0,none⟩ [pp T 0])(h3:Cs β.heap ⟨q3,0,none⟩ [pp G 2])(h4:Cs β.heap ⟨q4,0,none⟩ [Ix X.zone])(id:Int)(hid:inI id)(hw:St β [tpR H T (vint id++[]),gvR G J X dn] w):Calls Tryz.prog 67 #[pp q3 0,pp q6 0] w fun r w'=>r= .returned (.tuple #[])∧St β [gvR G J (playX X (.drop id)) dn] w':=by
 replace hw:=hw.perm (List.Perm.swap _ _ _)
 obtain⟨m,p,c,ks,mz,zs,hk,hw⟩:=St.openGv hw
 refine enter (n:=8) Tryz.func67 rfl Tryz.ntmps67 rfl ?_ hw
 refine cny [sv 2 (pp G 2) [] [] [0],sv 3 (pp G 2) [0] [0] [],sv 4 (pp G 2) [0,1] [1] [],sv 5 (.map (some m)) [0,1,2] [2] [],sv 6 (pp T 0) [] [] [1],sv 7 (Ix (id)) [4] [4] [],⟨(List.range 6),[3,5],[],[],fun _=>True⟩] [tk (pt G (.cells (gC (X.zone) J m p (mz.length) c X.gv X.lv (dn)) 77)) [3],⟨none,(some 6),[6],[],fun _=>mpR EnM m ks⟩,tk (rowF MgF 38 p c (mz.map Prod.fst)) [],tk (poolR zs) [],⟨none,(some 5),[5],[],fun _=>tpR H T (vint id++[])⟩,⟨(some 5),none,[],[],fun _=>tpR H T []⟩,⟨(some 6),none,[],[],fun _=>mpR EnM m (EnM.del ks (id))⟩] [(0,.pointer (some (⟨q3,0,none⟩))),(1,.pointer (some (⟨q6,0,none⟩)))] [] [] ⟨rfl,rfl,trivial⟩ ⟨?_,?_,?_,?_,?_,?_,?_,trivial⟩ ?_
 ·rintro f M-⟨i0,-⟩
  exact ob0 (up_cons (d:=0) rfl i0) rfl (e_load1 ub3.ok rfl (kB h3)) (.refl _)
 ·rintro f M ⟨k0,-⟩-
  exact obE onp
 ·rintro f M ⟨k0,-⟩-
  exact obE ofp
 ·rintro f M ⟨k0,-⟩-
  exact obv (L':=pt G (.cells (gC (X.zone) J m p (mz.length) c X.gv X.lv (dn)) 77)::M) (up_cons (d:=4) rfl k0) rfl (e_load1 ub5.ok rfl (k_pt 0 rfl rfl)) (perm_front 0 rfl) (by rfl)
 ·rintro f M-⟨i0,-⟩
  exact ob0 (up_cons (d:=1) rfl i0) rfl (e_load1 ub1.ok rfl (kB h6)) (.refl _)
 ·rintro f M ⟨k0,-⟩-
  refine ob_start (L':=tpR H T (vint id++[])::M) (by rfl) (up_cons (d:=6) rfl k0) (l_call rfl rfl rfl (cl0 (vs:=[pp T 0]) ub9.ok rfl rfl) ?_)
  intro w hw
  replace hw:=hw.perm (L':=_::M) (by exact(perm_front 0 rfl))
  obtain⟨β1,sb,kn,hw1,back⟩:=St.frame (L:=[_]) (M:=M) hw
  refine(tget_ok β1 w H (hH.trans sb) T id hid [] hw1).mono ?_
  rintro e w' ⟨rfl,hw'⟩
  refine⟨_,rfl,_,back _ _ hw',?_⟩
  clear hw hw1 hw' back kn sb
  refine l_nil ?_
  exact f_owes_d (up_cons (d:=6) rfl k0) rfl (perm_front 0 rfl)
 ·rintro f M ⟨k0,k1,-⟩-
  refine obS (up_cons (d:=7) (up_cons (d:=5) rfl k0) k1) ?_
  refine l_mc rfl rfl (m_mdel (K:=EnM) (b:=m) (ks:=ks) (k:=(id)) 0 rfl rfl rfl rfl) ?_
  rintro _ _ ⟨rfl,rfl⟩
  refine l_nil ?_
  exact f_owes_n (up_cons (d:=7) (up_cons (d:=5) rfl k0) k1) trivial (perm_front 0 rfl)
 rintro fa1 ⟨-,-,-,-,-,-,-,-⟩-
 refine fre ?_
 refine end0 Tryz.results67 ?_
 intro w hw
 replace hw:=hw.perm (L':=[pt G (.cells (gC (X.zone) J m p (mz.length) c X.gv X.lv (dn)) 77),mpR EnM m (EnM.del ks (id)),rowF MgF 38 p c (mz.map Prod.fst),poolR zs,tpR H T []]) (by exact(perm_ix [0,4,1,2,3] 5 rfl (by kernel_rfl) (by kernel_rfl)))
 replace hw:=st_mask (L':=[pt G (.cells (gC (X.zone) J m p (mz.length) c X.gv X.lv (dn)) 77),mpR EnM m (EnM.del ks (id)),rowF MgF 38 p c (mz.map Prod.fst),poolR zs]) [true,true,true,true,false] rfl hw
 exact⟨rfl,St.closeGv (M:=[]) (hk.del hX.sort id) hw⟩
end Go.Proofs
