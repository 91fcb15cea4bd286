/-
 SameEntity,thing,empty: walked. Printed by a program of my own.
-/
import Derived.Test.YtmhlglginimmnaaGreatDoorHvShow
set_option linter.all false
namespace Go.Hv
open Go Go.Sl Go.Proofs
theorem take_both{α:Type}{xs ys:List α}{k:Nat}{x y:α}(h:xs.take k=ys.take k)(hx:xs[k]? =some x)(hy:ys[k]? =some y)(e:x=y):xs.take (k+1)=ys.take (k+1):=by
 subst e;rw[List.take_add_one,List.take_add_one,h,hx,hy]
theorem sameE_yes{id1 id2:Int}{xs ys:List KComp}{k:Nat}(h:id1=id2)(h1:xs.length≤k)(h2:ys.length≤k)(h3:xs.take k=ys.take k):(⟨id1,xs⟩:KEnt)=⟨id2,ys⟩:=by
 rw[List.take_of_length_le h1,List.take_of_length_le h2]at h3;rw[h,h3]
theorem sameE_no1{id1 id2:Int}{xs ys:List KComp}(h:¬id1=id2∨¬xs.length=ys.length):¬(⟨id1,xs⟩:KEnt)=⟨id2,ys⟩:=fun e=>by
 injection e with e1 e2
 exact h.elim (fun q=>q e1) fun q=>q (by rw[e2])
theorem sameE_no2{id1 id2:Int}{xs ys:List KComp}{k:Nat}{x y:KComp}(hx:xs[k]? =some x)(hy:ys[k]? =some y)(h:¬x=y):¬(⟨id1,xs⟩:KEnt)=⟨id2,ys⟩:=fun e=>by
 injection e with e1 e2
 subst e2
 rw[hx]at hy;injection hy with hy;exact h hy
end Go.Hv
namespace Go.Proofs
open Go Go.Sl Go.Hv Go.Jn
instance ur0:FldC Tryz.prog 32 0 0 1 false:={}
instance ur1:TyC Tryz.prog 3 false 1:={}
instance ur2:FldC Tryz.prog 32 1 1 1 false:={}
instance ur3:TyC Tryz.prog 30 false 1:={}
instance ur4:UndC Tryz.prog 30 100:={}
theorem ur5:slB Tryz.prog 30 100 5=true:=by kernel_rfl
instance ur6:TyC Tryz.prog 100 true 5:={}
theorem ur7:lay Tryz.prog 10000 100=some [.int .u8,.int .i64,.int .i64,.int .i64,.int .i64]:=by kernel_rfl
theorem ur8:isAggT Tryz.prog 100=true:=by kernel_rfl
theorem ur9:Tryz.prog.eqGuardType Tryz.prog.depth 100=false:=by kernel_rfl
instance ur10:ZerC Tryz.prog 32 (.agg #[.int .i64 (0),.slice none 0 0]):={}
instance ur11:ArrC Tryz.prog 98 4 3 1:={}
instance ur12:ZerC Tryz.prog 98 (.agg #[.int .i64 (0),.int .i64 (0),.int .i64 (0),.int .i64 (0)]):={}
theorem ur13:stB Tryz.prog 100 [(0,1),(1,4)]=true:=by kernel_rfl
instance ur14:ZerC Tryz.prog 100 (.agg #[.int .u8 (0),.int .i64 (0),.int .i64 (0),.int .i64 (0),.int .i64 (0)]):={}
theorem ur15:stB Tryz.prog 32 [(0,1),(1,1)]=true:=by kernel_rfl
instance ur16:TyC Tryz.prog 32 true 2:={}
theorem ur17:stB Tryz.prog 60 [(0,1),(1,1),(2,1),(3,1)]=true:=by kernel_rfl
instance ur18:ZerC Tryz.prog 60 (.agg #[.slice none 0 0,.slice none 0 0,.slice none 0 0,.int .i64 (0)]):={}
set_option maxHeartbeats 4000000 in
theorem sameE_ok(β:Base)(w:World)(hw:St β [] w)(id1 id2:Int)(v u:Value)(xs ys:List KComp)(hs:Sl CpF.R β.heap v xs)(ht:Sl CpF.R β.heap u ys):Ret Tryz.prog 18 #[.agg #[Ix id1,v],.agg #[Ix id2,u]] β w (.bool (decide ((⟨id1,xs⟩:KEnt)=(⟨id2,ys⟩:KEnt)))):=by
 obtain⟨va,vc,rfl,vl,vm,ve⟩:=hs.get
 obtain⟨ua,uc,rfl,ul,um,ue⟩:=ht.get
 refine enter (n:=38) Tryz.func18 rfl Tryz.ntmps18 rfl ?_ hw
 refine csr (bxa fun b1=> ?_)
 refine bxa fun b2=> ?_
 refine lE oab (lnf (cs2 (c_region (lE ofp (lE (oli 1) (lE ofp (lE (oli 0) (lE onq ?_))))))))
 refine l_or7 (decide ((id1)≠(id2))) (decide (((xs.length:Nat):Int)≠((ys.length:Nat):Int))) rfl (fun hb3 hk3=> ?_) (fun z4 z5 z6 z7 z8 z9 z10=> ?_)
 ·have hb3p:=of_decide_eq_false hb3
  refine gE ofp (gE (ols 1) (gE oln (gE ofp (gE (ols 0) (gE oln (gE onq (lE okfb ?_)))))))
  exact hk3 _ _ _ _ _ _ _
 refine lnf ?_
 refine c_ifb (((decide ((id1)≠(id2)))||(decide (((xs.length:Nat):Int)≠((ys.length:Nat):Int))))) rfl (fun hc11=> ?_) (fun hc11=> ?_)
 ·refine csr (lE oab (lnf (c_ret (f_then_ret (ret1 Tryz.results18 rfl ?_)))))
  intro w hw
  exact⟨congrArg (fun b:Bool=>Ending.returned (.bool b)) (decide_eq_false (sameE_no1 (by have h:=hc11;simp only[Bool.or_eq_true,decide_eq_true_eq]at h;exact h.imp id (fun q=>by omega)))).symm,st_mask [false,false] rfl hw⟩
 refine csk (cs2 ?_)
 have hp0:=hc11
 have hid:id1=id2:=by simp only[Bool.or_eq_false_iff,decide_eq_false_iff_not,Decidable.not_not]at hp0;exact hp0.1
 have hlen:xs.length=ys.length:=by simp only[Bool.or_eq_false_iff,decide_eq_false_iff_not,Decidable.not_not]at hp0;have:=hp0.2;omega
 refine c_region (lE ofp (lE (ols 1) (lE oln (lE omi (lnf (c_block (c_mask [true,true] rfl ?_)))))))
 refine c_loop (fun(k:Nat) f L=>(f 2=pp b1 0∧f 3=pp b2 0∧f 22=Nx (xs.length)∧f 23=Nx (k))∧L=[pt b2 (.cells #[Ix (id2),sB ua ys (uc)] 32),pt b1 (.cells #[Ix (id1),sB va xs (vc)] 32)]∧(k≤xs.length∧xs.take k=ys.take k)) (fun k=>xs.length-k) 0 ?_ ?_
 ·exact⟨⟨rfl,rfl,rfl,rfl⟩,rfl,⟨Nat.zero_le _,rfl⟩⟩
 rintro k f0 L0 ⟨⟨hs2,hs3,hs22,hs23⟩,hL,⟨hk,hpre⟩⟩
 subst L0
 refine rbs 2 hs2 (rbs 3 hs3 (rbs 22 hs22 (rbs 23 hs23 (csr (lE olt (lnf (c_seq (c_if _ rfl (fun hc12=> ?_) (fun hc12=> ?_)))))))))
 ·refine csk (c_seq (c_block (csr (lE omi (lE oai (lnf (c_seq (c_quiet (by kernel_rfl) (by kernel_rfl) (qE ofp (qE (ols 1) (qE omi ?_)))))))))))
  obtain⟨x13,hx14⟩:=getx xs k (by omega)
  obtain⟨ha15,cs16,hc17,rfl⟩:=ve _ _ hx14
  refine qE (oia ur5 ha15) ?_
  refine q_val (v:= .agg #[Bx (x13.kind),Ix (x13.v0),Ix (x13.v1),Ix (x13.v2),Ix (x13.v3)]) rfl rfl rfl (e_load ur6.ok rfl (kB hc17) rfl) (qE ofp ?_)
  refine qE (ols 0) (qE omi ?_)
  obtain⟨x19,hx20⟩:=getx ys k (by omega)
  obtain⟨ha21,cs22,hc23,rfl⟩:=ue _ _ hx20
  refine qE (oia ur5 ha21) ?_
  refine q_val (v:= .agg #[Bx (x19.kind),Ix (x19.v0),Ix (x19.v1),Ix (x19.v2),Ix (x19.v3)]) rfl rfl rfl (e_load ur6.ok rfl (kB hc23) rfl) ?_
  refine q_val (v:= .bool (decide (¬(x13=x19)))) rfl rfl rfl (e_neq_t (xs:=cpE x13) (ys:=cpE x19) ur7 ur8 ur9 rfl rfl rfl rfl (not_congr (cp_eq (x:=x13) (y:=x19)))) ?_
  refine q_nil (f_then (c_if _ rfl (fun hc25=> ?_) (fun hc25=> ?_)))
  ·refine csr (lE oab (lnf (c_ret (f_block_ret (f_then_ret (f_then_ret (f_block_ret (f_then_ret (ret1 Tryz.results18 rfl ?_)))))))))
   intro w hw
   exact⟨congrArg (fun b:Bool=>Ending.returned (.bool b)) (decide_eq_false (sameE_no2 hx14 hx20 hc25)).symm,st_mask [false,false] rfl hw⟩
  refine c_skip (f_block (f_then (c_region (lv (v:=Nx (k+1)) (e_add rfl rfl (i64n (by omega) (by omega))) (lE omi (l_nil ?_))))))
  exact f_cut ⟨k+1,⟨⟨rfl,rfl,rfl,rfl⟩,rfl,⟨by omega,take_both hpre hx14 hx20 (by have:=hc25;exact Decidable.not_not.1 this)⟩⟩,(show xs.length-(k+1)<xs.length-k from by omega)⟩
 refine c_exit (f_then_exit (f_then_exit (f_exit (ftc (lE oab (lnf (c_ret (ret1 Tryz.results18 rfl ?_))))))))
 intro w hw
 exact⟨congrArg (fun b:Bool=>Ending.returned (.bool b)) (decide_eq_true (sameE_yes hid (by omega) (by omega) hpre)).symm,st_mask [false,false] rfl hw⟩
theorem thing_ok(β:Base)(w:World)(hw:St β [] w)(id tag:Int):Calls Tryz.prog 12 #[Ix id,Ix tag] w fun r w'=>∃p c,r= .returned (.agg #[Ix id,.slice p 1 c])∧St β [rowF CpF 100 p c [⟨10,tag,0,0,0⟩]] w':=by
 refine enter (n:=11) Tryz.func12 rfl Tryz.ntmps12 rfl ?_ hw
 refine csr (alE fun b1=>lnc (lE omi (lE omi ?_)))
 refine lv (v:= .agg #[Ix (tag),.int .i64 (0),.int .i64 (0),.int .i64 (0)]) (e_build_a ur12.ok ur11.ok (vs:=[(0,Ix (tag))]) (cells:= #[Ix (tag),.int .i64 (0),.int .i64 (0),.int .i64 (0)]) rfl (by kernel_rfl)) ?_
 refine lv (v:= .agg #[.int .u8 (10),Ix (tag),.int .i64 (0),.int .i64 (0),.int .i64 (0)]) (e_build ur14.ok ur13 (vs:=[(0,.int .u8 (10)),(1,.agg #[Ix (tag),.int .i64 (0),.int .i64 (0),.int .i64 (0)])]) (cells:= #[.int .u8 (10),Ix (tag),.int .i64 (0),.int .i64 (0),.int .i64 (0)]) rfl (by kernel_rfl)) ?_
 refine l_mv rfl rfl rfl (m_slices ur5 ur14.ok (cells:= #[.int .u8 (10),Ix (tag),.int .i64 (0),.int .i64 (0),.int .i64 (0)]) rfl rfl rfl (by kernel_rfl)) ?_
 rintro _ _ ⟨b2,rfl,rfl⟩
 refine lv (v:= .agg #[Ix (id),.slice (some ⟨b2,0,none⟩) 1 1]) (e_build ur10.ok ur15 (vs:=[(0,Ix (id)),(1,.slice (some ⟨b2,0,none⟩) 1 1)]) (cells:= #[Ix (id),.slice (some ⟨b2,0,none⟩) 1 1]) rfl rfl) ?_
 refine lu (mS 1 (#[Ix (id),.slice (some ⟨b2,0,none⟩) 1 1])) (lnf (c_ret ?_))
 refine retG (m:=[.agg #[Ix (id),.slice (some ⟨b2,0,none⟩) 1 1]]) Tryz.results12 ⟨rd_cell ur16.ok rfl (k_pt 1 rfl rfl) rfl,trivial⟩ rfl ?_
 intro w hw
 replace hw:=st_mask (L':=[pt b2 (.cells #[.int .u8 (10),Ix (tag),.int .i64 (0),.int .i64 (0),.int .i64 (0)] 100)]) [true,false] rfl hw
 exact⟨some ⟨b2,0,none⟩,1,rfl,hw.conseq (pt_rowF (F:=CpF) (xs:=[⟨10,tag,0,0,0⟩]) rfl (by simp))⟩
theorem empty_ok(β:Base)(w:World)(hw:St β [] w)(z:Int)(hz:1≤z∧z≤6):Calls Tryz.prog 10 #[] w fun r w'=>∃S,r= .returned (pp S 0)∧St β [shelfR S (freshG z) 0 true] w':=by
 refine enter (n:=3) Tryz.func10 rfl Tryz.ntmps10 rfl ?_ hw
 refine csr (lE oap (lnc ?_))
 refine lv (v:= .agg #[.slice none 0 0,.slice none 0 0,.slice none 0 0,.int .i64 (-1)]) (e_build ur18.ok ur17 (vs:=[(3,.int .i64 (-1))]) (cells:= #[.slice none 0 0,.slice none 0 0,.slice none 0 0,.int .i64 (-1)]) rfl (by kernel_rfl)) ?_
 refine bxa fun b1=> ?_
 refine lE oap (lnf (c_ret (ret1 Tryz.results10 rfl ?_)))
 intro w hw
 exact⟨b1,rfl,(St.closeStore (k:=⟨[],[],[],-1⟩) (M:=[]) (pH:=none) (pA:=none) (pB:=none) (cH:=0) (cA:=0) (cB:=0) (((hw.emp (row_nil _ _ _)).emp (row_nil _ _ _)).emp (row_nil _ _ _)|>.perm (List.reverse_perm _).symm)).conseq fun _ h=>⟨_,_,sok_fresh (by decide) hz,fun _=>rfl,h⟩⟩
end Go.Proofs
