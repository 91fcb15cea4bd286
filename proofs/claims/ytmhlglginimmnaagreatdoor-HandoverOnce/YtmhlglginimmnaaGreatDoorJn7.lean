/-
 What the laws look at,walked. Printed by a program of my own.
-/
import Derived.Test.YtmhlglginimmnaaGreatDoorJn6
set_option linter.all false
namespace Go.Proofs
open Go Go.Sl Go.Jn
instance tf77:UndC Tryz.prog 84 22:={}
instance tf79:ZerC Tryz.prog 9 (.string ⟨#[]⟩):={}
theorem state_ok(β:Base)(w:World)(hw:St β [] w)(J S:Nat)(i:KI)(dn:Bool)(hj:JF J S i dn β.heap)(hb:i.state.length≤1048576):Calls Tryz.prog 32 #[pp J 0] w fun r w'=>∃p c,r= .returned (sB p i.state c)∧St β [rB p i.state c] w':=by
 obtain⟨ps,pr,cs,cr,hJ,hst,hrc⟩:=hj
 obtain⟨_,hsl,hsm,hse⟩:=Sl.parts hst
 obtain⟨_,hrl,hrm,hre⟩:=Sl.parts hrc
 refine enter (n:=12) Tryz.func32 rfl Tryz.ntmps32 rfl ?_ hw
 refine csr (lE oas (lnf (cs2 (c_region (lE omp ?_)))))
 refine lcR clA (fun w β1 sb kn hw1=>there_ok β1 w hw1 J S (by have h0:=Cs.sub (vs:=[pp S 0]) 0 (Cs.mono _ _ _ _ sb hJ) rfl;rwa [Addr.add_zero']at h0)) ?_
 refine lE ont (lnf (c_no rfl (csk (csr (lE omp (lE onp (lE ofa (lE ofa ?_))))))))
 refine lv (v:=sB ps i.state (cs)) (e_load1 tf21.ok rfl (Knows.imp (Knows.imp (kB hJ) (fun _ h=>Cs.sub (vs:=[Nx (i.epoch),Nx (i.next),sB ps i.state (cs),sB pr i.recs (cr),Nx (i.size)]) 1 h rfl)) (fun _ h=>Cs.sub (vs:=[sB ps i.state (cs)]) 2 h rfl))) ?_
 refine lcf (cl0 (vs:=[sB ps i.state (cs)]) tf62.ok rfl rfl) rfl fun w β1 sb kn hw1 back=>(clone_ok β1 w hw1 i.state _ (by omega) (Sl.mono _ _ _ _ _ sb (⟨⟨_,_,rfl,hsl,hsm,hse⟩⟩:Sl U8R _ _ i.state))).mono ?_
 rintro e w' ⟨p1,c2,rfl,hw'⟩
 refine⟨_,rfl,_,back _ _ hw',?_⟩
 clear hw1 hw' back kn sb
 refine lE oas (lnf (c_ret (ret1 Tryz.results32 rfl ?_)))
 intro w hw
 exact⟨_,_,rfl,st_mask [true] rfl hw⟩
set_option maxHeartbeats 4000000 in
theorem records_ok(β:Base)(w:World)(hw:St β [] w)(J S:Nat)(i:KI)(dn:Bool)(hj:JF J S i dn β.heap)(hn:i.recs.length≤1048576)(hbs:∀b∈i.recs,b.length≤1048576):Calls Tryz.prog 33 #[pp J 0] w fun r w'=>∃p c,r= .returned (sB p i.recs c)∧St β [recsR 22 p c i.recs] w':=by
 obtain⟨ps,pr,cs,cr,hJ,hst,hrc⟩:=hj
 obtain⟨_,hsl,hsm,hse⟩:=Sl.parts hst
 obtain⟨_,hrl,hrm,hre⟩:=Sl.parts hrc
 refine enter (n:=26) Tryz.func33 rfl Tryz.ntmps33 rfl ?_ hw
 refine csr (lE oas (lnf (cs2 (c_region (lE omp ?_)))))
 refine lcR clA (fun w β1 sb kn hw1=>there_ok β1 w hw1 J S (by have h0:=Cs.sub (vs:=[pp S 0]) 0 (Cs.mono _ _ _ _ sb hJ) rfl;rwa [Addr.add_zero']at h0)) ?_
 refine lE ont (lnf (c_no rfl (csk (csr (lE oas (lnf (cs2 (c_emp (r:=recsR 22 none 0 []) (recs_nil _ _) (c_region (lE omp (lE onp (lE ofa (lE ofa ?_)))))))))))))
 refine lv (v:=sB pr i.recs (cr)) (e_load1 tf65.ok rfl (Knows.imp (Knows.imp (kB hJ) (fun _ h=>Cs.sub (vs:=[Nx (i.epoch),Nx (i.next),sB ps i.state (cs),sB pr i.recs (cr),Nx (i.size)]) 1 h rfl)) (fun _ h=>Cs.sub (vs:=[sB pr i.recs (cr)]) 3 h rfl))) ?_
 refine lE oln (lE omi (lnf (c_block ?_)))
 refine c_loop (fun(x_:Nat×Option Addr×Nat) f L=>match x_ with|(k,p,c)=>(f 3=sB p ((i.recs.take k)) c∧f 13=sB pr i.recs (cr)∧f 14=Nx (i.recs.length)∧f 15=Nx (k))∧L=[recsR 22 p c (i.recs.take k)]∧(k≤i.recs.length)) (fun(k,p,c)=>i.recs.length-k) (0,none,0) ?_ ?_
 ·exact⟨⟨rfl,rfl,rfl,rfl⟩,rfl,(by omega)⟩
 rintro⟨k,p,c⟩ f0 L0 ⟨⟨hs3,hs13,hs14,hs15⟩,hL,hk⟩
 subst L0
 refine rbs 3 hs3 (rbs 13 hs13 (rbs 14 hs14 (rbs 15 hs15 ?_)))
 have htl:(i.recs.take k).length≤i.recs.length:=by simp;omega
 refine csr (lE olt (lnf (c_seq (c_if _ rfl (fun hc1=> ?_) (fun hc1=> ?_)))))
 ·refine csk (c_seq (c_block (csr ?_)))
  obtain⟨x2,hx3⟩:=getx i.recs k (by omega)
  obtain⟨ha4,cs5,hc6,hr7⟩:=hre _ _ hx3
  obtain⟨v8,rfl,hv9⟩:=hr7
  obtain⟨a10,c11,rfl,hl12,hm13,he14⟩:=(hv9).get
  refine lE (oia tf66 ha4) (lv (v:=sB a10 x2 (c11)) (e_load1 tf21.ok rfl (kB hc6)) (lE oas (lnf ?_)))
  have hbl:=hbs _ (List.mem_of_getElem? hx3)
  refine c_region (lE oms (lE oms ?_))
  refine lcf (cl0 (vs:=[sB a10 x2 (c11)]) tf62.ok rfl rfl) rfl fun w β1 sb kn hw1 back=>(clone_ok β1 w hw1 x2 _ (by omega) (Sl.mono _ _ _ _ _ sb (⟨⟨_,_,rfl,by omega,by omega,he14⟩⟩:Sl U8R _ _ x2))).mono ?_
  rintro e w' ⟨p15,c16,rfl,hw'⟩
  refine⟨_,rfl,_,back _ _ hw',?_⟩
  clear hw1 hw' back kn sb
  refine l_mv rfl rfl rfl (m_slices tf66 tf67.ok (cells:= #[sB p15 x2 c16]) rfl rfl rfl rfl) ?_
  rintro _ _ ⟨b17,rfl,rfl⟩
  refine l_perm (L':=[recsR 22 p c (i.recs.take k),rB p15 x2 c16,pt b17 (.cells #[sB p15 x2 c16] 22)]) (by exact(perm_ix [2,1,0] 3 rfl (by kernel_rfl) (by kernel_rfl))) ?_
  refine l_mv rfl rfl rfl (m_appendRec (xs:=(i.recs.take k)) (bs:=x2) (b:=b17) rfl tf66 tf68 rfl rfl (by omega) (by omega)) ?_
  rintro _ _ ⟨rp18,rc19,rfl,rfl⟩
  refine lE oas (l_nil (f_block (f_then (c_region (lv (v:=Nx (k+1)) (e_add rfl rfl (i64n (by omega) (by omega))) (lE omi (l_nil ?_)))))))
  refine f_mask (L':=[recsR 22 rp18 rc19 ((i.recs.take k)++[x2])]) [true,false] rfl ?_
  exact f_cut ⟨(k+1,rp18,rc19),⟨⟨(by rw[take_succ hx3];rfl),rfl,rfl,rfl⟩,(by rw[take_succ hx3]),(by omega)⟩,(show i.recs.length-(k+1)<i.recs.length-k from by omega)⟩
 refine c_exit (f_then_exit (f_then_exit (f_exit (ftc (lE oms (lE oas (lnf (c_ret (ret1 Tryz.results33 rfl ?_)))))))))
 intro w hw
 rw[List.take_of_length_le (show i.recs.length≤k by omega)]at hw⊢
 exact⟨_,_,rfl,st_mask [true] rfl hw⟩
end Go.Proofs
