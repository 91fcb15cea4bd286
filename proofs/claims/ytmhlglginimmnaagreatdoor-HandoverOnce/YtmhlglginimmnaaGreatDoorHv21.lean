/-
 Own work; plain Lean (Hv19, Hv20, Hv21).
-/
import Derived.Test.YtmhlglginimmnaaGreatDoorHv18
import Derived.Test.YtmhlglginimmnaaGreatDoorJn6
set_option linter.all false
namespace Go.Proofs
open Go Go.Sl Go.Hv Go.Jn
instance uk0:CfC Tryz.prog 35:={}
theorem uk1:stB Tryz.prog 112 [(0,1),(1,1)]=true:=by kernel_rfl
instance uk2:ZerC Tryz.prog 112 (.agg #[.slice none 0 0,.bool false]):={}
instance uk3:CfC Tryz.prog 45:={}
instance uk4:FldC Tryz.prog 77 2 2 16 true:={}
instance uk5:CfC Tryz.prog 56:={}
instance uk6:FldC Tryz.prog 77 1 1 1 false:={}
instance uk7:TyC Tryz.prog 72 false 1:={}
instance uk8:FldC Tryz.prog 112 0 0 1 false:={}
instance uk9:TyC Tryz.prog 22 false 1:={}
instance uk10:CfC Tryz.prog 57:={}
instance uk11:FldC Tryz.prog 77 3 18 1 false:={}
instance uk12:TyC Tryz.prog 4 false 1:={}
set_option maxHeartbeats 4000000 in
theorem compact0_ok(β:Base)(w:World)(G J S N:Nat)(X:KG)(i:KI)(k:KS)(hso:SOk X i k N true)(hN:N≤54000000)(hw:St β [gvR G J X false,jourR J S i false,storeR S k] w):Calls Tryz.prog 29 #[pp G 0] w fun r w'=>(ckOk k (i.epoch+1) i.next (opB (.all X))∧r= .returned (Ix 0)∧St β [gvR G J X false,jourR J S (ckI i (opB (.all X))) false,storeR S (ckS k (i.epoch+1) i.next (opB (.all X)))] w')∨(¬ckOk k (i.epoch+1) i.next (opB (.all X))∧r= .returned (Ix 310)∧St β [gvR G J X true,jourR J S i true,storeR S (ckS k (i.epoch+1) i.next (opB (.all X)))] w'):=by
 refine enter (n:=36) Tryz.func29 rfl Tryz.ntmps29 rfl ?_ hw
 refine csr (lE oai (lnf (cs2 (c_region (lE omp (l_call rfl rfl rfl (cl0 (vs:=[pp G 0]) uk0.ok rfl rfl) ?_))))))
 intro w hw
 replace hw:=hw.perm (L':=_::_::_::[]) (by exact(((perm_front 2 rfl).trans (perm_front 2 rfl)).trans (perm_front 2 rfl)))
 obtain⟨β1,sb,kn,hw1,back⟩:=St.frame (L:=[_]) (M:=_::_::[]) hw
 refine(upV_ok β1 w G J X hw1).mono ?_
 rintro e w' ⟨rfl,hw'⟩
 refine⟨_,rfl,_,back _ _ hw',?_⟩
 clear hw hw1 hw' back kn sb
 refine lE oai (lnc (lE omi (lE onq (lnf (c_no rfl (csk (csr ?_)))))))
 refine lv (v:= .agg #[.slice none 0 0,.bool false]) (e_build uk2.ok uk1 (vs:=[]) (cells:= #[.slice none 0 0,.bool false]) rfl rfl) ?_
 refine bxa fun b1=> ?_
 refine lE oap (lnf (c_seq (c_emp (r:=rowF BytF 5 none 0 []) (row_nil _ _ _) (c_region (lE omp ?_)))))
 refine l_call rfl rfl rfl (cl0 (vs:=[pp b1 0,.int .i64 (6)]) uk3.ok rfl rfl) ?_
 intro w hw
 replace hw:=hw.perm (L':=_::_::_::_::_::[]) (by exact(((((perm_front 4 rfl).trans (perm_front 4 rfl)).trans (perm_front 4 rfl)).trans (perm_front 3 rfl)).trans (perm_front 4 rfl)))
 obtain⟨β1,sb,kn,hw1,back⟩:=St.frame (L:=[_,_]) (M:=_::_::_::[]) hw
 refine(tput_ok β1 w b1 none 0 false [] hw1 (by decide) 6 (by decide)).mono ?_
 rintro e w' ⟨p2,c3,rfl,hw'⟩
 refine⟨_,rfl,_,back _ _ hw',?_⟩
 clear hw hw1 hw' back kn sb
 refine lnc (lE omp (lE onp (lE ofp (lE omp (lv (v:= .func (.func 42) #[pp b1 0] #[]) (e_func (u:=[pp b1 0]) (v:=[]) rfl rfl) ?_)))))
 refine l_call rfl rfl rfl (cl0 (vs:=[pp G 2,.func (.func 42) #[pp b1 0] #[]]) uk5.ok rfl rfl) ?_
 intro w hw
 replace hw:=hw.perm (L':=_::_::_::_::_::[]) (by exact(((((perm_front 4 rfl).trans (perm_front 4 rfl)).trans (perm_front 4 rfl)).trans (perm_front 4 rfl)).trans (perm_front 4 rfl)))
 obtain⟨β1,sb,kn,hw1,back⟩:=St.frame (L:=[_,_,_]) (M:=_::_::[]) hw
 refine(wholeW_ok β1 w G J X _ hso.ok (by omega) false b1 p2 c3 false ([]++vint 6) (by simp only[List.length_append];have hf:=vint_len10 (n:=6) (by decide);have:([]:List UInt8).length=0:=rfl;omega) hw1).mono ?_
 rintro e w' ⟨p4,c5,rfl,hw'⟩
 refine⟨_,rfl,_,back _ _ hw',?_⟩
 clear hw hw1 hw' back kn sb
 refine lnf (c_seq ?_)
 refine c_re (L':=[pt b1 (.cells #[sB p4 (opB (.all X)) c5,.bool false] 112),rowF BytF 5 p4 c5 (opB (.all X)),gvR G J X false,jourR J S i false,storeR S k]) rfl ?_
 refine c_pi [2,0,1,3,4] 5 rfl (by kernel_rfl) (c_openGv rfl fun m6 p7 c8 ks9 mz10 zs11 hk12=> ?_)
 have hfit:=hso.inv.fits (Nat.le_trans hN (by decide))
 have hep:i.epoch<4611686018427387903:=Nat.lt_trans (hso.epoch hN) (by decide)
 have hbl:(opB (.all X)).length≤65536:=Nat.le_trans (allBytes hso.ok hN) (by decide)
 by_cases hc:ckOk k (i.epoch+1) i.next (opB (.all X))
 ·refine cnz [sv 21 (pp G 0) [] [] [0],sv 22 (pp G 0) [0] [0] [],sv 23 (pp G 1) [0,1] [1] [],sv 24 (pp J 0) [0,1,2] [2] [],sv 25 (pp b1 0) [] [] [1],sv 26 (pp b1 0) [4] [4] [],sv 27 (pp b1 0) [4,5] [5] [],sv 28 (sB p4 (opB (.all X)) c5) [4,5,6] [6] [],sv 29 (.int .i64 (0)) (List.range 8) [3,7] [],sv 5 (.int .i64 (0)) (List.range 9) [8] []] [u1 [3],u0,u0,u0,u1 [7],u1 [8],(some 8,[8]),(some 8,[8])] [⟨(some 8),none,[],[],fun _=>jourR J S (ckI i (opB (.all X))) false⟩,⟨(some 8),none,[],[],fun _=>storeR S (ckS k (i.epoch+1) i.next (opB (.all X)))⟩] [(0,pp G 0),(4,pp b1 0)] [0] ⟨rfl,rfl,trivial⟩ ⟨?_,?_,?_,?_,?_,?_,?_,?_,?_,?_,trivial⟩ ?_
  ·rintro f M-⟨i0,-⟩
   exact obE omp
  ·rintro f M ⟨k0,-⟩-
   exact obE onp
  ·rintro f M ⟨k0,-⟩-
   exact obE ofp
  ·rintro f M ⟨k0,-⟩-
   exact obE (olp 0)
  ·rintro f M-⟨i0,-⟩
   exact obE omp
  ·rintro f M ⟨k0,-⟩-
   exact obE onp
  ·rintro f M ⟨k0,-⟩-
   exact obE ofp
  ·rintro f M ⟨k0,-⟩-
   exact obE (ols 0)
  ·rintro f M ⟨k0,k1,-⟩-
   refine obS (up_cons (d:=28) (up_cons (d:=24) rfl k0) k1) ?_
   refine l_call rfl rfl rfl (cl0 (vs:=[pp J 0,sB p4 (opB (.all X)) c5]) uk10.ok rfl rfl) ?_
   intro w hw
   replace hw:=hw.perm (L':=_::_::_::M) (by exact(((perm_front 0 rfl).trans (perm_front 2 rfl)).trans (perm_front 2 rfl)))
   obtain⟨β1,sb,kn,hw1,back⟩:=St.frame (L:=[_,_]) (M:=_::M) hw
   refine(checkp_ok β1 w J S k i (opB (.all X)) hbl hfit hep hc _ (kn _ (k_flN 0 (F:=BytF) (m:=(opB (.all X)).length) rfl rfl)) hw1).mono ?_
   rintro e w' ⟨rfl,hw'⟩
   refine⟨_,rfl,_,back _ _ hw',?_⟩
   clear hw hw1 hw' back kn sb
   refine l_nil ?_
   exact f_owes_d (up_cons (d:=28) (up_cons (d:=24) rfl k0) k1) rfl (((perm_front 1 rfl).trans (perm_front 1 rfl)).trans (perm_front 2 rfl))
  ·rintro f M ⟨k0,-⟩-
   exact obE oai
  rintro fa13 ⟨-,-,-,-,-,-,-,-,-,k9,-⟩ ⟨j0,-⟩
  refine fre ?_
  refine f_rebase (d:=0) j0 (f_rebase (d:=5) k9 (ftc (lE omp (lE omi (lE oeq_ (lE onp (lE ofp ?_)))))))
  refine lu (mS 0 (gC (X.zone) J m6 p7 (mz10.length) c8 X.gv X.lv false)) (lnf (c_seq ?_))
  refine c_merge (L:=[pt G (.cells (gC (X.zone) J m6 p7 (mz10.length) c8 X.gv X.lv false) 77),mpR EnM m6 ks9,rowF MgF 38 p7 c8 (mz10.map Prod.fst),poolR zs11]) (M:=[pt b1 (.cells #[sB p4 (opB (.all X)) c5,.bool false] 112),rowF BytF 5 p4 c5 (opB (.all X)),jourR J S (ckI i (opB (.all X))) false,storeR S (ckS k (i.epoch+1) i.next (opB (.all X)))]) (r:=gvR G J X false) (gv_close hk12) ?_
  refine c_region (lE omi (lE oai (lnf (c_ret (ret1 Tryz.results29 rfl ?_)))))
  intro w hw
  replace hw:=hw.perm (L':=[gvR G J X false,jourR J S (ckI i (opB (.all X))) false,storeR S (ckS k (i.epoch+1) i.next (opB (.all X))),pt b1 (.cells #[sB p4 (opB (.all X)) c5,.bool false] 112),rowF BytF 5 p4 c5 (opB (.all X))]) (by exact(perm_ix [0,3,4,1,2] 5 rfl (by kernel_rfl) (by kernel_rfl)))
  replace hw:=st_mask (L':=[gvR G J X false,jourR J S (ckI i (opB (.all X))) false,storeR S (ckS k (i.epoch+1) i.next (opB (.all X)))]) [true,true,true,false,false] rfl hw
  exact .inl ⟨hc,rfl,hw⟩
 refine cnz [sv 21 (pp G 0) [] [] [0],sv 22 (pp G 0) [0] [0] [],sv 23 (pp G 1) [0,1] [1] [],sv 24 (pp J 0) [0,1,2] [2] [],sv 25 (pp b1 0) [] [] [1],sv 26 (pp b1 0) [4] [4] [],sv 27 (pp b1 0) [4,5] [5] [],sv 28 (sB p4 (opB (.all X)) c5) [4,5,6] [6] [],sv 29 (.int .i64 (310)) (List.range 8) [3,7] [],sv 5 (.int .i64 (310)) (List.range 9) [8] []] [u1 [3],u0,u0,u0,u1 [7],u1 [8],(some 8,[8]),(some 8,[8])] [⟨(some 8),none,[],[],fun _=>jourR J S i true⟩,⟨(some 8),none,[],[],fun _=>storeR S (ckS k (i.epoch+1) i.next (opB (.all X)))⟩] [(0,pp G 0),(4,pp b1 0)] [0] ⟨rfl,rfl,trivial⟩ ⟨?_,?_,?_,?_,?_,?_,?_,?_,?_,?_,trivial⟩ ?_
 ·rintro f M-⟨i0,-⟩
  exact obE omp
 ·rintro f M ⟨k0,-⟩-
  exact obE onp
 ·rintro f M ⟨k0,-⟩-
  exact obE ofp
 ·rintro f M ⟨k0,-⟩-
  exact obE (olp 0)
 ·rintro f M-⟨i0,-⟩
  exact obE omp
 ·rintro f M ⟨k0,-⟩-
  exact obE onp
 ·rintro f M ⟨k0,-⟩-
  exact obE ofp
 ·rintro f M ⟨k0,-⟩-
  exact obE (ols 0)
 ·rintro f M ⟨k0,k1,-⟩-
  refine obS (up_cons (d:=28) (up_cons (d:=24) rfl k0) k1) ?_
  refine l_call rfl rfl rfl (cl0 (vs:=[pp J 0,sB p4 (opB (.all X)) c5]) uk10.ok rfl rfl) ?_
  intro w hw
  replace hw:=hw.perm (L':=_::_::_::M) (by exact(((perm_front 0 rfl).trans (perm_front 2 rfl)).trans (perm_front 2 rfl)))
  obtain⟨β1,sb,kn,hw1,back⟩:=St.frame (L:=[_,_]) (M:=_::M) hw
  refine(checkp_fail β1 w J S k i (opB (.all X)) hbl hfit hep hc _ (kn _ (k_flN 0 (F:=BytF) (m:=(opB (.all X)).length) rfl rfl)) hw1).mono ?_
  rintro e w' ⟨rfl,hw'⟩
  refine⟨_,rfl,_,back _ _ hw',?_⟩
  clear hw hw1 hw' back kn sb
  refine l_nil ?_
  exact f_owes_d (up_cons (d:=28) (up_cons (d:=24) rfl k0) k1) rfl (((perm_front 1 rfl).trans (perm_front 1 rfl)).trans (perm_front 2 rfl))
 ·rintro f M ⟨k0,-⟩-
  exact obE oai
 rintro fa14 ⟨-,-,-,-,-,-,-,-,-,k9,-⟩ ⟨j0,-⟩
 refine fre ?_
 refine f_rebase (d:=0) j0 (f_rebase (d:=5) k9 (ftc (lE omp (lE omi (lE oeq_ (lE onp (lE ofp ?_)))))))
 refine lu (mS 0 (gC (X.zone) J m6 p7 (mz10.length) c8 X.gv X.lv true)) (lnf (c_seq ?_))
 refine c_merge (L:=[pt G (.cells (gC (X.zone) J m6 p7 (mz10.length) c8 X.gv X.lv true) 77),mpR EnM m6 ks9,rowF MgF 38 p7 c8 (mz10.map Prod.fst),poolR zs11]) (M:=[pt b1 (.cells #[sB p4 (opB (.all X)) c5,.bool false] 112),rowF BytF 5 p4 c5 (opB (.all X)),jourR J S i true,storeR S (ckS k (i.epoch+1) i.next (opB (.all X)))]) (r:=gvR G J X true) (gv_close hk12) ?_
 refine c_region (lE omi (lE oai (lnf (c_ret (ret1 Tryz.results29 rfl ?_)))))
 intro w hw
 replace hw:=hw.perm (L':=[gvR G J X true,jourR J S i true,storeR S (ckS k (i.epoch+1) i.next (opB (.all X))),pt b1 (.cells #[sB p4 (opB (.all X)) c5,.bool false] 112),rowF BytF 5 p4 c5 (opB (.all X))]) (by exact(perm_ix [0,3,4,1,2] 5 rfl (by kernel_rfl) (by kernel_rfl)))
 replace hw:=st_mask (L':=[gvR G J X true,jourR J S i true,storeR S (ckS k (i.epoch+1) i.next (opB (.all X)))]) [true,true,true,false,false] rfl hw
 exact .inr ⟨hc,rfl,hw⟩
end Go.Proofs
namespace Go.Proofs
open Go Go.Sl Go.Hv Go.Jn
theorem compactY(β:Base)(w:World)(G J S N:Nat)(X:KG)(i:KI)(k:KS)(hso:SOk X i k N true)(hN:N≤54000000)(hc:ckOk k (i.epoch+1) i.next (opB (.all X)))(hw:St β [gvR G J X false,jourR J S i false,storeR S k] w):Calls Tryz.prog 29 #[pp G 0] w fun r w'=>r= .returned (Ix 0)∧St β [gvR G J X false,jourR J S (ckI i (opB (.all X))) false,storeR S (ckS k (i.epoch+1) i.next (opB (.all X)))] w':=
 (compact0_ok β w G J S N X i k hso hN hw).mono fun _ _ h=>h.elim (·.2) fun h=>absurd hc h.1
theorem compactN(β:Base)(w:World)(G J S N:Nat)(X:KG)(i:KI)(k:KS)(hso:SOk X i k N true)(hN:N≤54000000)(hc:¬ckOk k (i.epoch+1) i.next (opB (.all X)))(hw:St β [gvR G J X false,jourR J S i false,storeR S k] w):Calls Tryz.prog 29 #[pp G 0] w fun r w'=>r= .returned (Ix 310)∧St β [gvR G J X true,jourR J S i true,storeR S (ckS k (i.epoch+1) i.next (opB (.all X)))] w':=
 (compact0_ok β w G J S N X i k hso hN hw).mono fun _ _ h=>h.elim (fun h=>absurd h.1 hc) (·.2)
theorem ul0:stB Tryz.prog 112 [(0,1),(1,1)]=true:=by kernel_rfl
instance ul1:ZerC Tryz.prog 112 (.agg #[.slice none 0 0,.bool false]):={}
instance ul2:CfC Tryz.prog 45:={}
instance ul3:FldC Tryz.prog 77 1 1 1 false:={}
instance ul4:TyC Tryz.prog 72 false 1:={}
instance ul5:FldC Tryz.prog 112 0 0 1 false:={}
instance ul6:TyC Tryz.prog 22 false 1:={}
instance ul7:CfC Tryz.prog 85:={}
instance ul8:FldC Tryz.prog 77 2 2 16 true:={}
instance ul9:FldC Tryz.prog 77 0 0 1 false:={}
instance ul10:TyC Tryz.prog 3 false 1:={}
instance ul11:CfC Tryz.prog 34:={}
instance ul12:FldC Tryz.prog 77 3 18 1 false:={}
instance ul13:TyC Tryz.prog 4 false 1:={}
instance ul14:CfC Tryz.prog 29:={}
set_option maxHeartbeats 4000000 in
theorem change_ok(β:Base)(w:World)(G S N:Nat)(X:KG)(m:Bool)(hw:St β [gateR G S X N m] w)(hN:N≤53000000)(o:Hv.KOp)(ho:OpG X o)(fn:Value)(hfn:FillV β fn (opT o)):Calls Tryz.prog 39 #[pp G 0,Ix (opK o),fn] w fun r w'=>∃e,r= .returned (Ix e)∧St β [endG e G S X (playX X o) (N+300) (N+262500) m] w':=by
 obtain⟨J,i,k,hso,hpw,hw⟩:=St.openGate hw
 obtain⟨gg,fst,cap,rfl,hcf,hfl⟩:=hfn
 have hN0:=hN
 replace hN:N≤54000000:=by omega
 refine enter (n:=68) Tryz.func39 rfl Tryz.ntmps39 rfl ?_ hw
 refine csr (lE oai (lnc ?_))
 refine lv (v:= .agg #[.slice none 0 0,.bool false]) (e_build ul1.ok ul0 (vs:=[]) (cells:= #[.slice none 0 0,.bool false]) rfl rfl) ?_
 refine bxa fun b1=> ?_
 refine lE oap (lnf (c_seq (c_emp (r:=rowF BytF 5 none 0 []) (row_nil _ _ _) (c_region (lE omp (lE omi ?_))))))
 refine l_call rfl rfl rfl (cl0 (vs:=[pp b1 0,Ix (opK o)]) ul2.ok rfl rfl) ?_
 intro w hw
 replace hw:=hw.perm (L':=_::_::_::_::_::[]) (by exact(((((perm_front 4 rfl).trans (perm_front 4 rfl)).trans (perm_front 4 rfl)).trans (perm_front 3 rfl)).trans (perm_front 4 rfl)))
 obtain⟨β1,sb,kn,hw1,back⟩:=St.frame (L:=[_,_]) (M:=_::_::_::[]) hw
 refine(tput_ok β1 w b1 none 0 false [] hw1 (by decide) (opK o) ⟨by have:=opK_small o;omega,by have:=opK_small o;omega⟩).mono ?_
 rintro e w' ⟨p2,c3,rfl,hw'⟩
 refine⟨_,rfl,_,back _ _ hw',?_⟩
 clear hw hw1 hw' back kn sb
 refine lnc (lE omf (lE omp ?_))
 refine l_call rfl rfl rfl (cl_value (fst:=fst) (cap:=cap) (vs:=[pp b1 0]) (all:=fst++[pp b1 0]++cap) hcf rfl rfl rfl) ?_
 intro w hw
 replace hw:=hw.perm (L':=_::_::_::_::_::[]) (by exact(((((perm_front 4 rfl).trans (perm_front 4 rfl)).trans (perm_front 4 rfl)).trans (perm_front 4 rfl)).trans (perm_front 4 rfl)))
 obtain⟨β1,sb,kn,hw1,back⟩:=St.frame (L:=[_,_]) (M:=_::_::_::[]) hw
 refine(hfl β1 sb b1 p2 c3 false ([]++vint (opK o)) (by simp only[List.length_append];have hf:=vint_len10 (n:=opK o) ⟨by have:=opK_small o;omega,by have:=opK_small o;omega⟩;have:([]:List UInt8).length=0:=rfl;omega) w hw1).mono ?_
 rintro e w' ⟨p4,c5,rfl,hw'⟩
 refine⟨_,rfl,_,back _ _ hw',?_⟩
 clear hw hw1 hw' back kn sb
 refine lnf (c_seq ?_)
 refine c_re (L':=[pt b1 (.cells #[sB p4 (opB o) c5,.bool false] 112),rowF BytF 5 p4 c5 (opB o),gvR G J X false,jourR J S i false,storeR S k]) rfl ?_
 have hbl:(opB o).length≤65536:=Nat.le_trans ho.len (by decide)
 by_cases hful:i.size+24+(opB o).length≤262144
 ·have hroom:=hso.room hN ho.len hful
  by_cases ha:apOk k i (opB o)
  ·refine cnz [sv 19 (pp G 0) [] [] [0],sv 20 (pp G 0) [0] [0] [],sv 21 (pp G 1) [0,1] [1] [],sv 22 (pp J 0) [0,1,2] [2] [],sv 23 (pp b1 0) [] [] [1],sv 24 (pp b1 0) [4] [4] [],sv 25 (pp b1 0) [4,5] [5] [],sv 26 (sB p4 (opB o) c5) [4,5,6] [6] [],sv 27 (.tuple #[Nx (i.next),.int .i64 (0)]) (List.range 8) [3,7] [],sv 18 (.tuple #[Nx (i.next),.int .i64 (0)]) (List.range 9) [8] [],sv 28 (Nx (i.next)) (List.range 10) [9] [],sv 29 (.int .i64 (0)) (List.range 10) [9] [],sv 8 (Nx (i.next)) (List.range 11) [10] [],sv 9 (.int .i64 (0)) (List.range 13) [11] []] [u1 [7],u1 [8],u1 [3],(some 8,[8]),(some 8,[8])] [⟨(some 8),none,[],[],fun _=>jourR J S (apI i (opB o)) false⟩,⟨(some 8),none,[],[],fun _=>storeR S (apS k i (opB o))⟩] [(0,pp G 0),(7,pp b1 0)] [0,1] ⟨rfl,rfl,trivial⟩ ⟨?_,?_,?_,?_,?_,?_,?_,?_,?_,?_,?_,?_,?_,?_,trivial⟩ ?_
   ·rintro f M-⟨i0,-⟩
    exact obE omp
   ·rintro f M ⟨k0,-⟩-
    exact obE onp
   ·rintro f M ⟨k0,-⟩-
    exact obE ofp
   ·rintro f M ⟨k0,-⟩-
    exact obv (L':=gvR G J X false::M) (up_cons (d:=21) rfl k0) rfl (e_load1 ul4.ok rfl (k_gvJ 0 rfl)) (perm_front 0 rfl) (by rfl)
   ·rintro f M-⟨i0,-⟩
    exact obE omp
   ·rintro f M ⟨k0,-⟩-
    exact obE onp
   ·rintro f M ⟨k0,-⟩-
    exact obE ofp
   ·rintro f M ⟨k0,-⟩-
    exact obE (ols 0)
   ·rintro f M ⟨k0,k1,-⟩-
    refine obS (up_cons (d:=26) (up_cons (d:=22) rfl k0) k1) ?_
    refine l_call rfl rfl rfl (cl0 (vs:=[pp J 0,sB p4 (opB o) c5]) ul7.ok rfl rfl) ?_
    intro w hw
    replace hw:=hw.perm (L':=_::_::_::M) (by exact(((perm_front 0 rfl).trans (perm_front 2 rfl)).trans (perm_front 2 rfl)))
    obtain⟨β1,sb,kn,hw1,back⟩:=St.frame (L:=[_,_]) (M:=_::M) hw
    refine(append_ok β1 w J S k i (opB o) hroom.1 hroom.2.1 hroom.2.2.1 hroom.2.2.2.1 hroom.2.2.2.2.1 hroom.2.2.2.2.2.1 hroom.2.2.2.2.2.2 ha _ (kn _ (k_flN 0 (F:=BytF) (m:=(opB o).length) rfl rfl)) hw1).mono ?_
    rintro e w' ⟨rfl,hw'⟩
    refine⟨_,rfl,_,back _ _ hw',?_⟩
    clear hw hw1 hw' back kn sb
    refine l_nil ?_
    exact f_owes_d (up_cons (d:=26) (up_cons (d:=22) rfl k0) k1) rfl (((perm_front 1 rfl).trans (perm_front 1 rfl)).trans (perm_front 2 rfl))
   ·rintro f M ⟨k0,-⟩-
    exact obE omt
   ·rintro f M ⟨k0,-⟩-
    exact obE oxi
   ·rintro f M ⟨k0,-⟩-
    exact obE oxi
   ·rintro f M ⟨k0,-⟩-
    exact obE oai
   ·rintro f M ⟨k0,-⟩-
    exact obE oai
   rintro fa6 ⟨-,-,-,-,-,-,-,-,-,-,-,-,-,k13,-⟩ ⟨j0,j1,-⟩
   refine fre ?_
   refine f_rebase (d:=0) j0 (f_rebase (d:=7) j1 (f_rebase (d:=9) k13 (fts (csr (lE omi (lE oeq_ (lnf (c_no rfl (csk (cs2 (c_region (lE omi ?_))))))))))))
   refine lE onq (lnf (c_no rfl (csk (c_seq ?_))))
   refine cnz [sv 56 (pp G 0) [] [] [0],sv 57 (pp G 0) [0] [0] [],sv 58 (pp G 2) [0,1] [1] [],sv 59 (pp G 0) [] [] [0],sv 60 (pp G 0) [3] [3] [],sv 61 (pp G 0) [3,4] [4] [],sv 62 (Ix (X.zone)) [3,4,5] [5] [],sv 63 (pp b1 0) [] [] [1],sv 64 (pp b1 0) [7] [7] [],sv 65 (pp b1 0) [7,8] [8] [],sv 66 (sB p4 (opB o) c5) [7,8,9] [9] [],sv 67 (.tuple #[]) (List.range 11) [2,6,10] []] [u1 [10],u1 [11],(some 11,[6,11])] [⟨(some 11),none,[],[],fun _=>gvR G J (playX X o) false⟩] [(0,pp G 0),(7,pp b1 0)] [] ⟨rfl,rfl,trivial⟩ ⟨?_,?_,?_,?_,?_,?_,?_,?_,?_,?_,?_,?_,trivial⟩ ?_
   ·rintro f M-⟨i0,-⟩
    exact obE omp
   ·rintro f M ⟨k0,-⟩-
    exact obE onp
   ·rintro f M ⟨k0,-⟩-
    exact obE ofp
   ·rintro f M-⟨i0,-⟩
    exact obE omp
   ·rintro f M ⟨k0,-⟩-
    exact obE onp
   ·rintro f M ⟨k0,-⟩-
    exact obE ofp
   ·rintro f M ⟨k0,-⟩-
    exact obv (L':=gvR G J X false::M) (up_cons (d:=61) rfl k0) rfl (e_load1 ul10.ok rfl (k_gvz 0 rfl)) (perm_front 0 rfl) (by rfl)
   ·rintro f M-⟨i0,-⟩
    exact obE omp
   ·rintro f M ⟨k0,-⟩-
    exact obE onp
   ·rintro f M ⟨k0,-⟩-
    exact obE ofp
   ·rintro f M ⟨k0,-⟩-
    exact obE (ols 0)
   ·rintro f M ⟨k0,k1,k2,-⟩-
    refine obS (up_cons (d:=66) (up_cons (d:=62) (up_cons (d:=58) rfl k0) k1) k2) ?_
    refine l_call rfl rfl rfl (cl0 (vs:=[pp G 2,Ix (X.zone),sB p4 (opB o) c5]) ul11.ok rfl rfl) ?_
    intro w hw
    replace hw:=hw.perm (L':=_::_::M) (by exact((perm_front 0 rfl).trans (perm_front 1 rfl)))
    obtain⟨β1,sb,kn,hw1,back⟩:=St.frame (L:=[_]) (M:=_::M) hw
    refine(play_ok β1 w X N hso.ok (by omega) false G J o ho.opIn β1.heap (fun _ _ h=>h) p4 c5 (kn _ (k_flN 0 (F:=BytF) (m:=(opB o).length) rfl rfl)) hw1).mono ?_
    rintro e w' ⟨rfl,hw'⟩
    refine⟨_,rfl,_,back _ _ hw',?_⟩
    clear hw hw1 hw' back kn sb
    refine l_nil ?_
    exact f_owes_d (up_cons (d:=66) (up_cons (d:=62) (up_cons (d:=58) rfl k0) k1) k2) rfl ((perm_front 0 rfl).trans (perm_front 1 rfl))
   rintro fa7 ⟨-,-,-,-,-,-,-,-,-,-,-,-,-⟩-
   refine fre ?_
   refine ftc (lE oai (lnf (c_ret (ret1 Tryz.results39 rfl ?_))))
   intro w hw
   replace hw:=hw.perm (L':=[gvR G J (playX X o) false,jourR J S (apI i (opB o)) false,storeR S (apS k i (opB o)),pt b1 (.cells #[sB p4 (opB o) c5,.bool false] 112),rowF BytF 5 p4 c5 (opB o)]) (by exact(perm_ix [4,2,3,0,1] 5 rfl (by kernel_rfl) (by kernel_rfl)))
   replace hw:=st_mask (L':=[gvR G J (playX X o) false,jourR J S (apI i (opB o)) false,storeR S (apS k i (opB o))]) [true,true,true,false,false] rfl hw
   exact⟨0,rfl,St.endOk (by omega) (St.closeGate (N:=N+254) (hso.ap (by omega) ho hful ha) (fun q=>apS_neg1 ((fun q=>hpw q) q)) hw)⟩
  refine cnz [sv 19 (pp G 0) [] [] [0],sv 20 (pp G 0) [0] [0] [],sv 21 (pp G 1) [0,1] [1] [],sv 22 (pp J 0) [0,1,2] [2] [],sv 23 (pp b1 0) [] [] [1],sv 24 (pp b1 0) [4] [4] [],sv 25 (pp b1 0) [4,5] [5] [],sv 26 (sB p4 (opB o) c5) [4,5,6] [6] [],sv 27 (.tuple #[.int .i64 (0),.int .i64 (310)]) (List.range 8) [3,7] [],sv 18 (.tuple #[.int .i64 (0),.int .i64 (310)]) (List.range 9) [8] [],sv 28 (.int .i64 (0)) (List.range 10) [9] [],sv 29 (.int .i64 (310)) (List.range 10) [9] [],sv 8 (.int .i64 (0)) (List.range 11) [10] [],sv 9 (.int .i64 (310)) (List.range 13) [11] []] [u1 [7],u1 [8],u1 [3],(some 8,[8]),(some 8,[8])] [⟨(some 8),none,[],[],fun _=>jourR J S i true⟩,⟨(some 8),none,[],[],fun _=>storeR S (apS k i (opB o))⟩] [(0,pp G 0),(7,pp b1 0)] [0,1] ⟨rfl,rfl,trivial⟩ ⟨?_,?_,?_,?_,?_,?_,?_,?_,?_,?_,?_,?_,?_,?_,trivial⟩ ?_
  ·rintro f M-⟨i0,-⟩
   exact obE omp
  ·rintro f M ⟨k0,-⟩-
   exact obE onp
  ·rintro f M ⟨k0,-⟩-
   exact obE ofp
  ·rintro f M ⟨k0,-⟩-
   exact obv (L':=gvR G J X false::M) (up_cons (d:=21) rfl k0) rfl (e_load1 ul4.ok rfl (k_gvJ 0 rfl)) (perm_front 0 rfl) (by rfl)
  ·rintro f M-⟨i0,-⟩
   exact obE omp
  ·rintro f M ⟨k0,-⟩-
   exact obE onp
  ·rintro f M ⟨k0,-⟩-
   exact obE ofp
  ·rintro f M ⟨k0,-⟩-
   exact obE (ols 0)
  ·rintro f M ⟨k0,k1,-⟩-
   refine obS (up_cons (d:=26) (up_cons (d:=22) rfl k0) k1) ?_
   refine l_call rfl rfl rfl (cl0 (vs:=[pp J 0,sB p4 (opB o) c5]) ul7.ok rfl rfl) ?_
   intro w hw
   replace hw:=hw.perm (L':=_::_::_::M) (by exact(((perm_front 0 rfl).trans (perm_front 2 rfl)).trans (perm_front 2 rfl)))
   obtain⟨β1,sb,kn,hw1,back⟩:=St.frame (L:=[_,_]) (M:=_::M) hw
   refine(append_fail β1 w J S k i (opB o) hroom.1 hroom.2.1 hroom.2.2.1 hroom.2.2.2.1 hroom.2.2.2.2.1 hroom.2.2.2.2.2.1 hroom.2.2.2.2.2.2 ha _ (kn _ (k_flN 0 (F:=BytF) (m:=(opB o).length) rfl rfl)) hw1).mono ?_
   rintro e w' ⟨rfl,hw'⟩
   refine⟨_,rfl,_,back _ _ hw',?_⟩
   clear hw hw1 hw' back kn sb
   refine l_nil ?_
   exact f_owes_d (up_cons (d:=26) (up_cons (d:=22) rfl k0) k1) rfl (((perm_front 1 rfl).trans (perm_front 1 rfl)).trans (perm_front 2 rfl))
  ·rintro f M ⟨k0,-⟩-
   exact obE omt
  ·rintro f M ⟨k0,-⟩-
   exact obE oxi
  ·rintro f M ⟨k0,-⟩-
   exact obE oxi
  ·rintro f M ⟨k0,-⟩-
   exact obE oai
  ·rintro f M ⟨k0,-⟩-
   exact obE oai
  rintro fa8 ⟨-,-,-,-,-,-,-,-,-,-,-,-,-,k13,-⟩ ⟨j0,j1,-⟩
  refine fre ?_
  refine f_rebase (d:=0) j0 (f_rebase (d:=7) j1 (f_rebase (d:=9) k13 (fts (csr (lE omi (lE oeq_ (lnf (c_no rfl (csk (cs2 (c_region (lE omi ?_))))))))))))
  refine lE onq (lnf (c_yes rfl (c_seq (c_pi [2,0,1,3,4] 5 rfl (by kernel_rfl) (c_openGv rfl fun m9 p10 c11 ks12 mz13 zs14 hk15=>c_region (lE omp ?_))))))
  refine lE omi (lE oeq_ (lE onp (lE ofp (lu (mS 0 (gC (X.zone) J m9 p10 (mz13.length) c11 X.gv X.lv true)) (lnc (lE omi (lE oai (lnf (c_ret ?_)))))))))
  refine f_then_ret (ret1 Tryz.results39 rfl ?_)
  intro w hw
  replace hw:=hw.perm (L':=[pt G (.cells (gC (X.zone) J m9 p10 (mz13.length) c11 X.gv X.lv true) 77),mpR EnM m9 ks12,rowF MgF 38 p10 c11 (mz13.map Prod.fst),poolR zs14,storeR S (apS k i (opB o)),pt b1 (.cells #[sB p4 (opB o) c5,.bool false] 112),rowF BytF 5 p4 c5 (opB o),jourR J S i true]) (by exact(perm_ix [0,1,2,3,7,4,5,6] 8 rfl (by kernel_rfl) (by kernel_rfl)))
  replace hw:=st_mask (L':=[pt G (.cells (gC (X.zone) J m9 p10 (mz13.length) c11 X.gv X.lv true) 77),mpR EnM m9 ks12,rowF MgF 38 p10 c11 (mz13.map Prod.fst),poolR zs14,storeR S (apS k i (opB o))]) [true,true,true,true,true,false,false,false] rfl hw
  exact⟨310,rfl,St.endNo (Bool.eq_false_iff.2 fun q=>ha (ap_neg1 ((fun q=>hpw q) q))) ((hso.ap_no hful hbl ha).mono (by omega)) (St.closeGv (M:=[storeR S (apS k i (opB o))]) hk15 hw)⟩
 have hfull:262144<i.size+24+(opB o).length:=by omega
 have hnl:i.next≤4611686018427387904:=by have:=hso.inv.nN;omega
 have hsz:=hso.inv.sm
 refine cnz [sv 19 (pp G 0) [] [] [0],sv 20 (pp G 0) [0] [0] [],sv 21 (pp G 1) [0,1] [1] [],sv 22 (pp J 0) [0,1,2] [2] [],sv 23 (pp b1 0) [] [] [1],sv 24 (pp b1 0) [4] [4] [],sv 25 (pp b1 0) [4,5] [5] [],sv 26 (sB p4 (opB o) c5) [4,5,6] [6] [],sv 27 (.tuple #[.int .i64 (0),.int .i64 (4)]) (List.range 8) [3,7] [],sv 18 (.tuple #[.int .i64 (0),.int .i64 (4)]) (List.range 9) [8] [],sv 28 (.int .i64 (0)) (List.range 10) [9] [],sv 29 (.int .i64 (4)) (List.range 10) [9] [],sv 8 (.int .i64 (0)) (List.range 11) [10] [],sv 9 (.int .i64 (4)) (List.range 13) [11] []] [u1 [7],u1 [8],u1 [3],u1 [8]] [] [(0,pp G 0),(7,pp b1 0)] [0,1] ⟨rfl,rfl,trivial⟩ ⟨?_,?_,?_,?_,?_,?_,?_,?_,?_,?_,?_,?_,?_,?_,trivial⟩ ?_
 ·rintro f M-⟨i0,-⟩
  exact obE omp
 ·rintro f M ⟨k0,-⟩-
  exact obE onp
 ·rintro f M ⟨k0,-⟩-
  exact obE ofp
 ·rintro f M ⟨k0,-⟩-
  exact obv (L':=gvR G J X false::M) (up_cons (d:=21) rfl k0) rfl (e_load1 ul4.ok rfl (k_gvJ 0 rfl)) (perm_front 0 rfl) (by rfl)
 ·rintro f M-⟨i0,-⟩
  exact obE omp
 ·rintro f M ⟨k0,-⟩-
  exact obE onp
 ·rintro f M ⟨k0,-⟩-
  exact obE ofp
 ·rintro f M ⟨k0,-⟩-
  exact obE (ols 0)
 ·rintro f M ⟨k0,k1,-⟩-
  refine obS (up_cons (d:=26) (up_cons (d:=22) rfl k0) k1) ?_
  refine l_call rfl rfl rfl (cl0 (vs:=[pp J 0,sB p4 (opB o) c5]) ul7.ok rfl rfl) ?_
  intro w hw
  replace hw:=hw.perm (L':=_::_::M) (by exact((perm_front 0 rfl).trans (perm_front 1 rfl)))
  obtain⟨β1,sb,kn,hw1,back⟩:=St.frame (L:=[_]) (M:=_::M) hw
  refine(append_full β1 w J S ⟨[],[],[],0⟩ i (opB o) hbl hnl hsz (.inl hfull) _ (kn _ (k_flN 0 (F:=BytF) (m:=(opB o).length) rfl rfl)) hw1).mono ?_
  rintro e w' ⟨rfl,hw'⟩
  refine⟨_,rfl,_,back _ _ hw',?_⟩
  clear hw hw1 hw' back kn sb
  refine l_nil ?_
  exact f_owes_d (up_cons (d:=26) (up_cons (d:=22) rfl k0) k1) rfl ((perm_front 0 rfl).trans (perm_front 1 rfl))
 ·rintro f M ⟨k0,-⟩-
  exact obE omt
 ·rintro f M ⟨k0,-⟩-
  exact obE oxi
 ·rintro f M ⟨k0,-⟩-
  exact obE oxi
 ·rintro f M ⟨k0,-⟩-
  exact obE oai
 ·rintro f M ⟨k0,-⟩-
  exact obE oai
 rintro fa16 ⟨-,-,-,-,-,-,-,-,-,-,-,-,-,k13,-⟩ ⟨j0,j1,-⟩
 refine fre ?_
 refine f_rebase (d:=0) j0 (f_rebase (d:=7) j1 (f_rebase (d:=9) k13 (fts (csr (lE omi (lE oeq_ (lnf (c_yes rfl (c_seq ?_)))))))))
 by_cases hc:ckOk k (i.epoch+1) i.next (opB (.all X))
 ·refine c_region (lE omp (l_call rfl rfl rfl (cl0 (vs:=[pp G 0]) ul14.ok rfl rfl) ?_))
  intro w hw
  replace hw:=hw.perm (L':=_::_::_::_::_::[]) (by exact(((((perm_front 1 rfl).trans (perm_front 1 rfl)).trans (perm_front 4 rfl)).trans (perm_front 4 rfl)).trans (perm_front 4 rfl)))
  obtain⟨β1,sb,kn,hw1,back⟩:=St.frame (L:=[_,_,_]) (M:=_::_::[]) hw
  refine(compactY β1 w G J S N X i k hso hN hc hw1).mono ?_
  rintro e w' ⟨rfl,hw'⟩
  refine⟨_,rfl,_,back _ _ hw',?_⟩
  clear hw hw1 hw' back kn sb
  refine lE oai (lnc (lE omi (lE oeq_ (lnf (c_yes rfl ?_)))))
  have hso2:=hso.ckFull hN (by have:=ho.len;omega) hc
  have hful2:(ckI i (opB (.all X))).size+24+(opB o).length≤262144:=by show 24+(opB (.all X)).length+24+_≤_;have:=allBytes hso.ok hN;have:=ho.len;omega
  have hroom:=hso2.room (by omega) ho.len hful2
  by_cases ha:apOk (ckS k (i.epoch+1) i.next (opB (.all X))) (ckI i (opB (.all X))) (opB o)
  ·refine cnz [sv 37 (pp G 0) [] [] [0],sv 38 (pp G 0) [0] [0] [],sv 39 (pp G 1) [0,1] [1] [],sv 40 (pp J 0) [0,1,2] [2] [],sv 41 (pp b1 0) [] [] [1],sv 42 (pp b1 0) [4] [4] [],sv 43 (pp b1 0) [4,5] [5] [],sv 44 (sB p4 (opB o) c5) [4,5,6] [6] [],sv 45 (.tuple #[Nx ((ckI i (opB (.all X))).next),.int .i64 (0)]) (List.range 8) [3,7] [],sv 36 (.tuple #[Nx ((ckI i (opB (.all X))).next),.int .i64 (0)]) (List.range 9) [8] [],sv 46 (Nx ((ckI i (opB (.all X))).next)) (List.range 10) [9] [],sv 47 (.int .i64 (0)) (List.range 10) [9] [],sv 9 (.int .i64 (0)) (List.range 12) [11] []] [u1 [3],(some 8,[8]),(some 8,[8]),u1 [7],u1 [8]] [⟨(some 8),none,[],[],fun _=>jourR J S (apI (ckI i (opB (.all X))) (opB o)) false⟩,⟨(some 8),none,[],[],fun _=>storeR S (apS (ckS k (i.epoch+1) i.next (opB (.all X))) (ckI i (opB (.all X))) (opB o))⟩] [(0,pp G 0),(7,pp b1 0)] [0,1] ⟨rfl,rfl,trivial⟩ ⟨?_,?_,?_,?_,?_,?_,?_,?_,?_,?_,?_,?_,?_,trivial⟩ ?_
   ·rintro f M-⟨i0,-⟩
    exact obE omp
   ·rintro f M ⟨k0,-⟩-
    exact obE onp
   ·rintro f M ⟨k0,-⟩-
    exact obE ofp
   ·rintro f M ⟨k0,-⟩-
    exact obv (L':=gvR G J X false::M) (up_cons (d:=39) rfl k0) rfl (e_load1 ul4.ok rfl (k_gvJ 0 rfl)) (perm_front 0 rfl) (by rfl)
   ·rintro f M-⟨i0,-⟩
    exact obE omp
   ·rintro f M ⟨k0,-⟩-
    exact obE onp
   ·rintro f M ⟨k0,-⟩-
    exact obE ofp
   ·rintro f M ⟨k0,-⟩-
    exact obE (ols 0)
   ·rintro f M ⟨k0,k1,-⟩-
    refine obS (up_cons (d:=44) (up_cons (d:=40) rfl k0) k1) ?_
    refine l_call rfl rfl rfl (cl0 (vs:=[pp J 0,sB p4 (opB o) c5]) ul7.ok rfl rfl) ?_
    intro w hw
    replace hw:=hw.perm (L':=_::_::_::M) (by exact(((perm_front 2 rfl).trans (perm_front 2 rfl)).trans (perm_front 2 rfl)))
    obtain⟨β1,sb,kn,hw1,back⟩:=St.frame (L:=[_,_]) (M:=_::M) hw
    refine(append_ok β1 w J S (ckS k (i.epoch+1) i.next (opB (.all X))) (ckI i (opB (.all X))) (opB o) hroom.1 hroom.2.1 hroom.2.2.1 hroom.2.2.2.1 hroom.2.2.2.2.1 hroom.2.2.2.2.2.1 hroom.2.2.2.2.2.2 ha _ (kn _ (k_flN 0 (F:=BytF) (m:=(opB o).length) rfl rfl)) hw1).mono ?_
    rintro e w' ⟨rfl,hw'⟩
    refine⟨_,rfl,_,back _ _ hw',?_⟩
    clear hw hw1 hw' back kn sb
    refine l_nil ?_
    exact f_owes_d (up_cons (d:=44) (up_cons (d:=40) rfl k0) k1) rfl (((perm_front 1 rfl).trans (perm_front 1 rfl)).trans (perm_front 2 rfl))
   ·rintro f M ⟨k0,-⟩-
    exact obE omt
   ·rintro f M ⟨k0,-⟩-
    exact obE oxi
   ·rintro f M ⟨k0,-⟩-
    exact obE oxi
   ·rintro f M ⟨k0,-⟩-
    exact obE oai
   rintro fa17 ⟨-,-,-,-,-,-,-,-,-,-,-,-,k12,-⟩ ⟨j0,j1,-⟩
   refine fre ?_
   refine f_rebase (d:=0) j0 (f_rebase (d:=7) j1 (f_rebase (d:=9) k12 (fts (csr (lE omi (lE onq (lnf (c_no rfl (csk (c_seq ?_))))))))))
   refine cnz [sv 56 (pp G 0) [] [] [0],sv 57 (pp G 0) [0] [0] [],sv 58 (pp G 2) [0,1] [1] [],sv 59 (pp G 0) [] [] [0],sv 60 (pp G 0) [3] [3] [],sv 61 (pp G 0) [3,4] [4] [],sv 62 (Ix (X.zone)) [3,4,5] [5] [],sv 63 (pp b1 0) [] [] [1],sv 64 (pp b1 0) [7] [7] [],sv 65 (pp b1 0) [7,8] [8] [],sv 66 (sB p4 (opB o) c5) [7,8,9] [9] [],sv 67 (.tuple #[]) (List.range 11) [2,6,10] []] [(some 11,[6,11]),u1 [10],u1 [11]] [⟨(some 11),none,[],[],fun _=>gvR G J (playX X o) false⟩] [(0,pp G 0),(7,pp b1 0)] [] ⟨rfl,rfl,trivial⟩ ⟨?_,?_,?_,?_,?_,?_,?_,?_,?_,?_,?_,?_,trivial⟩ ?_
   ·rintro f M-⟨i0,-⟩
    exact obE omp
   ·rintro f M ⟨k0,-⟩-
    exact obE onp
   ·rintro f M ⟨k0,-⟩-
    exact obE ofp
   ·rintro f M-⟨i0,-⟩
    exact obE omp
   ·rintro f M ⟨k0,-⟩-
    exact obE onp
   ·rintro f M ⟨k0,-⟩-
    exact obE ofp
   ·rintro f M ⟨k0,-⟩-
    exact obv (L':=gvR G J X false::M) (up_cons (d:=61) rfl k0) rfl (e_load1 ul10.ok rfl (k_gvz 0 rfl)) (perm_front 0 rfl) (by rfl)
   ·rintro f M-⟨i0,-⟩
    exact obE omp
   ·rintro f M ⟨k0,-⟩-
    exact obE onp
   ·rintro f M ⟨k0,-⟩-
    exact obE ofp
   ·rintro f M ⟨k0,-⟩-
    exact obE (ols 0)
   ·rintro f M ⟨k0,k1,k2,-⟩-
    refine obS (up_cons (d:=66) (up_cons (d:=62) (up_cons (d:=58) rfl k0) k1) k2) ?_
    refine l_call rfl rfl rfl (cl0 (vs:=[pp G 2,Ix (X.zone),sB p4 (opB o) c5]) ul11.ok rfl rfl) ?_
    intro w hw
    replace hw:=hw.perm (L':=_::_::M) (by exact((perm_front 1 rfl).trans (perm_front 1 rfl)))
    obtain⟨β1,sb,kn,hw1,back⟩:=St.frame (L:=[_]) (M:=_::M) hw
    refine(play_ok β1 w X N hso.ok (by omega) false G J o ho.opIn β1.heap (fun _ _ h=>h) p4 c5 (kn _ (k_flN 0 (F:=BytF) (m:=(opB o).length) rfl rfl)) hw1).mono ?_
    rintro e w' ⟨rfl,hw'⟩
    refine⟨_,rfl,_,back _ _ hw',?_⟩
    clear hw hw1 hw' back kn sb
    refine l_nil ?_
    exact f_owes_d (up_cons (d:=66) (up_cons (d:=62) (up_cons (d:=58) rfl k0) k1) k2) rfl ((perm_front 0 rfl).trans (perm_front 1 rfl))
   rintro fa18 ⟨-,-,-,-,-,-,-,-,-,-,-,-,-⟩-
   refine fre ?_
   refine ftc (lE oai (lnf (c_ret (ret1 Tryz.results39 rfl ?_))))
   intro w hw
   replace hw:=hw.perm (L':=[gvR G J (playX X o) false,jourR J S (apI (ckI i (opB (.all X))) (opB o)) false,storeR S (apS (ckS k (i.epoch+1) i.next (opB (.all X))) (ckI i (opB (.all X))) (opB o)),pt b1 (.cells #[sB p4 (opB o) c5,.bool false] 112),rowF BytF 5 p4 c5 (opB o)]) (by exact(perm_ix [4,2,3,0,1] 5 rfl (by kernel_rfl) (by kernel_rfl)))
   replace hw:=st_mask (L':=[gvR G J (playX X o) false,jourR J S (apI (ckI i (opB (.all X))) (opB o)) false,storeR S (apS (ckS k (i.epoch+1) i.next (opB (.all X))) (ckI i (opB (.all X))) (opB o))]) [true,true,true,false,false] rfl hw
   exact⟨0,rfl,St.endOk (by omega) (St.closeGate (N:=N+1+254) (hso2.ap (by omega) ho hful2 ha) (fun q=>apS_neg1 ((fun q=>(ck_neg1 (hpw q)).2) q)) hw)⟩
  refine cnz [sv 37 (pp G 0) [] [] [0],sv 38 (pp G 0) [0] [0] [],sv 39 (pp G 1) [0,1] [1] [],sv 40 (pp J 0) [0,1,2] [2] [],sv 41 (pp b1 0) [] [] [1],sv 42 (pp b1 0) [4] [4] [],sv 43 (pp b1 0) [4,5] [5] [],sv 44 (sB p4 (opB o) c5) [4,5,6] [6] [],sv 45 (.tuple #[.int .i64 (0),.int .i64 (310)]) (List.range 8) [3,7] [],sv 36 (.tuple #[.int .i64 (0),.int .i64 (310)]) (List.range 9) [8] [],sv 46 (.int .i64 (0)) (List.range 10) [9] [],sv 47 (.int .i64 (310)) (List.range 10) [9] [],sv 9 (.int .i64 (310)) (List.range 12) [11] []] [u1 [3],(some 8,[8]),(some 8,[8]),u1 [7],u1 [8]] [⟨(some 8),none,[],[],fun _=>jourR J S (ckI i (opB (.all X))) true⟩,⟨(some 8),none,[],[],fun _=>storeR S (apS (ckS k (i.epoch+1) i.next (opB (.all X))) (ckI i (opB (.all X))) (opB o))⟩] [(0,pp G 0),(7,pp b1 0)] [0,1] ⟨rfl,rfl,trivial⟩ ⟨?_,?_,?_,?_,?_,?_,?_,?_,?_,?_,?_,?_,?_,trivial⟩ ?_
  ·rintro f M-⟨i0,-⟩
   exact obE omp
  ·rintro f M ⟨k0,-⟩-
   exact obE onp
  ·rintro f M ⟨k0,-⟩-
   exact obE ofp
  ·rintro f M ⟨k0,-⟩-
   exact obv (L':=gvR G J X false::M) (up_cons (d:=39) rfl k0) rfl (e_load1 ul4.ok rfl (k_gvJ 0 rfl)) (perm_front 0 rfl) (by rfl)
  ·rintro f M-⟨i0,-⟩
   exact obE omp
  ·rintro f M ⟨k0,-⟩-
   exact obE onp
  ·rintro f M ⟨k0,-⟩-
   exact obE ofp
  ·rintro f M ⟨k0,-⟩-
   exact obE (ols 0)
  ·rintro f M ⟨k0,k1,-⟩-
   refine obS (up_cons (d:=44) (up_cons (d:=40) rfl k0) k1) ?_
   refine l_call rfl rfl rfl (cl0 (vs:=[pp J 0,sB p4 (opB o) c5]) ul7.ok rfl rfl) ?_
   intro w hw
   replace hw:=hw.perm (L':=_::_::_::M) (by exact(((perm_front 2 rfl).trans (perm_front 2 rfl)).trans (perm_front 2 rfl)))
   obtain⟨β1,sb,kn,hw1,back⟩:=St.frame (L:=[_,_]) (M:=_::M) hw
   refine(append_fail β1 w J S (ckS k (i.epoch+1) i.next (opB (.all X))) (ckI i (opB (.all X))) (opB o) hroom.1 hroom.2.1 hroom.2.2.1 hroom.2.2.2.1 hroom.2.2.2.2.1 hroom.2.2.2.2.2.1 hroom.2.2.2.2.2.2 ha _ (kn _ (k_flN 0 (F:=BytF) (m:=(opB o).length) rfl rfl)) hw1).mono ?_
   rintro e w' ⟨rfl,hw'⟩
   refine⟨_,rfl,_,back _ _ hw',?_⟩
   clear hw hw1 hw' back kn sb
   refine l_nil ?_
   exact f_owes_d (up_cons (d:=44) (up_cons (d:=40) rfl k0) k1) rfl (((perm_front 1 rfl).trans (perm_front 1 rfl)).trans (perm_front 2 rfl))
  ·rintro f M ⟨k0,-⟩-
   exact obE omt
  ·rintro f M ⟨k0,-⟩-
   exact obE oxi
  ·rintro f M ⟨k0,-⟩-
   exact obE oxi
  ·rintro f M ⟨k0,-⟩-
   exact obE oai
  rintro fa19 ⟨-,-,-,-,-,-,-,-,-,-,-,-,k12,-⟩ ⟨j0,j1,-⟩
  refine fre ?_
  refine f_rebase (d:=0) j0 (f_rebase (d:=7) j1 (f_rebase (d:=9) k12 (fts (csr (lE omi (lE onq (lnf (c_yes rfl (c_seq ?_)))))))))
  refine c_openGv rfl fun m20 p21 c22 ks23 mz24 zs25 hk26=>c_region (lE omp (lE omi (lE oeq_ (lE onp (lE ofp ?_)))))
  refine lu (mS 0 (gC (X.zone) J m20 p21 (mz24.length) c22 X.gv X.lv true)) (lnc (lE omi (lE oai (lnf (c_ret (f_then_ret (ret1 Tryz.results39 rfl ?_)))))))
  intro w hw
  replace hw:=hw.perm (L':=[pt G (.cells (gC (X.zone) J m20 p21 (mz24.length) c22 X.gv X.lv true) 77),mpR EnM m20 ks23,rowF MgF 38 p21 c22 (mz24.map Prod.fst),poolR zs25,storeR S (apS (ckS k (i.epoch+1) i.next (opB (.all X))) (ckI i (opB (.all X))) (opB o)),pt b1 (.cells #[sB p4 (opB o) c5,.bool false] 112),rowF BytF 5 p4 c5 (opB o),jourR J S (ckI i (opB (.all X))) true]) (by exact(perm_ix [0,1,2,3,7,4,5,6] 8 rfl (by kernel_rfl) (by kernel_rfl)))
  replace hw:=st_mask (L':=[pt G (.cells (gC (X.zone) J m20 p21 (mz24.length) c22 X.gv X.lv true) 77),mpR EnM m20 ks23,rowF MgF 38 p21 c22 (mz24.map Prod.fst),poolR zs25,storeR S (apS (ckS k (i.epoch+1) i.next (opB (.all X))) (ckI i (opB (.all X))) (opB o))]) [true,true,true,true,true,false,false,false] rfl hw
  exact⟨310,rfl,St.endNo (Bool.eq_false_iff.2 fun q=>ha (ap_neg1 ((fun q=>(ck_neg1 (hpw q)).2) q))) ((hso2.ap_no hful2 hbl ha).mono (by omega)) (St.closeGv (M:=[storeR S (apS (ckS k (i.epoch+1) i.next (opB (.all X))) (ckI i (opB (.all X))) (opB o))]) hk26 hw)⟩
 refine c_region (lE omp (l_call rfl rfl rfl (cl0 (vs:=[pp G 0]) ul14.ok rfl rfl) ?_))
 intro w hw
 replace hw:=hw.perm (L':=_::_::_::_::_::[]) (by exact(((((perm_front 1 rfl).trans (perm_front 1 rfl)).trans (perm_front 4 rfl)).trans (perm_front 4 rfl)).trans (perm_front 4 rfl)))
 obtain⟨β1,sb,kn,hw1,back⟩:=St.frame (L:=[_,_,_]) (M:=_::_::[]) hw
 refine(compactN β1 w G J S N X i k hso hN hc hw1).mono ?_
 rintro e w' ⟨rfl,hw'⟩
 refine⟨_,rfl,_,back _ _ hw',?_⟩
 clear hw hw1 hw' back kn sb
 refine lE oai (lnc (lE omi (lE oeq_ (lnf (c_no rfl (csk (cs2 (c_region (lE omi (lE onq (lnf (c_yes rfl (c_seq ?_)))))))))))))
 refine c_openGv rfl fun m27 p28 c29 ks30 mz31 zs32 hk33=>c_region (lE omp (lE omi (lE oeq_ (lE onp (lE ofp ?_)))))
 refine lu (mS 0 (gC (X.zone) J m27 p28 (mz31.length) c29 X.gv X.lv true)) (lnc (lE omi (lE oai (lnf (c_ret (f_then_ret (ret1 Tryz.results39 rfl ?_)))))))
 intro w hw
 replace hw:=hw.perm (L':=[pt G (.cells (gC (X.zone) J m27 p28 (mz31.length) c29 X.gv X.lv true) 77),mpR EnM m27 ks30,rowF MgF 38 p28 c29 (mz31.map Prod.fst),poolR zs32,storeR S (ckS k (i.epoch+1) i.next (opB (.all X))),jourR J S i true,pt b1 (.cells #[sB p4 (opB o) c5,.bool false] 112),rowF BytF 5 p4 c5 (opB o)]) (by exact(perm_ix [0,1,2,3,5,4,6,7] 8 rfl (by kernel_rfl) (by kernel_rfl)))
 replace hw:=st_mask (L':=[pt G (.cells (gC (X.zone) J m27 p28 (mz31.length) c29 X.gv X.lv true) 77),mpR EnM m27 ks30,rowF MgF 38 p28 c29 (mz31.map Prod.fst),poolR zs32,storeR S (ckS k (i.epoch+1) i.next (opB (.all X)))]) [true,true,true,true,true,false,false,false] rfl hw
 obtain⟨j,hj⟩:=hso.ck_no hN hc
 exact⟨310,rfl,St.endNo (Bool.eq_false_iff.2 fun q=>hc (ck_neg1 (hpw q)).1) (hj.mono (by omega)) (St.closeGv (M:=[storeR S (ckS k (i.epoch+1) i.next (opB (.all X)))]) hk33 hw)⟩
end Go.Proofs
namespace Go.Sl
section
variable {P:Program}{β:Base}{f:Fm}{L:List Res}
variable {d:Option Tmp}{ty:TypeId}{ps:String}{af:Array Edge}{g:Option (Nat×Bool)}
theorem e_neq_nilnil{t t':Nat}{x y:Operand}{a:Array TypeId}{b:Array TypeId}{c:Bool}(hx:ev f x= .nilFunc)(hy:ev f y= .nilFunc)(ht:P.underlying t=some (.func a b c)):EV P β L f ⟨d,.binOp .neq t x y t',ty,ps,af,g⟩ (.bool false):=fun w _=>by
 have e:(Op.equal t .nilFunc .nilFunc).run P w= .ok true w:=by
  unfold Op.equal
  show(Op.equalIn (9999+1) t _ _).run P w=_
  unfold Op.equalIn
  simp[run_underlying ht]
 have hb:(binOp .neq t .nilFunc .nilFunc).run P w= .ok (.bool false) w:=by
  simp only[sB,rB,binOp]
  simp[e]
 simp[execOp,hx,hy,eqGuard,hb]
end
end Go.Sl
namespace Go.Proofs
open Go Go.Sl Go.Hv
instance um0:FldC Tryz.prog 112 0 0 1 false:={}
instance um1:TyC Tryz.prog 22 false 1:={}
instance um2:UndC Tryz.prog 22 5:={}
instance um3:FldC Tryz.prog 112 1 1 1 false:={}
instance um4:TyC Tryz.prog 4 false 1:={}
theorem um5:stB Tryz.prog 112 [(0,1),(1,1)]=true:=by kernel_rfl
instance um6:ZerC Tryz.prog 112 (.agg #[.slice none 0 0,.bool false]):={}
instance um7:ZerC Tryz.prog 93 (.pointer none):={}
instance um8:TyC Tryz.prog 93 false 1:={}
instance um9:CfC Tryz.prog 68:={}
theorem tget0_ok(β:Base)(w:World)(T:Nat)(va:Option Addr)(vc:Nat)(hw:St β [pt T (.cells #[.slice va 0 vc,.bool false] 112)] w):Calls Tryz.prog 68 #[pp T 0] w fun r w'=>r= .returned (Ix 0)∧St β [pt T (.cells #[.slice none 0 0,.bool true] 112)] w':=by
 refine enter (n:=53) Tryz.func68 rfl Tryz.ntmps68 rfl ?_ hw
 refine csr (lE oai (lnc (lE oai (lE oai (lnf (cs2 (c_region (lE omp (lE onp (lE ofp (lE (ols 0) (lE oln (lE omi (lnf (c_block (c_unroll 1 ?_))))))))))))))))
 refine un_succ 0 (csr (lE olt (lnf (c_seq (c_if _ rfl (fun hc1=> ?_) (fun hc1=> ?_))))))
 ·exact absurd hc1 (by decide)
 refine c_exit (f_then_exit (f_then_exit (f_exit (ftc (lE omp (lE omp (lE onp (lE ofp (lu (mS 0 (#[.slice none 0 0,.bool false])) (lE onp (lE ofp ?_)))))))))))
 refine lu (mS 0 (#[.slice none 0 0,.bool true])) (lnc (lE oai (lnf (c_ret (ret1 Tryz.results68 rfl ?_)))))
 intro w hw
 exact⟨rfl,hw⟩
theorem play0_ok(β:Base)(w:World)(X:KG)(dn:Bool)(G J:Nat)(z:Int)(va:Option Addr)(vc:Nat)(hw:St β [gvR G J X dn] w):Calls Tryz.prog 34 #[pp G 2,Ix z,.slice va 0 vc] w fun r w'=>r= .returned (.tuple #[])∧St β [gvR G J X dn] w':=by
 refine enter (n:=28) Tryz.func34 rfl Tryz.ntmps34 rfl ?_ hw
 refine csr (bxp fun b1=> ?_)
 refine bxi fun b2=> ?_
 refine lnc (lE oms ?_)
 refine lv (v:= .agg #[.slice va (0) vc,.bool false]) (e_build um6.ok um5 (vs:=[(0,.slice va (0) vc)]) (cells:= #[.slice va (0) vc,.bool false]) rfl rfl) ?_
 refine bxa fun b3=> ?_
 refine alE fun b4=>lu (mS 0 (#[pp b3 0])) (lnc (l_mv rfl rfl rfl (m_mkmap (K:=FnM)) ?_))
 rintro _ _ ⟨b5,rfl,rfl⟩
 refine lv (v:= .func (.func 65) #[] #[pp b4 0,pp b1 0]) (e_func (u:=[]) (v:=[pp b4 0,pp b1 0]) rfl rfl) ?_
 refine lu (m_minsert (K:=FnM) (b:=b5) (ks:=[]) (k:=1) (v:=(.func (.func 65) #[] #[pp b4 0,pp b1 0])) 0 rfl rfl rfl rfl rfl) ?_
 refine lv (v:= .func (.func 67) #[] #[pp b1 0,pp b4 0]) (e_func (u:=[]) (v:=[pp b1 0,pp b4 0]) rfl rfl) ?_
 refine lu (m_minsert (K:=FnM) (b:=b5) (ks:=(FnM.put [] 1 (.func (.func 65) #[] #[pp b4 0,pp b1 0]))) (k:=2) (v:=(.func (.func 67) #[] #[pp b1 0,pp b4 0])) 0 rfl rfl rfl rfl rfl) ?_
 refine lv (v:= .func (.func 69) #[] #[pp b4 0,pp b1 0,pp b2 0]) (e_func (u:=[]) (v:=[pp b4 0,pp b1 0,pp b2 0]) rfl rfl) ?_
 refine lu (m_minsert (K:=FnM) (b:=b5) (ks:=(FnM.put (FnM.put [] 1 (.func (.func 65) #[] #[pp b4 0,pp b1 0])) 2 (.func (.func 67) #[] #[pp b1 0,pp b4 0]))) (k:=3) (v:=(.func (.func 69) #[] #[pp b4 0,pp b1 0,pp b2 0])) 0 rfl rfl rfl rfl rfl) ?_
 refine lv (v:= .func (.func 73) #[] #[pp b4 0,pp b1 0]) (e_func (u:=[]) (v:=[pp b4 0,pp b1 0]) rfl rfl) ?_
 refine lu (m_minsert (K:=FnM) (b:=b5) (ks:=(FnM.put (FnM.put (FnM.put [] 1 (.func (.func 65) #[] #[pp b4 0,pp b1 0])) 2 (.func (.func 67) #[] #[pp b1 0,pp b4 0])) 3 (.func (.func 69) #[] #[pp b4 0,pp b1 0,pp b2 0]))) (k:=4) (v:=(.func (.func 73) #[] #[pp b4 0,pp b1 0])) 0 rfl rfl rfl rfl rfl) ?_
 refine lv (v:= .func (.func 74) #[] #[pp b4 0,pp b1 0]) (e_func (u:=[]) (v:=[pp b4 0,pp b1 0]) rfl rfl) ?_
 refine lu (m_minsert (K:=FnM) (b:=b5) (ks:=(FnM.put (FnM.put (FnM.put (FnM.put [] 1 (.func (.func 65) #[] #[pp b4 0,pp b1 0])) 2 (.func (.func 67) #[] #[pp b1 0,pp b4 0])) 3 (.func (.func 69) #[] #[pp b4 0,pp b1 0,pp b2 0])) 4 (.func (.func 73) #[] #[pp b4 0,pp b1 0]))) (k:=5) (v:=(.func (.func 74) #[] #[pp b4 0,pp b1 0])) 0 rfl rfl rfl rfl rfl) ?_
 refine lv (v:= .func (.func 77) #[] #[pp b1 0,pp b4 0,pp b2 0]) (e_func (u:=[]) (v:=[pp b1 0,pp b4 0,pp b2 0]) rfl rfl) ?_
 refine lu (m_minsert (K:=FnM) (b:=b5) (ks:=(FnM.put (FnM.put (FnM.put (FnM.put (FnM.put [] 1 (.func (.func 65) #[] #[pp b4 0,pp b1 0])) 2 (.func (.func 67) #[] #[pp b1 0,pp b4 0])) 3 (.func (.func 69) #[] #[pp b4 0,pp b1 0,pp b2 0])) 4 (.func (.func 73) #[] #[pp b4 0,pp b1 0])) 5 (.func (.func 74) #[] #[pp b4 0,pp b1 0]))) (k:=6) (v:=(.func (.func 77) #[] #[pp b1 0,pp b4 0,pp b2 0])) 0 rfl rfl rfl rfl rfl) ?_
 refine lv e_move (lv e_assign (lnf (c_seq ?_)))
 rw[fkinds_put]
 have hgz:(FnM.look (kindsV b4 b1 b2) 0).getD .nilFunc= .nilFunc:=rfl
 refine c_region (lv e_move (lE (olp 1) (l_call rfl rfl rfl (cl0 (vs:=[pp b3 0]) um9.ok rfl rfl) ?_)))
 intro w hw
 replace hw:=hw.perm (L':=_::_::_::_::_::_::[]) (by exact((((((perm_front 5 rfl).trans (perm_front 5 rfl)).trans (perm_front 5 rfl)).trans (perm_front 4 rfl)).trans (perm_front 4 rfl)).trans (perm_front 5 rfl)))
 obtain⟨β1,sb,kn,hw1,back⟩:=St.frame (L:=[_]) (M:=_::_::_::_::_::[]) hw
 refine(tget0_ok β1 w b3 va vc hw1).mono ?_
 rintro e w' ⟨rfl,hw'⟩
 refine⟨_,rfl,_,back _ _ hw',?_⟩
 clear hw hw1 hw' back kn sb
 refine lv (v:= .nilFunc) (ev_eq (congrArg FnM.encv hgz) (e_look1 (K:=FnM) (b:=b5) (ks:=(kindsV b4 b1 b2)) (k:=0) rfl rfl rfl (Knows.of_res 1 rfl (mpR.mono _ _ _) fun _ h=>h))) ?_
 refine lv e_assign (lnc (lv e_move ?_))
 refine lv (v:= .bool false) (e_neq_nilnil rfl rfl (show Tryz.prog.underlying 1=some (.func #[] #[] false) by kernel_rfl)) (lnf (c_no rfl ?_))
 refine c_skip (end0 Tryz.results34 ?_)
 intro w hw
 exact⟨rfl,st_mask [false,false,false,false,false,true] rfl hw⟩
end Go.Proofs
