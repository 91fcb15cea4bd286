/-
 A record is played: walked. Printed by a program of my own.
-/
import Derived.Test.YtmhlglginimmnaaGreatDoorHvPlay
set_option linter.all false
namespace Go.Proofs
open Go Go.Sl Go.Hv
theorem ui0:stB Tryz.prog 112 [(0,1),(1,1)]=true:=by kernel_rfl
instance ui1:ZerC Tryz.prog 112 (.agg #[.slice none 0 0,.bool false]):={}
instance ui2:ZerC Tryz.prog 93 (.pointer none):={}
instance ui3:TyC Tryz.prog 93 false 1:={}
instance ui4:CfC Tryz.prog 68:={}
set_option maxHeartbeats 4000000 in
theorem play_ok(β:Base)(w:World)(X:KG)(N:Int)(hX:XOk X N)(hN:N≤4611686018427387000)(dn:Bool)(G J:Nat)(o:KOp)(ho:OpIn X o)(H:PHeap)(hH:Sub H β.heap)(va:Option Addr)(vc:Nat)(hs:Sl BytF.R H (sB va (vint (opK o)++opT o) vc) (vint (opK o)++opT o))(hw:St β [gvR G J X dn] w):Calls Tryz.prog 34 #[pp G 2,Ix X.zone,sB va (vint (opK o)++opT o) vc] w fun r w'=>r= .returned (.tuple #[])∧St β [gvR G J (playX X o) dn] w':=by
 refine enter (n:=28) Tryz.func34 rfl Tryz.ntmps34 rfl ?_ hw
 refine csr (bxp fun b1=> ?_)
 refine bxi fun b2=> ?_
 refine lnc (lE oms ?_)
 refine lv (v:= .agg #[sB va (vint (opK o)++opT o) vc,.bool false]) (e_build ui1.ok ui0 (vs:=[(0,sB va (vint (opK o)++opT o) vc)]) (cells:= #[sB va (vint (opK o)++opT o) vc,.bool false]) rfl rfl) ?_
 refine bxa fun b3=> ?_
 refine alE fun b4=>lu (mS 0 (#[pp b3 0])) (lnf (c_seq (c_pi [1,0,2,3,4] 5 rfl (by kernel_rfl) ?_)))
 refine c_closeTp (H:=H) (bs:=(vint (opK o)++opT o)) rfl hs (c_region (l_mv rfl rfl rfl (m_mkmap (K:=FnM)) ?_))
 rintro _ _ ⟨b5,rfl,rfl⟩
 refine lv (v:= .func (.func 65) #[] #[pp b4 0,pp b1 0]) (e_func (u:=[]) (v:=[pp b4 0,pp b1 0]) rfl rfl) ?_
 refine lu (m_minsert (K:=FnM) (b:=b5) (ks:=[]) (k:=1) (v:=(.func (.func 65) #[] #[pp b4 0,pp b1 0])) 0 rfl rfl rfl rfl rfl) ?_
 refine lv (v:= .func (.func 67) #[] #[pp b1 0,pp b4 0]) (e_func (u:=[]) (v:=[pp b1 0,pp b4 0]) rfl rfl) ?_
 refine lu (m_minsert (K:=FnM) (b:=b5) (ks:=(FnM.put [] 1 (.func (.func 65) #[] #[pp b4 0,pp b1 0]))) (k:=2) (v:=(.func (.func 67) #[] #[pp b1 0,pp b4 0])) 0 rfl rfl rfl rfl rfl) ?_
 refine lv (v:= .func (.func 69) #[] #[pp b4 0,pp b1 0,pp b2 0]) (e_func (u:=[]) (v:=[pp b4 0,pp b1 0,pp b2 0]) rfl rfl) ?_
 refine lu (m_minsert (K:=FnM) (b:=b5) (ks:=(FnM.put (FnM.put [] 1 (.func (.func 65) #[] #[pp b4 0,pp b1 0])) 2 (.func (.func 67) #[] #[pp b1 0,pp b4 0]))) (k:=3) (v:=(.func (.func 69) #[] #[pp b4 0,pp b1 0,pp b2 0])) 0 rfl rfl rfl rfl rfl) ?_
 refine lv (v:= .func (.func 73) #[] #[pp b4 0,pp b1 0]) (e_func (u:=[]) (v:=[pp b4 0,pp b1 0]) rfl rfl) ?_
 refine lu (m_minsert (K:=FnM) (b:=b5) (ks:=(FnM.put (FnM.put (FnM.put [] 1 (.func (.func 65) #[] #[pp b4 0,pp b1 0])) 2 (.func (.func 67) #[] #[pp b1 0,pp b4 0])) 3 (.func (.func 69) #[] #[pp b4 0,pp b1 0,pp b2 0]))) (k:=4) (v:=(.func (.func 73) #[] #[pp b4 0,pp b1 0])) 0 rfl rfl rfl rfl rfl) ?_
 refine lv (v:= .func (.func 74) #[] #[pp b4 0,pp b1 0]) (e_func (u:=[]) (v:=[pp b4 0,pp b1 0]) rfl rfl) ?_
 refine lu (m_minsert (K:=FnM) (b:=b5) (ks:=(FnM.put (FnM.put (FnM.put (FnM.put [] 1 (.func (.func 65) #[] #[pp b4 0,pp b1 0])) 2 (.func (.func 67) #[] #[pp b1 0,pp b4 0])) 3 (.func (.func 69) #[] #[pp b4 0,pp b1 0,pp b2 0])) 4 (.func (.func 73) #[] #[pp b4 0,pp b1 0]))) (k:=5) (v:=(.func (.func 74) #[] #[pp b4 0,pp b1 0])) 0 rfl rfl rfl rfl rfl) ?_
 refine lv (v:= .func (.func 77) #[] #[pp b1 0,pp b4 0,pp b2 0]) (e_func (u:=[]) (v:=[pp b1 0,pp b4 0,pp b2 0]) rfl rfl) ?_
 refine lu (m_minsert (K:=FnM) (b:=b5) (ks:=(FnM.put (FnM.put (FnM.put (FnM.put (FnM.put [] 1 (.func (.func 65) #[] #[pp b4 0,pp b1 0])) 2 (.func (.func 67) #[] #[pp b1 0,pp b4 0])) 3 (.func (.func 69) #[] #[pp b4 0,pp b1 0,pp b2 0])) 4 (.func (.func 73) #[] #[pp b4 0,pp b1 0])) 5 (.func (.func 74) #[] #[pp b4 0,pp b1 0]))) (k:=6) (v:=(.func (.func 77) #[] #[pp b1 0,pp b4 0,pp b2 0])) 0 rfl rfl rfl rfl rfl) ?_
 refine lv e_move (lv e_assign (lnf (c_seq ?_)))
 rw[fkinds_put]
 obtain⟨gg,cl,hgg,hcf,hact⟩:=play_call hX hN o ho b4 b1 b2
 refine c_region (lv e_move (lE (olp 2) (l_call rfl rfl rfl (cl0 (vs:=[pp b3 0]) ui4.ok rfl rfl) ?_)))
 intro w hw
 replace hw:=hw.perm (L':=_::_::_::_::_::_::[]) (by exact((((((perm_front 5 rfl).trans (perm_front 5 rfl)).trans (perm_front 5 rfl)).trans (perm_front 5 rfl)).trans (perm_front 4 rfl)).trans (perm_front 5 rfl)))
 obtain⟨β1,sb,kn,hw1,back⟩:=St.frame (L:=[_]) (M:=_::_::_::_::_::[]) hw
 refine(tget_ok β1 w H (hH.trans sb) b3 (opK o) ⟨by have:=opK_small o;omega,by have:=opK_small o;omega⟩ (opT o) hw1).mono ?_
 rintro e w' ⟨rfl,hw'⟩
 refine⟨_,rfl,_,back _ _ hw',?_⟩
 clear hw hw1 hw' back kn sb
 refine lv (v:= .func (.func gg) #[] cl.toArray) (ev_eq (congrArg FnM.encv hgg) (e_look1 (K:=FnM) (b:=b5) (ks:=(kindsV b4 b1 b2)) (k:=((opK o))) rfl rfl rfl (Knows.of_res 1 rfl (mpR.mono _ _ _) fun _ h=>h))) ?_
 refine lE oaf (lnc (lE omf ?_))
 refine lv (v:= .bool true) (e_neq_fnil (h:=gg) (fs:= #[]) (cs:=cl.toArray) rfl rfl (show Tryz.prog.underlying 1=some (.func #[] #[] false) by kernel_rfl)) ?_
 refine lnf (c_yes rfl (c_region (lE omf (l_call rfl rfl rfl (cl_value (fst:=[]) (cap:=cl) (vs:=[]) (all:=cl) hcf rfl rfl rfl) ?_))))
 intro w hw
 replace hw:=hw.perm (L':=_::_::_::_::_::_::[]) (by exact((((((perm_front 4 rfl).trans (perm_front 4 rfl)).trans (perm_front 4 rfl)).trans (perm_front 4 rfl)).trans (perm_front 5 rfl)).trans (perm_front 5 rfl)))
 obtain⟨β1,sb,kn,hw1,back⟩:=St.frame (L:=[_,_]) (M:=_::_::_::_::[]) hw
 refine(hact β1 w dn H (hH.trans sb) b3 G J (kn _ (k_pt 1 (o:=0) rfl rfl)) (kn _ (k_pt 3 (o:=0) rfl rfl)) (kn _ (k_pt 2 (o:=0) rfl rfl)) hw1).mono ?_
 rintro e w' ⟨rfl,hw'⟩
 refine⟨_,rfl,_,back _ _ hw',?_⟩
 clear hw hw1 hw' back kn sb
 refine l_nil (end0 Tryz.results34 ?_)
 intro w hw
 exact⟨rfl,st_mask [true,false,false,false,false] rfl hw⟩
end Go.Proofs
