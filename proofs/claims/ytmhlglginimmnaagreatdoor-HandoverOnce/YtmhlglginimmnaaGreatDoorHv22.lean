/-
 Open: walked. Printed by a program of my own.
-/
import Derived.Test.YtmhlglginimmnaaGreatDoorHvOpen
set_option linter.all false
namespace Go.Proofs
open Go Go.Sl Go.Hv Go.Jn
theorem un0:Tryz.prog.underlying 27=some (.pointer (Tryz.prog.pointee 27)):=by kernel_rfl
instance un1:CfC Tryz.prog 31:={}
theorem un2:stB Tryz.prog 75 [(0,1),(1,1),(2,7),(9,7)]=true:=by kernel_rfl
instance un3:ZerC Tryz.prog 75 (.agg #[.map none,.slice none 0 0,.int .i64 (0),.int .i64 (0),.int .i64 (0),.int .i64 (0),.int .i64 (0),.int .i64 (0),.int .i64 (0),.int .i64 (0),.int .i64 (0),.int .i64 (0),.int .i64 (0),.int .i64 (0),.int .i64 (0),.int .i64 (0)]):={}
theorem un4:stB Tryz.prog 77 [(0,1),(1,1),(2,16),(18,1)]=true:=by kernel_rfl
instance un5:ZerC Tryz.prog 77 (.agg #[.int .i64 (0),.pointer none,.map none,.slice none 0 0,.int .i64 (0),.int .i64 (0),.int .i64 (0),.int .i64 (0),.int .i64 (0),.int .i64 (0),.int .i64 (0),.int .i64 (0),.int .i64 (0),.int .i64 (0),.int .i64 (0),.int .i64 (0),.int .i64 (0),.int .i64 (0),.bool false]):={}
instance un6:CfC Tryz.prog 32:={}
theorem un7:slB Tryz.prog 84 22 1=true:=by kernel_rfl
instance un8:ZerC Tryz.prog 22 (.slice none 0 0):={}
instance un9:CfC Tryz.prog 33:={}
theorem un10:elB Tryz.prog 22 1 24=true:=by kernel_rfl
instance un11:UndC Tryz.prog 84 22:={}
instance un12:TyC Tryz.prog 22 false 1:={}
instance un13:FldC Tryz.prog 77 2 2 16 true:={}
instance un14:CfC Tryz.prog 34:={}
set_option maxHeartbeats 4000000 in
theorem gopen_ok(β:Base)(w:World)(S N:Nat)(X:KG)(m:Bool)(hw:St β [shelfR S X N m] w)(hN:N≤54000000):Calls Tryz.prog 9 #[Ix X.zone,pp S 0] w fun r w'=>∃e p,r= .returned (.tuple #[.pointer p,Ix e])∧St β [openG e p S X N m] w':=by
 obtain⟨i,k,hso,hpw,hw⟩:=St.openShelf hw
 refine enter (n:=54) Tryz.func9 rfl Tryz.ntmps9 rfl ?_ hw
 refine csr (lE oap (lE oai (lnf (cs2 (c_region (lE omi (lE olt ?_)))))))
 refine l_or2 (decide ((X.zone)<(1:Int))) (decide ((6:Int)<(X.zone))) rfl (fun hb1 hk1=> ?_) (fun z2 z3=> ?_)
 ·have hb1p:=of_decide_eq_false hb1
  refine gE omi (gE ogt (lE okfb ?_))
  exact hk1 _ _
 refine lE omb (l_splitb (s:=17) (b:=((decide ((X.zone)<(1:Int)))||(decide ((6:Int)<(X.zone))))) rfl (fun h=> ?_) (fun h=> ?_))
 (rw[(show((decide ((X.zone)<(1:Int)))||(decide ((6:Int)<(X.zone))))=false by have:=hso.ok.zone;simp;omega)]at h;cases h)
 refine gE omp (g_val (v:= .bool false) rfl rfl rfl rfl rfl (e_eql_pnil (p:=some (⟨S,0,none⟩)) rfl rfl un0) (lE okfb (lnf (c_no rfl (csk (c_seq ?_))))))
 have hok:=hso.inv.okP (Nat.le_trans hN (by decide))
 have hpl:k.power≤9223372036854775807:=by have:=hso.inv.pw;omega
 have hri:=hso.inv.read
 by_cases hcut:cutOk (k.area i.epoch) k.power i.size
 ·refine c_region (lE omp (l_call rfl rfl rfl (cl0 (vs:=[pp S 0]) un1.ok rfl rfl) ?_))
  intro w hw
  replace hw:=hw.perm (L':=_::[]) (by exact(perm_front 0 rfl))
  obtain⟨β1,sb,kn,hw1,back⟩:=St.frame (L:=[_]) (M:=[]) hw
  refine(open_ok β1 w S k hok hpl i hri hcut hw1).mono ?_
  rintro e w' ⟨J4,rfl,hw'⟩
  refine⟨_,rfl,_,back _ _ hw',?_⟩
  clear hw hw1 hw' back kn sb
  refine lE omt (lE oxp (lE oxi (lE oap (lE oai (lnf (cs2 (c_region (lE omi (lE onq (lnf (c_no rfl (csk (csr (lE omi (lE omp ?_)))))))))))))))
  refine l_mv rfl rfl rfl (m_mkmap (K:=EnM)) ?_
  rintro _ _ ⟨b5,rfl,rfl⟩
  refine lv (v:= .agg #[.map (some b5),.slice none 0 0,.int .i64 (0),.int .i64 (0),.int .i64 (0),.int .i64 (0),.int .i64 (0),.int .i64 (0),.int .i64 (0),.int .i64 (0),.int .i64 (0),.int .i64 (0),.int .i64 (0),.int .i64 (0),.int .i64 (0),.int .i64 (0)]) (e_build un3.ok un2 (vs:=[(0,.map (some b5))]) (cells:= #[.map (some b5),.slice none 0 0,.int .i64 (0),.int .i64 (0),.int .i64 (0),.int .i64 (0),.int .i64 (0),.int .i64 (0),.int .i64 (0),.int .i64 (0),.int .i64 (0),.int .i64 (0),.int .i64 (0),.int .i64 (0),.int .i64 (0),.int .i64 (0)]) rfl (by kernel_rfl)) ?_
  refine lv (v:= .agg #[Ix (X.zone),pp J4 0,.map (some b5),.slice none 0 0,.int .i64 (0),.int .i64 (0),.int .i64 (0),.int .i64 (0),.int .i64 (0),.int .i64 (0),.int .i64 (0),.int .i64 (0),.int .i64 (0),.int .i64 (0),.int .i64 (0),.int .i64 (0),.int .i64 (0),.int .i64 (0),.bool false]) (e_build un5.ok un4 (vs:=[(0,Ix (X.zone)),(1,pp J4 0),(2,.agg #[.map (some b5),.slice none 0 0,.int .i64 (0),.int .i64 (0),.int .i64 (0),.int .i64 (0),.int .i64 (0),.int .i64 (0),.int .i64 (0),.int .i64 (0),.int .i64 (0),.int .i64 (0),.int .i64 (0),.int .i64 (0),.int .i64 (0),.int .i64 (0)])]) (cells:= #[Ix (X.zone),pp J4 0,.map (some b5),.slice none 0 0,.int .i64 (0),.int .i64 (0),.int .i64 (0),.int .i64 (0),.int .i64 (0),.int .i64 (0),.int .i64 (0),.int .i64 (0),.int .i64 (0),.int .i64 (0),.int .i64 (0),.int .i64 (0),.int .i64 (0),.int .i64 (0),.bool false]) rfl (by kernel_rfl)) ?_
  refine bxa fun b6=> ?_
  refine lE oap (lnf (cs2 (c_emp (r:=poolR []) (pool_nil _) (c_emp (r:=rowF MgF 38 none 0 []) (row_nil _ _ _) ?_))))
  refine c_pi [2,3,0,1,4,5] 6 rfl (by kernel_rfl) ?_
  refine c_merge (L:=[pt b6 (.cells #[Ix (X.zone),pp J4 0,.map (some b5),.slice none 0 0,.int .i64 (0),.int .i64 (0),.int .i64 (0),.int .i64 (0),.int .i64 (0),.int .i64 (0),.int .i64 (0),.int .i64 (0),.int .i64 (0),.int .i64 (0),.int .i64 (0),.int .i64 (0),.int .i64 (0),.int .i64 (0),.bool false] 77),mpR EnM b5 [],rowF MgF 38 none 0 [],poolR []]) (M:=[jourR J4 S i false,storeR S (cutS k i.epoch i.size)]) (r:=gvR b6 J4 (freshG X.zone) false) (gv_close (m:=b5) (p:=none) (c:=0) (fresh_close X.zone)) ?_
  have hrl:=hso.recs
  refine c_region (lE omp ?_)
  refine lcf (cl0 (vs:=[pp J4 0]) un6.ok rfl rfl) rfl fun w β1 sb kn hw1 back=>(state_ok β1 w hw1 J4 S i false (kn _ (Knows.of_res 1 rfl (JF.mono _ _ _ _) fun _ h=>jour_jf h)) (Nat.le_trans hso.inv.wf.state (by decide))).mono ?_
  rintro e w' ⟨p7,c8,rfl,hw'⟩
  refine⟨_,rfl,_,back _ _ hw',?_⟩
  clear hw1 hw' back kn sb
  refine l_mv rfl rfl rfl (m_slices un7 un8.ok (cells:= #[sB p7 i.state c8]) rfl rfl rfl rfl) ?_
  rintro _ _ ⟨b9,rfl,rfl⟩
  refine lE omp ?_
  refine lcf (cl0 (vs:=[pp J4 0]) un9.ok rfl rfl) rfl fun w β1 sb kn hw1 back=>(records_ok β1 w hw1 J4 S i false (kn _ (Knows.of_res 3 rfl (JF.mono _ _ _ _) fun _ h=>jour_jf h)) (Nat.le_trans hso.recs (by decide)) (fun b hb=>Nat.le_trans (hso.inv.rs b hb) (by decide))).mono ?_
  rintro e w' ⟨p10,c11,rfl,hw'⟩
  refine⟨_,rfl,_,back _ _ hw',?_⟩
  clear hw1 hw' back kn sb
  refine l_perm (L':=[pt b9 (.cells #[sB p7 i.state c8] 22),rB p7 i.state c8,recsR 22 p10 c11 i.recs,gvR b6 J4 (freshG X.zone) false,jourR J4 S i false,storeR S (cutS k i.epoch i.size)]) (by exact(perm_ix [1,2,0,3,4,5] 6 rfl (by kernel_rfl) (by kernel_rfl))) ?_
  refine l_merge (L:=[pt b9 (.cells #[sB p7 i.state c8] 22),rB p7 i.state c8]) (M:=[recsR 22 p10 c11 i.recs,gvR b6 J4 (freshG X.zone) false,jourR J4 S i false,storeR S (cutS k i.epoch i.size)]) (r:=recsR 22 (some ⟨b9,0,none⟩) 1 [i.state]) (fun a h=>one_recs a h) ?_
  refine l_mv rfl rfl rfl (m_appendRecs (xs:=[i.state]) (ys:=i.recs) (p:=some ⟨b9,0,none⟩) (c:=1) rfl un7 un10 rfl rfl (by show(1+i.recs.length)*_≤_;omega) (by show 1+i.recs.length≤_;omega)) ?_
  rintro _ _ ⟨rp12,rc13,rfl,rfl⟩
  refine lE oln (lE omi (lnf (c_block (c_pi [1,2,3,0] 4 rfl (by kernel_rfl) ?_))))
  refine c_freeze2 (M:=[gvR b6 J4 (freshG X.zone) false,jourR J4 S i false,storeR S (cutS k i.epoch i.size)]) (K:=[recsR 22 rp12 rc13 ([i.state]++i.recs)]) rfl (fun βf ext1 kn1 bk1=> ?_)
  have hslr:=kn1 _ (Knows.of_res 0 rfl (Sl.mono BsR _ _) fun _ h=>recs_sl h)
  obtain⟨-,hrcl,hrml,hrel⟩:=hslr.parts
  obtain⟨X0,ops,hi⟩:=hso.img
  refine c_re (L':=[gvR b6 J4 (openX X.zone X0 ops 0) false,jourR J4 S i false,storeR S (cutS k i.epoch i.size)]) rfl ?_
  refine c_loop (fun(n:Nat) f L=>(f 0=Ix (X.zone)∧f 8=pp b6 0∧f 40=sB rp12 ([i.state]++i.recs) (rc13)∧f 41=Nx (([i.state]++i.recs).length)∧f 42=Nx (n))∧L=[gvR b6 J4 (openX X.zone X0 ops n) false,jourR J4 S i false,storeR S (cutS k i.epoch i.size)]∧(n≤([i.state]++i.recs).length)) (fun n=>([i.state]++i.recs).length-n) 0 ?_ ?_
  ·exact⟨⟨rfl,rfl,rfl,rfl,rfl⟩,rfl,(Nat.zero_le _)⟩
  rintro n f0 L0 ⟨⟨hs0,hs8,hs40,hs41,hs42⟩,hL,hn⟩
  subst L0
  refine rbs 0 hs0 (rbs 8 hs8 (rbs 40 hs40 (rbs 41 hs41 (rbs 42 hs42 (csr (lE olt (lnf (c_seq (c_if _ rfl (fun hc14=> ?_) (fun hc14=> ?_))))))))))
  ·refine csk (c_seq (c_block (csr ?_)))
   obtain⟨x15,hx16⟩:=getx ([i.state]++i.recs) n (by omega)
   obtain⟨ha17,cs18,hc19,hr20⟩:=hrel _ _ hx16
   obtain⟨v21,rfl,hv22⟩:=hr20
   obtain⟨a23,c24,rfl,hl25,hm26,he27⟩:=(hv22).get
   refine lE (oia un7 ha17) (lv (v:=sB a23 x15 (c24)) (e_load1 un12.ok rfl (kB hc19)) (lE oas (lnf ?_)))
   obtain⟨hst,hzo⟩:=hi.step hso.ok hN hx16
   refine c_region (lE omp (lE onp (lE ofp (lE omi (lE oms (l_call rfl rfl rfl (cl0 (vs:=[pp b6 2,Ix (X.zone),sB a23 x15 (c24)]) un14.ok rfl rfl) ?_))))))
   intro w hw
   replace hw:=hw.perm (L':=_::_::_::[]) (by exact(((perm_front 2 rfl).trans (perm_front 2 rfl)).trans (perm_front 2 rfl)))
   obtain⟨β1,sb,kn,hw1,back⟩:=St.frame (L:=[_]) (M:=_::_::[]) hw
   refine(playS_ok β1 w _ (openX X.zone X0 ops (n+1)) X.zone hzo false b6 J4 _ _ (Sl.mono _ _ _ _ _ sb (⟨⟨_,_,rfl,by omega,by omega,he27⟩⟩:Sl U8R _ _ x15)) hst hw1).mono ?_
   rintro e w' ⟨rfl,hw'⟩
   refine⟨_,rfl,_,back _ _ hw',?_⟩
   clear hw hw1 hw' back kn sb
   refine l_nil (f_block (f_then (c_region (lv (v:=Nx (n+1)) (e_add rfl rfl (i64n (by omega) (by omega))) (lE omi (l_nil ?_))))))
   exact f_cut ⟨n+1,⟨⟨rfl,rfl,rfl,rfl,rfl⟩,rfl,(by omega)⟩,(show([i.state]++i.recs).length-(n+1)<([i.state]++i.recs).length-n from by omega)⟩
  refine c_exit (f_then_exit (f_then_exit (f_exit (ftc (lE omp (lE oap (lE oai (lnf (c_ret ?_)))))))))
  refine ret2 (v:=pp b6 0) (v':= .int .i64 (0)) Tryz.results9 rfl rfl ?_
  intro w hw
  have hnl:n=([i.state]++i.recs).length:=by omega
  subst hnl
  rw[show openX X.zone X0 ops ([i.state]++i.recs).length=X from hi.last]at hw
  exact⟨0,some ⟨b6,0,none⟩,rfl,(St.closeGate (N:=N) (m:=m) (hso.cut2 hcut) (fun q=>cut_neg1 (hpw q)) (st_mask [true,true,true,false] rfl (bk1 _ _ hw))).conseq fun _ h=> .inl ⟨rfl,_,rfl,h⟩⟩
 refine c_region (lE omp (l_call rfl rfl rfl (cl0 (vs:=[pp S 0]) un1.ok rfl rfl) ?_))
 intro w hw
 replace hw:=hw.perm (L':=_::[]) (by exact(perm_front 0 rfl))
 obtain⟨β1,sb,kn,hw1,back⟩:=St.frame (L:=[_]) (M:=[]) hw
 refine(open_pow β1 w S k hok hpl i hri hcut hw1).mono ?_
 rintro e w' ⟨rfl,hw'⟩
 refine⟨_,rfl,_,back _ _ hw',?_⟩
 clear hw hw1 hw' back kn sb
 refine lE omt (lE oxp (lE oxi (lE oap (lE oai (lnf (cs2 (c_region (lE omi (lE onq (lnf (c_yes rfl (csr (lE omi (lE oap (lE oai (lnf (c_ret ?_)))))))))))))))))
 refine f_then_ret (ret2 (v:= .pointer none) (v':= .int .i64 (310)) Tryz.results9 rfl rfl ?_)
 intro w hw
 exact⟨310,none,rfl,(St.closeShelf (m:=m) hso hpw hw).conseq fun _ h=> .inr ⟨rfl,rfl,Bool.eq_false_iff.2 fun q=>hcut (.inr (by rw[hpw q];decide)),h⟩⟩
end Go.Proofs
