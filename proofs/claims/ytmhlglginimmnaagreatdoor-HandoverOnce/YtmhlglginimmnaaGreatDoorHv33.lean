/-
 Own work; plain Lean (Hv28, Hv33).
-/
import Derived.Test.YtmhlglginimmnaaGreatDoorHvFind
set_option linter.all false
namespace Go.Proofs
open Go Go.Sl Go.Hv Go.Jn
instance ut0:CfC Tryz.prog 10:={}
instance ut1:CfC Tryz.prog 9:={}
instance ut4:CfC Tryz.prog 12:={}
instance ut5:CfC Tryz.prog 11:={}
instance ut6:CfC Tryz.prog 13:={}
instance ut7:CfC Tryz.prog 14:={}
instance ut8:UndC Tryz.prog 35 38:={}
instance ut9:UndC Tryz.prog 22 5:={}
instance ut11:TyC Tryz.prog 5 false 1:={}
instance ut13:TyC Tryz.prog 38 true 6:={}
instance ut14:ZerC Tryz.prog 38 (.agg #[.int .i64 (0),.int .i64 (0),.int .i64 (0),.bool false,.int .i64 (0),.slice none 0 0]):={}
instance ut15:FldC Tryz.prog 38 2 2 1 false:={}
instance ut16:TyC Tryz.prog 3 false 1:={}
instance ut17:CfC Tryz.prog 15:={}
instance ut18:CfC Tryz.prog 16:={}
instance ut19:UndC Tryz.prog 40 32:={}
instance ut20:CfC Tryz.prog 17:={}
instance ut22:TyC Tryz.prog 32 true 2:={}
instance ut23:ZerC Tryz.prog 32 (.agg #[.int .i64 (0),.slice none 0 0]):={}
instance ut24:CfC Tryz.prog 18:={}
instance ut25:CfC Tryz.prog 19:={}
instance ut26:FldC Tryz.prog 38 3 3 1 false:={}
instance ut27:TyC Tryz.prog 4 false 1:={}
instance ut28:CfC Tryz.prog 20:={}
end Go.Proofs
namespace Go.Hv
open Go Go.Sl Go.Proofs Go.Jn
def powT(e:Int):Bool:=decide (e=0)||decide (e=310)
end Go.Hv
namespace Go.Proofs
open Go Go.Sl Go.Hv Go.Jn
instance vc0:FldC Tryz.prog 58 0 0 3 true:={}
instance vc1:ArrC Tryz.prog 54 3 27 1:={}
instance vc2:TyC Tryz.prog 27 false 1:={}
instance vc3:FldC Tryz.prog 60 3 3 1 false:={}
instance vc4:TyC Tryz.prog 3 false 1:={}
instance vc5:CfC Tryz.prog 9:={}
instance vc6:FldC Tryz.prog 58 1 3 3 true:={}
instance vc7:ArrC Tryz.prog 55 3 23 1:={}
instance vc8:TyC Tryz.prog 23 false 1:={}
theorem vc9:Tryz.prog.underlying 23=some (.pointer (Tryz.prog.pointee 23)):=by kernel_rfl
theorem tpowered_ok(β:Base)(w:World)(hw:St β [] w)(e:Int):Ret Tryz.prog 28 #[Ix e] β w (.bool (powT e)):=by
 refine enter (n:=9) Tryz.func28 rfl Tryz.ntmps28 rfl ?_ hw
 refine csr (lE oab (lnc (lE omi (lE oeq_ (l_or2 (decide ((e)=(0:Int))) (decide ((e)=(310:Int))) rfl (fun hb1 hk1=> ?_) (fun z2 z3=> ?_))))))
 ·have hb1p:=of_decide_eq_false hb1
  refine gE omi (gE oeq_ (lE okfb ?_))
  exact hk1 _ _
 refine lE oab (lnf (c_ret (ret1 Tryz.results28 rfl ?_)))
 intro w hw
 exact⟨congrArg (fun b:Bool=>Ending.returned (.bool b)) (by unfold powT;simp),st_mask [] rfl hw⟩
set_option maxHeartbeats 4000000 in
theorem topen_ok(β:Base)(w:World)(T:Nat)(ss gs:P3)(p:Option Addr)(n c:Nat)(tg nx:KN7)(z S N:Nat)(hz:z<3)(hS:ss.at z=some S)(X:KG)(hX:X.zone=ix z)(hN:N≤53000000)(pw:Int)(hpb: -1≤pw∧pw≤70000)(mm:Bool)(hmm:mm=true→pw= -1)(hw:St β [twR T ss gs p n c tg nx,shelfR S X N false] w):Calls Tryz.prog 23 #[pp T 0,Nx z,Ix pw] w fun r w'=>∃G,r= .returned (.bool true)∧St β [twR T ss (gs.upd z (some G)) p n c tg nx,gateR G S X N mm] w':=by
 refine enter (n:=64) Tryz.func23 rfl Tryz.ntmps23 rfl ?_ hw
 refine csr (lE oab (lnf (c_seq (c_pi [1,0] 2 rfl (by kernel_rfl) (c_openShelf rfl (fun i2 kk1 hso2 hpw3=> ?_))))))
 refine c_openStore rfl (fun pH4 pA5 pB6 cH7 cA8 cB9=> ?_)
 refine c_region (lE omp (lE omi (lE onp (lE ofp ?_))))
 refine lv (v:= .pointer (some ((⟨T,0,none⟩:Addr).add (z*1)))) (e_indexArrI (a:=⟨T,0,none⟩) (k:=z) rfl rfl vc1.ok (by omega)) ?_
 refine lv (v:=pp S 0) (e_load1 vc2.ok rfl (k_twSe 4 rfl (by omega) hS)) (lE omi (lE onp (lE ofp ?_)))
 refine lu (mS 0 (#[sB pH4 kk1.head cH7,sB pA5 kk1.a cA8,sB pB6 kk1.b cB9,Ix (pw)])) (lnf (c_seq ?_))
 refine c_closeStore (S:=S) (k:={kk1 with power:=pw}) (pH:=pH4) (pA:=pA5) (pB:=pB6) (cH:=cH7) (cA:=cA8) (cB:=cB9) (M:=[twR T ss gs p n c tg nx]) rfl ?_
 refine c_closeShelf (m:=mm) (M:=[twR T ss gs p n c tg nx]) rfl (hso2.pow hpb.1 hpb.2) hmm (c_region (lE omi ?_))
 refine lv (v:=Nx (z+1)) (e_add rfl rfl (i64n (by omega) (by omega))) (lE omp (lE omi (lE onp (lE ofp ?_))))
 refine lv (v:= .pointer (some ((⟨T,0,none⟩:Addr).add (z*1)))) (e_indexArrI (a:=⟨T,0,none⟩) (k:=z) rfl rfl vc1.ok (by omega)) ?_
 refine lv (v:=pp S 0) (e_load1 vc2.ok rfl (k_twSe 1 rfl (by omega) hS)) (l_call rfl rfl rfl (cl0 (vs:=[Nx (z+1),pp S 0]) vc5.ok rfl rfl) ?_)
 intro w hw
 replace hw:=hw.perm (L':=_::_::[]) (by exact((perm_front 1 rfl).trans (perm_front 1 rfl)))
 obtain⟨β1,sb,kn,hw1,back⟩:=St.frame (L:=[_]) (M:=_::[]) hw
 refine(gopenZ_ok β1 w S N X mm hw1 (by omega) ((z+1:Nat):Int) hX).mono ?_
 rintro e w' ⟨e10,p11,rfl,hw'⟩
 refine⟨_,rfl,_,back _ _ hw',?_⟩
 clear hw hw1 hw' back kn sb
 refine lE omt (lE oxp (lE oxi (lE oap (lE oai (lnf (cs2 (c_openIf rfl (fun G12 he hp=> ?_) (fun he hp hmf=> ?_))))))))
 ·subst he
  subst hp
  refine c_region (lE omi (lE oeq_ (lnf (c_no rfl (csk (csr (lE omp (lE omi (lE omp (lE onp (lE ofp ?_)))))))))))
  refine lv (v:= .pointer (some ((⟨T,3,none⟩:Addr).add (z*1)))) (e_indexArrI (a:=⟨T,3,none⟩) (k:=z) rfl rfl vc7.ok (by omega)) ?_
  refine lu (m_twG (o:=some G12) (k:=z) 1 vc8.ok rfl rfl rfl (by omega)) (lnc (lE omi (lE oeq_ (lE omb (gE omp ?_)))))
  refine g_val (v:= .bool true) rfl rfl rfl rfl rfl (e_neq_pnil (p:=some (⟨G12,0,none⟩)) rfl rfl vc9) (lE oktb (lE oab (lnf (c_ret ?_))))
  refine ret1 Tryz.results23 rfl ?_
  intro w hw
  exact⟨G12,rfl,swp hw⟩
 subst he
 subst hp
 refine c_region (lE omi (lE oeq_ (lnf (c_yes rfl (c_seq (c_openShelf rfl (fun i2 kk13 hso14 hpw15=> ?_)))))))
 refine c_openStore rfl (fun pH16 pA17 pB18 cH19 cA20 cB21=> ?_)
 refine c_region (lE omp (lE omi (lE onp (lE ofp ?_))))
 refine lv (v:= .pointer (some ((⟨T,0,none⟩:Addr).add (z*1)))) (e_indexArrI (a:=⟨T,0,none⟩) (k:=z) rfl rfl vc1.ok (by omega)) ?_
 refine lv (v:=pp S 0) (e_load1 vc2.ok rfl (k_twSe 4 rfl (by omega) hS)) (lE onp (lE ofp ?_))
 refine lu (mS 0 (#[sB pH16 kk13.head cH19,sB pA17 kk13.a cA20,sB pB18 kk13.b cB21,.int .i64 (-1)])) (lnf ?_)
 refine c_closeStore (S:=S) (k:={kk13 with power:= -1}) (pH:=pH16) (pA:=pA17) (pB:=pB18) (cH:=cH19) (cA:=cA20) (cB:=cB21) (M:=[twR T ss gs p n c tg nx]) rfl ?_
 refine c_closeShelf (m:=true) (M:=[twR T ss gs p n c tg nx]) rfl (hso14.pow (by decide) (by decide)) (fun _=>rfl) (c_region (lE omi ?_))
 refine lv (v:=Nx (z+1)) (e_add rfl rfl (i64n (by omega) (by omega))) (lE omp (lE omi (lE onp (lE ofp ?_))))
 refine lv (v:= .pointer (some ((⟨T,0,none⟩:Addr).add (z*1)))) (e_indexArrI (a:=⟨T,0,none⟩) (k:=z) rfl rfl vc1.ok (by omega)) ?_
 refine lv (v:=pp S 0) (e_load1 vc2.ok rfl (k_twSe 1 rfl (by omega) hS)) (l_call rfl rfl rfl (cl0 (vs:=[Nx (z+1),pp S 0]) vc5.ok rfl rfl) ?_)
 intro w hw
 replace hw:=hw.perm (L':=_::_::[]) (by exact((perm_front 1 rfl).trans (perm_front 1 rfl)))
 obtain⟨β1,sb,kn,hw1,back⟩:=St.frame (L:=[_]) (M:=_::[]) hw
 refine((gopenZ_ok β1 w S N X true hw1 (by omega) ((z+1:Nat):Int) hX).mono fun _ _ z=>open_yes z).mono ?_
 rintro e w' ⟨G22,rfl,hw'⟩
 refine⟨_,rfl,_,back _ _ hw',?_⟩
 clear hw hw1 hw' back kn sb
 refine lE omt (lE oxp (lE oxi (lE oap (lE oai (lnc (lE omp (lE omi (lE omp (lE onp (lE ofp ?_))))))))))
 refine lv (v:= .pointer (some ((⟨T,3,none⟩:Addr).add (z*1)))) (e_indexArrI (a:=⟨T,3,none⟩) (k:=z) rfl rfl vc7.ok (by omega)) ?_
 refine lu (m_twG (o:=some G22) (k:=z) 1 vc8.ok rfl rfl rfl (by omega)) (lnc (lE omi (lE oeq_ (lE omb (gE omp ?_)))))
 refine g_val (v:= .bool true) rfl rfl rfl rfl rfl (e_neq_pnil (p:=some (⟨G22,0,none⟩)) rfl rfl vc9) (lE oktb (lE oab (lnf (c_ret ?_))))
 refine ret1 Tryz.results23 rfl ?_
 intro w hw
 exact⟨G22,rfl,swp (by rw[hmf];exact hw.conseq_at 0 rfl gate_weak)⟩
end Go.Proofs
