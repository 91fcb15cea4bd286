/-
 What is attempted: writing a record,cutting an area,a checkpoint. Printed by a program of my own.
-/
import Derived.Test.YtmhlglginimmnaaGreatDoorJn3
set_option linter.all false
namespace Go.Proofs
open Go Go.Sl Go.Jn
instance tf46:CfC Tryz.prog 62:={}
instance tf47:TyC Tryz.prog 166 false 1:={}
instance tf48:FldC Tryz.prog 116 0 0 1 false:={}
instance tf49:TyC Tryz.prog 123 false 1:={}
instance tf50:FldC Tryz.prog 116 4 4 1 false:={}
instance tf51:CfC Tryz.prog 92:={}
instance tf52:CfC Tryz.prog 61:={}
instance tf53:FldC Tryz.prog 116 1 1 1 false:={}
instance tf54:CfC Tryz.prog 93:={}
theorem writeS0_ok(β:Base)(w:World)(e:Nat)(hpar:e%2=0)(J S:Nat)(hJ:Cs β.heap ⟨J,0,none⟩ [pp S 0])(k:KS)(hk:k.fits 1048576)(at_:Nat)(hat:at_≤1048576)(bs:Bs)(v:Value)(hb:bs.length≤1048576)(hs:Sl U8R β.heap v bs)(hw:St β [storeR S k] w):Calls Tryz.prog 92 #[pp J 0,pp S 1,Nx at_,v] w fun r w'=>(r= .panicked chP∧¬wrOk k.power bs∧St β [storeR S (wrS k e at_ bs)] w')∨(r= .returned (.tuple #[])∧wrOk k.power bs∧St β [storeR S (wrS k e at_ bs)] w'):=by
 have h:=writeA_ok β w J S hJ k hk at_ hat bs v hb hs hw
 rwa [wrS_even hpar]at h
theorem cutS0_ok(β:Base)(w:World)(e:Nat)(hpar:e%2=0)(J S:Nat)(hJ:Cs β.heap ⟨J,0,none⟩ [pp S 0])(k:KS)(hk:k.fits 1048576)(size:Nat)(hw:St β [storeR S k] w):Calls Tryz.prog 61 #[pp J 0,pp S 1,Nx size] w fun r w'=>(r= .panicked chP∧¬cutOk (k.area e) k.power size∧St β [storeR S k] w')∨(r= .returned (.tuple #[])∧cutOk (k.area e) k.power size∧St β [storeR S (cutS k e size)] w'):=by
 have h:=(cutA_ok β w J S hJ k hk size hw).mono (R':=fun r w'=>(r= .panicked chP∧¬cutOk k.a k.power size∧St β [storeR S k] w')∨(r= .returned (.tuple #[])∧cutOk k.a k.power size∧St β [storeR S {k with a:=cutA k.a k.power size,power:=cutP k.a k.power size}] w')) fun r w' hh=>hh.imp (fun⟨a,b,_,c⟩=>⟨a,b,c⟩) id
 rwa [cutS_even hpar,←area_even (k:=k) hpar]at h
theorem writeS1_ok(β:Base)(w:World)(e:Nat)(hpar:e%2=1)(J S:Nat)(hJ:Cs β.heap ⟨J,0,none⟩ [pp S 0])(k:KS)(hk:k.fits 1048576)(at_:Nat)(hat:at_≤1048576)(bs:Bs)(v:Value)(hb:bs.length≤1048576)(hs:Sl U8R β.heap v bs)(hw:St β [storeR S k] w):Calls Tryz.prog 92 #[pp J 0,pp S 2,Nx at_,v] w fun r w'=>(r= .panicked chP∧¬wrOk k.power bs∧St β [storeR S (wrS k e at_ bs)] w')∨(r= .returned (.tuple #[])∧wrOk k.power bs∧St β [storeR S (wrS k e at_ bs)] w'):=by
 have h:=writeB_ok β w J S hJ k hk at_ hat bs v hb hs hw
 rwa [wrS_odd hpar]at h
theorem cutS1_ok(β:Base)(w:World)(e:Nat)(hpar:e%2=1)(J S:Nat)(hJ:Cs β.heap ⟨J,0,none⟩ [pp S 0])(k:KS)(hk:k.fits 1048576)(size:Nat)(hw:St β [storeR S k] w):Calls Tryz.prog 61 #[pp J 0,pp S 2,Nx size] w fun r w'=>(r= .panicked chP∧¬cutOk (k.area e) k.power size∧St β [storeR S k] w')∨(r= .returned (.tuple #[])∧cutOk (k.area e) k.power size∧St β [storeR S (cutS k e size)] w'):=by
 have h:=(cutB_ok β w J S hJ k hk size hw).mono (R':=fun r w'=>(r= .panicked chP∧¬cutOk k.b k.power size∧St β [storeR S k] w')∨(r= .returned (.tuple #[])∧cutOk k.b k.power size∧St β [storeR S {k with b:=cutA k.b k.power size,power:=cutP k.b k.power size}] w')) fun r w' hh=>hh.imp (fun⟨a,b,_,c⟩=>⟨a,b,c⟩) id
 rwa [cutS_odd hpar,←area_odd (k:=k) hpar]at h
set_option maxHeartbeats 4000000 in
theorem append1_ok(β:Base)(w:World)(J S q2 q7 q8 cb:Nat)(pb:Option Addr)(k:KS)(i:KI)(vs vr vd:Value)(fb:Bs)(hk:k.fits 524288)(hb:fb.length≤131072)(hsz:i.size≤524288)(hw:St β [pt J (.cells #[pp S 0,Nx (i.epoch),Nx (i.next),vs,vr,Nx (i.size),vd] 120),pt q2 (.cells #[pp J 0] 72),pt q7 (.cells #[pp J 1] 166),pt q8 (.cells #[sB pb fb cb] 22),rB pb fb cb,storeR S k] w):Calls Tryz.prog 104 #[pp q2 0,pp q7 0,pp q8 0] w fun r w'=>(r= .panicked chP∧¬wrOk k.power fb∧St β [pt J (.cells #[pp S 0,Nx (i.epoch),Nx (i.next),vs,vr,Nx (i.size),vd] 120),pt q2 (.cells #[pp J 0] 72),pt q7 (.cells #[pp J 1] 166),pt q8 (.cells #[sB pb fb cb] 22),rB pb fb cb,storeR S (wrS k i.epoch i.size fb)] w')∨(r= .returned (.tuple #[])∧wrOk k.power fb∧St β [pt J (.cells #[pp S 0,Nx (i.epoch),Nx (i.next),vs,vr,Nx (i.size),vd] 120),pt q2 (.cells #[pp J 0] 72),pt q7 (.cells #[pp J 1] 166),pt q8 (.cells #[sB pb fb cb] 22),rB pb fb cb,storeR S (wrS k i.epoch i.size fb)] w'):=by
 refine enter (n:=21) Tryz.func104 rfl Tryz.ntmps104 rfl ?_ hw
 rcases Nat.mod_two_eq_zero_or_one i.epoch with hpar|hpar
 ·refine c_any_end 17 rfl rfl [⟨[],[],[0],[3],fun f=>f 3=pp J 0⟩,⟨[],[],[0],[4],fun f=>f 4=pp J 0⟩,⟨[1],[1],[],[5],fun f=>f 5=pp J 0⟩,⟨[1,2],[2],[],[6],fun f=>f 6=pp J 0⟩,⟨[1,2,3],[3],[],[7],fun f=>f 7=pp S 0⟩,⟨[1,2,3,4],[4],[],[8],fun f=>f 8= .agg #[pp S 1,pp S 2]⟩,⟨[],[],[1],[9],fun f=>f 9=pp J 1⟩,⟨[6],[6],[],[10],fun f=>f 10=pp J 1⟩,⟨[6,7],[7],[],[11],fun f=>f 11=pp J 1⟩,⟨[6,7,8],[8],[],[12],fun f=>f 12=Nx (i.epoch)⟩,⟨[6,7,8,9],[9],[],[13],fun f=>f 13= .int .i64 (0)⟩,⟨[1,2,3,4,5,6,7,8,9,10],[5,10],[],[14],fun f=>f 14=pp S 1⟩,⟨[],[],[1],[15],fun f=>f 15=pp J 1⟩,⟨[12],[12],[],[16],fun f=>f 16=pp J 1⟩,⟨[12,13],[13],[],[17],fun f=>f 17=pp J 5⟩,⟨[12,13,14],[14],[],[18],fun f=>f 18=Nx (i.size)⟩,⟨[],[],[2],[19],fun f=>f 19=sB pb fb cb⟩,⟨(List.range 17),[],[],[],fun _=>True⟩] [⟨none,none,[4,9,15],[],fun _=>pt J (.cells #[pp S 0,Nx (i.epoch),Nx (i.next),vs,vr,Nx (i.size),vd] 120)⟩,⟨none,none,[0,1],[],fun _=>pt q2 (.cells #[pp J 0] 72)⟩,⟨none,none,[6,12],[],fun _=>pt q7 (.cells #[pp J 1] 166)⟩,⟨none,none,[16],[],fun _=>pt q8 (.cells #[sB pb fb cb] 22)⟩,⟨none,none,[],[],fun _=>rB pb fb cb⟩,⟨none,none,[],[],fun _=>storeR S k⟩] [(0,pp q2 0),(1,pp q7 0),(2,pp q8 0)] [] [] (by kernel_rfl) (by kernel_rfl) (by kernel_rfl) (by kernel_rfl) (by kernel_rfl) (by kernel_rfl) rfl ⟨rfl,rfl,rfl,trivial⟩ ⟨?_,?_,?_,?_,?_,?_,?_,?_,?_,?_,?_,?_,?_,?_,?_,?_,?_,trivial⟩ ?_
  ·rintro f M-⟨i0,-⟩
   exact obE (olp 0)
  ·rintro f M-⟨i0,-⟩
   exact obE (olp 0)
  ·rintro f M ⟨k0,-⟩-
   exact obE onp
  ·rintro f M ⟨k0,-⟩-
   exact obE ofp
  ·rintro f M ⟨k0,-⟩-
   exact obE (olp 0)
  ·rintro f M ⟨k0,-⟩-
   refine obS (up_cons (d:=7) rfl k0) ?_
   refine lcR clA (fun w β1 sb kn hw1=>areas_ok β1 w hw1 S) (l_nil ?_)
   exact f_owes_d (up_cons (d:=7) rfl k0) rfl (List.Perm.refl _)
  ·rintro f M-⟨i0,-⟩
   exact obE (olp 0)
  ·rintro f M ⟨k0,-⟩-
   exact obE onp
  ·rintro f M ⟨k0,-⟩-
   exact obE ofp
  ·rintro f M ⟨k0,-⟩-
   exact obE (oli 0)
  ·rintro f M ⟨k0,-⟩-
   exact ob0 (up_cons (d:=12) rfl k0) rfl (ev_eq (by rw[hpar];rfl) (e_rem (a:=((i.epoch:Nat):Int)) (b:=(2:Int)) rfl rfl (by decide) (nat_tmod _ 2))) (.refl _)
  ·rintro f M ⟨k0,k1,-⟩-
   exact ob0 (up_cons (d:=13) (up_cons (d:=8) rfl k0) k1) rfl (e_index_a (cs:= #[pp S 1,pp S 2]) (k:=0) rfl rfl tf28.ok rfl (by decide) tf49.ok) (.refl _)
  ·rintro f M-⟨i0,-⟩
   exact obE (olp 0)
  ·rintro f M ⟨k0,-⟩-
   exact obE onp
  ·rintro f M ⟨k0,-⟩-
   exact obE ofp
  ·rintro f M ⟨k0,-⟩-
   exact obE (oli 0)
  ·rintro f M-⟨i0,-⟩
   exact obE (ols 0)
  rintro fa1 ⟨k0,-,-,-,-,-,-,-,-,-,-,k11,-,-,-,k15,k16,-⟩-
  refine lre ?_
  refine l_rebase (d:=3) (v:=pp J 0) k0 (l_rebase (d:=14) (v:=pp S 1) k11 (l_rebase (d:=18) (v:=Nx (i.size)) k15 ?_))
  refine l_rebase (d:=19) (v:=sB pb fb cb) k16 (l_callP rfl rfl rfl (cl0 (vs:=[pp J 0,pp S 1,Nx (i.size),sB pb fb cb]) tf51.ok rfl rfl) ?_)
  intro w hw
  replace hw:=hw.perm (L':=_::_::_::_::_::_::[]) (by exact((((((perm_front 4 rfl).trans (perm_front 4 rfl)).trans (perm_front 4 rfl)).trans (perm_front 4 rfl)).trans (perm_front 4 rfl)).trans (perm_front 5 rfl)))
  obtain⟨β1,sb,kn,hw1,back⟩:=St.frame (L:=[_]) (M:=_::_::_::_::_::[]) hw
  refine(writeS0_ok β1 w i.epoch hpar J S (kn _ (k_pt 0 rfl rfl)) k (hk.le (by omega)) i.size (by omega) fb _ (by omega) (kU kn 4 rfl) hw1).mono ?_
  rintro e w' (⟨rfl,ok2,hw'⟩|⟨rfl,ok2,hw'⟩)
  ·refine .inl ⟨_,rfl,_,back _ _ hw',?_⟩
   clear hw hw1 hw' back kn sb
   refine panR ?_
   intro w hw
   exact .inl ⟨rfl,ok2,st_mask [true,true,true,true,true,true] rfl (hw.perm (L':=[pt J (.cells #[pp S 0,Nx (i.epoch),Nx (i.next),vs,vr,Nx (i.size),vd] 120),pt q2 (.cells #[pp J 0] 72),pt q7 (.cells #[pp J 1] 166),pt q8 (.cells #[sB pb fb cb] 22),rB pb fb cb,storeR S (wrS k i.epoch i.size fb)]) (by exact(perm_ix [1,2,3,4,5,0] 6 rfl (by kernel_rfl) (by kernel_rfl))))⟩
  refine .inr ⟨_,rfl,_,back _ _ hw',?_⟩
  clear hw hw1 hw' back kn sb
  refine l_nil (end0 Tryz.results104 ?_)
  intro w hw
  exact .inr ⟨rfl,ok2,st_mask [true,true,true,true,true,true] rfl (hw.perm (L':=[pt J (.cells #[pp S 0,Nx (i.epoch),Nx (i.next),vs,vr,Nx (i.size),vd] 120),pt q2 (.cells #[pp J 0] 72),pt q7 (.cells #[pp J 1] 166),pt q8 (.cells #[sB pb fb cb] 22),rB pb fb cb,storeR S (wrS k i.epoch i.size fb)]) (by exact(perm_ix [1,2,3,4,5,0] 6 rfl (by kernel_rfl) (by kernel_rfl))))⟩
 refine c_any_end 17 rfl rfl [⟨[],[],[0],[3],fun f=>f 3=pp J 0⟩,⟨[],[],[0],[4],fun f=>f 4=pp J 0⟩,⟨[1],[1],[],[5],fun f=>f 5=pp J 0⟩,⟨[1,2],[2],[],[6],fun f=>f 6=pp J 0⟩,⟨[1,2,3],[3],[],[7],fun f=>f 7=pp S 0⟩,⟨[1,2,3,4],[4],[],[8],fun f=>f 8= .agg #[pp S 1,pp S 2]⟩,⟨[],[],[1],[9],fun f=>f 9=pp J 1⟩,⟨[6],[6],[],[10],fun f=>f 10=pp J 1⟩,⟨[6,7],[7],[],[11],fun f=>f 11=pp J 1⟩,⟨[6,7,8],[8],[],[12],fun f=>f 12=Nx (i.epoch)⟩,⟨[6,7,8,9],[9],[],[13],fun f=>f 13= .int .i64 (1)⟩,⟨[1,2,3,4,5,6,7,8,9,10],[5,10],[],[14],fun f=>f 14=pp S 2⟩,⟨[],[],[1],[15],fun f=>f 15=pp J 1⟩,⟨[12],[12],[],[16],fun f=>f 16=pp J 1⟩,⟨[12,13],[13],[],[17],fun f=>f 17=pp J 5⟩,⟨[12,13,14],[14],[],[18],fun f=>f 18=Nx (i.size)⟩,⟨[],[],[2],[19],fun f=>f 19=sB pb fb cb⟩,⟨(List.range 17),[],[],[],fun _=>True⟩] [⟨none,none,[4,9,15],[],fun _=>pt J (.cells #[pp S 0,Nx (i.epoch),Nx (i.next),vs,vr,Nx (i.size),vd] 120)⟩,⟨none,none,[0,1],[],fun _=>pt q2 (.cells #[pp J 0] 72)⟩,⟨none,none,[6,12],[],fun _=>pt q7 (.cells #[pp J 1] 166)⟩,⟨none,none,[16],[],fun _=>pt q8 (.cells #[sB pb fb cb] 22)⟩,⟨none,none,[],[],fun _=>rB pb fb cb⟩,⟨none,none,[],[],fun _=>storeR S k⟩] [(0,pp q2 0),(1,pp q7 0),(2,pp q8 0)] [] [] (by kernel_rfl) (by kernel_rfl) (by kernel_rfl) (by kernel_rfl) (by kernel_rfl) (by kernel_rfl) rfl ⟨rfl,rfl,rfl,trivial⟩ ⟨?_,?_,?_,?_,?_,?_,?_,?_,?_,?_,?_,?_,?_,?_,?_,?_,?_,trivial⟩ ?_
 ·rintro f M-⟨i0,-⟩
  exact obE (olp 0)
 ·rintro f M-⟨i0,-⟩
  exact obE (olp 0)
 ·rintro f M ⟨k0,-⟩-
  exact obE onp
 ·rintro f M ⟨k0,-⟩-
  exact obE ofp
 ·rintro f M ⟨k0,-⟩-
  exact obE (olp 0)
 ·rintro f M ⟨k0,-⟩-
  refine obS (up_cons (d:=7) rfl k0) ?_
  refine lcR clA (fun w β1 sb kn hw1=>areas_ok β1 w hw1 S) (l_nil ?_)
  exact f_owes_d (up_cons (d:=7) rfl k0) rfl (List.Perm.refl _)
 ·rintro f M-⟨i0,-⟩
  exact obE (olp 0)
 ·rintro f M ⟨k0,-⟩-
  exact obE onp
 ·rintro f M ⟨k0,-⟩-
  exact obE ofp
 ·rintro f M ⟨k0,-⟩-
  exact obE (oli 0)
 ·rintro f M ⟨k0,-⟩-
  exact ob0 (up_cons (d:=12) rfl k0) rfl (ev_eq (by rw[hpar];rfl) (e_rem (a:=((i.epoch:Nat):Int)) (b:=(2:Int)) rfl rfl (by decide) (nat_tmod _ 2))) (.refl _)
 ·rintro f M ⟨k0,k1,-⟩-
  exact ob0 (up_cons (d:=13) (up_cons (d:=8) rfl k0) k1) rfl (e_index_a (cs:= #[pp S 1,pp S 2]) (k:=1) rfl rfl tf28.ok rfl (by decide) tf49.ok) (.refl _)
 ·rintro f M-⟨i0,-⟩
  exact obE (olp 0)
 ·rintro f M ⟨k0,-⟩-
  exact obE onp
 ·rintro f M ⟨k0,-⟩-
  exact obE ofp
 ·rintro f M ⟨k0,-⟩-
  exact obE (oli 0)
 ·rintro f M-⟨i0,-⟩
  exact obE (ols 0)
 rintro fa3 ⟨k0,-,-,-,-,-,-,-,-,-,-,k11,-,-,-,k15,k16,-⟩-
 refine lre ?_
 refine l_rebase (d:=3) (v:=pp J 0) k0 (l_rebase (d:=14) (v:=pp S 2) k11 (l_rebase (d:=18) (v:=Nx (i.size)) k15 ?_))
 refine l_rebase (d:=19) (v:=sB pb fb cb) k16 (l_callP rfl rfl rfl (cl0 (vs:=[pp J 0,pp S 2,Nx (i.size),sB pb fb cb]) tf51.ok rfl rfl) ?_)
 intro w hw
 replace hw:=hw.perm (L':=_::_::_::_::_::_::[]) (by exact((((((perm_front 4 rfl).trans (perm_front 4 rfl)).trans (perm_front 4 rfl)).trans (perm_front 4 rfl)).trans (perm_front 4 rfl)).trans (perm_front 5 rfl)))
 obtain⟨β1,sb,kn,hw1,back⟩:=St.frame (L:=[_]) (M:=_::_::_::_::_::[]) hw
 refine(writeS1_ok β1 w i.epoch hpar J S (kn _ (k_pt 0 rfl rfl)) k (hk.le (by omega)) i.size (by omega) fb _ (by omega) (kU kn 4 rfl) hw1).mono ?_
 rintro e w' (⟨rfl,ok4,hw'⟩|⟨rfl,ok4,hw'⟩)
 ·refine .inl ⟨_,rfl,_,back _ _ hw',?_⟩
  clear hw hw1 hw' back kn sb
  refine panR ?_
  intro w hw
  exact .inl ⟨rfl,ok4,st_mask [true,true,true,true,true,true] rfl (hw.perm (L':=[pt J (.cells #[pp S 0,Nx (i.epoch),Nx (i.next),vs,vr,Nx (i.size),vd] 120),pt q2 (.cells #[pp J 0] 72),pt q7 (.cells #[pp J 1] 166),pt q8 (.cells #[sB pb fb cb] 22),rB pb fb cb,storeR S (wrS k i.epoch i.size fb)]) (by exact(perm_ix [1,2,3,4,5,0] 6 rfl (by kernel_rfl) (by kernel_rfl))))⟩
 refine .inr ⟨_,rfl,_,back _ _ hw',?_⟩
 clear hw hw1 hw' back kn sb
 refine l_nil (end0 Tryz.results104 ?_)
 intro w hw
 exact .inr ⟨rfl,ok4,st_mask [true,true,true,true,true,true] rfl (hw.perm (L':=[pt J (.cells #[pp S 0,Nx (i.epoch),Nx (i.next),vs,vr,Nx (i.size),vd] 120),pt q2 (.cells #[pp J 0] 72),pt q7 (.cells #[pp J 1] 166),pt q8 (.cells #[sB pb fb cb] 22),rB pb fb cb,storeR S (wrS k i.epoch i.size fb)]) (by exact(perm_ix [1,2,3,4,5,0] 6 rfl (by kernel_rfl) (by kernel_rfl))))⟩
set_option maxHeartbeats 4000000 in
theorem open1_ok(β:Base)(w:World)(J S q6 q1 q4:Nat)(k:KS)(i:KI)(vs vr vd:Value)(hk:k.fits 524288)(hw:St β [pt J (.cells #[pp S 0,Nx (i.epoch),Nx (i.next),vs,vr,Nx (i.size),vd] 120),pt q6 (.cells #[pp J 0] 72),pt q1 (.cells #[pp S 0] 27),pt q4 (.cells #[Nx (i.epoch),Nx (i.next),vs,vr,Nx (i.size)] 116),storeR S k] w):Calls Tryz.prog 60 #[pp q6 0,pp q1 0,pp q4 0] w fun r w'=>(r= .panicked chP∧¬cutOk (k.area i.epoch) k.power i.size∧St β [pt J (.cells #[pp S 0,Nx (i.epoch),Nx (i.next),vs,vr,Nx (i.size),vd] 120),pt q6 (.cells #[pp J 0] 72),pt q1 (.cells #[pp S 0] 27),pt q4 (.cells #[Nx (i.epoch),Nx (i.next),vs,vr,Nx (i.size)] 116),storeR S k] w')∨(r= .returned (.tuple #[])∧cutOk (k.area i.epoch) k.power i.size∧St β [pt J (.cells #[pp S 0,Nx (i.epoch),Nx (i.next),vs,vr,Nx (i.size),vd] 120),pt q6 (.cells #[pp J 0] 72),pt q1 (.cells #[pp S 0] 27),pt q4 (.cells #[Nx (i.epoch),Nx (i.next),vs,vr,Nx (i.size)] 116),storeR S (cutS k i.epoch i.size)] w'):=by
 refine enter (n:=13) Tryz.func60 rfl Tryz.ntmps60 rfl ?_ hw
 rcases Nat.mod_two_eq_zero_or_one i.epoch with hpar|hpar
 ·refine c_any_end 9 rfl rfl [⟨[],[],[0],[3],fun f=>f 3=pp J 0⟩,⟨[],[],[1],[4],fun f=>f 4=pp S 0⟩,⟨[1],[1],[],[5],fun f=>f 5= .agg #[pp S 1,pp S 2]⟩,⟨[],[],[2],[6],fun f=>f 6=pp q4 0⟩,⟨[3],[3],[],[7],fun f=>f 7=Nx (i.epoch)⟩,⟨[3,4],[4],[],[8],fun f=>f 8= .int .i64 (0)⟩,⟨[1,2,3,4,5],[2,5],[],[9],fun f=>f 9=pp S 1⟩,⟨[],[],[2],[10],fun f=>f 10=pp q4 4⟩,⟨[7],[7],[],[11],fun f=>f 11=Nx (i.size)⟩,⟨(List.range 9),[],[],[],fun _=>True⟩] [⟨none,none,[],[],fun _=>pt J (.cells #[pp S 0,Nx (i.epoch),Nx (i.next),vs,vr,Nx (i.size),vd] 120)⟩,⟨none,none,[0],[],fun _=>pt q6 (.cells #[pp J 0] 72)⟩,⟨none,none,[1],[],fun _=>pt q1 (.cells #[pp S 0] 27)⟩,⟨none,none,[4,8],[],fun _=>pt q4 (.cells #[Nx (i.epoch),Nx (i.next),vs,vr,Nx (i.size)] 116)⟩,⟨none,none,[],[],fun _=>storeR S k⟩] [(0,pp q6 0),(1,pp q1 0),(2,pp q4 0)] [] [] (by kernel_rfl) (by kernel_rfl) (by kernel_rfl) (by kernel_rfl) (by kernel_rfl) (by kernel_rfl) rfl ⟨rfl,rfl,rfl,trivial⟩ ⟨?_,?_,?_,?_,?_,?_,?_,?_,?_,trivial⟩ ?_
  ·rintro f M-⟨i0,-⟩
   exact obE (olp 0)
  ·rintro f M-⟨i0,-⟩
   exact obE (olp 0)
  ·rintro f M ⟨k0,-⟩-
   refine obS (up_cons (d:=4) rfl k0) ?_
   refine lcR clA (fun w β1 sb kn hw1=>areas_ok β1 w hw1 S) (l_nil ?_)
   exact f_owes_d (up_cons (d:=4) rfl k0) rfl (List.Perm.refl _)
  ·rintro f M-⟨i0,-⟩
   exact obE ofp
  ·rintro f M ⟨k0,-⟩-
   exact obE (oli 0)
  ·rintro f M ⟨k0,-⟩-
   exact ob0 (up_cons (d:=7) rfl k0) rfl (ev_eq (by rw[hpar];rfl) (e_rem (a:=((i.epoch:Nat):Int)) (b:=(2:Int)) rfl rfl (by decide) (nat_tmod _ 2))) (.refl _)
  ·rintro f M ⟨k0,k1,-⟩-
   exact ob0 (up_cons (d:=8) (up_cons (d:=5) rfl k0) k1) rfl (e_index_a (cs:= #[pp S 1,pp S 2]) (k:=0) rfl rfl tf28.ok rfl (by decide) tf49.ok) (.refl _)
  ·rintro f M-⟨i0,-⟩
   exact obE ofp
  ·rintro f M ⟨k0,-⟩-
   exact obE (oli 0)
  rintro fa1 ⟨k0,-,-,-,-,-,k6,-,k8,-⟩-
  refine lre ?_
  refine l_rebase (d:=3) (v:=pp J 0) k0 (l_rebase (d:=9) (v:=pp S 1) k6 (l_rebase (d:=11) (v:=Nx (i.size)) k8 ?_))
  refine l_callP rfl rfl rfl (cl0 (vs:=[pp J 0,pp S 1,Nx (i.size)]) tf52.ok rfl rfl) ?_
  intro w hw
  replace hw:=hw.perm (L':=_::_::_::_::_::[]) (by exact(((((perm_front 3 rfl).trans (perm_front 3 rfl)).trans (perm_front 3 rfl)).trans (perm_front 3 rfl)).trans (perm_front 4 rfl)))
  obtain⟨β1,sb,kn,hw1,back⟩:=St.frame (L:=[_]) (M:=_::_::_::_::[]) hw
  refine(cutS0_ok β1 w i.epoch hpar J S (kn _ (k_pt 0 rfl rfl)) k (hk.le (by omega)) i.size hw1).mono ?_
  rintro e w' (⟨rfl,ok2,hw'⟩|⟨rfl,ok2,hw'⟩)
  ·refine .inl ⟨_,rfl,_,back _ _ hw',?_⟩
   clear hw hw1 hw' back kn sb
   refine panR ?_
   intro w hw
   exact .inl ⟨rfl,ok2,st_mask [true,true,true,true,true] rfl (hw.perm (L':=[pt J (.cells #[pp S 0,Nx (i.epoch),Nx (i.next),vs,vr,Nx (i.size),vd] 120),pt q6 (.cells #[pp J 0] 72),pt q1 (.cells #[pp S 0] 27),pt q4 (.cells #[Nx (i.epoch),Nx (i.next),vs,vr,Nx (i.size)] 116),storeR S k]) (by exact(perm_ix [1,2,3,4,0] 5 rfl (by kernel_rfl) (by kernel_rfl))))⟩
  refine .inr ⟨_,rfl,_,back _ _ hw',?_⟩
  clear hw hw1 hw' back kn sb
  refine l_nil (end0 Tryz.results60 ?_)
  intro w hw
  exact .inr ⟨rfl,ok2,st_mask [true,true,true,true,true] rfl (hw.perm (L':=[pt J (.cells #[pp S 0,Nx (i.epoch),Nx (i.next),vs,vr,Nx (i.size),vd] 120),pt q6 (.cells #[pp J 0] 72),pt q1 (.cells #[pp S 0] 27),pt q4 (.cells #[Nx (i.epoch),Nx (i.next),vs,vr,Nx (i.size)] 116),storeR S (cutS k i.epoch i.size)]) (by exact(perm_ix [1,2,3,4,0] 5 rfl (by kernel_rfl) (by kernel_rfl))))⟩
 refine c_any_end 9 rfl rfl [⟨[],[],[0],[3],fun f=>f 3=pp J 0⟩,⟨[],[],[1],[4],fun f=>f 4=pp S 0⟩,⟨[1],[1],[],[5],fun f=>f 5= .agg #[pp S 1,pp S 2]⟩,⟨[],[],[2],[6],fun f=>f 6=pp q4 0⟩,⟨[3],[3],[],[7],fun f=>f 7=Nx (i.epoch)⟩,⟨[3,4],[4],[],[8],fun f=>f 8= .int .i64 (1)⟩,⟨[1,2,3,4,5],[2,5],[],[9],fun f=>f 9=pp S 2⟩,⟨[],[],[2],[10],fun f=>f 10=pp q4 4⟩,⟨[7],[7],[],[11],fun f=>f 11=Nx (i.size)⟩,⟨(List.range 9),[],[],[],fun _=>True⟩] [⟨none,none,[],[],fun _=>pt J (.cells #[pp S 0,Nx (i.epoch),Nx (i.next),vs,vr,Nx (i.size),vd] 120)⟩,⟨none,none,[0],[],fun _=>pt q6 (.cells #[pp J 0] 72)⟩,⟨none,none,[1],[],fun _=>pt q1 (.cells #[pp S 0] 27)⟩,⟨none,none,[4,8],[],fun _=>pt q4 (.cells #[Nx (i.epoch),Nx (i.next),vs,vr,Nx (i.size)] 116)⟩,⟨none,none,[],[],fun _=>storeR S k⟩] [(0,pp q6 0),(1,pp q1 0),(2,pp q4 0)] [] [] (by kernel_rfl) (by kernel_rfl) (by kernel_rfl) (by kernel_rfl) (by kernel_rfl) (by kernel_rfl) rfl ⟨rfl,rfl,rfl,trivial⟩ ⟨?_,?_,?_,?_,?_,?_,?_,?_,?_,trivial⟩ ?_
 ·rintro f M-⟨i0,-⟩
  exact obE (olp 0)
 ·rintro f M-⟨i0,-⟩
  exact obE (olp 0)
 ·rintro f M ⟨k0,-⟩-
  refine obS (up_cons (d:=4) rfl k0) ?_
  refine lcR clA (fun w β1 sb kn hw1=>areas_ok β1 w hw1 S) (l_nil ?_)
  exact f_owes_d (up_cons (d:=4) rfl k0) rfl (List.Perm.refl _)
 ·rintro f M-⟨i0,-⟩
  exact obE ofp
 ·rintro f M ⟨k0,-⟩-
  exact obE (oli 0)
 ·rintro f M ⟨k0,-⟩-
  exact ob0 (up_cons (d:=7) rfl k0) rfl (ev_eq (by rw[hpar];rfl) (e_rem (a:=((i.epoch:Nat):Int)) (b:=(2:Int)) rfl rfl (by decide) (nat_tmod _ 2))) (.refl _)
 ·rintro f M ⟨k0,k1,-⟩-
  exact ob0 (up_cons (d:=8) (up_cons (d:=5) rfl k0) k1) rfl (e_index_a (cs:= #[pp S 1,pp S 2]) (k:=1) rfl rfl tf28.ok rfl (by decide) tf49.ok) (.refl _)
 ·rintro f M-⟨i0,-⟩
  exact obE ofp
 ·rintro f M ⟨k0,-⟩-
  exact obE (oli 0)
 rintro fa3 ⟨k0,-,-,-,-,-,k6,-,k8,-⟩-
 refine lre ?_
 refine l_rebase (d:=3) (v:=pp J 0) k0 (l_rebase (d:=9) (v:=pp S 2) k6 (l_rebase (d:=11) (v:=Nx (i.size)) k8 ?_))
 refine l_callP rfl rfl rfl (cl0 (vs:=[pp J 0,pp S 2,Nx (i.size)]) tf52.ok rfl rfl) ?_
 intro w hw
 replace hw:=hw.perm (L':=_::_::_::_::_::[]) (by exact(((((perm_front 3 rfl).trans (perm_front 3 rfl)).trans (perm_front 3 rfl)).trans (perm_front 3 rfl)).trans (perm_front 4 rfl)))
 obtain⟨β1,sb,kn,hw1,back⟩:=St.frame (L:=[_]) (M:=_::_::_::_::[]) hw
 refine(cutS1_ok β1 w i.epoch hpar J S (kn _ (k_pt 0 rfl rfl)) k (hk.le (by omega)) i.size hw1).mono ?_
 rintro e w' (⟨rfl,ok4,hw'⟩|⟨rfl,ok4,hw'⟩)
 ·refine .inl ⟨_,rfl,_,back _ _ hw',?_⟩
  clear hw hw1 hw' back kn sb
  refine panR ?_
  intro w hw
  exact .inl ⟨rfl,ok4,st_mask [true,true,true,true,true] rfl (hw.perm (L':=[pt J (.cells #[pp S 0,Nx (i.epoch),Nx (i.next),vs,vr,Nx (i.size),vd] 120),pt q6 (.cells #[pp J 0] 72),pt q1 (.cells #[pp S 0] 27),pt q4 (.cells #[Nx (i.epoch),Nx (i.next),vs,vr,Nx (i.size)] 116),storeR S k]) (by exact(perm_ix [1,2,3,4,0] 5 rfl (by kernel_rfl) (by kernel_rfl))))⟩
 refine .inr ⟨_,rfl,_,back _ _ hw',?_⟩
 clear hw hw1 hw' back kn sb
 refine l_nil (end0 Tryz.results60 ?_)
 intro w hw
 exact .inr ⟨rfl,ok4,st_mask [true,true,true,true,true] rfl (hw.perm (L':=[pt J (.cells #[pp S 0,Nx (i.epoch),Nx (i.next),vs,vr,Nx (i.size),vd] 120),pt q6 (.cells #[pp J 0] 72),pt q1 (.cells #[pp S 0] 27),pt q4 (.cells #[Nx (i.epoch),Nx (i.next),vs,vr,Nx (i.size)] 116),storeR S (cutS k i.epoch i.size)]) (by exact(perm_ix [1,2,3,4,0] 5 rfl (by kernel_rfl) (by kernel_rfl))))⟩
set_option maxHeartbeats 4000000 in
theorem check2_ok(β:Base)(w:World)(J S q2 q6 q3 sc e n:Nat)(sa:Option Addr)(k:KS)(i:KI)(vs vr vd ws wr_ wz:Value)(xs:Bs)(hl:xs.length≤sc)(hm:sc≤9223372036854775807)(hx:Elems U8R β.heap sa xs)(hk:k.fits 524288)(hb:xs.length≤65536)(hw:St β [pt J (.cells #[pp S 0,Nx (i.epoch),Nx (i.next),vs,vr,Nx (i.size),vd] 120),pt q2 (.cells #[pp J 0] 72),pt q6 (.cells #[Nx (e),Nx (n),ws,wr_,wz] 116),pt q3 (.cells #[sB sa xs (sc)] 22),storeR S k] w):Calls Tryz.prog 91 #[pp q2 0,pp q6 0,pp q3 0] w fun r w'=>(r= .panicked chP∧¬ckOk k e n xs∧St β [pt J (.cells #[pp S 0,Nx (i.epoch),Nx (i.next),vs,vr,Nx (i.size),vd] 120),pt q2 (.cells #[pp J 0] 72),pt q6 (.cells #[Nx (e),Nx (n),ws,wr_,wz] 116),pt q3 (.cells #[sB sa xs (sc)] 22),storeR S (ckS k e n xs)] w')∨(r= .returned (.tuple #[])∧ckOk k e n xs∧St β [pt J (.cells #[pp S 0,Nx (i.epoch),Nx (i.next),vs,vr,Nx (i.size),vd] 120),pt q2 (.cells #[pp J 0] 72),pt q6 (.cells #[Nx (e),Nx (n),ws,wr_,wz] 116),pt q3 (.cells #[sB sa xs (sc)] 22),storeR S (ckS k e n xs)] w'):=by
 refine enter (n:=63) Tryz.func91 rfl Tryz.ntmps91 rfl ?_ hw
 refine c_seq ?_
 rcases Nat.mod_two_eq_zero_or_one e with hpar|hpar
 ·refine c_quiet (by kernel_rfl) (by kernel_rfl) (qE (olp 1) (qE onp (qE ofp (qE (olp 0) ?_))))
  refine q_call (v:= .agg #[pp S 1,pp S 2]) rfl rfl rfl (cl0 (vs:=[pp S 0]) tf46.ok rfl rfl) (fun w hw=> ?_) ?_
  ·obtain⟨β1,sb,kn,hw1,back⟩:=St.frame_all hw
   exact(areas_ok β1 w hw1 S).mono (fun e w' ⟨he,hw'⟩=>⟨he,st_mask [true,true,true,true,true] rfl (back _ _ hw')⟩)
  refine qE ofp (qE (oli 2) ?_)
  refine q_val (v:= .int .i64 (0)) rfl rfl rfl (ev_eq (by rw[hpar];rfl) (e_rem (a:=((e:Nat):Int)) (b:=(2:Int)) rfl rfl (by decide) (nat_tmod _ 2))) ?_
  refine q_val (v:=pp S 1) rfl rfl rfl (e_index_a (cs:= #[pp S 1,pp S 2]) (k:=0) rfl rfl tf28.ok rfl (by decide) tf49.ok) (qE oap (q_nil (ftc ?_)))
  refine lE (olp 1) (lE omp (l_callP rfl rfl rfl (cl0 (vs:=[pp J 0,pp S 1,.int .i64 (0)]) tf52.ok rfl rfl) ?_))
  intro w hw
  replace hw:=hw.perm (L':=_::_::_::_::_::[]) (by exact(((((perm_front 3 rfl).trans (perm_front 3 rfl)).trans (perm_front 3 rfl)).trans (perm_front 3 rfl)).trans (perm_front 4 rfl)))
  obtain⟨β1,sb,kn,hw1,back⟩:=St.frame (L:=[_]) (M:=_::_::_::_::[]) hw
  refine(cutS0_ok β1 w e hpar J S (kn _ (k_pt 0 rfl rfl)) k (hk.le (by omega)) 0 hw1).mono ?_
  rintro e w' (⟨rfl,ok1,hw'⟩|⟨rfl,ok1,hw'⟩)
  ·refine .inl ⟨_,rfl,_,back _ _ hw',?_⟩
   clear hw hw1 hw' back kn sb
   refine f_then_panic (panR ?_)
   intro w hw
   refine .inl ⟨rfl,fun h=>ok1 h.1,?_⟩
   rw[ckS,if_neg (show ¬ckOk1 k e from ok1)]
   exact st_mask [true,true,true,true,true] rfl (hw.perm (L':=[pt J (.cells #[pp S 0,Nx (i.epoch),Nx (i.next),vs,vr,Nx (i.size),vd] 120),pt q2 (.cells #[pp J 0] 72),pt q6 (.cells #[Nx (e),Nx (n),ws,wr_,wz] 116),pt q3 (.cells #[sB sa xs (sc)] 22),storeR S k]) (by exact(perm_ix [1,2,3,4,0] 5 rfl (by kernel_rfl) (by kernel_rfl))))
  refine .inr ⟨_,rfl,_,back _ _ hw',?_⟩
  clear hw hw1 hw' back kn sb
  refine lnf (c_seq ?_)
  have ok1:ckOk1 k e:=ok1
  have hf1:(ck1 k e).fits 524288:=hk.cut
  refine c_re (L':=[storeR S (ck1 k e),pt J (.cells #[pp S 0,Nx (i.epoch),Nx (i.next),vs,vr,Nx (i.size),vd] 120),pt q2 (.cells #[pp J 0] 72),pt q6 (.cells #[Nx (e),Nx (n),ws,wr_,wz] 116),pt q3 (.cells #[sB sa xs (sc)] 22)]) (by rfl) ?_
  refine c_any_end 8 rfl rfl [⟨[],[],[0],[17],fun f=>f 17=pp J 0⟩,⟨[],[],[1],[18],fun f=>f 18=pp S 1⟩,⟨[],[],[2],[19],fun f=>f 19=pp q6 0⟩,⟨[2],[2],[],[20],fun f=>f 20=Nx (e)⟩,⟨[],[],[2],[21],fun f=>f 21=pp q6 1⟩,⟨[4],[4],[],[22],fun f=>f 22=Nx (n)⟩,⟨[],[],[3],[23],fun f=>f 23=sB sa xs (sc)⟩,⟨[2,3,4,5,6],[3,5,6],[],[24],fun f=>f 24=sB (sla (f 24)) (formB ((e:Nat):Int) ((n:Nat):Int) xs) (slc (f 24))⟩,⟨(List.range 8),[],[],[],fun _=>True⟩] [⟨none,none,[],[],fun _=>storeR S (ck1 k e)⟩,⟨none,none,[],[],fun _=>pt J (.cells #[pp S 0,Nx (i.epoch),Nx (i.next),vs,vr,Nx (i.size),vd] 120)⟩,⟨none,none,[0],[],fun _=>pt q2 (.cells #[pp J 0] 72)⟩,⟨none,none,[3,5],[],fun _=>pt q6 (.cells #[Nx (e),Nx (n),ws,wr_,wz] 116)⟩,⟨none,none,[6],[],fun _=>pt q3 (.cells #[sB sa xs (sc)] 22)⟩,⟨(some 7),none,[],[24],fun f=>rB (sla (f 24)) (formB ((e:Nat):Int) ((n:Nat):Int) xs) (slc (f 24))⟩] [(0,pp q2 0),(3,pp S 1),(1,pp q6 0),(2,pp q3 0)] [0,2] [] (by kernel_rfl) (by kernel_rfl) (by kernel_rfl) (by kernel_rfl) (by kernel_rfl) (by kernel_rfl) rfl ⟨rfl,rfl,rfl,rfl,trivial⟩ ⟨?_,?_,?_,?_,?_,?_,?_,?_,trivial⟩ ?_
  ·rintro f M-⟨i0,-⟩
   exact obE (olp 0)
  ·rintro f M-⟨i0,-⟩
   exact obE omp
  ·rintro f M-⟨i0,-⟩
   exact obE ofp
  ·rintro f M ⟨k0,-⟩-
   exact obE (oli 0)
  ·rintro f M-⟨i0,-⟩
   exact obE ofp
  ·rintro f M ⟨k0,-⟩-
   exact obE (oli 0)
  ·rintro f M-⟨i0,-⟩
   exact obE (ols 0)
  ·rintro f M ⟨k0,k1,k2,-⟩-
   refine obS (up_cons (d:=23) (up_cons (d:=22) (up_cons (d:=20) rfl k0) k1) k2) ?_
   refine lcf (cl0 (vs:=[Nx (e),Nx (n),sB sa xs (sc)]) tf54.ok rfl rfl) rfl fun w β1 sb kn hw1 back=>(form_ok β1 w hw1 ((e:Nat):Int) ((n:Nat):Int) xs _ (by omega) (Sl.mono _ _ _ _ _ sb (⟨⟨_,_,rfl,hl,hm,hx⟩⟩:Sl U8R _ _ xs))).mono ?_
   rintro e w' ⟨p4,c5,rfl,hw'⟩
   refine⟨_,rfl,_,back _ _ hw',?_⟩
   clear hw1 hw' back kn sb
   refine l_nil ?_
   exact f_owes_d (up_cons (d:=23) (up_cons (d:=22) (up_cons (d:=20) rfl k0) k1) k2) rfl (perm_front 0 rfl)
  rintro fa6 ⟨k0,k1,-,-,-,-,-,k7,-⟩ ⟨j0,j1,-⟩
  refine lre ?_
  refine l_rebase (d:=0) (v:=pp q2 0) j0 (l_rebase (d:=1) (v:=pp q6 0) j1 (l_rebase (d:=17) (v:=pp J 0) k0 ?_))
  refine l_rebase (d:=18) (v:=pp S 1) k1 ?_
  refine l_rebase (d:=24) (v:=sB (sla (fa6 24)) (formB ((e:Nat):Int) ((n:Nat):Int) xs) (slc (fa6 24))) k7 ?_
  refine l_callP rfl rfl rfl (cl0 (vs:=[pp J 0,pp S 1,.int .i64 (0),sB (sla (fa6 24)) (formB ((e:Nat):Int) ((n:Nat):Int) xs) (slc (fa6 24))]) tf51.ok rfl rfl) ?_
  intro w hw
  replace hw:=hw.perm (L':=_::_::_::_::_::_::[]) (by exact((((((perm_front 5 rfl).trans (perm_front 5 rfl)).trans (perm_front 5 rfl)).trans (perm_front 5 rfl)).trans (perm_front 5 rfl)).trans (perm_front 5 rfl)))
  obtain⟨β1,sb,kn,hw1,back⟩:=St.frame (L:=[_]) (M:=_::_::_::_::_::[]) hw
  have hfl:=formB_length (e:Int) (n:Int) xs
  refine(writeS0_ok β1 w e hpar J S (kn _ (k_pt 0 rfl rfl)) (ck1 k e) (hf1.le (by omega)) 0 (by omega) (formB ((e:Nat):Int) ((n:Nat):Int) xs) _ (by omega) (kU kn 4 rfl) hw1).mono ?_
  rintro e w' (⟨rfl,ok7,hw'⟩|⟨rfl,ok7,hw'⟩)
  ·refine .inl ⟨_,rfl,_,back _ _ hw',?_⟩
   clear hw hw1 hw' back kn sb
   refine f_then_panic (panR ?_)
   intro w hw
   refine .inl ⟨rfl,fun h=>ok7 h.2.1,?_⟩
   rw[ckS,if_pos ok1,if_neg (show ¬ckOk2 k e n xs from ok7)]
   exact st_mask [true,true,true,true,true,false] rfl (hw.perm (L':=[pt J (.cells #[pp S 0,Nx (i.epoch),Nx (i.next),vs,vr,Nx (i.size),vd] 120),pt q2 (.cells #[pp J 0] 72),pt q6 (.cells #[Nx (e),Nx (n),ws,wr_,wz] 116),pt q3 (.cells #[sB sa xs (sc)] 22),storeR S (wrS (ck1 k e) e 0 (formB ((e:Nat):Int) ((n:Nat):Int) xs)),rB (sla (fa6 24)) (formB ((e:Nat):Int) ((n:Nat):Int) xs) (slc (fa6 24))]) (by exact(perm_ix [1,2,3,4,0,5] 6 rfl (by kernel_rfl) (by kernel_rfl))))
  refine .inr ⟨_,rfl,_,back _ _ hw',?_⟩
  clear hw hw1 hw' back kn sb
  refine lnf ?_
  have ok2:ckOk2 k e n xs:=ok7
  have hf2:(ck2 k e n xs).fits 655360:=(hf1.wr).le (by rw[formB_length];omega)
  refine c_re (L':=[storeR S (ck2 k e n xs),pt J (.cells #[pp S 0,Nx (i.epoch),Nx (i.next),vs,vr,Nx (i.size),vd] 120),pt q2 (.cells #[pp J 0] 72),pt q6 (.cells #[Nx (e),Nx (n),ws,wr_,wz] 116),pt q3 (.cells #[sB sa xs (sc)] 22),rB (sla (fa6 24)) (formB ((e:Nat):Int) ((n:Nat):Int) xs) (slc (fa6 24))]) (by rfl) ?_
  refine c_seq_cut (fun(f:Fm) (L:List Res)=>(f 0=pp q2 0∧f 1=pp q6 0)∧L=[storeR S (ck3 k e n xs),pt J (.cells #[pp S 0,Nx (i.epoch),Nx (i.next),vs,vr,Nx (i.size),vd] 120),pt q2 (.cells #[pp J 0] 72),pt q6 (.cells #[Nx (e),Nx (n),ws,wr_,wz] 116),pt q3 (.cells #[sB sa xs (sc)] 22),rB (sla (fa6 24)) (formB ((e:Nat):Int) ((n:Nat):Int) xs) (slc (fa6 24))]) ?_ ?_
  ·refine c_seq (c_pi [0,1,2,3,4,5] 6 rfl (by kernel_rfl) (c_openStore rfl (fun pH8 pA9 pB10 cH11 cA12 cB13=> ?_)))
   refine c_region (lE (olp 5) (lE onp (lE ofp (lE (olp 4) (lE onp (lE ofp (lE (ols 0) (lE oln (lE oeq_ (lnf ?_))))))))))
   refine c_if _ rfl (fun hc14=> ?_) (fun hc14=> ?_)
   ·refine cnz [sv 35 (pp J 0) [] [] [0],sv 36 (pp J 0) [0] [0] [],sv 37 (pp J 0) [0,1] [1] [],sv 38 (pp S 0) [0,1,2] [2] [],⟨[],[],[],[39],fun f=>f 39=sB (some ⟨(blk (f 39)),0,none⟩) (List.replicate 32 (0:UInt8)) 32⟩,sv 40 (pp S 0) [0,1,2,3,4] [3] [],sv 41 (pp S 0) (List.range 6) [5] [],⟨(List.range 7),[6,4],[],[],fun _=>True⟩] [(some 7,[7]),u0,u0,u0,u1 [3],u1 [0]] [⟨(some 4),none,[],[39],fun f=>rB (some ⟨(blk (f 39)),0,none⟩) (List.replicate 32 (0:UInt8)) 32⟩,⟨(some 7),none,[],[39],fun f=>pt S (.cells #[sB (some ⟨(blk (f 39)),0,none⟩) (List.replicate 32 (0:UInt8)) 32,sB pA9 ((ck2 k e n xs).a) cA12,sB pB10 ((ck2 k e n xs).b) cB13,Ix ((ck2 k e n xs).power)] 60)⟩] [(0,pp q2 0),(1,pp q6 0)] [0,1] ⟨rfl,rfl,trivial⟩ ⟨?_,?_,?_,?_,?_,?_,?_,?_,trivial⟩ ?_
    ·rintro f M-⟨i0,-⟩
     exact obE (olp 0)
    ·rintro f M ⟨k0,-⟩-
     exact obE onp
    ·rintro f M ⟨k0,-⟩-
     exact obE ofp
    ·rintro f M ⟨k0,-⟩-
     exact obE (olp 0)
    ·rintro f M- -
     refine obS rfl ?_
     refine l_mv rfl rfl rfl (m_makeB (c:=32) tf12 tf15 tf14.ok rfl rfl (by omega) (by omega)) ?_
     rintro _ _ ⟨b16,rfl,rfl⟩
     refine l_nil ?_
     exact f_owes_d rfl rfl (perm_front 0 rfl)
    ·rintro f M ⟨k0,-⟩-
     exact obE onp
    ·rintro f M ⟨k0,-⟩-
     exact obE ofp
    ·rintro f M ⟨k0,k1,-⟩-
     have hs39:f 39=sB (some ⟨(blk (f 39)),0,none⟩) (List.replicate 32 (0:UInt8)) 32:=k1
     refine obS (up_cons (up_cons (d:=41) rfl k0) hs39) ?_
     refine lu (mS 0 (#[sB (some ⟨(blk (f 39)),0,none⟩) (List.replicate 32 (0:UInt8)) 32,sB pA9 ((ck2 k e n xs).a) cA12,sB pB10 ((ck2 k e n xs).b) cB13,Ix ((ck2 k e n xs).power)])) ?_
     refine l_nil ?_
     exact f_owes_n (up_cons (up_cons (d:=41) rfl k0) hs39) trivial (perm_front 0 rfl)
    rintro fa17 ⟨-,-,-,-,-,-,-,-,-⟩ ⟨j0,j1,-⟩
    refine fre ?_
    refine f_rebase (d:=0) j0 (f_rebase (d:=1) j1 (f_pi [9,8,1,2,3,4,5,6,7,0] 10 rfl (by kernel_rfl) ?_))
    refine f_closeStore (S:=S) (k:=(ck3 k e n xs)) (pH:=(some ⟨(blk (fa17 39)),0,none⟩)) (pA:=pA9) (pB:=pB10) (cH:=32) (cA:=cA12) (cB:=cB13) (M:=(pt J (.cells #[pp S 0,Nx (i.epoch),Nx (i.next),vs,vr,Nx (i.size),vd] 120)::pt q2 (.cells #[pp J 0] 72)::pt q6 (.cells #[Nx (e),Nx (n),ws,wr_,wz] 116)::pt q3 (.cells #[sB sa xs (sc)] 22)::rB (sla (fa6 24)) (formB ((e:Nat):Int) ((n:Nat):Int) xs) (slc (fa6 24))::rB pH8 ((ck2 k e n xs).head) cH11::[])) (by rw[show ck3 k e n xs={ck2 k e n xs with head:=List.replicate 32 0}from if_pos (by omega)];rfl) ?_
    refine f_mask [true,true,true,true,true,true,false] rfl ?_
    exact f_cut ⟨⟨rfl,rfl⟩,rfl⟩
   refine c_skip (f_pi [0,1,2,3,4,5,6,7,8] 9 rfl (by kernel_rfl) ?_)
   refine f_closeStore (S:=S) (k:=(ck3 k e n xs)) (pH:=pH8) (pA:=pA9) (pB:=pB10) (cH:=cH11) (cA:=cA12) (cB:=cB13) (M:=(pt J (.cells #[pp S 0,Nx (i.epoch),Nx (i.next),vs,vr,Nx (i.size),vd] 120)::pt q2 (.cells #[pp J 0] 72)::pt q6 (.cells #[Nx (e),Nx (n),ws,wr_,wz] 116)::pt q3 (.cells #[sB sa xs (sc)] 22)::rB (sla (fa6 24)) (formB ((e:Nat):Int) ((n:Nat):Int) xs) (slc (fa6 24))::[])) (by rw[show ck3 k e n xs=ck2 k e n xs from if_neg (by omega)];rfl) ?_
   exact f_cut ⟨⟨rfl,rfl⟩,rfl⟩
  rintro f0 L0 ⟨⟨hs0,hs1⟩,hL⟩
  subst L0
  refine rbs 0 hs0 (rbs 1 hs1 ?_)
  have hf3:(ck3 k e n xs).fits 655360:=by unfold ck3;simp only;split;exact fits_head hf2 (by simp);exact hf2
  have hcl:(be 8 (U ((e:Nat):Int))++be 8 (tickU ((e:Nat):Int))).length=16:=by simp[be_length]
  refine c_seq ?_
  refine cnz [sv 42 (pp q6 0) [] [] [0],sv 43 (Nx (e)) [0] [0] [],sv 44 (Ux (U ((e:Nat):Int))) [0,1] [1] [],⟨[0,1,2],[2],[],[45],fun f=>f 45=sB (sla (f 45)) (be 8 (U ((e:Nat):Int))) (slc (f 45))⟩,sv 46 (pp q6 0) [] [] [0],sv 47 (Nx (e)) [4] [4] [],sv 48 (Ux (tickU ((e:Nat):Int))) (List.range 6) [5] [],⟨(List.range 7),[3,6],[],[49],fun f=>f 49=sB (sla (f 49)) ((be 8 (U ((e:Nat):Int)))++be 8 (tickU ((e:Nat):Int))) (slc (f 49))⟩,⟨(List.range 8),[7],[],[4,49],fun f=>f 4=sB (sla (f 49)) ((be 8 (U ((e:Nat):Int)))++be 8 (tickU ((e:Nat):Int))) (slc (f 49))⟩] [u0,u0,u0,u1 [1,5]] [⟨(some 3),(some 7),[7],[45],fun f=>rB (sla (f 45)) (be 8 (U ((e:Nat):Int))) (slc (f 45))⟩,⟨(some 7),none,[],[49],fun f=>rB (sla (f 49)) ((be 8 (U ((e:Nat):Int)))++be 8 (tickU ((e:Nat):Int))) (slc (f 49))⟩] [(1,pp q6 0),(0,pp q2 0)] [1,0] ⟨rfl,rfl,trivial⟩ ⟨?_,?_,?_,?_,?_,?_,?_,?_,?_,trivial⟩ ?_
  ·rintro f M-⟨i0,-⟩
   exact obE ofp
  ·rintro f M ⟨k0,-⟩-
   exact obE (oli 0)
  ·rintro f M ⟨k0,-⟩-
   exact ob0 (up_cons (d:=43) rfl k0) rfl (e_conv (a:=((e:Nat):Int)) rfl ⟨_,tf1⟩ tf2 (ux_of _)) (.refl _)
  ·rintro f M ⟨k0,-⟩-
   refine obS (up_cons (d:=44) rfl k0) ?_
   refine lcf (cl0 (vs:=[.slice none 0 0,Ux (U ((e:Nat):Int)),.int .i64 (8)]) tf17.ok rfl rfl) rfl fun w β1 sb kn hw1 back=>(appended0_ok β1 w hw1 (U ((e:Nat):Int)) 8 (by decide)).mono ?_
   rintro e w' ⟨p20,c21,rfl,hw'⟩
   refine⟨_,rfl,_,back _ _ hw',?_⟩
   clear hw1 hw' back kn sb
   refine l_nil ?_
   exact f_owes_d (up_cons (d:=44) rfl k0) rfl (perm_front 0 rfl)
  ·rintro f M-⟨i0,-⟩
   exact obE ofp
  ·rintro f M ⟨k0,-⟩-
   exact obE (oli 0)
  ·rintro f M ⟨k0,-⟩-
   refine obS (up_cons (d:=47) rfl k0) ?_
   refine lcR clA (fun w β1 sb kn hw1=>tick_ok β1 w hw1 ((e:Nat):Int)) (l_nil ?_)
   exact f_owes_d (up_cons (d:=47) rfl k0) rfl (List.Perm.refl _)
  ·rintro f M ⟨k0,k1,-⟩-
   have hs45:f 45=sB (sla (f 45)) (be 8 (U ((e:Nat):Int))) (slc (f 45)):=k0
   refine obS (up_cons (d:=48) (up_cons rfl hs45) k1) ?_
   refine l_call rfl rfl rfl (cl0 (vs:=[sB (sla (f 45)) (be 8 (U ((e:Nat):Int))) (slc (f 45)),Ux (tickU ((e:Nat):Int)),.int .i64 (8)]) tf17.ok rfl rfl) ?_
   intro w hw
   replace hw:=hw.perm (L':=_::M) (by exact(perm_front 0 rfl))
   obtain⟨β1,sb,kn,hw1,back⟩:=St.frame (L:=[_]) (M:=M) hw
   refine(appended_ok β1 w _ _ (be 8 (U ((e:Nat):Int))) (tickU ((e:Nat):Int)) 8 (by decide) (by simp only[List.length_append,be_length];omega) hw1).mono ?_
   rintro e w' ⟨p24,c25,rfl,hw'⟩
   refine⟨_,rfl,_,back _ _ hw',?_⟩
   clear hw hw1 hw' back kn sb
   refine l_nil ?_
   exact f_owes_d (up_cons (d:=48) (up_cons rfl hs45) k1) rfl (perm_front 0 rfl)
  ·rintro f M ⟨k0,-⟩-
   have hs49:f 49=sB (sla (f 49)) ((be 8 (U ((e:Nat):Int)))++be 8 (tickU ((e:Nat):Int))) (slc (f 49)):=k0
   exact obE oas
  rintro fa26 ⟨-,-,-,-,-,-,-,-,k8,-⟩ ⟨j0,j1,-⟩
  refine fre ?_
  refine f_rebase (d:=0) j0 (f_rebase (d:=1) j1 (f_rebase (d:=4) k8 (f_then ?_)))
  refine c_any_end 12 rfl rfl [⟨[],[],[0],[50],fun f=>f 50=pp J 0⟩,⟨[],[],[0],[51],fun f=>f 51=pp J 0⟩,⟨[1],[1],[],[52],fun f=>f 52=pp J 0⟩,⟨[1,2],[2],[],[53],fun f=>f 53=pp J 0⟩,⟨[1,2,3],[3],[],[54],fun f=>f 54=pp S 0⟩,⟨[1,2,3,4],[4],[],[55],fun f=>f 55=pp S 0⟩,⟨[1,2,3,4,5],[5],[],[56],fun f=>f 56=pp S 0⟩,⟨[],[],[1],[57],fun f=>f 57=pp q6 0⟩,⟨[7],[7],[],[58],fun f=>f 58=Nx (e)⟩,⟨[7,8],[8],[],[59],fun f=>f 59= .int .i64 (0)⟩,⟨[7,8,9],[9],[],[60],fun f=>f 60= .int .i64 (0)⟩,⟨[],[],[2],[61],fun f=>f 61=sB (sla (fa26 49)) ((be 8 (U ((e:Nat):Int)))++be 8 (tickU ((e:Nat):Int))) (slc (fa26 49))⟩,⟨(List.range 12),[],[],[],fun _=>True⟩] [⟨none,none,[],[],fun _=>storeR S (ck3 k e n xs)⟩,⟨none,none,[4],[],fun _=>pt J (.cells #[pp S 0,Nx (i.epoch),Nx (i.next),vs,vr,Nx (i.size),vd] 120)⟩,⟨none,none,[0,1],[],fun _=>pt q2 (.cells #[pp J 0] 72)⟩,⟨none,none,[8],[],fun _=>pt q6 (.cells #[Nx (e),Nx (n),ws,wr_,wz] 116)⟩,⟨none,none,[],[],fun _=>pt q3 (.cells #[sB sa xs (sc)] 22)⟩,⟨none,none,[],[],fun _=>rB (sla (fa6 24)) (formB ((e:Nat):Int) ((n:Nat):Int) xs) (slc (fa6 24))⟩,⟨none,none,[],[],fun _=>rB (sla (fa26 49)) ((be 8 (U ((e:Nat):Int)))++be 8 (tickU ((e:Nat):Int))) (slc (fa26 49))⟩] [(0,pp q2 0),(1,pp q6 0),(4,sB (sla (fa26 49)) ((be 8 (U ((e:Nat):Int)))++be 8 (tickU ((e:Nat):Int))) (slc (fa26 49)))] [] [] (by kernel_rfl) (by kernel_rfl) (by kernel_rfl) (by kernel_rfl) (by kernel_rfl) (by kernel_rfl) rfl ⟨rfl,rfl,rfl,trivial⟩ ⟨?_,?_,?_,?_,?_,?_,?_,?_,?_,?_,?_,?_,trivial⟩ ?_
  ·rintro f M-⟨i0,-⟩
   exact obE (olp 0)
  ·rintro f M-⟨i0,-⟩
   exact obE (olp 0)
  ·rintro f M ⟨k0,-⟩-
   exact obE onp
  ·rintro f M ⟨k0,-⟩-
   exact obE ofp
  ·rintro f M ⟨k0,-⟩-
   exact obE (olp 0)
  ·rintro f M ⟨k0,-⟩-
   exact obE onp
  ·rintro f M ⟨k0,-⟩-
   exact obE ofp
  ·rintro f M-⟨i0,-⟩
   exact obE ofp
  ·rintro f M ⟨k0,-⟩-
   exact obE (oli 0)
  ·rintro f M ⟨k0,-⟩-
   exact ob0 (up_cons (d:=58) rfl k0) rfl (ev_eq (by rw[hpar];rfl) (e_rem (a:=((e:Nat):Int)) (b:=(2:Int)) rfl rfl (by decide) (nat_tmod _ 2))) (.refl _)
  ·rintro f M ⟨k0,-⟩-
   exact ob0 (up_cons (d:=59) rfl k0) rfl (e_mul (a:=(0:Int)) (b:=(16:Int)) rfl rfl (by decide)) (.refl _)
  ·rintro f M-⟨i0,-⟩
   exact obE oms
  rintro fa27 ⟨k0,-,-,-,-,-,k6,-,-,-,k10,k11,-⟩-
  refine lre ?_
  refine l_rebase (d:=50) (v:=pp J 0) k0 (l_rebase (d:=56) (v:=pp S 0) k6 (l_rebase (d:=60) (v:= .int .i64 (0)) k10 ?_))
  refine l_rebase (d:=61) (v:=sB (sla (fa26 49)) ((be 8 (U ((e:Nat):Int)))++be 8 (tickU ((e:Nat):Int))) (slc (fa26 49))) k11 ?_
  refine l_callP rfl rfl rfl (cl0 (vs:=[pp J 0,pp S 0,.int .i64 (0),sB (sla (fa26 49)) ((be 8 (U ((e:Nat):Int)))++be 8 (tickU ((e:Nat):Int))) (slc (fa26 49))]) tf51.ok rfl rfl) ?_
  intro w hw
  replace hw:=hw.perm (L':=_::_::_::_::_::_::_::[]) (by exact(((((((perm_front 6 rfl).trans (perm_front 6 rfl)).trans (perm_front 6 rfl)).trans (perm_front 6 rfl)).trans (perm_front 6 rfl)).trans (perm_front 6 rfl)).trans (perm_front 6 rfl)))
  obtain⟨β1,sb,kn,hw1,back⟩:=St.frame (L:=[_]) (M:=_::_::_::_::_::_::[]) hw
  refine(writeH_ok β1 w J S (kn _ (k_pt 0 rfl rfl)) (ck3 k e n xs) (hf3.le (by omega)) 0 (by omega) ((be 8 (U ((e:Nat):Int)))++be 8 (tickU ((e:Nat):Int))) _ (by omega) (kU kn 5 rfl) hw1).mono ?_
  rintro e w' (⟨rfl,ok28,hw'⟩|⟨rfl,ok28,hw'⟩)
  ·refine .inl ⟨_,rfl,_,back _ _ hw',?_⟩
   clear hw hw1 hw' back kn sb
   refine panR ?_
   intro w hw
   refine .inl ⟨rfl,fun h=>ok28 h.2.2,?_⟩
   rw[ckS,if_pos ok1,if_pos ok2,ck4,show e%2*16=0 by omega]
   exact st_mask [true,true,true,true,true,false,false] rfl (hw.perm (L':=[pt J (.cells #[pp S 0,Nx (i.epoch),Nx (i.next),vs,vr,Nx (i.size),vd] 120),pt q2 (.cells #[pp J 0] 72),pt q6 (.cells #[Nx (e),Nx (n),ws,wr_,wz] 116),pt q3 (.cells #[sB sa xs (sc)] 22),storeR S (wrH (ck3 k e n xs) 0 ((be 8 (U ((e:Nat):Int)))++be 8 (tickU ((e:Nat):Int)))),rB (sla (fa6 24)) (formB ((e:Nat):Int) ((n:Nat):Int) xs) (slc (fa6 24)),rB (sla (fa26 49)) ((be 8 (U ((e:Nat):Int)))++be 8 (tickU ((e:Nat):Int))) (slc (fa26 49))]) (by exact(perm_ix [1,2,3,4,0,5,6] 7 rfl (by kernel_rfl) (by kernel_rfl))))
  refine .inr ⟨_,rfl,_,back _ _ hw',?_⟩
  clear hw hw1 hw' back kn sb
  refine l_nil (end0 Tryz.results91 ?_)
  intro w hw
  refine .inr ⟨rfl,⟨ok1,ok2,ok28⟩,?_⟩
  rw[ckS,if_pos ok1,if_pos ok2,ck4,show e%2*16=0 by omega]
  exact st_mask [true,true,true,true,true,false,false] rfl (hw.perm (L':=[pt J (.cells #[pp S 0,Nx (i.epoch),Nx (i.next),vs,vr,Nx (i.size),vd] 120),pt q2 (.cells #[pp J 0] 72),pt q6 (.cells #[Nx (e),Nx (n),ws,wr_,wz] 116),pt q3 (.cells #[sB sa xs (sc)] 22),storeR S (wrH (ck3 k e n xs) 0 ((be 8 (U ((e:Nat):Int)))++be 8 (tickU ((e:Nat):Int)))),rB (sla (fa6 24)) (formB ((e:Nat):Int) ((n:Nat):Int) xs) (slc (fa6 24)),rB (sla (fa26 49)) ((be 8 (U ((e:Nat):Int)))++be 8 (tickU ((e:Nat):Int))) (slc (fa26 49))]) (by exact(perm_ix [1,2,3,4,0,5,6] 7 rfl (by kernel_rfl) (by kernel_rfl))))
 refine c_quiet (by kernel_rfl) (by kernel_rfl) (qE (olp 1) (qE onp (qE ofp (qE (olp 0) ?_))))
 refine q_call (v:= .agg #[pp S 1,pp S 2]) rfl rfl rfl (cl0 (vs:=[pp S 0]) tf46.ok rfl rfl) (fun w hw=> ?_) ?_
 ·obtain⟨β1,sb,kn,hw1,back⟩:=St.frame_all hw
  exact(areas_ok β1 w hw1 S).mono (fun e w' ⟨he,hw'⟩=>⟨he,st_mask [true,true,true,true,true] rfl (back _ _ hw')⟩)
 refine qE ofp (qE (oli 2) ?_)
 refine q_val (v:= .int .i64 (1)) rfl rfl rfl (ev_eq (by rw[hpar];rfl) (e_rem (a:=((e:Nat):Int)) (b:=(2:Int)) rfl rfl (by decide) (nat_tmod _ 2))) ?_
 refine q_val (v:=pp S 2) rfl rfl rfl (e_index_a (cs:= #[pp S 1,pp S 2]) (k:=1) rfl rfl tf28.ok rfl (by decide) tf49.ok) (qE oap (q_nil (ftc ?_)))
 refine lE (olp 1) (lE omp (l_callP rfl rfl rfl (cl0 (vs:=[pp J 0,pp S 2,.int .i64 (0)]) tf52.ok rfl rfl) ?_))
 intro w hw
 replace hw:=hw.perm (L':=_::_::_::_::_::[]) (by exact(((((perm_front 3 rfl).trans (perm_front 3 rfl)).trans (perm_front 3 rfl)).trans (perm_front 3 rfl)).trans (perm_front 4 rfl)))
 obtain⟨β1,sb,kn,hw1,back⟩:=St.frame (L:=[_]) (M:=_::_::_::_::[]) hw
 refine(cutS1_ok β1 w e hpar J S (kn _ (k_pt 0 rfl rfl)) k (hk.le (by omega)) 0 hw1).mono ?_
 rintro e w' (⟨rfl,ok29,hw'⟩|⟨rfl,ok29,hw'⟩)
 ·refine .inl ⟨_,rfl,_,back _ _ hw',?_⟩
  clear hw hw1 hw' back kn sb
  refine f_then_panic (panR ?_)
  intro w hw
  refine .inl ⟨rfl,fun h=>ok29 h.1,?_⟩
  rw[ckS,if_neg (show ¬ckOk1 k e from ok29)]
  exact st_mask [true,true,true,true,true] rfl (hw.perm (L':=[pt J (.cells #[pp S 0,Nx (i.epoch),Nx (i.next),vs,vr,Nx (i.size),vd] 120),pt q2 (.cells #[pp J 0] 72),pt q6 (.cells #[Nx (e),Nx (n),ws,wr_,wz] 116),pt q3 (.cells #[sB sa xs (sc)] 22),storeR S k]) (by exact(perm_ix [1,2,3,4,0] 5 rfl (by kernel_rfl) (by kernel_rfl))))
 refine .inr ⟨_,rfl,_,back _ _ hw',?_⟩
 clear hw hw1 hw' back kn sb
 refine lnf (c_seq ?_)
 have ok1:ckOk1 k e:=ok29
 have hf1:(ck1 k e).fits 524288:=hk.cut
 refine c_re (L':=[storeR S (ck1 k e),pt J (.cells #[pp S 0,Nx (i.epoch),Nx (i.next),vs,vr,Nx (i.size),vd] 120),pt q2 (.cells #[pp J 0] 72),pt q6 (.cells #[Nx (e),Nx (n),ws,wr_,wz] 116),pt q3 (.cells #[sB sa xs (sc)] 22)]) (by rfl) ?_
 refine c_any_end 8 rfl rfl [⟨[],[],[0],[17],fun f=>f 17=pp J 0⟩,⟨[],[],[1],[18],fun f=>f 18=pp S 2⟩,⟨[],[],[2],[19],fun f=>f 19=pp q6 0⟩,⟨[2],[2],[],[20],fun f=>f 20=Nx (e)⟩,⟨[],[],[2],[21],fun f=>f 21=pp q6 1⟩,⟨[4],[4],[],[22],fun f=>f 22=Nx (n)⟩,⟨[],[],[3],[23],fun f=>f 23=sB sa xs (sc)⟩,⟨[2,3,4,5,6],[3,5,6],[],[24],fun f=>f 24=sB (sla (f 24)) (formB ((e:Nat):Int) ((n:Nat):Int) xs) (slc (f 24))⟩,⟨(List.range 8),[],[],[],fun _=>True⟩] [⟨none,none,[],[],fun _=>storeR S (ck1 k e)⟩,⟨none,none,[],[],fun _=>pt J (.cells #[pp S 0,Nx (i.epoch),Nx (i.next),vs,vr,Nx (i.size),vd] 120)⟩,⟨none,none,[0],[],fun _=>pt q2 (.cells #[pp J 0] 72)⟩,⟨none,none,[3,5],[],fun _=>pt q6 (.cells #[Nx (e),Nx (n),ws,wr_,wz] 116)⟩,⟨none,none,[6],[],fun _=>pt q3 (.cells #[sB sa xs (sc)] 22)⟩,⟨(some 7),none,[],[24],fun f=>rB (sla (f 24)) (formB ((e:Nat):Int) ((n:Nat):Int) xs) (slc (f 24))⟩] [(0,pp q2 0),(3,pp S 2),(1,pp q6 0),(2,pp q3 0)] [0,2] [] (by kernel_rfl) (by kernel_rfl) (by kernel_rfl) (by kernel_rfl) (by kernel_rfl) (by kernel_rfl) rfl ⟨rfl,rfl,rfl,rfl,trivial⟩ ⟨?_,?_,?_,?_,?_,?_,?_,?_,trivial⟩ ?_
 ·rintro f M-⟨i0,-⟩
  exact obE (olp 0)
 ·rintro f M-⟨i0,-⟩
  exact obE omp
 ·rintro f M-⟨i0,-⟩
  exact obE ofp
 ·rintro f M ⟨k0,-⟩-
  exact obE (oli 0)
 ·rintro f M-⟨i0,-⟩
  exact obE ofp
 ·rintro f M ⟨k0,-⟩-
  exact obE (oli 0)
 ·rintro f M-⟨i0,-⟩
  exact obE (ols 0)
 ·rintro f M ⟨k0,k1,k2,-⟩-
  refine obS (up_cons (d:=23) (up_cons (d:=22) (up_cons (d:=20) rfl k0) k1) k2) ?_
  refine lcf (cl0 (vs:=[Nx (e),Nx (n),sB sa xs (sc)]) tf54.ok rfl rfl) rfl fun w β1 sb kn hw1 back=>(form_ok β1 w hw1 ((e:Nat):Int) ((n:Nat):Int) xs _ (by omega) (Sl.mono _ _ _ _ _ sb (⟨⟨_,_,rfl,hl,hm,hx⟩⟩:Sl U8R _ _ xs))).mono ?_
  rintro e w' ⟨p32,c33,rfl,hw'⟩
  refine⟨_,rfl,_,back _ _ hw',?_⟩
  clear hw1 hw' back kn sb
  refine l_nil ?_
  exact f_owes_d (up_cons (d:=23) (up_cons (d:=22) (up_cons (d:=20) rfl k0) k1) k2) rfl (perm_front 0 rfl)
 rintro fa34 ⟨k0,k1,-,-,-,-,-,k7,-⟩ ⟨j0,j1,-⟩
 refine lre ?_
 refine l_rebase (d:=0) (v:=pp q2 0) j0 (l_rebase (d:=1) (v:=pp q6 0) j1 (l_rebase (d:=17) (v:=pp J 0) k0 ?_))
 refine l_rebase (d:=18) (v:=pp S 2) k1 ?_
 refine l_rebase (d:=24) (v:=sB (sla (fa34 24)) (formB ((e:Nat):Int) ((n:Nat):Int) xs) (slc (fa34 24))) k7 ?_
 refine l_callP rfl rfl rfl (cl0 (vs:=[pp J 0,pp S 2,.int .i64 (0),sB (sla (fa34 24)) (formB ((e:Nat):Int) ((n:Nat):Int) xs) (slc (fa34 24))]) tf51.ok rfl rfl) ?_
 intro w hw
 replace hw:=hw.perm (L':=_::_::_::_::_::_::[]) (by exact((((((perm_front 5 rfl).trans (perm_front 5 rfl)).trans (perm_front 5 rfl)).trans (perm_front 5 rfl)).trans (perm_front 5 rfl)).trans (perm_front 5 rfl)))
 obtain⟨β1,sb,kn,hw1,back⟩:=St.frame (L:=[_]) (M:=_::_::_::_::_::[]) hw
 have hfl:=formB_length (e:Int) (n:Int) xs
 refine(writeS1_ok β1 w e hpar J S (kn _ (k_pt 0 rfl rfl)) (ck1 k e) (hf1.le (by omega)) 0 (by omega) (formB ((e:Nat):Int) ((n:Nat):Int) xs) _ (by omega) (kU kn 4 rfl) hw1).mono ?_
 rintro e w' (⟨rfl,ok35,hw'⟩|⟨rfl,ok35,hw'⟩)
 ·refine .inl ⟨_,rfl,_,back _ _ hw',?_⟩
  clear hw hw1 hw' back kn sb
  refine f_then_panic (panR ?_)
  intro w hw
  refine .inl ⟨rfl,fun h=>ok35 h.2.1,?_⟩
  rw[ckS,if_pos ok1,if_neg (show ¬ckOk2 k e n xs from ok35)]
  exact st_mask [true,true,true,true,true,false] rfl (hw.perm (L':=[pt J (.cells #[pp S 0,Nx (i.epoch),Nx (i.next),vs,vr,Nx (i.size),vd] 120),pt q2 (.cells #[pp J 0] 72),pt q6 (.cells #[Nx (e),Nx (n),ws,wr_,wz] 116),pt q3 (.cells #[sB sa xs (sc)] 22),storeR S (wrS (ck1 k e) e 0 (formB ((e:Nat):Int) ((n:Nat):Int) xs)),rB (sla (fa34 24)) (formB ((e:Nat):Int) ((n:Nat):Int) xs) (slc (fa34 24))]) (by exact(perm_ix [1,2,3,4,0,5] 6 rfl (by kernel_rfl) (by kernel_rfl))))
 refine .inr ⟨_,rfl,_,back _ _ hw',?_⟩
 clear hw hw1 hw' back kn sb
 refine lnf ?_
 have ok2:ckOk2 k e n xs:=ok35
 have hf2:(ck2 k e n xs).fits 655360:=(hf1.wr).le (by rw[formB_length];omega)
 refine c_re (L':=[storeR S (ck2 k e n xs),pt J (.cells #[pp S 0,Nx (i.epoch),Nx (i.next),vs,vr,Nx (i.size),vd] 120),pt q2 (.cells #[pp J 0] 72),pt q6 (.cells #[Nx (e),Nx (n),ws,wr_,wz] 116),pt q3 (.cells #[sB sa xs (sc)] 22),rB (sla (fa34 24)) (formB ((e:Nat):Int) ((n:Nat):Int) xs) (slc (fa34 24))]) (by rfl) ?_
 refine c_seq_cut (fun(f:Fm) (L:List Res)=>(f 0=pp q2 0∧f 1=pp q6 0)∧L=[storeR S (ck3 k e n xs),pt J (.cells #[pp S 0,Nx (i.epoch),Nx (i.next),vs,vr,Nx (i.size),vd] 120),pt q2 (.cells #[pp J 0] 72),pt q6 (.cells #[Nx (e),Nx (n),ws,wr_,wz] 116),pt q3 (.cells #[sB sa xs (sc)] 22),rB (sla (fa34 24)) (formB ((e:Nat):Int) ((n:Nat):Int) xs) (slc (fa34 24))]) ?_ ?_
 ·refine c_seq (c_pi [0,1,2,3,4,5] 6 rfl (by kernel_rfl) (c_openStore rfl (fun pH36 pA37 pB38 cH39 cA40 cB41=> ?_)))
  refine c_region (lE (olp 5) (lE onp (lE ofp (lE (olp 4) (lE onp (lE ofp (lE (ols 0) (lE oln (lE oeq_ (lnf ?_))))))))))
  refine c_if _ rfl (fun hc42=> ?_) (fun hc42=> ?_)
  ·refine cnz [sv 35 (pp J 0) [] [] [0],sv 36 (pp J 0) [0] [0] [],sv 37 (pp J 0) [0,1] [1] [],sv 38 (pp S 0) [0,1,2] [2] [],⟨[],[],[],[39],fun f=>f 39=sB (some ⟨(blk (f 39)),0,none⟩) (List.replicate 32 (0:UInt8)) 32⟩,sv 40 (pp S 0) [0,1,2,3,4] [3] [],sv 41 (pp S 0) (List.range 6) [5] [],⟨(List.range 7),[6,4],[],[],fun _=>True⟩] [(some 7,[7]),u0,u0,u0,u1 [3],u1 [0]] [⟨(some 4),none,[],[39],fun f=>rB (some ⟨(blk (f 39)),0,none⟩) (List.replicate 32 (0:UInt8)) 32⟩,⟨(some 7),none,[],[39],fun f=>pt S (.cells #[sB (some ⟨(blk (f 39)),0,none⟩) (List.replicate 32 (0:UInt8)) 32,sB pA37 ((ck2 k e n xs).a) cA40,sB pB38 ((ck2 k e n xs).b) cB41,Ix ((ck2 k e n xs).power)] 60)⟩] [(0,pp q2 0),(1,pp q6 0)] [0,1] ⟨rfl,rfl,trivial⟩ ⟨?_,?_,?_,?_,?_,?_,?_,?_,trivial⟩ ?_
   ·rintro f M-⟨i0,-⟩
    exact obE (olp 0)
   ·rintro f M ⟨k0,-⟩-
    exact obE onp
   ·rintro f M ⟨k0,-⟩-
    exact obE ofp
   ·rintro f M ⟨k0,-⟩-
    exact obE (olp 0)
   ·rintro f M- -
    refine obS rfl ?_
    refine l_mv rfl rfl rfl (m_makeB (c:=32) tf12 tf15 tf14.ok rfl rfl (by omega) (by omega)) ?_
    rintro _ _ ⟨b44,rfl,rfl⟩
    refine l_nil ?_
    exact f_owes_d rfl rfl (perm_front 0 rfl)
   ·rintro f M ⟨k0,-⟩-
    exact obE onp
   ·rintro f M ⟨k0,-⟩-
    exact obE ofp
   ·rintro f M ⟨k0,k1,-⟩-
    have hs39:f 39=sB (some ⟨(blk (f 39)),0,none⟩) (List.replicate 32 (0:UInt8)) 32:=k1
    refine obS (up_cons (up_cons (d:=41) rfl k0) hs39) ?_
    refine lu (mS 0 (#[sB (some ⟨(blk (f 39)),0,none⟩) (List.replicate 32 (0:UInt8)) 32,sB pA37 ((ck2 k e n xs).a) cA40,sB pB38 ((ck2 k e n xs).b) cB41,Ix ((ck2 k e n xs).power)])) ?_
    refine l_nil ?_
    exact f_owes_n (up_cons (up_cons (d:=41) rfl k0) hs39) trivial (perm_front 0 rfl)
   rintro fa45 ⟨-,-,-,-,-,-,-,-,-⟩ ⟨j0,j1,-⟩
   refine fre ?_
   refine f_rebase (d:=0) j0 (f_rebase (d:=1) j1 (f_pi [9,8,1,2,3,4,5,6,7,0] 10 rfl (by kernel_rfl) ?_))
   refine f_closeStore (S:=S) (k:=(ck3 k e n xs)) (pH:=(some ⟨(blk (fa45 39)),0,none⟩)) (pA:=pA37) (pB:=pB38) (cH:=32) (cA:=cA40) (cB:=cB41) (M:=(pt J (.cells #[pp S 0,Nx (i.epoch),Nx (i.next),vs,vr,Nx (i.size),vd] 120)::pt q2 (.cells #[pp J 0] 72)::pt q6 (.cells #[Nx (e),Nx (n),ws,wr_,wz] 116)::pt q3 (.cells #[sB sa xs (sc)] 22)::rB (sla (fa34 24)) (formB ((e:Nat):Int) ((n:Nat):Int) xs) (slc (fa34 24))::rB pH36 ((ck2 k e n xs).head) cH39::[])) (by rw[show ck3 k e n xs={ck2 k e n xs with head:=List.replicate 32 0}from if_pos (by omega)];rfl) ?_
   refine f_mask [true,true,true,true,true,true,false] rfl ?_
   exact f_cut ⟨⟨rfl,rfl⟩,rfl⟩
  refine c_skip (f_pi [0,1,2,3,4,5,6,7,8] 9 rfl (by kernel_rfl) ?_)
  refine f_closeStore (S:=S) (k:=(ck3 k e n xs)) (pH:=pH36) (pA:=pA37) (pB:=pB38) (cH:=cH39) (cA:=cA40) (cB:=cB41) (M:=(pt J (.cells #[pp S 0,Nx (i.epoch),Nx (i.next),vs,vr,Nx (i.size),vd] 120)::pt q2 (.cells #[pp J 0] 72)::pt q6 (.cells #[Nx (e),Nx (n),ws,wr_,wz] 116)::pt q3 (.cells #[sB sa xs (sc)] 22)::rB (sla (fa34 24)) (formB ((e:Nat):Int) ((n:Nat):Int) xs) (slc (fa34 24))::[])) (by rw[show ck3 k e n xs=ck2 k e n xs from if_neg (by omega)];rfl) ?_
  exact f_cut ⟨⟨rfl,rfl⟩,rfl⟩
 rintro f0 L0 ⟨⟨hs0,hs1⟩,hL⟩
 subst L0
 refine rbs 0 hs0 (rbs 1 hs1 ?_)
 have hf3:(ck3 k e n xs).fits 655360:=by unfold ck3;simp only;split;exact fits_head hf2 (by simp);exact hf2
 have hcl:(be 8 (U ((e:Nat):Int))++be 8 (tickU ((e:Nat):Int))).length=16:=by simp[be_length]
 refine c_seq ?_
 refine cnz [sv 42 (pp q6 0) [] [] [0],sv 43 (Nx (e)) [0] [0] [],sv 44 (Ux (U ((e:Nat):Int))) [0,1] [1] [],⟨[0,1,2],[2],[],[45],fun f=>f 45=sB (sla (f 45)) (be 8 (U ((e:Nat):Int))) (slc (f 45))⟩,sv 46 (pp q6 0) [] [] [0],sv 47 (Nx (e)) [4] [4] [],sv 48 (Ux (tickU ((e:Nat):Int))) (List.range 6) [5] [],⟨(List.range 7),[3,6],[],[49],fun f=>f 49=sB (sla (f 49)) ((be 8 (U ((e:Nat):Int)))++be 8 (tickU ((e:Nat):Int))) (slc (f 49))⟩,⟨(List.range 8),[7],[],[4,49],fun f=>f 4=sB (sla (f 49)) ((be 8 (U ((e:Nat):Int)))++be 8 (tickU ((e:Nat):Int))) (slc (f 49))⟩] [u0,u0,u0,u1 [1,5]] [⟨(some 3),(some 7),[7],[45],fun f=>rB (sla (f 45)) (be 8 (U ((e:Nat):Int))) (slc (f 45))⟩,⟨(some 7),none,[],[49],fun f=>rB (sla (f 49)) ((be 8 (U ((e:Nat):Int)))++be 8 (tickU ((e:Nat):Int))) (slc (f 49))⟩] [(1,pp q6 0),(0,pp q2 0)] [1,0] ⟨rfl,rfl,trivial⟩ ⟨?_,?_,?_,?_,?_,?_,?_,?_,?_,trivial⟩ ?_
 ·rintro f M-⟨i0,-⟩
  exact obE ofp
 ·rintro f M ⟨k0,-⟩-
  exact obE (oli 0)
 ·rintro f M ⟨k0,-⟩-
  exact ob0 (up_cons (d:=43) rfl k0) rfl (e_conv (a:=((e:Nat):Int)) rfl ⟨_,tf1⟩ tf2 (ux_of _)) (.refl _)
 ·rintro f M ⟨k0,-⟩-
  refine obS (up_cons (d:=44) rfl k0) ?_
  refine lcf (cl0 (vs:=[.slice none 0 0,Ux (U ((e:Nat):Int)),.int .i64 (8)]) tf17.ok rfl rfl) rfl fun w β1 sb kn hw1 back=>(appended0_ok β1 w hw1 (U ((e:Nat):Int)) 8 (by decide)).mono ?_
  rintro e w' ⟨p48,c49,rfl,hw'⟩
  refine⟨_,rfl,_,back _ _ hw',?_⟩
  clear hw1 hw' back kn sb
  refine l_nil ?_
  exact f_owes_d (up_cons (d:=44) rfl k0) rfl (perm_front 0 rfl)
 ·rintro f M-⟨i0,-⟩
  exact obE ofp
 ·rintro f M ⟨k0,-⟩-
  exact obE (oli 0)
 ·rintro f M ⟨k0,-⟩-
  refine obS (up_cons (d:=47) rfl k0) ?_
  refine lcR clA (fun w β1 sb kn hw1=>tick_ok β1 w hw1 ((e:Nat):Int)) (l_nil ?_)
  exact f_owes_d (up_cons (d:=47) rfl k0) rfl (List.Perm.refl _)
 ·rintro f M ⟨k0,k1,-⟩-
  have hs45:f 45=sB (sla (f 45)) (be 8 (U ((e:Nat):Int))) (slc (f 45)):=k0
  refine obS (up_cons (d:=48) (up_cons rfl hs45) k1) ?_
  refine l_call rfl rfl rfl (cl0 (vs:=[sB (sla (f 45)) (be 8 (U ((e:Nat):Int))) (slc (f 45)),Ux (tickU ((e:Nat):Int)),.int .i64 (8)]) tf17.ok rfl rfl) ?_
  intro w hw
  replace hw:=hw.perm (L':=_::M) (by exact(perm_front 0 rfl))
  obtain⟨β1,sb,kn,hw1,back⟩:=St.frame (L:=[_]) (M:=M) hw
  refine(appended_ok β1 w _ _ (be 8 (U ((e:Nat):Int))) (tickU ((e:Nat):Int)) 8 (by decide) (by simp only[List.length_append,be_length];omega) hw1).mono ?_
  rintro e w' ⟨p52,c53,rfl,hw'⟩
  refine⟨_,rfl,_,back _ _ hw',?_⟩
  clear hw hw1 hw' back kn sb
  refine l_nil ?_
  exact f_owes_d (up_cons (d:=48) (up_cons rfl hs45) k1) rfl (perm_front 0 rfl)
 ·rintro f M ⟨k0,-⟩-
  have hs49:f 49=sB (sla (f 49)) ((be 8 (U ((e:Nat):Int)))++be 8 (tickU ((e:Nat):Int))) (slc (f 49)):=k0
  exact obE oas
 rintro fa54 ⟨-,-,-,-,-,-,-,-,k8,-⟩ ⟨j0,j1,-⟩
 refine fre ?_
 refine f_rebase (d:=0) j0 (f_rebase (d:=1) j1 (f_rebase (d:=4) k8 (f_then ?_)))
 refine c_any_end 12 rfl rfl [⟨[],[],[0],[50],fun f=>f 50=pp J 0⟩,⟨[],[],[0],[51],fun f=>f 51=pp J 0⟩,⟨[1],[1],[],[52],fun f=>f 52=pp J 0⟩,⟨[1,2],[2],[],[53],fun f=>f 53=pp J 0⟩,⟨[1,2,3],[3],[],[54],fun f=>f 54=pp S 0⟩,⟨[1,2,3,4],[4],[],[55],fun f=>f 55=pp S 0⟩,⟨[1,2,3,4,5],[5],[],[56],fun f=>f 56=pp S 0⟩,⟨[],[],[1],[57],fun f=>f 57=pp q6 0⟩,⟨[7],[7],[],[58],fun f=>f 58=Nx (e)⟩,⟨[7,8],[8],[],[59],fun f=>f 59= .int .i64 (1)⟩,⟨[7,8,9],[9],[],[60],fun f=>f 60= .int .i64 (16)⟩,⟨[],[],[2],[61],fun f=>f 61=sB (sla (fa54 49)) ((be 8 (U ((e:Nat):Int)))++be 8 (tickU ((e:Nat):Int))) (slc (fa54 49))⟩,⟨(List.range 12),[],[],[],fun _=>True⟩] [⟨none,none,[],[],fun _=>storeR S (ck3 k e n xs)⟩,⟨none,none,[4],[],fun _=>pt J (.cells #[pp S 0,Nx (i.epoch),Nx (i.next),vs,vr,Nx (i.size),vd] 120)⟩,⟨none,none,[0,1],[],fun _=>pt q2 (.cells #[pp J 0] 72)⟩,⟨none,none,[8],[],fun _=>pt q6 (.cells #[Nx (e),Nx (n),ws,wr_,wz] 116)⟩,⟨none,none,[],[],fun _=>pt q3 (.cells #[sB sa xs (sc)] 22)⟩,⟨none,none,[],[],fun _=>rB (sla (fa34 24)) (formB ((e:Nat):Int) ((n:Nat):Int) xs) (slc (fa34 24))⟩,⟨none,none,[],[],fun _=>rB (sla (fa54 49)) ((be 8 (U ((e:Nat):Int)))++be 8 (tickU ((e:Nat):Int))) (slc (fa54 49))⟩] [(0,pp q2 0),(1,pp q6 0),(4,sB (sla (fa54 49)) ((be 8 (U ((e:Nat):Int)))++be 8 (tickU ((e:Nat):Int))) (slc (fa54 49)))] [] [] (by kernel_rfl) (by kernel_rfl) (by kernel_rfl) (by kernel_rfl) (by kernel_rfl) (by kernel_rfl) rfl ⟨rfl,rfl,rfl,trivial⟩ ⟨?_,?_,?_,?_,?_,?_,?_,?_,?_,?_,?_,?_,trivial⟩ ?_
 ·rintro f M-⟨i0,-⟩
  exact obE (olp 0)
 ·rintro f M-⟨i0,-⟩
  exact obE (olp 0)
 ·rintro f M ⟨k0,-⟩-
  exact obE onp
 ·rintro f M ⟨k0,-⟩-
  exact obE ofp
 ·rintro f M ⟨k0,-⟩-
  exact obE (olp 0)
 ·rintro f M ⟨k0,-⟩-
  exact obE onp
 ·rintro f M ⟨k0,-⟩-
  exact obE ofp
 ·rintro f M-⟨i0,-⟩
  exact obE ofp
 ·rintro f M ⟨k0,-⟩-
  exact obE (oli 0)
 ·rintro f M ⟨k0,-⟩-
  exact ob0 (up_cons (d:=58) rfl k0) rfl (ev_eq (by rw[hpar];rfl) (e_rem (a:=((e:Nat):Int)) (b:=(2:Int)) rfl rfl (by decide) (nat_tmod _ 2))) (.refl _)
 ·rintro f M ⟨k0,-⟩-
  exact ob0 (up_cons (d:=59) rfl k0) rfl (e_mul (a:=(1:Int)) (b:=(16:Int)) rfl rfl (by decide)) (.refl _)
 ·rintro f M-⟨i0,-⟩
  exact obE oms
 rintro fa55 ⟨k0,-,-,-,-,-,k6,-,-,-,k10,k11,-⟩-
 refine lre ?_
 refine l_rebase (d:=50) (v:=pp J 0) k0 (l_rebase (d:=56) (v:=pp S 0) k6 (l_rebase (d:=60) (v:= .int .i64 (16)) k10 ?_))
 refine l_rebase (d:=61) (v:=sB (sla (fa54 49)) ((be 8 (U ((e:Nat):Int)))++be 8 (tickU ((e:Nat):Int))) (slc (fa54 49))) k11 ?_
 refine l_callP rfl rfl rfl (cl0 (vs:=[pp J 0,pp S 0,.int .i64 (16),sB (sla (fa54 49)) ((be 8 (U ((e:Nat):Int)))++be 8 (tickU ((e:Nat):Int))) (slc (fa54 49))]) tf51.ok rfl rfl) ?_
 intro w hw
 replace hw:=hw.perm (L':=_::_::_::_::_::_::_::[]) (by exact(((((((perm_front 6 rfl).trans (perm_front 6 rfl)).trans (perm_front 6 rfl)).trans (perm_front 6 rfl)).trans (perm_front 6 rfl)).trans (perm_front 6 rfl)).trans (perm_front 6 rfl)))
 obtain⟨β1,sb,kn,hw1,back⟩:=St.frame (L:=[_]) (M:=_::_::_::_::_::_::[]) hw
 refine(writeH_ok β1 w J S (kn _ (k_pt 0 rfl rfl)) (ck3 k e n xs) (hf3.le (by omega)) 16 (by omega) ((be 8 (U ((e:Nat):Int)))++be 8 (tickU ((e:Nat):Int))) _ (by omega) (kU kn 5 rfl) hw1).mono ?_
 rintro e w' (⟨rfl,ok56,hw'⟩|⟨rfl,ok56,hw'⟩)
 ·refine .inl ⟨_,rfl,_,back _ _ hw',?_⟩
  clear hw hw1 hw' back kn sb
  refine panR ?_
  intro w hw
  refine .inl ⟨rfl,fun h=>ok56 h.2.2,?_⟩
  rw[ckS,if_pos ok1,if_pos ok2,ck4,show e%2*16=16 by omega]
  exact st_mask [true,true,true,true,true,false,false] rfl (hw.perm (L':=[pt J (.cells #[pp S 0,Nx (i.epoch),Nx (i.next),vs,vr,Nx (i.size),vd] 120),pt q2 (.cells #[pp J 0] 72),pt q6 (.cells #[Nx (e),Nx (n),ws,wr_,wz] 116),pt q3 (.cells #[sB sa xs (sc)] 22),storeR S (wrH (ck3 k e n xs) 16 ((be 8 (U ((e:Nat):Int)))++be 8 (tickU ((e:Nat):Int)))),rB (sla (fa34 24)) (formB ((e:Nat):Int) ((n:Nat):Int) xs) (slc (fa34 24)),rB (sla (fa54 49)) ((be 8 (U ((e:Nat):Int)))++be 8 (tickU ((e:Nat):Int))) (slc (fa54 49))]) (by exact(perm_ix [1,2,3,4,0,5,6] 7 rfl (by kernel_rfl) (by kernel_rfl))))
 refine .inr ⟨_,rfl,_,back _ _ hw',?_⟩
 clear hw hw1 hw' back kn sb
 refine l_nil (end0 Tryz.results91 ?_)
 intro w hw
 refine .inr ⟨rfl,⟨ok1,ok2,ok56⟩,?_⟩
 rw[ckS,if_pos ok1,if_pos ok2,ck4,show e%2*16=16 by omega]
 exact st_mask [true,true,true,true,true,false,false] rfl (hw.perm (L':=[pt J (.cells #[pp S 0,Nx (i.epoch),Nx (i.next),vs,vr,Nx (i.size),vd] 120),pt q2 (.cells #[pp J 0] 72),pt q6 (.cells #[Nx (e),Nx (n),ws,wr_,wz] 116),pt q3 (.cells #[sB sa xs (sc)] 22),storeR S (wrH (ck3 k e n xs) 16 ((be 8 (U ((e:Nat):Int)))++be 8 (tickU ((e:Nat):Int)))),rB (sla (fa34 24)) (formB ((e:Nat):Int) ((n:Nat):Int) xs) (slc (fa34 24)),rB (sla (fa54 49)) ((be 8 (U ((e:Nat):Int)))++be 8 (tickU ((e:Nat):Int))) (slc (fa54 49))]) (by exact(perm_ix [1,2,3,4,0,5,6] 7 rfl (by kernel_rfl) (by kernel_rfl))))
end Go.Proofs
