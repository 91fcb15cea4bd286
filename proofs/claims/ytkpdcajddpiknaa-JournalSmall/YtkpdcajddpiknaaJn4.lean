/-
 What is attempted: writing a record,cutting an area,a checkpoint. Printed by a program of my own.
-/
import Derived.Test.YtkpdcajddpiknaaJn3
set_option linter.all false
set_option maxHeartbeats 4000000
namespace Go.Proofs
open Go Go.Sl Go.Jn
instance aIj:CfC Try.prog 46:={}
instance tf47:TyC Try.prog 94 false 1:={}
instance tf48:FldC Try.prog 36 0 0 1 false:={}
instance zN:TyC Try.prog 89 false 1:={}
instance tf50:FldC Try.prog 36 4 4 1 false:={}
instance aDd:CfC Try.prog 53:={}
instance aIk:CfC Try.prog 56:={}
instance tf53:FldC Try.prog 36 1 1 1 false:={}
instance aIl:CfC Try.prog 50:={}
theorem uY(β:Base)(w:World)(e:Nat)(hpar:e%2=0)(J S:Nat)(hJ:Cs β.heap ⟨J,0,none⟩ [pp S 0])(k:KS)(hk:k.fits 1048576)(at_:Nat)(hat:at_≤1048576)(bs:Bs)(v:Value)(hb:bs.length≤1048576)(hs:Sl bE β.heap v bs)(hw:St β [aS S k] w):Calls Try.prog 53 #[pp J 0,pp S 1,Nx at_,v] w fun r w'=>(r= .panicked xQ∧¬eI k.power bs∧St β [aS S (cJ k e at_ bs)] w')∨(r= .returned (.tuple #[])∧eI k.power bs∧St β [aS S (cJ k e at_ bs)] w'):=by
 have h:=aDf β w J S hJ k hk at_ hat bs v hb hs hw
 rwa [uX hpar]at h
theorem yK(β:Base)(w:World)(e:Nat)(hpar:e%2=0)(J S:Nat)(hJ:Cs β.heap ⟨J,0,none⟩ [pp S 0])(k:KS)(hk:k.fits 1048576)(size:Nat)(hw:St β [aS S k] w):Calls Try.prog 56 #[pp J 0,pp S 1,Nx size] w fun r w'=>(r= .panicked xQ∧¬cutOk (k.area e) k.power size∧St β [aS S k] w')∨(r= .returned (.tuple #[])∧cutOk (k.area e) k.power size∧St β [aS S (aV k e size)] w'):=by
 have h:=(aGx β w J S hJ k hk size hw).mono (R':=fun r w'=>(r= .panicked xQ∧¬cutOk k.a k.power size∧St β [aS S k] w')∨(r= .returned (.tuple #[])∧cutOk k.a k.power size∧St β [aS S {k with a:=gV k.a k.power size,power:=fP k.a k.power size}] w')) fun r w' hh=>hh.imp (fun⟨a,b,_,c⟩=>⟨a,b,c⟩) id
 rwa [mA hpar,←iP (k:=k) hpar]at h
theorem uZ(β:Base)(w:World)(e:Nat)(hpar:e%2=1)(J S:Nat)(hJ:Cs β.heap ⟨J,0,none⟩ [pp S 0])(k:KS)(hk:k.fits 1048576)(at_:Nat)(hat:at_≤1048576)(bs:Bs)(v:Value)(hb:bs.length≤1048576)(hs:Sl bE β.heap v bs)(hw:St β [aS S k] w):Calls Try.prog 53 #[pp J 0,pp S 2,Nx at_,v] w fun r w'=>(r= .panicked xQ∧¬eI k.power bs∧St β [aS S (cJ k e at_ bs)] w')∨(r= .returned (.tuple #[])∧eI k.power bs∧St β [aS S (cJ k e at_ bs)] w'):=by
 have h:=aDg β w J S hJ k hk at_ hat bs v hb hs hw
 rwa [xP hpar]at h
theorem yL(β:Base)(w:World)(e:Nat)(hpar:e%2=1)(J S:Nat)(hJ:Cs β.heap ⟨J,0,none⟩ [pp S 0])(k:KS)(hk:k.fits 1048576)(size:Nat)(hw:St β [aS S k] w):Calls Try.prog 56 #[pp J 0,pp S 2,Nx size] w fun r w'=>(r= .panicked xQ∧¬cutOk (k.area e) k.power size∧St β [aS S k] w')∨(r= .returned (.tuple #[])∧cutOk (k.area e) k.power size∧St β [aS S (aV k e size)] w'):=by
 have h:=(aGy β w J S hJ k hk size hw).mono (R':=fun r w'=>(r= .panicked xQ∧¬cutOk k.b k.power size∧St β [aS S k] w')∨(r= .returned (.tuple #[])∧cutOk k.b k.power size∧St β [aS S {k with b:=gV k.b k.power size,power:=fP k.b k.power size}] w')) fun r w' hh=>hh.imp (fun⟨a,b,_,c⟩=>⟨a,b,c⟩) id
 rwa [nQ hpar,←jW (k:=k) hpar]at h
theorem tN(β:Base)(w:World)(J S q2 q7 q8 cb:Nat)(pb:Option Addr)(k:KS)(i:KI)(vs vr vd:Value)(fb:Bs)(hk:k.fits 524288)(hb:fb.length≤131072)(hsz:i.size≤524288)(hw:St β [pt J (.cells #[pp S 0,Nx (i.epoch),Nx (i.next),vs,vr,Nx (i.size),vd] 84),pt q2 (.cells #[pp J 0] 43),pt q7 (.cells #[pp J 1] 94),pt q8 (.cells #[sB pb fb cb] 30),rB pb fb cb,aS S k] w):Calls Try.prog 52 #[pp q2 0,pp q7 0,pp q8 0] w fun r w'=>(r= .panicked xQ∧¬eI k.power fb∧St β [pt J (.cells #[pp S 0,Nx (i.epoch),Nx (i.next),vs,vr,Nx (i.size),vd] 84),pt q2 (.cells #[pp J 0] 43),pt q7 (.cells #[pp J 1] 94),pt q8 (.cells #[sB pb fb cb] 30),rB pb fb cb,aS S (cJ k i.epoch i.size fb)] w')∨(r= .returned (.tuple #[])∧eI k.power fb∧St β [pt J (.cells #[pp S 0,Nx (i.epoch),Nx (i.next),vs,vr,Nx (i.size),vd] 84),pt q2 (.cells #[pp J 0] 43),pt q7 (.cells #[pp J 1] 94),pt q8 (.cells #[sB pb fb cb] 30),rB pb fb cb,aS S (cJ k i.epoch i.size fb)] w'):=by
 refine enter (n:=21) Try.func52 rfl Try.ntmps52 rfl ?_ hw
 rcases Nat.mod_two_eq_zero_or_one i.epoch with hpar|hpar
 ·refine iQ 17 rfl rfl [⟨[],[],[0],[3],fun f=>f 3=pp J 0⟩,⟨[],[],[0],[4],fun f=>f 4=pp J 0⟩,⟨[1],[1],[],[5],fun f=>f 5=pp J 0⟩,⟨[1,2],[2],[],[6],fun f=>f 6=pp J 0⟩,⟨[1,2,3],[3],[],[7],fun f=>f 7=pp S 0⟩,⟨[1,2,3,4],[4],[],[8],fun f=>f 8= .agg #[pp S 1,pp S 2]⟩,⟨[],[],[1],[9],fun f=>f 9=pp J 1⟩,⟨[6],[6],[],[10],fun f=>f 10=pp J 1⟩,⟨[6,7],[7],[],[11],fun f=>f 11=pp J 1⟩,⟨[6,7,8],[8],[],[12],fun f=>f 12=Nx (i.epoch)⟩,⟨[6,7,8,9],[9],[],[13],fun f=>f 13= .int .i64 (0)⟩,⟨[1,2,3,4,5,6,7,8,9,10],[5,10],[],[14],fun f=>f 14=pp S 1⟩,⟨[],[],[1],[15],fun f=>f 15=pp J 1⟩,⟨[12],[12],[],[16],fun f=>f 16=pp J 1⟩,⟨[12,13],[13],[],[17],fun f=>f 17=pp J 5⟩,⟨[12,13,14],[14],[],[18],fun f=>f 18=Nx (i.size)⟩,⟨[],[],[2],[19],fun f=>f 19=sB pb fb cb⟩,⟨(List.range 17),[],[],[],fun _=>True⟩] [⟨none,none,[4,9,15],[],fun _=>pt J (.cells #[pp S 0,Nx (i.epoch),Nx (i.next),vs,vr,Nx (i.size),vd] 84)⟩,⟨none,none,[0,1],[],fun _=>pt q2 (.cells #[pp J 0] 43)⟩,⟨none,none,[6,12],[],fun _=>pt q7 (.cells #[pp J 1] 94)⟩,⟨none,none,[16],[],fun _=>pt q8 (.cells #[sB pb fb cb] 30)⟩,⟨none,none,[],[],fun _=>rB pb fb cb⟩,⟨none,none,[],[],fun _=>aS S k⟩] [(0,pp q2 0),(1,pp q7 0),(2,pp q8 0)] [] [] (by kernel_rfl) (by kernel_rfl) (by kernel_rfl) (by kernel_rfl) (by kernel_rfl) (by kernel_rfl) rfl ⟨rfl,rfl,rfl,trivial⟩ ⟨?_,?_,?_,?_,?_,?_,?_,?_,?_,?_,?_,?_,?_,?_,?_,?_,?_,trivial⟩ ?_
  ·rintro f M-⟨i0,-⟩
   exact bK (gD 0)
  ·rintro f M-⟨i0,-⟩
   exact bK (gD 0)
  ·rintro f M ⟨k0,-⟩-
   exact bK eY
  ·rintro f M ⟨k0,-⟩-
   exact bK bM
  ·rintro f M ⟨k0,-⟩-
   exact bK (gD 0)
  ·rintro f M ⟨k0,-⟩-
   refine fF (aA (d:=7) rfl k0) ?_
   refine gW gU (fun w β1 sb kn hw1=>jY β1 w hw1 S) ?_
   refine aG ?_
   exact aI (aA (d:=7) rfl k0) rfl (List.Perm.refl _)
  ·rintro f M-⟨i0,-⟩
   exact bK (gD 0)
  ·rintro f M ⟨k0,-⟩-
   exact bK eY
  ·rintro f M ⟨k0,-⟩-
   exact bK bM
  ·rintro f M ⟨k0,-⟩-
   exact bK (eU 0)
  ·rintro f M ⟨k0,-⟩-
   exact nA (aA (d:=12) rfl k0) rfl (fE (by rw[hpar];rfl) (gJ (a:=((i.epoch:Nat):Int)) (b:=(2:Int)) rfl rfl (by decide) (eC _ 2))) (.refl _)
  ·rintro f M ⟨k0,k1,-⟩-
   exact nA (aA (d:=13) (aA (d:=8) rfl k0) k1) rfl (iR (cs:= #[pp S 1,pp S 2]) (k:=0) rfl rfl xM.ok rfl (by decide) zN.ok) (.refl _)
  ·rintro f M-⟨i0,-⟩
   exact bK (gD 0)
  ·rintro f M ⟨k0,-⟩-
   exact bK eY
  ·rintro f M ⟨k0,-⟩-
   exact bK bM
  ·rintro f M ⟨k0,-⟩-
   exact bK (eU 0)
  ·rintro f M-⟨i0,-⟩
   exact bK (fA 0)
  rintro fa1 ⟨k0,-,-,-,-,-,-,-,-,-,-,k11,-,-,-,k15,k16,-⟩-
  refine lre ?_
  refine cU (d:=3) (v:=pp J 0) k0 ?_
  refine cU (d:=14) (v:=pp S 1) k11 ?_
  refine cU (d:=18) (v:=Nx (i.size)) k15 ?_
  refine cU (d:=19) (v:=sB pb fb cb) k16 ?_
  refine gC rfl rfl rfl (cY (vs:=[pp J 0,pp S 1,Nx (i.size),sB pb fb cb]) aDd.ok rfl rfl) ?_
  intro w hw
  replace hw:=hw.perm (L':=_::_::_::_::_::_::[]) (by exact((((((aB 4 rfl).trans (aB 4 rfl)).trans (aB 4 rfl)).trans (aB 4 rfl)).trans (aB 4 rfl)).trans (aB 5 rfl)))
  obtain⟨β1,sb,kn,hw1,back⟩:=St.frame (L:=[_]) (M:=_::_::_::_::_::[]) hw
  refine(uY β1 w i.epoch hpar J S (kn _ (dM 0 rfl rfl)) k (hk.le (by omega)) i.size (by omega) fb _ (by omega) (kU kn 4 rfl) hw1).mono ?_
  rintro e w' (⟨rfl,ok2,hw'⟩|⟨rfl,ok2,hw'⟩)
  ·refine .inl ⟨_,rfl,_,back _ _ hw',?_⟩
   refine pE ?_
   intro w hw
   exact .inl ⟨rfl,ok2,aF [true,true,true,true,true,true] rfl (hw.perm (L':=[pt J (.cells #[pp S 0,Nx (i.epoch),Nx (i.next),vs,vr,Nx (i.size),vd] 84),pt q2 (.cells #[pp J 0] 43),pt q7 (.cells #[pp J 1] 94),pt q8 (.cells #[sB pb fb cb] 30),rB pb fb cb,aS S (cJ k i.epoch i.size fb)]) (by exact(bN [1,2,3,4,5,0] 6 rfl (by kernel_rfl) (by kernel_rfl))))⟩
  refine .inr ⟨_,rfl,_,back _ _ hw',?_⟩
  refine aG ?_
  refine nS Try.results52 ?_
  intro w hw
  exact .inr ⟨rfl,ok2,aF [true,true,true,true,true,true] rfl (hw.perm (L':=[pt J (.cells #[pp S 0,Nx (i.epoch),Nx (i.next),vs,vr,Nx (i.size),vd] 84),pt q2 (.cells #[pp J 0] 43),pt q7 (.cells #[pp J 1] 94),pt q8 (.cells #[sB pb fb cb] 30),rB pb fb cb,aS S (cJ k i.epoch i.size fb)]) (by exact(bN [1,2,3,4,5,0] 6 rfl (by kernel_rfl) (by kernel_rfl))))⟩
 refine iQ 17 rfl rfl [⟨[],[],[0],[3],fun f=>f 3=pp J 0⟩,⟨[],[],[0],[4],fun f=>f 4=pp J 0⟩,⟨[1],[1],[],[5],fun f=>f 5=pp J 0⟩,⟨[1,2],[2],[],[6],fun f=>f 6=pp J 0⟩,⟨[1,2,3],[3],[],[7],fun f=>f 7=pp S 0⟩,⟨[1,2,3,4],[4],[],[8],fun f=>f 8= .agg #[pp S 1,pp S 2]⟩,⟨[],[],[1],[9],fun f=>f 9=pp J 1⟩,⟨[6],[6],[],[10],fun f=>f 10=pp J 1⟩,⟨[6,7],[7],[],[11],fun f=>f 11=pp J 1⟩,⟨[6,7,8],[8],[],[12],fun f=>f 12=Nx (i.epoch)⟩,⟨[6,7,8,9],[9],[],[13],fun f=>f 13= .int .i64 (1)⟩,⟨[1,2,3,4,5,6,7,8,9,10],[5,10],[],[14],fun f=>f 14=pp S 2⟩,⟨[],[],[1],[15],fun f=>f 15=pp J 1⟩,⟨[12],[12],[],[16],fun f=>f 16=pp J 1⟩,⟨[12,13],[13],[],[17],fun f=>f 17=pp J 5⟩,⟨[12,13,14],[14],[],[18],fun f=>f 18=Nx (i.size)⟩,⟨[],[],[2],[19],fun f=>f 19=sB pb fb cb⟩,⟨(List.range 17),[],[],[],fun _=>True⟩] [⟨none,none,[4,9,15],[],fun _=>pt J (.cells #[pp S 0,Nx (i.epoch),Nx (i.next),vs,vr,Nx (i.size),vd] 84)⟩,⟨none,none,[0,1],[],fun _=>pt q2 (.cells #[pp J 0] 43)⟩,⟨none,none,[6,12],[],fun _=>pt q7 (.cells #[pp J 1] 94)⟩,⟨none,none,[16],[],fun _=>pt q8 (.cells #[sB pb fb cb] 30)⟩,⟨none,none,[],[],fun _=>rB pb fb cb⟩,⟨none,none,[],[],fun _=>aS S k⟩] [(0,pp q2 0),(1,pp q7 0),(2,pp q8 0)] [] [] (by kernel_rfl) (by kernel_rfl) (by kernel_rfl) (by kernel_rfl) (by kernel_rfl) (by kernel_rfl) rfl ⟨rfl,rfl,rfl,trivial⟩ ⟨?_,?_,?_,?_,?_,?_,?_,?_,?_,?_,?_,?_,?_,?_,?_,?_,?_,trivial⟩ ?_
 ·rintro f M-⟨i0,-⟩
  exact bK (gD 0)
 ·rintro f M-⟨i0,-⟩
  exact bK (gD 0)
 ·rintro f M ⟨k0,-⟩-
  exact bK eY
 ·rintro f M ⟨k0,-⟩-
  exact bK bM
 ·rintro f M ⟨k0,-⟩-
  exact bK (gD 0)
 ·rintro f M ⟨k0,-⟩-
  refine fF (aA (d:=7) rfl k0) ?_
  refine gW gU (fun w β1 sb kn hw1=>jY β1 w hw1 S) ?_
  refine aG ?_
  exact aI (aA (d:=7) rfl k0) rfl (List.Perm.refl _)
 ·rintro f M-⟨i0,-⟩
  exact bK (gD 0)
 ·rintro f M ⟨k0,-⟩-
  exact bK eY
 ·rintro f M ⟨k0,-⟩-
  exact bK bM
 ·rintro f M ⟨k0,-⟩-
  exact bK (eU 0)
 ·rintro f M ⟨k0,-⟩-
  exact nA (aA (d:=12) rfl k0) rfl (fE (by rw[hpar];rfl) (gJ (a:=((i.epoch:Nat):Int)) (b:=(2:Int)) rfl rfl (by decide) (eC _ 2))) (.refl _)
 ·rintro f M ⟨k0,k1,-⟩-
  exact nA (aA (d:=13) (aA (d:=8) rfl k0) k1) rfl (iR (cs:= #[pp S 1,pp S 2]) (k:=1) rfl rfl xM.ok rfl (by decide) zN.ok) (.refl _)
 ·rintro f M-⟨i0,-⟩
  exact bK (gD 0)
 ·rintro f M ⟨k0,-⟩-
  exact bK eY
 ·rintro f M ⟨k0,-⟩-
  exact bK bM
 ·rintro f M ⟨k0,-⟩-
  exact bK (eU 0)
 ·rintro f M-⟨i0,-⟩
  exact bK (fA 0)
 rintro fa3 ⟨k0,-,-,-,-,-,-,-,-,-,-,k11,-,-,-,k15,k16,-⟩-
 refine lre ?_
 refine cU (d:=3) (v:=pp J 0) k0 ?_
 refine cU (d:=14) (v:=pp S 2) k11 ?_
 refine cU (d:=18) (v:=Nx (i.size)) k15 ?_
 refine cU (d:=19) (v:=sB pb fb cb) k16 ?_
 refine gC rfl rfl rfl (cY (vs:=[pp J 0,pp S 2,Nx (i.size),sB pb fb cb]) aDd.ok rfl rfl) ?_
 intro w hw
 replace hw:=hw.perm (L':=_::_::_::_::_::_::[]) (by exact((((((aB 4 rfl).trans (aB 4 rfl)).trans (aB 4 rfl)).trans (aB 4 rfl)).trans (aB 4 rfl)).trans (aB 5 rfl)))
 obtain⟨β1,sb,kn,hw1,back⟩:=St.frame (L:=[_]) (M:=_::_::_::_::_::[]) hw
 refine(uZ β1 w i.epoch hpar J S (kn _ (dM 0 rfl rfl)) k (hk.le (by omega)) i.size (by omega) fb _ (by omega) (kU kn 4 rfl) hw1).mono ?_
 rintro e w' (⟨rfl,wY,hw'⟩|⟨rfl,wY,hw'⟩)
 ·refine .inl ⟨_,rfl,_,back _ _ hw',?_⟩
  refine pE ?_
  intro w hw
  exact .inl ⟨rfl,wY,aF [true,true,true,true,true,true] rfl (hw.perm (L':=[pt J (.cells #[pp S 0,Nx (i.epoch),Nx (i.next),vs,vr,Nx (i.size),vd] 84),pt q2 (.cells #[pp J 0] 43),pt q7 (.cells #[pp J 1] 94),pt q8 (.cells #[sB pb fb cb] 30),rB pb fb cb,aS S (cJ k i.epoch i.size fb)]) (by exact(bN [1,2,3,4,5,0] 6 rfl (by kernel_rfl) (by kernel_rfl))))⟩
 refine .inr ⟨_,rfl,_,back _ _ hw',?_⟩
 refine aG ?_
 refine nS Try.results52 ?_
 intro w hw
 exact .inr ⟨rfl,wY,aF [true,true,true,true,true,true] rfl (hw.perm (L':=[pt J (.cells #[pp S 0,Nx (i.epoch),Nx (i.next),vs,vr,Nx (i.size),vd] 84),pt q2 (.cells #[pp J 0] 43),pt q7 (.cells #[pp J 1] 94),pt q8 (.cells #[sB pb fb cb] 30),rB pb fb cb,aS S (cJ k i.epoch i.size fb)]) (by exact(bN [1,2,3,4,5,0] 6 rfl (by kernel_rfl) (by kernel_rfl))))⟩
theorem yT(β:Base)(w:World)(J S q6 q1 q4:Nat)(k:KS)(i:KI)(vs vr vd:Value)(hk:k.fits 524288)(hw:St β [pt J (.cells #[pp S 0,Nx (i.epoch),Nx (i.next),vs,vr,Nx (i.size),vd] 84),pt q6 (.cells #[pp J 0] 43),pt q1 (.cells #[pp S 0] 24),pt q4 (.cells #[Nx (i.epoch),Nx (i.next),vs,vr,Nx (i.size)] 36),aS S k] w):Calls Try.prog 73 #[pp q6 0,pp q1 0,pp q4 0] w fun r w'=>(r= .panicked xQ∧¬cutOk (k.area i.epoch) k.power i.size∧St β [pt J (.cells #[pp S 0,Nx (i.epoch),Nx (i.next),vs,vr,Nx (i.size),vd] 84),pt q6 (.cells #[pp J 0] 43),pt q1 (.cells #[pp S 0] 24),pt q4 (.cells #[Nx (i.epoch),Nx (i.next),vs,vr,Nx (i.size)] 36),aS S k] w')∨(r= .returned (.tuple #[])∧cutOk (k.area i.epoch) k.power i.size∧St β [pt J (.cells #[pp S 0,Nx (i.epoch),Nx (i.next),vs,vr,Nx (i.size),vd] 84),pt q6 (.cells #[pp J 0] 43),pt q1 (.cells #[pp S 0] 24),pt q4 (.cells #[Nx (i.epoch),Nx (i.next),vs,vr,Nx (i.size)] 36),aS S (aV k i.epoch i.size)] w'):=by
 refine enter (n:=13) Try.func73 rfl Try.ntmps73 rfl ?_ hw
 rcases Nat.mod_two_eq_zero_or_one i.epoch with hpar|hpar
 ·refine iQ 9 rfl rfl [⟨[],[],[0],[3],fun f=>f 3=pp J 0⟩,⟨[],[],[1],[4],fun f=>f 4=pp S 0⟩,⟨[1],[1],[],[5],fun f=>f 5= .agg #[pp S 1,pp S 2]⟩,⟨[],[],[2],[6],fun f=>f 6=pp q4 0⟩,⟨[3],[3],[],[7],fun f=>f 7=Nx (i.epoch)⟩,⟨[3,4],[4],[],[8],fun f=>f 8= .int .i64 (0)⟩,⟨[1,2,3,4,5],[2,5],[],[9],fun f=>f 9=pp S 1⟩,⟨[],[],[2],[10],fun f=>f 10=pp q4 4⟩,⟨[7],[7],[],[11],fun f=>f 11=Nx (i.size)⟩,⟨(List.range 9),[],[],[],fun _=>True⟩] [⟨none,none,[],[],fun _=>pt J (.cells #[pp S 0,Nx (i.epoch),Nx (i.next),vs,vr,Nx (i.size),vd] 84)⟩,⟨none,none,[0],[],fun _=>pt q6 (.cells #[pp J 0] 43)⟩,⟨none,none,[1],[],fun _=>pt q1 (.cells #[pp S 0] 24)⟩,⟨none,none,[4,8],[],fun _=>pt q4 (.cells #[Nx (i.epoch),Nx (i.next),vs,vr,Nx (i.size)] 36)⟩,⟨none,none,[],[],fun _=>aS S k⟩] [(0,pp q6 0),(1,pp q1 0),(2,pp q4 0)] [] [] (by kernel_rfl) (by kernel_rfl) (by kernel_rfl) (by kernel_rfl) (by kernel_rfl) (by kernel_rfl) rfl ⟨rfl,rfl,rfl,trivial⟩ ⟨?_,?_,?_,?_,?_,?_,?_,?_,?_,trivial⟩ ?_
  ·rintro f M-⟨i0,-⟩
   exact bK (gD 0)
  ·rintro f M-⟨i0,-⟩
   exact bK (gD 0)
  ·rintro f M ⟨k0,-⟩-
   refine fF (aA (d:=4) rfl k0) ?_
   refine gW gU (fun w β1 sb kn hw1=>jY β1 w hw1 S) ?_
   refine aG ?_
   exact aI (aA (d:=4) rfl k0) rfl (List.Perm.refl _)
  ·rintro f M-⟨i0,-⟩
   exact bK bM
  ·rintro f M ⟨k0,-⟩-
   exact bK (eU 0)
  ·rintro f M ⟨k0,-⟩-
   exact nA (aA (d:=7) rfl k0) rfl (fE (by rw[hpar];rfl) (gJ (a:=((i.epoch:Nat):Int)) (b:=(2:Int)) rfl rfl (by decide) (eC _ 2))) (.refl _)
  ·rintro f M ⟨k0,k1,-⟩-
   exact nA (aA (d:=8) (aA (d:=5) rfl k0) k1) rfl (iR (cs:= #[pp S 1,pp S 2]) (k:=0) rfl rfl xM.ok rfl (by decide) zN.ok) (.refl _)
  ·rintro f M-⟨i0,-⟩
   exact bK bM
  ·rintro f M ⟨k0,-⟩-
   exact bK (eU 0)
  rintro fa1 ⟨k0,-,-,-,-,-,k6,-,k8,-⟩-
  refine lre ?_
  refine cU (d:=3) (v:=pp J 0) k0 ?_
  refine cU (d:=9) (v:=pp S 1) k6 ?_
  refine cU (d:=11) (v:=Nx (i.size)) k8 ?_
  refine gC rfl rfl rfl (cY (vs:=[pp J 0,pp S 1,Nx (i.size)]) aIk.ok rfl rfl) ?_
  intro w hw
  replace hw:=hw.perm (L':=_::_::_::_::_::[]) (by exact(((((aB 3 rfl).trans (aB 3 rfl)).trans (aB 3 rfl)).trans (aB 3 rfl)).trans (aB 4 rfl)))
  obtain⟨β1,sb,kn,hw1,back⟩:=St.frame (L:=[_]) (M:=_::_::_::_::[]) hw
  refine(yK β1 w i.epoch hpar J S (kn _ (dM 0 rfl rfl)) k (hk.le (by omega)) i.size hw1).mono ?_
  rintro e w' (⟨rfl,ok2,hw'⟩|⟨rfl,ok2,hw'⟩)
  ·refine .inl ⟨_,rfl,_,back _ _ hw',?_⟩
   refine pE ?_
   intro w hw
   exact .inl ⟨rfl,ok2,aF [true,true,true,true,true] rfl (hw.perm (L':=[pt J (.cells #[pp S 0,Nx (i.epoch),Nx (i.next),vs,vr,Nx (i.size),vd] 84),pt q6 (.cells #[pp J 0] 43),pt q1 (.cells #[pp S 0] 24),pt q4 (.cells #[Nx (i.epoch),Nx (i.next),vs,vr,Nx (i.size)] 36),aS S k]) (by exact(bN [1,2,3,4,0] 5 rfl (by kernel_rfl) (by kernel_rfl))))⟩
  refine .inr ⟨_,rfl,_,back _ _ hw',?_⟩
  refine aG ?_
  refine nS Try.results73 ?_
  intro w hw
  exact .inr ⟨rfl,ok2,aF [true,true,true,true,true] rfl (hw.perm (L':=[pt J (.cells #[pp S 0,Nx (i.epoch),Nx (i.next),vs,vr,Nx (i.size),vd] 84),pt q6 (.cells #[pp J 0] 43),pt q1 (.cells #[pp S 0] 24),pt q4 (.cells #[Nx (i.epoch),Nx (i.next),vs,vr,Nx (i.size)] 36),aS S (aV k i.epoch i.size)]) (by exact(bN [1,2,3,4,0] 5 rfl (by kernel_rfl) (by kernel_rfl))))⟩
 refine iQ 9 rfl rfl [⟨[],[],[0],[3],fun f=>f 3=pp J 0⟩,⟨[],[],[1],[4],fun f=>f 4=pp S 0⟩,⟨[1],[1],[],[5],fun f=>f 5= .agg #[pp S 1,pp S 2]⟩,⟨[],[],[2],[6],fun f=>f 6=pp q4 0⟩,⟨[3],[3],[],[7],fun f=>f 7=Nx (i.epoch)⟩,⟨[3,4],[4],[],[8],fun f=>f 8= .int .i64 (1)⟩,⟨[1,2,3,4,5],[2,5],[],[9],fun f=>f 9=pp S 2⟩,⟨[],[],[2],[10],fun f=>f 10=pp q4 4⟩,⟨[7],[7],[],[11],fun f=>f 11=Nx (i.size)⟩,⟨(List.range 9),[],[],[],fun _=>True⟩] [⟨none,none,[],[],fun _=>pt J (.cells #[pp S 0,Nx (i.epoch),Nx (i.next),vs,vr,Nx (i.size),vd] 84)⟩,⟨none,none,[0],[],fun _=>pt q6 (.cells #[pp J 0] 43)⟩,⟨none,none,[1],[],fun _=>pt q1 (.cells #[pp S 0] 24)⟩,⟨none,none,[4,8],[],fun _=>pt q4 (.cells #[Nx (i.epoch),Nx (i.next),vs,vr,Nx (i.size)] 36)⟩,⟨none,none,[],[],fun _=>aS S k⟩] [(0,pp q6 0),(1,pp q1 0),(2,pp q4 0)] [] [] (by kernel_rfl) (by kernel_rfl) (by kernel_rfl) (by kernel_rfl) (by kernel_rfl) (by kernel_rfl) rfl ⟨rfl,rfl,rfl,trivial⟩ ⟨?_,?_,?_,?_,?_,?_,?_,?_,?_,trivial⟩ ?_
 ·rintro f M-⟨i0,-⟩
  exact bK (gD 0)
 ·rintro f M-⟨i0,-⟩
  exact bK (gD 0)
 ·rintro f M ⟨k0,-⟩-
  refine fF (aA (d:=4) rfl k0) ?_
  refine gW gU (fun w β1 sb kn hw1=>jY β1 w hw1 S) ?_
  refine aG ?_
  exact aI (aA (d:=4) rfl k0) rfl (List.Perm.refl _)
 ·rintro f M-⟨i0,-⟩
  exact bK bM
 ·rintro f M ⟨k0,-⟩-
  exact bK (eU 0)
 ·rintro f M ⟨k0,-⟩-
  exact nA (aA (d:=7) rfl k0) rfl (fE (by rw[hpar];rfl) (gJ (a:=((i.epoch:Nat):Int)) (b:=(2:Int)) rfl rfl (by decide) (eC _ 2))) (.refl _)
 ·rintro f M ⟨k0,k1,-⟩-
  exact nA (aA (d:=8) (aA (d:=5) rfl k0) k1) rfl (iR (cs:= #[pp S 1,pp S 2]) (k:=1) rfl rfl xM.ok rfl (by decide) zN.ok) (.refl _)
 ·rintro f M-⟨i0,-⟩
  exact bK bM
 ·rintro f M ⟨k0,-⟩-
  exact bK (eU 0)
 rintro fa3 ⟨k0,-,-,-,-,-,k6,-,k8,-⟩-
 refine lre ?_
 refine cU (d:=3) (v:=pp J 0) k0 ?_
 refine cU (d:=9) (v:=pp S 2) k6 ?_
 refine cU (d:=11) (v:=Nx (i.size)) k8 ?_
 refine gC rfl rfl rfl (cY (vs:=[pp J 0,pp S 2,Nx (i.size)]) aIk.ok rfl rfl) ?_
 intro w hw
 replace hw:=hw.perm (L':=_::_::_::_::_::[]) (by exact(((((aB 3 rfl).trans (aB 3 rfl)).trans (aB 3 rfl)).trans (aB 3 rfl)).trans (aB 4 rfl)))
 obtain⟨β1,sb,kn,hw1,back⟩:=St.frame (L:=[_]) (M:=_::_::_::_::[]) hw
 refine(yL β1 w i.epoch hpar J S (kn _ (dM 0 rfl rfl)) k (hk.le (by omega)) i.size hw1).mono ?_
 rintro e w' (⟨rfl,wY,hw'⟩|⟨rfl,wY,hw'⟩)
 ·refine .inl ⟨_,rfl,_,back _ _ hw',?_⟩
  refine pE ?_
  intro w hw
  exact .inl ⟨rfl,wY,aF [true,true,true,true,true] rfl (hw.perm (L':=[pt J (.cells #[pp S 0,Nx (i.epoch),Nx (i.next),vs,vr,Nx (i.size),vd] 84),pt q6 (.cells #[pp J 0] 43),pt q1 (.cells #[pp S 0] 24),pt q4 (.cells #[Nx (i.epoch),Nx (i.next),vs,vr,Nx (i.size)] 36),aS S k]) (by exact(bN [1,2,3,4,0] 5 rfl (by kernel_rfl) (by kernel_rfl))))⟩
 refine .inr ⟨_,rfl,_,back _ _ hw',?_⟩
 refine aG ?_
 refine nS Try.results73 ?_
 intro w hw
 exact .inr ⟨rfl,wY,aF [true,true,true,true,true] rfl (hw.perm (L':=[pt J (.cells #[pp S 0,Nx (i.epoch),Nx (i.next),vs,vr,Nx (i.size),vd] 84),pt q6 (.cells #[pp J 0] 43),pt q1 (.cells #[pp S 0] 24),pt q4 (.cells #[Nx (i.epoch),Nx (i.next),vs,vr,Nx (i.size)] 36),aS S (aV k i.epoch i.size)]) (by exact(bN [1,2,3,4,0] 5 rfl (by kernel_rfl) (by kernel_rfl))))⟩
theorem aCa(β:Base)(w:World)(J S q2 q6 q3 sc e n:Nat)(sa:Option Addr)(k:KS)(i:KI)(vs vr vd ws wr_ wz:Value)(xs:Bs)(hl:xs.length≤sc)(hm:sc≤9223372036854775807)(hx:bO bE β.heap sa xs)(hk:k.fits 524288)(hb:xs.length≤65536)(hw:St β [pt J (.cells #[pp S 0,Nx (i.epoch),Nx (i.next),vs,vr,Nx (i.size),vd] 84),pt q2 (.cells #[pp J 0] 43),pt q6 (.cells #[Nx (e),Nx (n),ws,wr_,wz] 36),pt q3 (.cells #[sB sa xs (sc)] 30),aS S k] w):Calls Try.prog 55 #[pp q2 0,pp q6 0,pp q3 0] w fun r w'=>(r= .panicked xQ∧¬sU k e n xs∧St β [pt J (.cells #[pp S 0,Nx (i.epoch),Nx (i.next),vs,vr,Nx (i.size),vd] 84),pt q2 (.cells #[pp J 0] 43),pt q6 (.cells #[Nx (e),Nx (n),ws,wr_,wz] 36),pt q3 (.cells #[sB sa xs (sc)] 30),aS S (iE k e n xs)] w')∨(r= .returned (.tuple #[])∧sU k e n xs∧St β [pt J (.cells #[pp S 0,Nx (i.epoch),Nx (i.next),vs,vr,Nx (i.size),vd] 84),pt q2 (.cells #[pp J 0] 43),pt q6 (.cells #[Nx (e),Nx (n),ws,wr_,wz] 36),pt q3 (.cells #[sB sa xs (sc)] 30),aS S (iE k e n xs)] w'):=by
 refine enter (n:=63) Try.func55 rfl Try.ntmps55 rfl ?_ hw
 refine aO ?_
 rcases Nat.mod_two_eq_zero_or_one e with hpar|hpar
 ·refine eF (by kernel_rfl) (by kernel_rfl) ?_
  refine qE (gD 1) ?_
  refine qE eY ?_
  refine qE bM ?_
  refine qE (gD 0) ?_
  refine iL (v:= .agg #[pp S 1,pp S 2]) rfl rfl rfl (cY (vs:=[pp S 0]) aIj.ok rfl rfl) (fun w hw=> ?_) ?_
  ·obtain⟨β1,sb,kn,hw1,back⟩:=St.frame_all hw
   exact(jY β1 w hw1 S).mono (fun e w' ⟨he,hw'⟩=>⟨he,aF [true,true,true,true,true] rfl (back _ _ hw')⟩)
  refine qE bM ?_
  refine qE (eU 2) ?_
  refine eV (v:= .int .i64 (0)) rfl rfl rfl (fE (by rw[hpar];rfl) (gJ (a:=((e:Nat):Int)) (b:=(2:Int)) rfl rfl (by decide) (eC _ 2))) ?_
  refine eV (v:=pp S 1) rfl rfl rfl (iR (cs:= #[pp S 1,pp S 2]) (k:=0) rfl rfl xM.ok rfl (by decide) zN.ok) ?_
  refine qE nV ?_
  refine fW ?_
  refine qF ?_
  refine lE (gD 1) ?_
  refine lE eP ?_
  refine gC rfl rfl rfl (cY (vs:=[pp J 0,pp S 1,.int .i64 (0)]) aIk.ok rfl rfl) ?_
  intro w hw
  replace hw:=hw.perm (L':=_::_::_::_::_::[]) (by exact(((((aB 3 rfl).trans (aB 3 rfl)).trans (aB 3 rfl)).trans (aB 3 rfl)).trans (aB 4 rfl)))
  obtain⟨β1,sb,kn,hw1,back⟩:=St.frame (L:=[_]) (M:=_::_::_::_::[]) hw
  refine(yK β1 w e hpar J S (kn _ (dM 0 rfl rfl)) k (hk.le (by omega)) 0 hw1).mono ?_
  rintro e w' (⟨rfl,ok1,hw'⟩|⟨rfl,ok1,hw'⟩)
  ·refine .inl ⟨_,rfl,_,back _ _ hw',?_⟩
   refine dD ?_
   refine pE ?_
   intro w hw
   refine .inl ⟨rfl,fun h=>ok1 h.1,?_⟩
   rw[iE,if_neg (show ¬lZ k e from ok1)]
   exact aF [true,true,true,true,true] rfl (hw.perm (L':=[pt J (.cells #[pp S 0,Nx (i.epoch),Nx (i.next),vs,vr,Nx (i.size),vd] 84),pt q2 (.cells #[pp J 0] 43),pt q6 (.cells #[Nx (e),Nx (n),ws,wr_,wz] 36),pt q3 (.cells #[sB sa xs (sc)] 30),aS S k]) (by exact(bN [1,2,3,4,0] 5 rfl (by kernel_rfl) (by kernel_rfl))))
  refine .inr ⟨_,rfl,_,back _ _ hw',?_⟩
  refine aW ?_
  refine aO ?_
  have ok1:lZ k e:=ok1
  have hf1:(vC k e).fits 524288:=hk.cut
  refine lR (L':=[aS S (vC k e),pt J (.cells #[pp S 0,Nx (i.epoch),Nx (i.next),vs,vr,Nx (i.size),vd] 84),pt q2 (.cells #[pp J 0] 43),pt q6 (.cells #[Nx (e),Nx (n),ws,wr_,wz] 36),pt q3 (.cells #[sB sa xs (sc)] 30)]) (by rfl) ?_
  refine iQ 8 rfl rfl [⟨[],[],[0],[17],fun f=>f 17=pp J 0⟩,⟨[],[],[1],[18],fun f=>f 18=pp S 1⟩,⟨[],[],[2],[19],fun f=>f 19=pp q6 0⟩,⟨[2],[2],[],[20],fun f=>f 20=Nx (e)⟩,⟨[],[],[2],[21],fun f=>f 21=pp q6 1⟩,⟨[4],[4],[],[22],fun f=>f 22=Nx (n)⟩,⟨[],[],[3],[23],fun f=>f 23=sB sa xs (sc)⟩,⟨[2,3,4,5,6],[3,5,6],[],[24],fun f=>f 24=sB (aM (f 24)) (aD ((e:Nat):Int) ((n:Nat):Int) xs) (aN (f 24))⟩,⟨(List.range 8),[],[],[],fun _=>True⟩] [⟨none,none,[],[],fun _=>aS S (vC k e)⟩,⟨none,none,[],[],fun _=>pt J (.cells #[pp S 0,Nx (i.epoch),Nx (i.next),vs,vr,Nx (i.size),vd] 84)⟩,⟨none,none,[0],[],fun _=>pt q2 (.cells #[pp J 0] 43)⟩,⟨none,none,[3,5],[],fun _=>pt q6 (.cells #[Nx (e),Nx (n),ws,wr_,wz] 36)⟩,⟨none,none,[6],[],fun _=>pt q3 (.cells #[sB sa xs (sc)] 30)⟩,⟨(some 7),none,[],[24],fun f=>rB (aM (f 24)) (aD ((e:Nat):Int) ((n:Nat):Int) xs) (aN (f 24))⟩] [(0,pp q2 0),(3,pp S 1),(1,pp q6 0),(2,pp q3 0)] [0,2] [] (by kernel_rfl) (by kernel_rfl) (by kernel_rfl) (by kernel_rfl) (by kernel_rfl) (by kernel_rfl) rfl ⟨rfl,rfl,rfl,rfl,trivial⟩ ⟨?_,?_,?_,?_,?_,?_,?_,?_,trivial⟩ ?_
  ·rintro f M-⟨i0,-⟩
   exact bK (gD 0)
  ·rintro f M-⟨i0,-⟩
   exact bK eP
  ·rintro f M-⟨i0,-⟩
   exact bK bM
  ·rintro f M ⟨k0,-⟩-
   exact bK (eU 0)
  ·rintro f M-⟨i0,-⟩
   exact bK bM
  ·rintro f M ⟨k0,-⟩-
   exact bK (eU 0)
  ·rintro f M-⟨i0,-⟩
   exact bK (fA 0)
  ·rintro f M ⟨k0,k1,k2,-⟩-
   refine fF (aA (d:=23) (aA (d:=22) (aA (d:=20) rfl k0) k1) k2) ?_
   refine jH (cY (vs:=[Nx (e),Nx (n),sB sa xs (sc)]) aIl.ok rfl rfl) rfl fun w β1 sb kn hw1 back=>(tE β1 w hw1 ((e:Nat):Int) ((n:Nat):Int) xs _ (by omega) (Sl.mono _ _ _ _ _ sb (⟨⟨_,_,rfl,hl,hm,hx⟩⟩:Sl bE _ _ xs))).mono ?_
   rintro e w' ⟨p4,c5,rfl,hw'⟩
   refine⟨_,rfl,_,back _ _ hw',?_⟩
   refine aG ?_
   exact aI (aA (d:=23) (aA (d:=22) (aA (d:=20) rfl k0) k1) k2) rfl (aB 0 rfl)
  rintro fa6 ⟨k0,k1,-,-,-,-,-,k7,-⟩ ⟨j0,j1,-⟩
  refine lre ?_
  refine cU (d:=0) (v:=pp q2 0) j0 ?_
  refine cU (d:=1) (v:=pp q6 0) j1 ?_
  refine cU (d:=17) (v:=pp J 0) k0 ?_
  refine cU (d:=18) (v:=pp S 1) k1 ?_
  refine cU (d:=24) (v:=sB (aM (fa6 24)) (aD ((e:Nat):Int) ((n:Nat):Int) xs) (aN (fa6 24))) k7 ?_
  refine gC rfl rfl rfl (cY (vs:=[pp J 0,pp S 1,.int .i64 (0),sB (aM (fa6 24)) (aD ((e:Nat):Int) ((n:Nat):Int) xs) (aN (fa6 24))]) aDd.ok rfl rfl) ?_
  intro w hw
  obtain⟨β1,sb,kn,hw1,back⟩:=St.frame (L:=[_]) (M:=_::_::_::_::_::[]) hw
  have hfl:=aH (e:Int) (n:Int) xs
  refine(uY β1 w e hpar J S (kn _ (dM 0 rfl rfl)) (vC k e) (hf1.le (by omega)) 0 (by omega) (aD ((e:Nat):Int) ((n:Nat):Int) xs) _ (by omega) (kU kn 4 rfl) hw1).mono ?_
  rintro e w' (⟨rfl,ok7,hw'⟩|⟨rfl,ok7,hw'⟩)
  ·refine .inl ⟨_,rfl,_,back _ _ hw',?_⟩
   refine dD ?_
   refine pE ?_
   intro w hw
   refine .inl ⟨rfl,fun h=>ok7 h.2.1,?_⟩
   rw[iE,if_pos ok1,if_neg (show ¬pG k e n xs from ok7)]
   exact aF [true,true,true,true,true,false] rfl (hw.perm (L':=[pt J (.cells #[pp S 0,Nx (i.epoch),Nx (i.next),vs,vr,Nx (i.size),vd] 84),pt q2 (.cells #[pp J 0] 43),pt q6 (.cells #[Nx (e),Nx (n),ws,wr_,wz] 36),pt q3 (.cells #[sB sa xs (sc)] 30),aS S (cJ (vC k e) e 0 (aD ((e:Nat):Int) ((n:Nat):Int) xs)),rB (aM (fa6 24)) (aD ((e:Nat):Int) ((n:Nat):Int) xs) (aN (fa6 24))]) (by exact(bN [1,2,3,4,0,5] 6 rfl (by kernel_rfl) (by kernel_rfl))))
  refine .inr ⟨_,rfl,_,back _ _ hw',?_⟩
  refine aW ?_
  have ok2:pG k e n xs:=ok7
  have hf2:(nE k e n xs).fits 655360:=(hf1.wr).le (by rw[aH];omega)
  refine lR (L':=[aS S (nE k e n xs),pt J (.cells #[pp S 0,Nx (i.epoch),Nx (i.next),vs,vr,Nx (i.size),vd] 84),pt q2 (.cells #[pp J 0] 43),pt q6 (.cells #[Nx (e),Nx (n),ws,wr_,wz] 36),pt q3 (.cells #[sB sa xs (sc)] 30),rB (aM (fa6 24)) (aD ((e:Nat):Int) ((n:Nat):Int) xs) (aN (fa6 24))]) (by rfl) ?_
  refine hO (fun(f:Fm) (L:List cE)=>(f 0=pp q2 0∧f 1=pp q6 0)∧L=[aS S (lY k e n xs),pt J (.cells #[pp S 0,Nx (i.epoch),Nx (i.next),vs,vr,Nx (i.size),vd] 84),pt q2 (.cells #[pp J 0] 43),pt q6 (.cells #[Nx (e),Nx (n),ws,wr_,wz] 36),pt q3 (.cells #[sB sa xs (sc)] 30),rB (aM (fa6 24)) (aD ((e:Nat):Int) ((n:Nat):Int) xs) (aN (fa6 24))]) ?_ ?_
  ·refine aO ?_
   refine eG [0,1,2,3,4,5] 6 rfl (by kernel_rfl) ?_
   refine cI rfl (fun pH8 pA9 pB10 cH11 cA12 cB13=> ?_)
   refine aC ?_
   refine lE (gD 5) ?_
   refine lE eY ?_
   refine lE bM ?_
   refine lE (gD 4) ?_
   refine lE eY ?_
   refine lE bM ?_
   refine lE (fA 0) ?_
   refine lE fC ?_
   refine lE dR ?_
   refine aW ?_
   refine cK _ rfl (fun hc14=> ?_) (fun hc14=> ?_)
   ·refine rF [sv 35 (pp J 0) [] [] [0],sv 36 (pp J 0) [0] [0] [],sv 37 (pp J 0) [0,1] [1] [],sv 38 (pp S 0) [0,1,2] [2] [],⟨[],[],[],[39],fun f=>f 39=sB (some ⟨(bI (f 39)),0,none⟩) (List.replicate 32 (0:UInt8)) 32⟩,sv 40 (pp S 0) [0,1,2,3,4] [3] [],sv 41 (pp S 0) (List.range 6) [5] [],⟨(List.range 7),[6,4],[],[],fun _=>True⟩] [(some 7,[7]),u0,u0,u0,u1 [3],u1 [0]] [⟨(some 4),none,[],[39],fun f=>rB (some ⟨(bI (f 39)),0,none⟩) (List.replicate 32 (0:UInt8)) 32⟩,⟨(some 7),none,[],[39],fun f=>pt S (.cells #[sB (some ⟨(bI (f 39)),0,none⟩) (List.replicate 32 (0:UInt8)) 32,sB pA9 ((nE k e n xs).a) cA12,sB pB10 ((nE k e n xs).b) cB13,Ix ((nE k e n xs).power)] 32)⟩] [(0,pp q2 0),(1,pp q6 0)] [0,1] ⟨rfl,rfl,trivial⟩ ⟨?_,?_,?_,?_,?_,?_,?_,?_,trivial⟩ ?_
    ·rintro f M-⟨i0,-⟩
     exact bK (gD 0)
    ·rintro f M ⟨k0,-⟩-
     exact bK eY
    ·rintro f M ⟨k0,-⟩-
     exact bK bM
    ·rintro f M ⟨k0,-⟩-
     exact bK (gD 0)
    ·rintro f M- -
     refine fF rfl ?_
     refine cF rfl rfl rfl (oM (c:=32) bQ fV iG.ok rfl rfl (by omega) (by omega)) ?_
     rintro _ _ ⟨b16,rfl,rfl⟩
     refine aG ?_
     exact aI rfl rfl (aB 0 rfl)
    ·rintro f M ⟨k0,-⟩-
     exact bK eY
    ·rintro f M ⟨k0,-⟩-
     exact bK bM
    ·rintro f M ⟨k0,k1,-⟩-
     have hs39:f 39=sB (some ⟨(bI (f 39)),0,none⟩) (List.replicate 32 (0:UInt8)) 32:=k1
     refine fF (aA (aA (d:=41) rfl k0) hs39) ?_
     refine lu (mS 0 (#[sB (some ⟨(bI (f 39)),0,none⟩) (List.replicate 32 (0:UInt8)) 32,sB pA9 ((nE k e n xs).a) cA12,sB pB10 ((nE k e n xs).b) cB13,Ix ((nE k e n xs).power)])) ?_
     refine aG ?_
     exact cT (aA (aA (d:=41) rfl k0) hs39) trivial (aB 0 rfl)
    rintro fa17 ⟨-,-,-,-,-,-,-,-,-⟩ ⟨j0,j1,-⟩
    refine rL ?_
    refine aJ (d:=0) j0 ?_
    refine aJ (d:=1) j1 ?_
    refine qC [9,8,1,2,3,4,5,6,7,0] 10 rfl (by kernel_rfl) ?_
    refine kO (S:=S) (k:=(lY k e n xs)) (pH:=(some ⟨(bI (fa17 39)),0,none⟩)) (pA:=pA9) (pB:=pB10) (cH:=32) (cA:=cA12) (cB:=cB13) (M:=(pt J (.cells #[pp S 0,Nx (i.epoch),Nx (i.next),vs,vr,Nx (i.size),vd] 84)::pt q2 (.cells #[pp J 0] 43)::pt q6 (.cells #[Nx (e),Nx (n),ws,wr_,wz] 36)::pt q3 (.cells #[sB sa xs (sc)] 30)::rB (aM (fa6 24)) (aD ((e:Nat):Int) ((n:Nat):Int) xs) (aN (fa6 24))::rB pH8 ((nE k e n xs).head) cH11::[])) (by rw[show lY k e n xs={nE k e n xs with head:=List.replicate 32 0}from if_pos (by omega)];rfl) ?_
    refine dL [true,true,true,true,true,true,false] rfl ?_
    exact bT ⟨⟨rfl,rfl⟩,rfl⟩
   refine cM ?_
   refine qC [0,1,2,3,4,5,6,7,8] 9 rfl (by kernel_rfl) ?_
   refine kO (S:=S) (k:=(lY k e n xs)) (pH:=pH8) (pA:=pA9) (pB:=pB10) (cH:=cH11) (cA:=cA12) (cB:=cB13) (M:=(pt J (.cells #[pp S 0,Nx (i.epoch),Nx (i.next),vs,vr,Nx (i.size),vd] 84)::pt q2 (.cells #[pp J 0] 43)::pt q6 (.cells #[Nx (e),Nx (n),ws,wr_,wz] 36)::pt q3 (.cells #[sB sa xs (sc)] 30)::rB (aM (fa6 24)) (aD ((e:Nat):Int) ((n:Nat):Int) xs) (aN (fa6 24))::[])) (by rw[show lY k e n xs=nE k e n xs from if_neg (by omega)];rfl) ?_
   exact bT ⟨⟨rfl,rfl⟩,rfl⟩
  rintro f0 L0 ⟨⟨hs0,hs1⟩,hL⟩
  subst L0
  refine dG 0 hs0 ?_
  refine dG 1 hs1 ?_
  have hf3:(lY k e n xs).fits 655360:=by unfold lY;simp only;split;exact rK hf2 (by simp);exact hf2
  have hcl:(be 8 (U ((e:Nat):Int))++be 8 (bF ((e:Nat):Int))).length=16:=by simp[aL]
  refine aO ?_
  refine rF [sv 42 (pp q6 0) [] [] [0],sv 43 (Nx (e)) [0] [0] [],sv 44 (Ux (U ((e:Nat):Int))) [0,1] [1] [],⟨[0,1,2],[2],[],[45],fun f=>f 45=sB (aM (f 45)) (be 8 (U ((e:Nat):Int))) (aN (f 45))⟩,sv 46 (pp q6 0) [] [] [0],sv 47 (Nx (e)) [4] [4] [],sv 48 (Ux (bF ((e:Nat):Int))) (List.range 6) [5] [],⟨(List.range 7),[3,6],[],[49],fun f=>f 49=sB (aM (f 49)) ((be 8 (U ((e:Nat):Int)))++be 8 (bF ((e:Nat):Int))) (aN (f 49))⟩,⟨(List.range 8),[7],[],[4,49],fun f=>f 4=sB (aM (f 49)) ((be 8 (U ((e:Nat):Int)))++be 8 (bF ((e:Nat):Int))) (aN (f 49))⟩] [u0,u0,u0,u1 [1,5]] [⟨(some 3),(some 7),[7],[45],fun f=>rB (aM (f 45)) (be 8 (U ((e:Nat):Int))) (aN (f 45))⟩,⟨(some 7),none,[],[49],fun f=>rB (aM (f 49)) ((be 8 (U ((e:Nat):Int)))++be 8 (bF ((e:Nat):Int))) (aN (f 49))⟩] [(1,pp q6 0),(0,pp q2 0)] [1,0] ⟨rfl,rfl,trivial⟩ ⟨?_,?_,?_,?_,?_,?_,?_,?_,?_,trivial⟩ ?_
  ·rintro f M-⟨i0,-⟩
   exact bK bM
  ·rintro f M ⟨k0,-⟩-
   exact bK (eU 0)
  ·rintro f M ⟨k0,-⟩-
   exact nA (aA (d:=43) rfl k0) rfl (cZ (a:=((e:Nat):Int)) rfl ⟨_,oD⟩ mN (jM _)) (.refl _)
  ·rintro f M ⟨k0,-⟩-
   refine fF (aA (d:=44) rfl k0) ?_
   refine jH (cY (vs:=[.slice none 0 0,Ux (U ((e:Nat):Int)),.int .i64 (8)]) zM.ok rfl rfl) rfl fun w β1 sb kn hw1 back=>(mP β1 w hw1 (U ((e:Nat):Int)) 8 (by decide)).mono ?_
   rintro e w' ⟨p20,c21,rfl,hw'⟩
   refine⟨_,rfl,_,back _ _ hw',?_⟩
   refine aG ?_
   exact aI (aA (d:=44) rfl k0) rfl (aB 0 rfl)
  ·rintro f M-⟨i0,-⟩
   exact bK bM
  ·rintro f M ⟨k0,-⟩-
   exact bK (eU 0)
  ·rintro f M ⟨k0,-⟩-
   refine fF (aA (d:=47) rfl k0) ?_
   refine gW gU (fun w β1 sb kn hw1=>xN β1 w hw1 ((e:Nat):Int)) ?_
   refine aG ?_
   exact aI (aA (d:=47) rfl k0) rfl (List.Perm.refl _)
  ·rintro f M ⟨k0,k1,-⟩-
   have hs45:f 45=sB (aM (f 45)) (be 8 (U ((e:Nat):Int))) (aN (f 45)):=k0
   refine fF (aA (d:=48) (aA rfl hs45) k1) ?_
   refine bP rfl rfl rfl (cY (vs:=[sB (aM (f 45)) (be 8 (U ((e:Nat):Int))) (aN (f 45)),Ux (bF ((e:Nat):Int)),.int .i64 (8)]) zM.ok rfl rfl) ?_
   intro w hw
   obtain⟨β1,sb,kn,hw1,back⟩:=St.frame (L:=[_]) (M:=M) hw
   refine(iO β1 w _ _ (be 8 (U ((e:Nat):Int))) (bF ((e:Nat):Int)) 8 (by decide) (by simp only[List.length_append,aL];omega) hw1).mono ?_
   rintro e w' ⟨p24,c25,rfl,hw'⟩
   refine⟨_,rfl,_,back _ _ hw',?_⟩
   refine aG ?_
   exact aI (aA (d:=48) (aA rfl hs45) k1) rfl (aB 0 rfl)
  ·rintro f M ⟨k0,-⟩-
   have hs49:f 49=sB (aM (f 49)) ((be 8 (U ((e:Nat):Int)))++be 8 (bF ((e:Nat):Int))) (aN (f 49)):=k0
   exact bK fR
  rintro fa26 ⟨-,-,-,-,-,-,-,-,k8,-⟩ ⟨j0,j1,-⟩
  refine rL ?_
  refine aJ (d:=0) j0 ?_
  refine aJ (d:=1) j1 ?_
  refine aJ (d:=4) k8 ?_
  refine aQ ?_
  refine iQ 12 rfl rfl [⟨[],[],[0],[50],fun f=>f 50=pp J 0⟩,⟨[],[],[0],[51],fun f=>f 51=pp J 0⟩,⟨[1],[1],[],[52],fun f=>f 52=pp J 0⟩,⟨[1,2],[2],[],[53],fun f=>f 53=pp J 0⟩,⟨[1,2,3],[3],[],[54],fun f=>f 54=pp S 0⟩,⟨[1,2,3,4],[4],[],[55],fun f=>f 55=pp S 0⟩,⟨[1,2,3,4,5],[5],[],[56],fun f=>f 56=pp S 0⟩,⟨[],[],[1],[57],fun f=>f 57=pp q6 0⟩,⟨[7],[7],[],[58],fun f=>f 58=Nx (e)⟩,⟨[7,8],[8],[],[59],fun f=>f 59= .int .i64 (0)⟩,⟨[7,8,9],[9],[],[60],fun f=>f 60= .int .i64 (0)⟩,⟨[],[],[2],[61],fun f=>f 61=sB (aM (fa26 49)) ((be 8 (U ((e:Nat):Int)))++be 8 (bF ((e:Nat):Int))) (aN (fa26 49))⟩,⟨(List.range 12),[],[],[],fun _=>True⟩] [⟨none,none,[],[],fun _=>aS S (lY k e n xs)⟩,⟨none,none,[4],[],fun _=>pt J (.cells #[pp S 0,Nx (i.epoch),Nx (i.next),vs,vr,Nx (i.size),vd] 84)⟩,⟨none,none,[0,1],[],fun _=>pt q2 (.cells #[pp J 0] 43)⟩,⟨none,none,[8],[],fun _=>pt q6 (.cells #[Nx (e),Nx (n),ws,wr_,wz] 36)⟩,⟨none,none,[],[],fun _=>pt q3 (.cells #[sB sa xs (sc)] 30)⟩,⟨none,none,[],[],fun _=>rB (aM (fa6 24)) (aD ((e:Nat):Int) ((n:Nat):Int) xs) (aN (fa6 24))⟩,⟨none,none,[],[],fun _=>rB (aM (fa26 49)) ((be 8 (U ((e:Nat):Int)))++be 8 (bF ((e:Nat):Int))) (aN (fa26 49))⟩] [(0,pp q2 0),(1,pp q6 0),(4,sB (aM (fa26 49)) ((be 8 (U ((e:Nat):Int)))++be 8 (bF ((e:Nat):Int))) (aN (fa26 49)))] [] [] (by kernel_rfl) (by kernel_rfl) (by kernel_rfl) (by kernel_rfl) (by kernel_rfl) (by kernel_rfl) rfl ⟨rfl,rfl,rfl,trivial⟩ ⟨?_,?_,?_,?_,?_,?_,?_,?_,?_,?_,?_,?_,trivial⟩ ?_
  ·rintro f M-⟨i0,-⟩
   exact bK (gD 0)
  ·rintro f M-⟨i0,-⟩
   exact bK (gD 0)
  ·rintro f M ⟨k0,-⟩-
   exact bK eY
  ·rintro f M ⟨k0,-⟩-
   exact bK bM
  ·rintro f M ⟨k0,-⟩-
   exact bK (gD 0)
  ·rintro f M ⟨k0,-⟩-
   exact bK eY
  ·rintro f M ⟨k0,-⟩-
   exact bK bM
  ·rintro f M-⟨i0,-⟩
   exact bK bM
  ·rintro f M ⟨k0,-⟩-
   exact bK (eU 0)
  ·rintro f M ⟨k0,-⟩-
   exact nA (aA (d:=58) rfl k0) rfl (fE (by rw[hpar];rfl) (gJ (a:=((e:Nat):Int)) (b:=(2:Int)) rfl rfl (by decide) (eC _ 2))) (.refl _)
  ·rintro f M ⟨k0,-⟩-
   exact nA (aA (d:=59) rfl k0) rfl (iC (a:=(0:Int)) (b:=(16:Int)) rfl rfl (by decide)) (.refl _)
  ·rintro f M-⟨i0,-⟩
   exact bK cX
  rintro fa27 ⟨k0,-,-,-,-,-,k6,-,-,-,k10,k11,-⟩-
  refine lre ?_
  refine cU (d:=50) (v:=pp J 0) k0 ?_
  refine cU (d:=56) (v:=pp S 0) k6 ?_
  refine cU (d:=60) (v:= .int .i64 (0)) k10 ?_
  refine cU (d:=61) (v:=sB (aM (fa26 49)) ((be 8 (U ((e:Nat):Int)))++be 8 (bF ((e:Nat):Int))) (aN (fa26 49))) k11 ?_
  refine gC rfl rfl rfl (cY (vs:=[pp J 0,pp S 0,.int .i64 (0),sB (aM (fa26 49)) ((be 8 (U ((e:Nat):Int)))++be 8 (bF ((e:Nat):Int))) (aN (fa26 49))]) aDd.ok rfl rfl) ?_
  intro w hw
  obtain⟨β1,sb,kn,hw1,back⟩:=St.frame (L:=[_]) (M:=_::_::_::_::_::_::[]) hw
  refine(wG β1 w J S (kn _ (dM 0 rfl rfl)) (lY k e n xs) (hf3.le (by omega)) 0 (by omega) ((be 8 (U ((e:Nat):Int)))++be 8 (bF ((e:Nat):Int))) _ (by omega) (kU kn 5 rfl) hw1).mono ?_
  rintro e w' (⟨rfl,ok28,hw'⟩|⟨rfl,ok28,hw'⟩)
  ·refine .inl ⟨_,rfl,_,back _ _ hw',?_⟩
   refine pE ?_
   intro w hw
   refine .inl ⟨rfl,fun h=>ok28 h.2.2,?_⟩
   rw[iE,if_pos ok1,if_pos ok2,ck4,show e%2*16=0 by omega]
   exact aF [true,true,true,true,true,false,false] rfl (hw.perm (L':=[pt J (.cells #[pp S 0,Nx (i.epoch),Nx (i.next),vs,vr,Nx (i.size),vd] 84),pt q2 (.cells #[pp J 0] 43),pt q6 (.cells #[Nx (e),Nx (n),ws,wr_,wz] 36),pt q3 (.cells #[sB sa xs (sc)] 30),aS S (iV (lY k e n xs) 0 ((be 8 (U ((e:Nat):Int)))++be 8 (bF ((e:Nat):Int)))),rB (aM (fa6 24)) (aD ((e:Nat):Int) ((n:Nat):Int) xs) (aN (fa6 24)),rB (aM (fa26 49)) ((be 8 (U ((e:Nat):Int)))++be 8 (bF ((e:Nat):Int))) (aN (fa26 49))]) (by exact(bN [1,2,3,4,0,5,6] 7 rfl (by kernel_rfl) (by kernel_rfl))))
  refine .inr ⟨_,rfl,_,back _ _ hw',?_⟩
  refine aG ?_
  refine nS Try.results55 ?_
  intro w hw
  refine .inr ⟨rfl,⟨ok1,ok2,ok28⟩,?_⟩
  rw[iE,if_pos ok1,if_pos ok2,ck4,show e%2*16=0 by omega]
  exact aF [true,true,true,true,true,false,false] rfl (hw.perm (L':=[pt J (.cells #[pp S 0,Nx (i.epoch),Nx (i.next),vs,vr,Nx (i.size),vd] 84),pt q2 (.cells #[pp J 0] 43),pt q6 (.cells #[Nx (e),Nx (n),ws,wr_,wz] 36),pt q3 (.cells #[sB sa xs (sc)] 30),aS S (iV (lY k e n xs) 0 ((be 8 (U ((e:Nat):Int)))++be 8 (bF ((e:Nat):Int)))),rB (aM (fa6 24)) (aD ((e:Nat):Int) ((n:Nat):Int) xs) (aN (fa6 24)),rB (aM (fa26 49)) ((be 8 (U ((e:Nat):Int)))++be 8 (bF ((e:Nat):Int))) (aN (fa26 49))]) (by exact(bN [1,2,3,4,0,5,6] 7 rfl (by kernel_rfl) (by kernel_rfl))))
 refine eF (by kernel_rfl) (by kernel_rfl) ?_
 refine qE (gD 1) ?_
 refine qE eY ?_
 refine qE bM ?_
 refine qE (gD 0) ?_
 refine iL (v:= .agg #[pp S 1,pp S 2]) rfl rfl rfl (cY (vs:=[pp S 0]) aIj.ok rfl rfl) (fun w hw=> ?_) ?_
 ·obtain⟨β1,sb,kn,hw1,back⟩:=St.frame_all hw
  exact(jY β1 w hw1 S).mono (fun e w' ⟨he,hw'⟩=>⟨he,aF [true,true,true,true,true] rfl (back _ _ hw')⟩)
 refine qE bM ?_
 refine qE (eU 2) ?_
 refine eV (v:= .int .i64 (1)) rfl rfl rfl (fE (by rw[hpar];rfl) (gJ (a:=((e:Nat):Int)) (b:=(2:Int)) rfl rfl (by decide) (eC _ 2))) ?_
 refine eV (v:=pp S 2) rfl rfl rfl (iR (cs:= #[pp S 1,pp S 2]) (k:=1) rfl rfl xM.ok rfl (by decide) zN.ok) ?_
 refine qE nV ?_
 refine fW ?_
 refine qF ?_
 refine lE (gD 1) ?_
 refine lE eP ?_
 refine gC rfl rfl rfl (cY (vs:=[pp J 0,pp S 2,.int .i64 (0)]) aIk.ok rfl rfl) ?_
 intro w hw
 replace hw:=hw.perm (L':=_::_::_::_::_::[]) (by exact(((((aB 3 rfl).trans (aB 3 rfl)).trans (aB 3 rfl)).trans (aB 3 rfl)).trans (aB 4 rfl)))
 obtain⟨β1,sb,kn,hw1,back⟩:=St.frame (L:=[_]) (M:=_::_::_::_::[]) hw
 refine(yL β1 w e hpar J S (kn _ (dM 0 rfl rfl)) k (hk.le (by omega)) 0 hw1).mono ?_
 rintro e w' (⟨rfl,ok29,hw'⟩|⟨rfl,ok29,hw'⟩)
 ·refine .inl ⟨_,rfl,_,back _ _ hw',?_⟩
  refine dD ?_
  refine pE ?_
  intro w hw
  refine .inl ⟨rfl,fun h=>ok29 h.1,?_⟩
  rw[iE,if_neg (show ¬lZ k e from ok29)]
  exact aF [true,true,true,true,true] rfl (hw.perm (L':=[pt J (.cells #[pp S 0,Nx (i.epoch),Nx (i.next),vs,vr,Nx (i.size),vd] 84),pt q2 (.cells #[pp J 0] 43),pt q6 (.cells #[Nx (e),Nx (n),ws,wr_,wz] 36),pt q3 (.cells #[sB sa xs (sc)] 30),aS S k]) (by exact(bN [1,2,3,4,0] 5 rfl (by kernel_rfl) (by kernel_rfl))))
 refine .inr ⟨_,rfl,_,back _ _ hw',?_⟩
 refine aW ?_
 refine aO ?_
 have ok1:lZ k e:=ok29
 have hf1:(vC k e).fits 524288:=hk.cut
 refine lR (L':=[aS S (vC k e),pt J (.cells #[pp S 0,Nx (i.epoch),Nx (i.next),vs,vr,Nx (i.size),vd] 84),pt q2 (.cells #[pp J 0] 43),pt q6 (.cells #[Nx (e),Nx (n),ws,wr_,wz] 36),pt q3 (.cells #[sB sa xs (sc)] 30)]) (by rfl) ?_
 refine iQ 8 rfl rfl [⟨[],[],[0],[17],fun f=>f 17=pp J 0⟩,⟨[],[],[1],[18],fun f=>f 18=pp S 2⟩,⟨[],[],[2],[19],fun f=>f 19=pp q6 0⟩,⟨[2],[2],[],[20],fun f=>f 20=Nx (e)⟩,⟨[],[],[2],[21],fun f=>f 21=pp q6 1⟩,⟨[4],[4],[],[22],fun f=>f 22=Nx (n)⟩,⟨[],[],[3],[23],fun f=>f 23=sB sa xs (sc)⟩,⟨[2,3,4,5,6],[3,5,6],[],[24],fun f=>f 24=sB (aM (f 24)) (aD ((e:Nat):Int) ((n:Nat):Int) xs) (aN (f 24))⟩,⟨(List.range 8),[],[],[],fun _=>True⟩] [⟨none,none,[],[],fun _=>aS S (vC k e)⟩,⟨none,none,[],[],fun _=>pt J (.cells #[pp S 0,Nx (i.epoch),Nx (i.next),vs,vr,Nx (i.size),vd] 84)⟩,⟨none,none,[0],[],fun _=>pt q2 (.cells #[pp J 0] 43)⟩,⟨none,none,[3,5],[],fun _=>pt q6 (.cells #[Nx (e),Nx (n),ws,wr_,wz] 36)⟩,⟨none,none,[6],[],fun _=>pt q3 (.cells #[sB sa xs (sc)] 30)⟩,⟨(some 7),none,[],[24],fun f=>rB (aM (f 24)) (aD ((e:Nat):Int) ((n:Nat):Int) xs) (aN (f 24))⟩] [(0,pp q2 0),(3,pp S 2),(1,pp q6 0),(2,pp q3 0)] [0,2] [] (by kernel_rfl) (by kernel_rfl) (by kernel_rfl) (by kernel_rfl) (by kernel_rfl) (by kernel_rfl) rfl ⟨rfl,rfl,rfl,rfl,trivial⟩ ⟨?_,?_,?_,?_,?_,?_,?_,?_,trivial⟩ ?_
 ·rintro f M-⟨i0,-⟩
  exact bK (gD 0)
 ·rintro f M-⟨i0,-⟩
  exact bK eP
 ·rintro f M-⟨i0,-⟩
  exact bK bM
 ·rintro f M ⟨k0,-⟩-
  exact bK (eU 0)
 ·rintro f M-⟨i0,-⟩
  exact bK bM
 ·rintro f M ⟨k0,-⟩-
  exact bK (eU 0)
 ·rintro f M-⟨i0,-⟩
  exact bK (fA 0)
 ·rintro f M ⟨k0,k1,k2,-⟩-
  refine fF (aA (d:=23) (aA (d:=22) (aA (d:=20) rfl k0) k1) k2) ?_
  refine jH (cY (vs:=[Nx (e),Nx (n),sB sa xs (sc)]) aIl.ok rfl rfl) rfl fun w β1 sb kn hw1 back=>(tE β1 w hw1 ((e:Nat):Int) ((n:Nat):Int) xs _ (by omega) (Sl.mono _ _ _ _ _ sb (⟨⟨_,_,rfl,hl,hm,hx⟩⟩:Sl bE _ _ xs))).mono ?_
  rintro e w' ⟨p32,c33,rfl,hw'⟩
  refine⟨_,rfl,_,back _ _ hw',?_⟩
  refine aG ?_
  exact aI (aA (d:=23) (aA (d:=22) (aA (d:=20) rfl k0) k1) k2) rfl (aB 0 rfl)
 rintro fa34 ⟨k0,k1,-,-,-,-,-,k7,-⟩ ⟨j0,j1,-⟩
 refine lre ?_
 refine cU (d:=0) (v:=pp q2 0) j0 ?_
 refine cU (d:=1) (v:=pp q6 0) j1 ?_
 refine cU (d:=17) (v:=pp J 0) k0 ?_
 refine cU (d:=18) (v:=pp S 2) k1 ?_
 refine cU (d:=24) (v:=sB (aM (fa34 24)) (aD ((e:Nat):Int) ((n:Nat):Int) xs) (aN (fa34 24))) k7 ?_
 refine gC rfl rfl rfl (cY (vs:=[pp J 0,pp S 2,.int .i64 (0),sB (aM (fa34 24)) (aD ((e:Nat):Int) ((n:Nat):Int) xs) (aN (fa34 24))]) aDd.ok rfl rfl) ?_
 intro w hw
 obtain⟨β1,sb,kn,hw1,back⟩:=St.frame (L:=[_]) (M:=_::_::_::_::_::[]) hw
 have hfl:=aH (e:Int) (n:Int) xs
 refine(uZ β1 w e hpar J S (kn _ (dM 0 rfl rfl)) (vC k e) (hf1.le (by omega)) 0 (by omega) (aD ((e:Nat):Int) ((n:Nat):Int) xs) _ (by omega) (kU kn 4 rfl) hw1).mono ?_
 rintro e w' (⟨rfl,ok35,hw'⟩|⟨rfl,ok35,hw'⟩)
 ·refine .inl ⟨_,rfl,_,back _ _ hw',?_⟩
  refine dD ?_
  refine pE ?_
  intro w hw
  refine .inl ⟨rfl,fun h=>ok35 h.2.1,?_⟩
  rw[iE,if_pos ok1,if_neg (show ¬pG k e n xs from ok35)]
  exact aF [true,true,true,true,true,false] rfl (hw.perm (L':=[pt J (.cells #[pp S 0,Nx (i.epoch),Nx (i.next),vs,vr,Nx (i.size),vd] 84),pt q2 (.cells #[pp J 0] 43),pt q6 (.cells #[Nx (e),Nx (n),ws,wr_,wz] 36),pt q3 (.cells #[sB sa xs (sc)] 30),aS S (cJ (vC k e) e 0 (aD ((e:Nat):Int) ((n:Nat):Int) xs)),rB (aM (fa34 24)) (aD ((e:Nat):Int) ((n:Nat):Int) xs) (aN (fa34 24))]) (by exact(bN [1,2,3,4,0,5] 6 rfl (by kernel_rfl) (by kernel_rfl))))
 refine .inr ⟨_,rfl,_,back _ _ hw',?_⟩
 refine aW ?_
 have ok2:pG k e n xs:=ok35
 have hf2:(nE k e n xs).fits 655360:=(hf1.wr).le (by rw[aH];omega)
 refine lR (L':=[aS S (nE k e n xs),pt J (.cells #[pp S 0,Nx (i.epoch),Nx (i.next),vs,vr,Nx (i.size),vd] 84),pt q2 (.cells #[pp J 0] 43),pt q6 (.cells #[Nx (e),Nx (n),ws,wr_,wz] 36),pt q3 (.cells #[sB sa xs (sc)] 30),rB (aM (fa34 24)) (aD ((e:Nat):Int) ((n:Nat):Int) xs) (aN (fa34 24))]) (by rfl) ?_
 refine hO (fun(f:Fm) (L:List cE)=>(f 0=pp q2 0∧f 1=pp q6 0)∧L=[aS S (lY k e n xs),pt J (.cells #[pp S 0,Nx (i.epoch),Nx (i.next),vs,vr,Nx (i.size),vd] 84),pt q2 (.cells #[pp J 0] 43),pt q6 (.cells #[Nx (e),Nx (n),ws,wr_,wz] 36),pt q3 (.cells #[sB sa xs (sc)] 30),rB (aM (fa34 24)) (aD ((e:Nat):Int) ((n:Nat):Int) xs) (aN (fa34 24))]) ?_ ?_
 ·refine aO ?_
  refine eG [0,1,2,3,4,5] 6 rfl (by kernel_rfl) ?_
  refine cI rfl (fun pH36 pA37 pB38 cH39 cA40 cB41=> ?_)
  refine aC ?_
  refine lE (gD 5) ?_
  refine lE eY ?_
  refine lE bM ?_
  refine lE (gD 4) ?_
  refine lE eY ?_
  refine lE bM ?_
  refine lE (fA 0) ?_
  refine lE fC ?_
  refine lE dR ?_
  refine aW ?_
  refine cK _ rfl (fun hc42=> ?_) (fun hc42=> ?_)
  ·refine rF [sv 35 (pp J 0) [] [] [0],sv 36 (pp J 0) [0] [0] [],sv 37 (pp J 0) [0,1] [1] [],sv 38 (pp S 0) [0,1,2] [2] [],⟨[],[],[],[39],fun f=>f 39=sB (some ⟨(bI (f 39)),0,none⟩) (List.replicate 32 (0:UInt8)) 32⟩,sv 40 (pp S 0) [0,1,2,3,4] [3] [],sv 41 (pp S 0) (List.range 6) [5] [],⟨(List.range 7),[6,4],[],[],fun _=>True⟩] [(some 7,[7]),u0,u0,u0,u1 [3],u1 [0]] [⟨(some 4),none,[],[39],fun f=>rB (some ⟨(bI (f 39)),0,none⟩) (List.replicate 32 (0:UInt8)) 32⟩,⟨(some 7),none,[],[39],fun f=>pt S (.cells #[sB (some ⟨(bI (f 39)),0,none⟩) (List.replicate 32 (0:UInt8)) 32,sB pA37 ((nE k e n xs).a) cA40,sB pB38 ((nE k e n xs).b) cB41,Ix ((nE k e n xs).power)] 32)⟩] [(0,pp q2 0),(1,pp q6 0)] [0,1] ⟨rfl,rfl,trivial⟩ ⟨?_,?_,?_,?_,?_,?_,?_,?_,trivial⟩ ?_
   ·rintro f M-⟨i0,-⟩
    exact bK (gD 0)
   ·rintro f M ⟨k0,-⟩-
    exact bK eY
   ·rintro f M ⟨k0,-⟩-
    exact bK bM
   ·rintro f M ⟨k0,-⟩-
    exact bK (gD 0)
   ·rintro f M- -
    refine fF rfl ?_
    refine cF rfl rfl rfl (oM (c:=32) bQ fV iG.ok rfl rfl (by omega) (by omega)) ?_
    rintro _ _ ⟨b44,rfl,rfl⟩
    refine aG ?_
    exact aI rfl rfl (aB 0 rfl)
   ·rintro f M ⟨k0,-⟩-
    exact bK eY
   ·rintro f M ⟨k0,-⟩-
    exact bK bM
   ·rintro f M ⟨k0,k1,-⟩-
    have hs39:f 39=sB (some ⟨(bI (f 39)),0,none⟩) (List.replicate 32 (0:UInt8)) 32:=k1
    refine fF (aA (aA (d:=41) rfl k0) hs39) ?_
    refine lu (mS 0 (#[sB (some ⟨(bI (f 39)),0,none⟩) (List.replicate 32 (0:UInt8)) 32,sB pA37 ((nE k e n xs).a) cA40,sB pB38 ((nE k e n xs).b) cB41,Ix ((nE k e n xs).power)])) ?_
    refine aG ?_
    exact cT (aA (aA (d:=41) rfl k0) hs39) trivial (aB 0 rfl)
   rintro fa45 ⟨-,-,-,-,-,-,-,-,-⟩ ⟨j0,j1,-⟩
   refine rL ?_
   refine aJ (d:=0) j0 ?_
   refine aJ (d:=1) j1 ?_
   refine qC [9,8,1,2,3,4,5,6,7,0] 10 rfl (by kernel_rfl) ?_
   refine kO (S:=S) (k:=(lY k e n xs)) (pH:=(some ⟨(bI (fa45 39)),0,none⟩)) (pA:=pA37) (pB:=pB38) (cH:=32) (cA:=cA40) (cB:=cB41) (M:=(pt J (.cells #[pp S 0,Nx (i.epoch),Nx (i.next),vs,vr,Nx (i.size),vd] 84)::pt q2 (.cells #[pp J 0] 43)::pt q6 (.cells #[Nx (e),Nx (n),ws,wr_,wz] 36)::pt q3 (.cells #[sB sa xs (sc)] 30)::rB (aM (fa34 24)) (aD ((e:Nat):Int) ((n:Nat):Int) xs) (aN (fa34 24))::rB pH36 ((nE k e n xs).head) cH39::[])) (by rw[show lY k e n xs={nE k e n xs with head:=List.replicate 32 0}from if_pos (by omega)];rfl) ?_
   refine dL [true,true,true,true,true,true,false] rfl ?_
   exact bT ⟨⟨rfl,rfl⟩,rfl⟩
  refine cM ?_
  refine qC [0,1,2,3,4,5,6,7,8] 9 rfl (by kernel_rfl) ?_
  refine kO (S:=S) (k:=(lY k e n xs)) (pH:=pH36) (pA:=pA37) (pB:=pB38) (cH:=cH39) (cA:=cA40) (cB:=cB41) (M:=(pt J (.cells #[pp S 0,Nx (i.epoch),Nx (i.next),vs,vr,Nx (i.size),vd] 84)::pt q2 (.cells #[pp J 0] 43)::pt q6 (.cells #[Nx (e),Nx (n),ws,wr_,wz] 36)::pt q3 (.cells #[sB sa xs (sc)] 30)::rB (aM (fa34 24)) (aD ((e:Nat):Int) ((n:Nat):Int) xs) (aN (fa34 24))::[])) (by rw[show lY k e n xs=nE k e n xs from if_neg (by omega)];rfl) ?_
  exact bT ⟨⟨rfl,rfl⟩,rfl⟩
 rintro f0 L0 ⟨⟨hs0,hs1⟩,hL⟩
 subst L0
 refine dG 0 hs0 ?_
 refine dG 1 hs1 ?_
 have hf3:(lY k e n xs).fits 655360:=by unfold lY;simp only;split;exact rK hf2 (by simp);exact hf2
 have hcl:(be 8 (U ((e:Nat):Int))++be 8 (bF ((e:Nat):Int))).length=16:=by simp[aL]
 refine aO ?_
 refine rF [sv 42 (pp q6 0) [] [] [0],sv 43 (Nx (e)) [0] [0] [],sv 44 (Ux (U ((e:Nat):Int))) [0,1] [1] [],⟨[0,1,2],[2],[],[45],fun f=>f 45=sB (aM (f 45)) (be 8 (U ((e:Nat):Int))) (aN (f 45))⟩,sv 46 (pp q6 0) [] [] [0],sv 47 (Nx (e)) [4] [4] [],sv 48 (Ux (bF ((e:Nat):Int))) (List.range 6) [5] [],⟨(List.range 7),[3,6],[],[49],fun f=>f 49=sB (aM (f 49)) ((be 8 (U ((e:Nat):Int)))++be 8 (bF ((e:Nat):Int))) (aN (f 49))⟩,⟨(List.range 8),[7],[],[4,49],fun f=>f 4=sB (aM (f 49)) ((be 8 (U ((e:Nat):Int)))++be 8 (bF ((e:Nat):Int))) (aN (f 49))⟩] [u0,u0,u0,u1 [1,5]] [⟨(some 3),(some 7),[7],[45],fun f=>rB (aM (f 45)) (be 8 (U ((e:Nat):Int))) (aN (f 45))⟩,⟨(some 7),none,[],[49],fun f=>rB (aM (f 49)) ((be 8 (U ((e:Nat):Int)))++be 8 (bF ((e:Nat):Int))) (aN (f 49))⟩] [(1,pp q6 0),(0,pp q2 0)] [1,0] ⟨rfl,rfl,trivial⟩ ⟨?_,?_,?_,?_,?_,?_,?_,?_,?_,trivial⟩ ?_
 ·rintro f M-⟨i0,-⟩
  exact bK bM
 ·rintro f M ⟨k0,-⟩-
  exact bK (eU 0)
 ·rintro f M ⟨k0,-⟩-
  exact nA (aA (d:=43) rfl k0) rfl (cZ (a:=((e:Nat):Int)) rfl ⟨_,oD⟩ mN (jM _)) (.refl _)
 ·rintro f M ⟨k0,-⟩-
  refine fF (aA (d:=44) rfl k0) ?_
  refine jH (cY (vs:=[.slice none 0 0,Ux (U ((e:Nat):Int)),.int .i64 (8)]) zM.ok rfl rfl) rfl fun w β1 sb kn hw1 back=>(mP β1 w hw1 (U ((e:Nat):Int)) 8 (by decide)).mono ?_
  rintro e w' ⟨p48,c49,rfl,hw'⟩
  refine⟨_,rfl,_,back _ _ hw',?_⟩
  refine aG ?_
  exact aI (aA (d:=44) rfl k0) rfl (aB 0 rfl)
 ·rintro f M-⟨i0,-⟩
  exact bK bM
 ·rintro f M ⟨k0,-⟩-
  exact bK (eU 0)
 ·rintro f M ⟨k0,-⟩-
  refine fF (aA (d:=47) rfl k0) ?_
  refine gW gU (fun w β1 sb kn hw1=>xN β1 w hw1 ((e:Nat):Int)) ?_
  refine aG ?_
  exact aI (aA (d:=47) rfl k0) rfl (List.Perm.refl _)
 ·rintro f M ⟨k0,k1,-⟩-
  have hs45:f 45=sB (aM (f 45)) (be 8 (U ((e:Nat):Int))) (aN (f 45)):=k0
  refine fF (aA (d:=48) (aA rfl hs45) k1) ?_
  refine bP rfl rfl rfl (cY (vs:=[sB (aM (f 45)) (be 8 (U ((e:Nat):Int))) (aN (f 45)),Ux (bF ((e:Nat):Int)),.int .i64 (8)]) zM.ok rfl rfl) ?_
  intro w hw
  obtain⟨β1,sb,kn,hw1,back⟩:=St.frame (L:=[_]) (M:=M) hw
  refine(iO β1 w _ _ (be 8 (U ((e:Nat):Int))) (bF ((e:Nat):Int)) 8 (by decide) (by simp only[List.length_append,aL];omega) hw1).mono ?_
  rintro e w' ⟨p52,c53,rfl,hw'⟩
  refine⟨_,rfl,_,back _ _ hw',?_⟩
  refine aG ?_
  exact aI (aA (d:=48) (aA rfl hs45) k1) rfl (aB 0 rfl)
 ·rintro f M ⟨k0,-⟩-
  have hs49:f 49=sB (aM (f 49)) ((be 8 (U ((e:Nat):Int)))++be 8 (bF ((e:Nat):Int))) (aN (f 49)):=k0
  exact bK fR
 rintro fa54 ⟨-,-,-,-,-,-,-,-,k8,-⟩ ⟨j0,j1,-⟩
 refine rL ?_
 refine aJ (d:=0) j0 ?_
 refine aJ (d:=1) j1 ?_
 refine aJ (d:=4) k8 ?_
 refine aQ ?_
 refine iQ 12 rfl rfl [⟨[],[],[0],[50],fun f=>f 50=pp J 0⟩,⟨[],[],[0],[51],fun f=>f 51=pp J 0⟩,⟨[1],[1],[],[52],fun f=>f 52=pp J 0⟩,⟨[1,2],[2],[],[53],fun f=>f 53=pp J 0⟩,⟨[1,2,3],[3],[],[54],fun f=>f 54=pp S 0⟩,⟨[1,2,3,4],[4],[],[55],fun f=>f 55=pp S 0⟩,⟨[1,2,3,4,5],[5],[],[56],fun f=>f 56=pp S 0⟩,⟨[],[],[1],[57],fun f=>f 57=pp q6 0⟩,⟨[7],[7],[],[58],fun f=>f 58=Nx (e)⟩,⟨[7,8],[8],[],[59],fun f=>f 59= .int .i64 (1)⟩,⟨[7,8,9],[9],[],[60],fun f=>f 60= .int .i64 (16)⟩,⟨[],[],[2],[61],fun f=>f 61=sB (aM (fa54 49)) ((be 8 (U ((e:Nat):Int)))++be 8 (bF ((e:Nat):Int))) (aN (fa54 49))⟩,⟨(List.range 12),[],[],[],fun _=>True⟩] [⟨none,none,[],[],fun _=>aS S (lY k e n xs)⟩,⟨none,none,[4],[],fun _=>pt J (.cells #[pp S 0,Nx (i.epoch),Nx (i.next),vs,vr,Nx (i.size),vd] 84)⟩,⟨none,none,[0,1],[],fun _=>pt q2 (.cells #[pp J 0] 43)⟩,⟨none,none,[8],[],fun _=>pt q6 (.cells #[Nx (e),Nx (n),ws,wr_,wz] 36)⟩,⟨none,none,[],[],fun _=>pt q3 (.cells #[sB sa xs (sc)] 30)⟩,⟨none,none,[],[],fun _=>rB (aM (fa34 24)) (aD ((e:Nat):Int) ((n:Nat):Int) xs) (aN (fa34 24))⟩,⟨none,none,[],[],fun _=>rB (aM (fa54 49)) ((be 8 (U ((e:Nat):Int)))++be 8 (bF ((e:Nat):Int))) (aN (fa54 49))⟩] [(0,pp q2 0),(1,pp q6 0),(4,sB (aM (fa54 49)) ((be 8 (U ((e:Nat):Int)))++be 8 (bF ((e:Nat):Int))) (aN (fa54 49)))] [] [] (by kernel_rfl) (by kernel_rfl) (by kernel_rfl) (by kernel_rfl) (by kernel_rfl) (by kernel_rfl) rfl ⟨rfl,rfl,rfl,trivial⟩ ⟨?_,?_,?_,?_,?_,?_,?_,?_,?_,?_,?_,?_,trivial⟩ ?_
 ·rintro f M-⟨i0,-⟩
  exact bK (gD 0)
 ·rintro f M-⟨i0,-⟩
  exact bK (gD 0)
 ·rintro f M ⟨k0,-⟩-
  exact bK eY
 ·rintro f M ⟨k0,-⟩-
  exact bK bM
 ·rintro f M ⟨k0,-⟩-
  exact bK (gD 0)
 ·rintro f M ⟨k0,-⟩-
  exact bK eY
 ·rintro f M ⟨k0,-⟩-
  exact bK bM
 ·rintro f M-⟨i0,-⟩
  exact bK bM
 ·rintro f M ⟨k0,-⟩-
  exact bK (eU 0)
 ·rintro f M ⟨k0,-⟩-
  exact nA (aA (d:=58) rfl k0) rfl (fE (by rw[hpar];rfl) (gJ (a:=((e:Nat):Int)) (b:=(2:Int)) rfl rfl (by decide) (eC _ 2))) (.refl _)
 ·rintro f M ⟨k0,-⟩-
  exact nA (aA (d:=59) rfl k0) rfl (iC (a:=(1:Int)) (b:=(16:Int)) rfl rfl (by decide)) (.refl _)
 ·rintro f M-⟨i0,-⟩
  exact bK cX
 rintro fa55 ⟨k0,-,-,-,-,-,k6,-,-,-,k10,k11,-⟩-
 refine lre ?_
 refine cU (d:=50) (v:=pp J 0) k0 ?_
 refine cU (d:=56) (v:=pp S 0) k6 ?_
 refine cU (d:=60) (v:= .int .i64 (16)) k10 ?_
 refine cU (d:=61) (v:=sB (aM (fa54 49)) ((be 8 (U ((e:Nat):Int)))++be 8 (bF ((e:Nat):Int))) (aN (fa54 49))) k11 ?_
 refine gC rfl rfl rfl (cY (vs:=[pp J 0,pp S 0,.int .i64 (16),sB (aM (fa54 49)) ((be 8 (U ((e:Nat):Int)))++be 8 (bF ((e:Nat):Int))) (aN (fa54 49))]) aDd.ok rfl rfl) ?_
 intro w hw
 obtain⟨β1,sb,kn,hw1,back⟩:=St.frame (L:=[_]) (M:=_::_::_::_::_::_::[]) hw
 refine(wG β1 w J S (kn _ (dM 0 rfl rfl)) (lY k e n xs) (hf3.le (by omega)) 16 (by omega) ((be 8 (U ((e:Nat):Int)))++be 8 (bF ((e:Nat):Int))) _ (by omega) (kU kn 5 rfl) hw1).mono ?_
 rintro e w' (⟨rfl,ok56,hw'⟩|⟨rfl,ok56,hw'⟩)
 ·refine .inl ⟨_,rfl,_,back _ _ hw',?_⟩
  refine pE ?_
  intro w hw
  refine .inl ⟨rfl,fun h=>ok56 h.2.2,?_⟩
  rw[iE,if_pos ok1,if_pos ok2,ck4,show e%2*16=16 by omega]
  exact aF [true,true,true,true,true,false,false] rfl (hw.perm (L':=[pt J (.cells #[pp S 0,Nx (i.epoch),Nx (i.next),vs,vr,Nx (i.size),vd] 84),pt q2 (.cells #[pp J 0] 43),pt q6 (.cells #[Nx (e),Nx (n),ws,wr_,wz] 36),pt q3 (.cells #[sB sa xs (sc)] 30),aS S (iV (lY k e n xs) 16 ((be 8 (U ((e:Nat):Int)))++be 8 (bF ((e:Nat):Int)))),rB (aM (fa34 24)) (aD ((e:Nat):Int) ((n:Nat):Int) xs) (aN (fa34 24)),rB (aM (fa54 49)) ((be 8 (U ((e:Nat):Int)))++be 8 (bF ((e:Nat):Int))) (aN (fa54 49))]) (by exact(bN [1,2,3,4,0,5,6] 7 rfl (by kernel_rfl) (by kernel_rfl))))
 refine .inr ⟨_,rfl,_,back _ _ hw',?_⟩
 refine aG ?_
 refine nS Try.results55 ?_
 intro w hw
 refine .inr ⟨rfl,⟨ok1,ok2,ok56⟩,?_⟩
 rw[iE,if_pos ok1,if_pos ok2,ck4,show e%2*16=16 by omega]
 exact aF [true,true,true,true,true,false,false] rfl (hw.perm (L':=[pt J (.cells #[pp S 0,Nx (i.epoch),Nx (i.next),vs,vr,Nx (i.size),vd] 84),pt q2 (.cells #[pp J 0] 43),pt q6 (.cells #[Nx (e),Nx (n),ws,wr_,wz] 36),pt q3 (.cells #[sB sa xs (sc)] 30),aS S (iV (lY k e n xs) 16 ((be 8 (U ((e:Nat):Int)))++be 8 (bF ((e:Nat):Int)))),rB (aM (fa34 24)) (aD ((e:Nat):Int) ((n:Nat):Int) xs) (aN (fa34 24)),rB (aM (fa54 49)) ((be 8 (U ((e:Nat):Int)))++be 8 (bF ((e:Nat):Int))) (aN (fa54 49))]) (by exact(bN [1,2,3,4,0,5,6] 7 rfl (by kernel_rfl) (by kernel_rfl))))
end Go.Proofs
