/-
 What is attempted: writing a record,cutting an area,a checkpoint. Printed by a program of my own.
-/
import Derived.Test.YtjejfkajcbdgjaaGreatJn3
set_option linter.all false
set_option maxHeartbeats 4000000
namespace Go.Proofs
open Go Go.Sl Go.Jn
instance aXt:CfC Tryz.prog 65:={}
instance tf47:TyC Tryz.prog 141 false 1:={}
instance tf48:FldC Tryz.prog 109 0 0 1 false:={}
instance aGr:TyC Tryz.prog 147 false 1:={}
instance tf50:FldC Tryz.prog 109 4 4 1 false:={}
instance aNz:CfC Tryz.prog 64:={}
instance aXu:CfC Tryz.prog 90:={}
instance tf53:FldC Tryz.prog 109 1 1 1 false:={}
instance aXv:CfC Tryz.prog 61:={}
theorem zX(β:Base)(w:World)(e:Nat)(hpar:e%2=0)(J S:Nat)(hJ:Cs β.heap ⟨J,0,none⟩ [pp S 0])(k:KS)(hk:k.fits 1048576)(at_:Nat)(hat:at_≤1048576)(bs:Bs)(v:Value)(hb:bs.length≤1048576)(hs:Sl iK β.heap v bs)(hw:St β [aP S k] w):Calls Tryz.prog 64 #[pp J 0,pp S 1,Nx at_,v] w fun r w'=>(r= .panicked chP∧¬kL k.power bs∧St β [aP S (sE k e at_ bs)] w')∨(r= .returned (.tuple #[])∧kL k.power bs∧St β [aP S (sE k e at_ bs)] w'):=by
 have h:=aOj β w J S hJ k hk at_ hat bs v hb hs hw
 rwa [aUg hpar]at h
theorem aFe(β:Base)(w:World)(e:Nat)(hpar:e%2=0)(J S:Nat)(hJ:Cs β.heap ⟨J,0,none⟩ [pp S 0])(k:KS)(hk:k.fits 1048576)(size:Nat)(hw:St β [aP S k] w):Calls Tryz.prog 90 #[pp J 0,pp S 1,Nx size] w fun r w'=>(r= .panicked chP∧¬iS (k.area e) k.power size∧St β [aP S k] w')∨(r= .returned (.tuple #[])∧iS (k.area e) k.power size∧St β [aP S (jO k e size)] w'):=by
 have h:=(aVb β w J S hJ k hk size hw).mono (R':=fun r w'=>(r= .panicked chP∧¬iS k.a k.power size∧St β [aP S k] w')∨(r= .returned (.tuple #[])∧iS k.a k.power size∧St β [aP S {k with a:=oB k.a k.power size,power:=kN k.a k.power size}] w')) fun r w' hh=>hh.imp (fun⟨a,b,_,c⟩=>⟨a,b,c⟩) id
 rwa [aMd hpar,←aAp (k:=k) hpar]at h
theorem zY(β:Base)(w:World)(e:Nat)(hpar:e%2=1)(J S:Nat)(hJ:Cs β.heap ⟨J,0,none⟩ [pp S 0])(k:KS)(hk:k.fits 1048576)(at_:Nat)(hat:at_≤1048576)(bs:Bs)(v:Value)(hb:bs.length≤1048576)(hs:Sl iK β.heap v bs)(hw:St β [aP S k] w):Calls Tryz.prog 64 #[pp J 0,pp S 2,Nx at_,v] w fun r w'=>(r= .panicked chP∧¬kL k.power bs∧St β [aP S (sE k e at_ bs)] w')∨(r= .returned (.tuple #[])∧kL k.power bs∧St β [aP S (sE k e at_ bs)] w'):=by
 have h:=aOk β w J S hJ k hk at_ hat bs v hb hs hw
 rwa [aYr hpar]at h
theorem aFf(β:Base)(w:World)(e:Nat)(hpar:e%2=1)(J S:Nat)(hJ:Cs β.heap ⟨J,0,none⟩ [pp S 0])(k:KS)(hk:k.fits 1048576)(size:Nat)(hw:St β [aP S k] w):Calls Tryz.prog 90 #[pp J 0,pp S 2,Nx size] w fun r w'=>(r= .panicked chP∧¬iS (k.area e) k.power size∧St β [aP S k] w')∨(r= .returned (.tuple #[])∧iS (k.area e) k.power size∧St β [aP S (jO k e size)] w'):=by
 have h:=(aVc β w J S hJ k hk size hw).mono (R':=fun r w'=>(r= .panicked chP∧¬iS k.b k.power size∧St β [aP S k] w')∨(r= .returned (.tuple #[])∧iS k.b k.power size∧St β [aP S {k with b:=oB k.b k.power size,power:=kN k.b k.power size}] w')) fun r w' hh=>hh.imp (fun⟨a,b,_,c⟩=>⟨a,b,c⟩) id
 rwa [aPr hpar,←aEp (k:=k) hpar]at h
theorem xT(β:Base)(w:World)(J S q2 q7 q8 cb:Nat)(pb:Option Addr)(k:KS)(i:KI)(vs vr vd:Value)(fb:Bs)(hk:k.fits 524288)(hb:fb.length≤131072)(hsz:i.size≤524288)(hw:St β [pt J (.cells #[pp S 0,Nx (i.epoch),Nx (i.next),vs,vr,Nx (i.size),vd] 143),pt q2 (.cells #[pp J 0] 89),pt q7 (.cells #[pp J 1] 141),pt q8 (.cells #[sB pb fb cb] 27),rB pb fb cb,aP S k] w):Calls Tryz.prog 63 #[pp q2 0,pp q7 0,pp q8 0] w fun r w'=>(r= .panicked chP∧¬kL k.power fb∧St β [pt J (.cells #[pp S 0,Nx (i.epoch),Nx (i.next),vs,vr,Nx (i.size),vd] 143),pt q2 (.cells #[pp J 0] 89),pt q7 (.cells #[pp J 1] 141),pt q8 (.cells #[sB pb fb cb] 27),rB pb fb cb,aP S (sE k i.epoch i.size fb)] w')∨(r= .returned (.tuple #[])∧kL k.power fb∧St β [pt J (.cells #[pp S 0,Nx (i.epoch),Nx (i.next),vs,vr,Nx (i.size),vd] 143),pt q2 (.cells #[pp J 0] 89),pt q7 (.cells #[pp J 1] 141),pt q8 (.cells #[sB pb fb cb] 27),rB pb fb cb,aP S (sE k i.epoch i.size fb)] w'):=by
 refine enter (n:=21) Tryz.func63 rfl Tryz.ntmps63 rfl ?_ hw
 rcases Nat.mod_two_eq_zero_or_one i.epoch with hpar|hpar
 ·refine jY 17 rfl rfl [⟨[],[],[0],[3],fun f=>f 3=pp J 0⟩,⟨[],[],[0],[4],fun f=>f 4=pp J 0⟩,⟨[1],[1],[],[5],fun f=>f 5=pp J 0⟩,⟨[1,2],[2],[],[6],fun f=>f 6=pp J 0⟩,⟨[1,2,3],[3],[],[7],fun f=>f 7=pp S 0⟩,⟨[1,2,3,4],[4],[],[8],fun f=>f 8= .agg #[pp S 1,pp S 2]⟩,⟨[],[],[1],[9],fun f=>f 9=pp J 1⟩,⟨[6],[6],[],[10],fun f=>f 10=pp J 1⟩,⟨[6,7],[7],[],[11],fun f=>f 11=pp J 1⟩,⟨[6,7,8],[8],[],[12],fun f=>f 12=Nx (i.epoch)⟩,⟨[6,7,8,9],[9],[],[13],fun f=>f 13= .int .i64 (0)⟩,⟨[1,2,3,4,5,6,7,8,9,10],[5,10],[],[14],fun f=>f 14=pp S 1⟩,⟨[],[],[1],[15],fun f=>f 15=pp J 1⟩,⟨[12],[12],[],[16],fun f=>f 16=pp J 1⟩,⟨[12,13],[13],[],[17],fun f=>f 17=pp J 5⟩,⟨[12,13,14],[14],[],[18],fun f=>f 18=Nx (i.size)⟩,⟨[],[],[2],[19],fun f=>f 19=sB pb fb cb⟩,⟨(List.range 17),[],[],[],fun _=>True⟩] [⟨none,none,[4,9,15],[],fun _=>pt J (.cells #[pp S 0,Nx (i.epoch),Nx (i.next),vs,vr,Nx (i.size),vd] 143)⟩,⟨none,none,[0,1],[],fun _=>pt q2 (.cells #[pp J 0] 89)⟩,⟨none,none,[6,12],[],fun _=>pt q7 (.cells #[pp J 1] 141)⟩,⟨none,none,[16],[],fun _=>pt q8 (.cells #[sB pb fb cb] 27)⟩,⟨none,none,[],[],fun _=>rB pb fb cb⟩,⟨none,none,[],[],fun _=>aP S k⟩] [(0,pp q2 0),(1,pp q7 0),(2,pp q8 0)] [] [] (by kernel_rfl) (by kernel_rfl) (by kernel_rfl) (by kernel_rfl) (by kernel_rfl) (by kernel_rfl) rfl ⟨rfl,rfl,rfl,trivial⟩ ⟨?_,?_,?_,?_,?_,?_,?_,?_,?_,?_,?_,?_,?_,?_,?_,?_,?_,trivial⟩ ?_
  ·rintro f M-⟨i0,-⟩
   exact aU (iI 0)
  ·rintro f M-⟨i0,-⟩
   exact aU (iI 0)
  ·rintro f M ⟨k0,-⟩-
   exact aU eM
  ·rintro f M ⟨k0,-⟩-
   exact aU aY
  ·rintro f M ⟨k0,-⟩-
   exact aU (iI 0)
  ·rintro f M ⟨k0,-⟩-
   refine dU (aB (d:=7) rfl k0) ?_
   refine iF iE (fun w β1 sb kn hw1=>lD β1 w hw1 S) (aH ?_)
   exact aO (aB (d:=7) rfl k0) rfl (List.Perm.refl _)
  ·rintro f M-⟨i0,-⟩
   exact aU (iI 0)
  ·rintro f M ⟨k0,-⟩-
   exact aU eM
  ·rintro f M ⟨k0,-⟩-
   exact aU aY
  ·rintro f M ⟨k0,-⟩-
   exact aU (cQ 0)
  ·rintro f M ⟨k0,-⟩-
   exact hO (aB (d:=12) rfl k0) rfl (fI (by rw[hpar];rfl) (lR (a:=((i.epoch:Nat):Int)) (b:=(2:Int)) rfl rfl (by decide) (gD _ 2))) (.refl _)
  ·rintro f M ⟨k0,k1,-⟩-
   exact hO (aB (d:=13) (aB (d:=8) rfl k0) k1) rfl (fM (cs:= #[pp S 1,pp S 2]) (k:=0) rfl rfl aEa.ok rfl (by decide) aGr.ok) (.refl _)
  ·rintro f M-⟨i0,-⟩
   exact aU (iI 0)
  ·rintro f M ⟨k0,-⟩-
   exact aU eM
  ·rintro f M ⟨k0,-⟩-
   exact aU aY
  ·rintro f M ⟨k0,-⟩-
   exact aU (cQ 0)
  ·rintro f M-⟨i0,-⟩
   exact aU (fR 0)
  rintro fa1 ⟨k0,-,-,-,-,-,-,-,-,-,-,k11,-,-,-,k15,k16,-⟩-
  refine lre ?_
  refine dE (d:=3) (v:=pp J 0) k0 (dE (d:=14) (v:=pp S 1) k11 (dE (d:=18) (v:=Nx (i.size)) k15 ?_))
  refine dE (d:=19) (v:=sB pb fb cb) k16 (iA rfl rfl rfl (cK (vs:=[pp J 0,pp S 1,Nx (i.size),sB pb fb cb]) aNz.ok rfl rfl) ?_)
  intro w hw
  replace hw:=hw.perm (L':=_::_::_::_::_::_::[]) (by exact((((((aA 4 rfl).trans (aA 4 rfl)).trans (aA 4 rfl)).trans (aA 4 rfl)).trans (aA 4 rfl)).trans (aA 5 rfl)))
  obtain⟨β1,sb,kn,hw1,back⟩:=St.frame (L:=[_]) (M:=_::_::_::_::_::[]) hw
  refine(zX β1 w i.epoch hpar J S (kn _ (bY 0 rfl rfl)) k (hk.le (by omega)) i.size (by omega) fb _ (by omega) (kU kn 4 rfl) hw1).mono ?_
  rintro e w' (⟨rfl,ok2,hw'⟩|⟨rfl,ok2,hw'⟩)
  ·refine .inl ⟨_,rfl,_,back _ _ hw',?_⟩
   refine sK ?_
   intro w hw
   exact .inl ⟨rfl,ok2,aF [true,true,true,true,true,true] rfl (hw.perm (L':=[pt J (.cells #[pp S 0,Nx (i.epoch),Nx (i.next),vs,vr,Nx (i.size),vd] 143),pt q2 (.cells #[pp J 0] 89),pt q7 (.cells #[pp J 1] 141),pt q8 (.cells #[sB pb fb cb] 27),rB pb fb cb,aP S (sE k i.epoch i.size fb)]) (by exact(aV [1,2,3,4,5,0] 6 rfl (by kernel_rfl) (by kernel_rfl))))⟩
  refine .inr ⟨_,rfl,_,back _ _ hw',?_⟩
  refine aH (mQ Tryz.results63 ?_)
  intro w hw
  exact .inr ⟨rfl,ok2,aF [true,true,true,true,true,true] rfl (hw.perm (L':=[pt J (.cells #[pp S 0,Nx (i.epoch),Nx (i.next),vs,vr,Nx (i.size),vd] 143),pt q2 (.cells #[pp J 0] 89),pt q7 (.cells #[pp J 1] 141),pt q8 (.cells #[sB pb fb cb] 27),rB pb fb cb,aP S (sE k i.epoch i.size fb)]) (by exact(aV [1,2,3,4,5,0] 6 rfl (by kernel_rfl) (by kernel_rfl))))⟩
 refine jY 17 rfl rfl [⟨[],[],[0],[3],fun f=>f 3=pp J 0⟩,⟨[],[],[0],[4],fun f=>f 4=pp J 0⟩,⟨[1],[1],[],[5],fun f=>f 5=pp J 0⟩,⟨[1,2],[2],[],[6],fun f=>f 6=pp J 0⟩,⟨[1,2,3],[3],[],[7],fun f=>f 7=pp S 0⟩,⟨[1,2,3,4],[4],[],[8],fun f=>f 8= .agg #[pp S 1,pp S 2]⟩,⟨[],[],[1],[9],fun f=>f 9=pp J 1⟩,⟨[6],[6],[],[10],fun f=>f 10=pp J 1⟩,⟨[6,7],[7],[],[11],fun f=>f 11=pp J 1⟩,⟨[6,7,8],[8],[],[12],fun f=>f 12=Nx (i.epoch)⟩,⟨[6,7,8,9],[9],[],[13],fun f=>f 13= .int .i64 (1)⟩,⟨[1,2,3,4,5,6,7,8,9,10],[5,10],[],[14],fun f=>f 14=pp S 2⟩,⟨[],[],[1],[15],fun f=>f 15=pp J 1⟩,⟨[12],[12],[],[16],fun f=>f 16=pp J 1⟩,⟨[12,13],[13],[],[17],fun f=>f 17=pp J 5⟩,⟨[12,13,14],[14],[],[18],fun f=>f 18=Nx (i.size)⟩,⟨[],[],[2],[19],fun f=>f 19=sB pb fb cb⟩,⟨(List.range 17),[],[],[],fun _=>True⟩] [⟨none,none,[4,9,15],[],fun _=>pt J (.cells #[pp S 0,Nx (i.epoch),Nx (i.next),vs,vr,Nx (i.size),vd] 143)⟩,⟨none,none,[0,1],[],fun _=>pt q2 (.cells #[pp J 0] 89)⟩,⟨none,none,[6,12],[],fun _=>pt q7 (.cells #[pp J 1] 141)⟩,⟨none,none,[16],[],fun _=>pt q8 (.cells #[sB pb fb cb] 27)⟩,⟨none,none,[],[],fun _=>rB pb fb cb⟩,⟨none,none,[],[],fun _=>aP S k⟩] [(0,pp q2 0),(1,pp q7 0),(2,pp q8 0)] [] [] (by kernel_rfl) (by kernel_rfl) (by kernel_rfl) (by kernel_rfl) (by kernel_rfl) (by kernel_rfl) rfl ⟨rfl,rfl,rfl,trivial⟩ ⟨?_,?_,?_,?_,?_,?_,?_,?_,?_,?_,?_,?_,?_,?_,?_,?_,?_,trivial⟩ ?_
 ·rintro f M-⟨i0,-⟩
  exact aU (iI 0)
 ·rintro f M-⟨i0,-⟩
  exact aU (iI 0)
 ·rintro f M ⟨k0,-⟩-
  exact aU eM
 ·rintro f M ⟨k0,-⟩-
  exact aU aY
 ·rintro f M ⟨k0,-⟩-
  exact aU (iI 0)
 ·rintro f M ⟨k0,-⟩-
  refine dU (aB (d:=7) rfl k0) ?_
  refine iF iE (fun w β1 sb kn hw1=>lD β1 w hw1 S) (aH ?_)
  exact aO (aB (d:=7) rfl k0) rfl (List.Perm.refl _)
 ·rintro f M-⟨i0,-⟩
  exact aU (iI 0)
 ·rintro f M ⟨k0,-⟩-
  exact aU eM
 ·rintro f M ⟨k0,-⟩-
  exact aU aY
 ·rintro f M ⟨k0,-⟩-
  exact aU (cQ 0)
 ·rintro f M ⟨k0,-⟩-
  exact hO (aB (d:=12) rfl k0) rfl (fI (by rw[hpar];rfl) (lR (a:=((i.epoch:Nat):Int)) (b:=(2:Int)) rfl rfl (by decide) (gD _ 2))) (.refl _)
 ·rintro f M ⟨k0,k1,-⟩-
  exact hO (aB (d:=13) (aB (d:=8) rfl k0) k1) rfl (fM (cs:= #[pp S 1,pp S 2]) (k:=1) rfl rfl aEa.ok rfl (by decide) aGr.ok) (.refl _)
 ·rintro f M-⟨i0,-⟩
  exact aU (iI 0)
 ·rintro f M ⟨k0,-⟩-
  exact aU eM
 ·rintro f M ⟨k0,-⟩-
  exact aU aY
 ·rintro f M ⟨k0,-⟩-
  exact aU (cQ 0)
 ·rintro f M-⟨i0,-⟩
  exact aU (fR 0)
 rintro fa3 ⟨k0,-,-,-,-,-,-,-,-,-,-,k11,-,-,-,k15,k16,-⟩-
 refine lre ?_
 refine dE (d:=3) (v:=pp J 0) k0 (dE (d:=14) (v:=pp S 2) k11 (dE (d:=18) (v:=Nx (i.size)) k15 ?_))
 refine dE (d:=19) (v:=sB pb fb cb) k16 (iA rfl rfl rfl (cK (vs:=[pp J 0,pp S 2,Nx (i.size),sB pb fb cb]) aNz.ok rfl rfl) ?_)
 intro w hw
 replace hw:=hw.perm (L':=_::_::_::_::_::_::[]) (by exact((((((aA 4 rfl).trans (aA 4 rfl)).trans (aA 4 rfl)).trans (aA 4 rfl)).trans (aA 4 rfl)).trans (aA 5 rfl)))
 obtain⟨β1,sb,kn,hw1,back⟩:=St.frame (L:=[_]) (M:=_::_::_::_::_::[]) hw
 refine(zY β1 w i.epoch hpar J S (kn _ (bY 0 rfl rfl)) k (hk.le (by omega)) i.size (by omega) fb _ (by omega) (kU kn 4 rfl) hw1).mono ?_
 rintro e w' (⟨rfl,ok4,hw'⟩|⟨rfl,ok4,hw'⟩)
 ·refine .inl ⟨_,rfl,_,back _ _ hw',?_⟩
  refine sK ?_
  intro w hw
  exact .inl ⟨rfl,ok4,aF [true,true,true,true,true,true] rfl (hw.perm (L':=[pt J (.cells #[pp S 0,Nx (i.epoch),Nx (i.next),vs,vr,Nx (i.size),vd] 143),pt q2 (.cells #[pp J 0] 89),pt q7 (.cells #[pp J 1] 141),pt q8 (.cells #[sB pb fb cb] 27),rB pb fb cb,aP S (sE k i.epoch i.size fb)]) (by exact(aV [1,2,3,4,5,0] 6 rfl (by kernel_rfl) (by kernel_rfl))))⟩
 refine .inr ⟨_,rfl,_,back _ _ hw',?_⟩
 refine aH (mQ Tryz.results63 ?_)
 intro w hw
 exact .inr ⟨rfl,ok4,aF [true,true,true,true,true,true] rfl (hw.perm (L':=[pt J (.cells #[pp S 0,Nx (i.epoch),Nx (i.next),vs,vr,Nx (i.size),vd] 143),pt q2 (.cells #[pp J 0] 89),pt q7 (.cells #[pp J 1] 141),pt q8 (.cells #[sB pb fb cb] 27),rB pb fb cb,aP S (sE k i.epoch i.size fb)]) (by exact(aV [1,2,3,4,5,0] 6 rfl (by kernel_rfl) (by kernel_rfl))))⟩
theorem aRx(β:Base)(w:World)(J S q6 q1 q4:Nat)(k:KS)(i:KI)(vs vr vd:Value)(hk:k.fits 524288)(hw:St β [pt J (.cells #[pp S 0,Nx (i.epoch),Nx (i.next),vs,vr,Nx (i.size),vd] 143),pt q6 (.cells #[pp J 0] 89),pt q1 (.cells #[pp S 0] 26),pt q4 (.cells #[Nx (i.epoch),Nx (i.next),vs,vr,Nx (i.size)] 109),aP S k] w):Calls Tryz.prog 89 #[pp q6 0,pp q1 0,pp q4 0] w fun r w'=>(r= .panicked chP∧¬iS (k.area i.epoch) k.power i.size∧St β [pt J (.cells #[pp S 0,Nx (i.epoch),Nx (i.next),vs,vr,Nx (i.size),vd] 143),pt q6 (.cells #[pp J 0] 89),pt q1 (.cells #[pp S 0] 26),pt q4 (.cells #[Nx (i.epoch),Nx (i.next),vs,vr,Nx (i.size)] 109),aP S k] w')∨(r= .returned (.tuple #[])∧iS (k.area i.epoch) k.power i.size∧St β [pt J (.cells #[pp S 0,Nx (i.epoch),Nx (i.next),vs,vr,Nx (i.size),vd] 143),pt q6 (.cells #[pp J 0] 89),pt q1 (.cells #[pp S 0] 26),pt q4 (.cells #[Nx (i.epoch),Nx (i.next),vs,vr,Nx (i.size)] 109),aP S (jO k i.epoch i.size)] w'):=by
 refine enter (n:=13) Tryz.func89 rfl Tryz.ntmps89 rfl ?_ hw
 rcases Nat.mod_two_eq_zero_or_one i.epoch with hpar|hpar
 ·refine jY 9 rfl rfl [⟨[],[],[0],[3],fun f=>f 3=pp J 0⟩,⟨[],[],[1],[4],fun f=>f 4=pp S 0⟩,⟨[1],[1],[],[5],fun f=>f 5= .agg #[pp S 1,pp S 2]⟩,⟨[],[],[2],[6],fun f=>f 6=pp q4 0⟩,⟨[3],[3],[],[7],fun f=>f 7=Nx (i.epoch)⟩,⟨[3,4],[4],[],[8],fun f=>f 8= .int .i64 (0)⟩,⟨[1,2,3,4,5],[2,5],[],[9],fun f=>f 9=pp S 1⟩,⟨[],[],[2],[10],fun f=>f 10=pp q4 4⟩,⟨[7],[7],[],[11],fun f=>f 11=Nx (i.size)⟩,⟨(List.range 9),[],[],[],fun _=>True⟩] [⟨none,none,[],[],fun _=>pt J (.cells #[pp S 0,Nx (i.epoch),Nx (i.next),vs,vr,Nx (i.size),vd] 143)⟩,⟨none,none,[0],[],fun _=>pt q6 (.cells #[pp J 0] 89)⟩,⟨none,none,[1],[],fun _=>pt q1 (.cells #[pp S 0] 26)⟩,⟨none,none,[4,8],[],fun _=>pt q4 (.cells #[Nx (i.epoch),Nx (i.next),vs,vr,Nx (i.size)] 109)⟩,⟨none,none,[],[],fun _=>aP S k⟩] [(0,pp q6 0),(1,pp q1 0),(2,pp q4 0)] [] [] (by kernel_rfl) (by kernel_rfl) (by kernel_rfl) (by kernel_rfl) (by kernel_rfl) (by kernel_rfl) rfl ⟨rfl,rfl,rfl,trivial⟩ ⟨?_,?_,?_,?_,?_,?_,?_,?_,?_,trivial⟩ ?_
  ·rintro f M-⟨i0,-⟩
   exact aU (iI 0)
  ·rintro f M-⟨i0,-⟩
   exact aU (iI 0)
  ·rintro f M ⟨k0,-⟩-
   refine dU (aB (d:=4) rfl k0) ?_
   refine iF iE (fun w β1 sb kn hw1=>lD β1 w hw1 S) (aH ?_)
   exact aO (aB (d:=4) rfl k0) rfl (List.Perm.refl _)
  ·rintro f M-⟨i0,-⟩
   exact aU aY
  ·rintro f M ⟨k0,-⟩-
   exact aU (cQ 0)
  ·rintro f M ⟨k0,-⟩-
   exact hO (aB (d:=7) rfl k0) rfl (fI (by rw[hpar];rfl) (lR (a:=((i.epoch:Nat):Int)) (b:=(2:Int)) rfl rfl (by decide) (gD _ 2))) (.refl _)
  ·rintro f M ⟨k0,k1,-⟩-
   exact hO (aB (d:=8) (aB (d:=5) rfl k0) k1) rfl (fM (cs:= #[pp S 1,pp S 2]) (k:=0) rfl rfl aEa.ok rfl (by decide) aGr.ok) (.refl _)
  ·rintro f M-⟨i0,-⟩
   exact aU aY
  ·rintro f M ⟨k0,-⟩-
   exact aU (cQ 0)
  rintro fa1 ⟨k0,-,-,-,-,-,k6,-,k8,-⟩-
  refine lre ?_
  refine dE (d:=3) (v:=pp J 0) k0 (dE (d:=9) (v:=pp S 1) k6 (dE (d:=11) (v:=Nx (i.size)) k8 ?_))
  refine iA rfl rfl rfl (cK (vs:=[pp J 0,pp S 1,Nx (i.size)]) aXu.ok rfl rfl) ?_
  intro w hw
  replace hw:=hw.perm (L':=_::_::_::_::_::[]) (by exact(((((aA 3 rfl).trans (aA 3 rfl)).trans (aA 3 rfl)).trans (aA 3 rfl)).trans (aA 4 rfl)))
  obtain⟨β1,sb,kn,hw1,back⟩:=St.frame (L:=[_]) (M:=_::_::_::_::[]) hw
  refine(aFe β1 w i.epoch hpar J S (kn _ (bY 0 rfl rfl)) k (hk.le (by omega)) i.size hw1).mono ?_
  rintro e w' (⟨rfl,ok2,hw'⟩|⟨rfl,ok2,hw'⟩)
  ·refine .inl ⟨_,rfl,_,back _ _ hw',?_⟩
   refine sK ?_
   intro w hw
   exact .inl ⟨rfl,ok2,aF [true,true,true,true,true] rfl (hw.perm (L':=[pt J (.cells #[pp S 0,Nx (i.epoch),Nx (i.next),vs,vr,Nx (i.size),vd] 143),pt q6 (.cells #[pp J 0] 89),pt q1 (.cells #[pp S 0] 26),pt q4 (.cells #[Nx (i.epoch),Nx (i.next),vs,vr,Nx (i.size)] 109),aP S k]) (by exact(aV [1,2,3,4,0] 5 rfl (by kernel_rfl) (by kernel_rfl))))⟩
  refine .inr ⟨_,rfl,_,back _ _ hw',?_⟩
  refine aH (mQ Tryz.results89 ?_)
  intro w hw
  exact .inr ⟨rfl,ok2,aF [true,true,true,true,true] rfl (hw.perm (L':=[pt J (.cells #[pp S 0,Nx (i.epoch),Nx (i.next),vs,vr,Nx (i.size),vd] 143),pt q6 (.cells #[pp J 0] 89),pt q1 (.cells #[pp S 0] 26),pt q4 (.cells #[Nx (i.epoch),Nx (i.next),vs,vr,Nx (i.size)] 109),aP S (jO k i.epoch i.size)]) (by exact(aV [1,2,3,4,0] 5 rfl (by kernel_rfl) (by kernel_rfl))))⟩
 refine jY 9 rfl rfl [⟨[],[],[0],[3],fun f=>f 3=pp J 0⟩,⟨[],[],[1],[4],fun f=>f 4=pp S 0⟩,⟨[1],[1],[],[5],fun f=>f 5= .agg #[pp S 1,pp S 2]⟩,⟨[],[],[2],[6],fun f=>f 6=pp q4 0⟩,⟨[3],[3],[],[7],fun f=>f 7=Nx (i.epoch)⟩,⟨[3,4],[4],[],[8],fun f=>f 8= .int .i64 (1)⟩,⟨[1,2,3,4,5],[2,5],[],[9],fun f=>f 9=pp S 2⟩,⟨[],[],[2],[10],fun f=>f 10=pp q4 4⟩,⟨[7],[7],[],[11],fun f=>f 11=Nx (i.size)⟩,⟨(List.range 9),[],[],[],fun _=>True⟩] [⟨none,none,[],[],fun _=>pt J (.cells #[pp S 0,Nx (i.epoch),Nx (i.next),vs,vr,Nx (i.size),vd] 143)⟩,⟨none,none,[0],[],fun _=>pt q6 (.cells #[pp J 0] 89)⟩,⟨none,none,[1],[],fun _=>pt q1 (.cells #[pp S 0] 26)⟩,⟨none,none,[4,8],[],fun _=>pt q4 (.cells #[Nx (i.epoch),Nx (i.next),vs,vr,Nx (i.size)] 109)⟩,⟨none,none,[],[],fun _=>aP S k⟩] [(0,pp q6 0),(1,pp q1 0),(2,pp q4 0)] [] [] (by kernel_rfl) (by kernel_rfl) (by kernel_rfl) (by kernel_rfl) (by kernel_rfl) (by kernel_rfl) rfl ⟨rfl,rfl,rfl,trivial⟩ ⟨?_,?_,?_,?_,?_,?_,?_,?_,?_,trivial⟩ ?_
 ·rintro f M-⟨i0,-⟩
  exact aU (iI 0)
 ·rintro f M-⟨i0,-⟩
  exact aU (iI 0)
 ·rintro f M ⟨k0,-⟩-
  refine dU (aB (d:=4) rfl k0) ?_
  refine iF iE (fun w β1 sb kn hw1=>lD β1 w hw1 S) (aH ?_)
  exact aO (aB (d:=4) rfl k0) rfl (List.Perm.refl _)
 ·rintro f M-⟨i0,-⟩
  exact aU aY
 ·rintro f M ⟨k0,-⟩-
  exact aU (cQ 0)
 ·rintro f M ⟨k0,-⟩-
  exact hO (aB (d:=7) rfl k0) rfl (fI (by rw[hpar];rfl) (lR (a:=((i.epoch:Nat):Int)) (b:=(2:Int)) rfl rfl (by decide) (gD _ 2))) (.refl _)
 ·rintro f M ⟨k0,k1,-⟩-
  exact hO (aB (d:=8) (aB (d:=5) rfl k0) k1) rfl (fM (cs:= #[pp S 1,pp S 2]) (k:=1) rfl rfl aEa.ok rfl (by decide) aGr.ok) (.refl _)
 ·rintro f M-⟨i0,-⟩
  exact aU aY
 ·rintro f M ⟨k0,-⟩-
  exact aU (cQ 0)
 rintro fa3 ⟨k0,-,-,-,-,-,k6,-,k8,-⟩-
 refine lre ?_
 refine dE (d:=3) (v:=pp J 0) k0 (dE (d:=9) (v:=pp S 2) k6 (dE (d:=11) (v:=Nx (i.size)) k8 ?_))
 refine iA rfl rfl rfl (cK (vs:=[pp J 0,pp S 2,Nx (i.size)]) aXu.ok rfl rfl) ?_
 intro w hw
 replace hw:=hw.perm (L':=_::_::_::_::_::[]) (by exact(((((aA 3 rfl).trans (aA 3 rfl)).trans (aA 3 rfl)).trans (aA 3 rfl)).trans (aA 4 rfl)))
 obtain⟨β1,sb,kn,hw1,back⟩:=St.frame (L:=[_]) (M:=_::_::_::_::[]) hw
 refine(aFf β1 w i.epoch hpar J S (kn _ (bY 0 rfl rfl)) k (hk.le (by omega)) i.size hw1).mono ?_
 rintro e w' (⟨rfl,ok4,hw'⟩|⟨rfl,ok4,hw'⟩)
 ·refine .inl ⟨_,rfl,_,back _ _ hw',?_⟩
  refine sK ?_
  intro w hw
  exact .inl ⟨rfl,ok4,aF [true,true,true,true,true] rfl (hw.perm (L':=[pt J (.cells #[pp S 0,Nx (i.epoch),Nx (i.next),vs,vr,Nx (i.size),vd] 143),pt q6 (.cells #[pp J 0] 89),pt q1 (.cells #[pp S 0] 26),pt q4 (.cells #[Nx (i.epoch),Nx (i.next),vs,vr,Nx (i.size)] 109),aP S k]) (by exact(aV [1,2,3,4,0] 5 rfl (by kernel_rfl) (by kernel_rfl))))⟩
 refine .inr ⟨_,rfl,_,back _ _ hw',?_⟩
 refine aH (mQ Tryz.results89 ?_)
 intro w hw
 exact .inr ⟨rfl,ok4,aF [true,true,true,true,true] rfl (hw.perm (L':=[pt J (.cells #[pp S 0,Nx (i.epoch),Nx (i.next),vs,vr,Nx (i.size),vd] 143),pt q6 (.cells #[pp J 0] 89),pt q1 (.cells #[pp S 0] 26),pt q4 (.cells #[Nx (i.epoch),Nx (i.next),vs,vr,Nx (i.size)] 109),aP S (jO k i.epoch i.size)]) (by exact(aV [1,2,3,4,0] 5 rfl (by kernel_rfl) (by kernel_rfl))))⟩
theorem aAt(β:Base)(w:World)(J S q2 q6 q3 sc e n:Nat)(sa:Option Addr)(k:KS)(i:KI)(vs vr vd ws wr_ wz:Value)(xs:Bs)(hl:xs.length≤sc)(hm:sc≤9223372036854775807)(hx:cX iK β.heap sa xs)(hk:k.fits 524288)(hb:xs.length≤65536)(hw:St β [pt J (.cells #[pp S 0,Nx (i.epoch),Nx (i.next),vs,vr,Nx (i.size),vd] 143),pt q2 (.cells #[pp J 0] 89),pt q6 (.cells #[Nx (e),Nx (n),ws,wr_,wz] 109),pt q3 (.cells #[sB sa xs (sc)] 27),aP S k] w):Calls Tryz.prog 91 #[pp q2 0,pp q6 0,pp q3 0] w fun r w'=>(r= .panicked chP∧¬pR k e n xs∧St β [pt J (.cells #[pp S 0,Nx (i.epoch),Nx (i.next),vs,vr,Nx (i.size),vd] 143),pt q2 (.cells #[pp J 0] 89),pt q6 (.cells #[Nx (e),Nx (n),ws,wr_,wz] 109),pt q3 (.cells #[sB sa xs (sc)] 27),aP S (pM k e n xs)] w')∨(r= .returned (.tuple #[])∧pR k e n xs∧St β [pt J (.cells #[pp S 0,Nx (i.epoch),Nx (i.next),vs,vr,Nx (i.size),vd] 143),pt q2 (.cells #[pp J 0] 89),pt q6 (.cells #[Nx (e),Nx (n),ws,wr_,wz] 109),pt q3 (.cells #[sB sa xs (sc)] 27),aP S (pM k e n xs)] w'):=by
 refine enter (n:=63) Tryz.func91 rfl Tryz.ntmps91 rfl ?_ hw
 refine aL ?_
 rcases Nat.mod_two_eq_zero_or_one e with hpar|hpar
 ·refine gK (by kernel_rfl) (by kernel_rfl) (qE (iI 1) (qE eM (qE aY (qE (iI 0) ?_))))
  refine kX (v:= .agg #[pp S 1,pp S 2]) rfl rfl rfl (cK (vs:=[pp S 0]) aXt.ok rfl rfl) (fun w hw=> ?_) ?_
  ·obtain⟨β1,sb,kn,hw1,back⟩:=St.frame_all hw
   exact(lD β1 w hw1 S).mono (fun e w' ⟨he,hw'⟩=>⟨he,aF [true,true,true,true,true] rfl (back _ _ hw')⟩)
  refine qE aY (qE (cQ 2) ?_)
  refine dQ (v:= .int .i64 (0)) rfl rfl rfl (fI (by rw[hpar];rfl) (lR (a:=((e:Nat):Int)) (b:=(2:Int)) rfl rfl (by decide) (gD _ 2))) ?_
  refine dQ (v:=pp S 1) rfl rfl rfl (fM (cs:= #[pp S 1,pp S 2]) (k:=0) rfl rfl aEa.ok rfl (by decide) aGr.ok) (qE oap (kS (kM ?_)))
  refine lE (iI 1) (lE dN (iA rfl rfl rfl (cK (vs:=[pp J 0,pp S 1,.int .i64 (0)]) aXu.ok rfl rfl) ?_))
  intro w hw
  replace hw:=hw.perm (L':=_::_::_::_::_::[]) (by exact(((((aA 3 rfl).trans (aA 3 rfl)).trans (aA 3 rfl)).trans (aA 3 rfl)).trans (aA 4 rfl)))
  obtain⟨β1,sb,kn,hw1,back⟩:=St.frame (L:=[_]) (M:=_::_::_::_::[]) hw
  refine(aFe β1 w e hpar J S (kn _ (bY 0 rfl rfl)) k (hk.le (by omega)) 0 hw1).mono ?_
  rintro e w' (⟨rfl,ok1,hw'⟩|⟨rfl,ok1,hw'⟩)
  ·refine .inl ⟨_,rfl,_,back _ _ hw',?_⟩
   refine eB (sK ?_)
   intro w hw
   refine .inl ⟨rfl,fun h=>ok1 h.1,?_⟩
   rw[pM,if_neg (show ¬mL k e from ok1)]
   exact aF [true,true,true,true,true] rfl (hw.perm (L':=[pt J (.cells #[pp S 0,Nx (i.epoch),Nx (i.next),vs,vr,Nx (i.size),vd] 143),pt q2 (.cells #[pp J 0] 89),pt q6 (.cells #[Nx (e),Nx (n),ws,wr_,wz] 109),pt q3 (.cells #[sB sa xs (sc)] 27),aP S k]) (by exact(aV [1,2,3,4,0] 5 rfl (by kernel_rfl) (by kernel_rfl))))
  refine .inr ⟨_,rfl,_,back _ _ hw',?_⟩
  refine aN (aL ?_)
  have ok1:mL k e:=ok1
  have hf1:(vK k e).fits 524288:=hk.cut
  refine qP (L':=[aP S (vK k e),pt J (.cells #[pp S 0,Nx (i.epoch),Nx (i.next),vs,vr,Nx (i.size),vd] 143),pt q2 (.cells #[pp J 0] 89),pt q6 (.cells #[Nx (e),Nx (n),ws,wr_,wz] 109),pt q3 (.cells #[sB sa xs (sc)] 27)]) (by rfl) ?_
  refine jY 8 rfl rfl [⟨[],[],[0],[17],fun f=>f 17=pp J 0⟩,⟨[],[],[1],[18],fun f=>f 18=pp S 1⟩,⟨[],[],[2],[19],fun f=>f 19=pp q6 0⟩,⟨[2],[2],[],[20],fun f=>f 20=Nx (e)⟩,⟨[],[],[2],[21],fun f=>f 21=pp q6 1⟩,⟨[4],[4],[],[22],fun f=>f 22=Nx (n)⟩,⟨[],[],[3],[23],fun f=>f 23=sB sa xs (sc)⟩,⟨[2,3,4,5,6],[3,5,6],[],[24],fun f=>f 24=sB (dG (f 24)) (bP ((e:Nat):Int) ((n:Nat):Int) xs) (dH (f 24))⟩,⟨(List.range 8),[],[],[],fun _=>True⟩] [⟨none,none,[],[],fun _=>aP S (vK k e)⟩,⟨none,none,[],[],fun _=>pt J (.cells #[pp S 0,Nx (i.epoch),Nx (i.next),vs,vr,Nx (i.size),vd] 143)⟩,⟨none,none,[0],[],fun _=>pt q2 (.cells #[pp J 0] 89)⟩,⟨none,none,[3,5],[],fun _=>pt q6 (.cells #[Nx (e),Nx (n),ws,wr_,wz] 109)⟩,⟨none,none,[6],[],fun _=>pt q3 (.cells #[sB sa xs (sc)] 27)⟩,⟨(some 7),none,[],[24],fun f=>rB (dG (f 24)) (bP ((e:Nat):Int) ((n:Nat):Int) xs) (dH (f 24))⟩] [(0,pp q2 0),(3,pp S 1),(1,pp q6 0),(2,pp q3 0)] [0,2] [] (by kernel_rfl) (by kernel_rfl) (by kernel_rfl) (by kernel_rfl) (by kernel_rfl) (by kernel_rfl) rfl ⟨rfl,rfl,rfl,rfl,trivial⟩ ⟨?_,?_,?_,?_,?_,?_,?_,?_,trivial⟩ ?_
  ·rintro f M-⟨i0,-⟩
   exact aU (iI 0)
  ·rintro f M-⟨i0,-⟩
   exact aU dN
  ·rintro f M-⟨i0,-⟩
   exact aU aY
  ·rintro f M ⟨k0,-⟩-
   exact aU (cQ 0)
  ·rintro f M-⟨i0,-⟩
   exact aU aY
  ·rintro f M ⟨k0,-⟩-
   exact aU (cQ 0)
  ·rintro f M-⟨i0,-⟩
   exact aU (fR 0)
  ·rintro f M ⟨k0,k1,k2,-⟩-
   refine dU (aB (d:=23) (aB (d:=22) (aB (d:=20) rfl k0) k1) k2) ?_
   refine pN (cK (vs:=[Nx (e),Nx (n),sB sa xs (sc)]) aXv.ok rfl rfl) rfl fun w β1 sb kn hw1 back=>(xE β1 w hw1 ((e:Nat):Int) ((n:Nat):Int) xs _ (by omega) (Sl.mono _ _ _ _ _ sb (⟨⟨_,_,rfl,hl,hm,hx⟩⟩:Sl iK _ _ xs))).mono ?_
   rintro e w' ⟨p4,c5,rfl,hw'⟩
   refine⟨_,rfl,_,back _ _ hw',?_⟩
   refine aH ?_
   exact aO (aB (d:=23) (aB (d:=22) (aB (d:=20) rfl k0) k1) k2) rfl (aA 0 rfl)
  rintro fa6 ⟨k0,k1,-,-,-,-,-,k7,-⟩ ⟨j0,j1,-⟩
  refine lre ?_
  refine dE (d:=0) (v:=pp q2 0) j0 (dE (d:=1) (v:=pp q6 0) j1 (dE (d:=17) (v:=pp J 0) k0 ?_))
  refine dE (d:=18) (v:=pp S 1) k1 ?_
  refine dE (d:=24) (v:=sB (dG (fa6 24)) (bP ((e:Nat):Int) ((n:Nat):Int) xs) (dH (fa6 24))) k7 ?_
  refine iA rfl rfl rfl (cK (vs:=[pp J 0,pp S 1,.int .i64 (0),sB (dG (fa6 24)) (bP ((e:Nat):Int) ((n:Nat):Int) xs) (dH (fa6 24))]) aNz.ok rfl rfl) ?_
  intro w hw
  obtain⟨β1,sb,kn,hw1,back⟩:=St.frame (L:=[_]) (M:=_::_::_::_::_::[]) hw
  have hfl:=dC (e:Int) (n:Int) xs
  refine(zX β1 w e hpar J S (kn _ (bY 0 rfl rfl)) (vK k e) (hf1.le (by omega)) 0 (by omega) (bP ((e:Nat):Int) ((n:Nat):Int) xs) _ (by omega) (kU kn 4 rfl) hw1).mono ?_
  rintro e w' (⟨rfl,ok7,hw'⟩|⟨rfl,ok7,hw'⟩)
  ·refine .inl ⟨_,rfl,_,back _ _ hw',?_⟩
   refine eB (sK ?_)
   intro w hw
   refine .inl ⟨rfl,fun h=>ok7 h.2.1,?_⟩
   rw[pM,if_pos ok1,if_neg (show ¬qK k e n xs from ok7)]
   exact aF [true,true,true,true,true,false] rfl (hw.perm (L':=[pt J (.cells #[pp S 0,Nx (i.epoch),Nx (i.next),vs,vr,Nx (i.size),vd] 143),pt q2 (.cells #[pp J 0] 89),pt q6 (.cells #[Nx (e),Nx (n),ws,wr_,wz] 109),pt q3 (.cells #[sB sa xs (sc)] 27),aP S (sE (vK k e) e 0 (bP ((e:Nat):Int) ((n:Nat):Int) xs)),rB (dG (fa6 24)) (bP ((e:Nat):Int) ((n:Nat):Int) xs) (dH (fa6 24))]) (by exact(aV [1,2,3,4,0,5] 6 rfl (by kernel_rfl) (by kernel_rfl))))
  refine .inr ⟨_,rfl,_,back _ _ hw',?_⟩
  refine aN ?_
  have ok2:qK k e n xs:=ok7
  have hf2:(nZ k e n xs).fits 655360:=(hf1.wr).le (by rw[dC];omega)
  refine qP (L':=[aP S (nZ k e n xs),pt J (.cells #[pp S 0,Nx (i.epoch),Nx (i.next),vs,vr,Nx (i.size),vd] 143),pt q2 (.cells #[pp J 0] 89),pt q6 (.cells #[Nx (e),Nx (n),ws,wr_,wz] 109),pt q3 (.cells #[sB sa xs (sc)] 27),rB (dG (fa6 24)) (bP ((e:Nat):Int) ((n:Nat):Int) xs) (dH (fa6 24))]) (by rfl) ?_
  refine gG (fun(f:Fm) (L:List bU)=>(f 0=pp q2 0∧f 1=pp q6 0)∧L=[aP S (oA k e n xs),pt J (.cells #[pp S 0,Nx (i.epoch),Nx (i.next),vs,vr,Nx (i.size),vd] 143),pt q2 (.cells #[pp J 0] 89),pt q6 (.cells #[Nx (e),Nx (n),ws,wr_,wz] 109),pt q3 (.cells #[sB sa xs (sc)] 27),rB (dG (fa6 24)) (bP ((e:Nat):Int) ((n:Nat):Int) xs) (dH (fa6 24))]) ?_ ?_
  ·refine aL (aAe [0,1,2,3,4,5] 6 rfl (by kernel_rfl) (nK rfl (fun pH8 pA9 pB10 cH11 cA12 cB13=> ?_)))
   refine aC (lE (iI 5) (lE eM (lE aY (lE (iI 4) (lE eM (lE aY (lE (fR 0) (lE gO (lE eZ (aN ?_))))))))))
   refine cG _ rfl (fun hc14=> ?_) (fun hc14=> ?_)
   ·refine jH [sv 35 (pp J 0) [] [] [0],sv 36 (pp J 0) [0] [0] [],sv 37 (pp J 0) [0,1] [1] [],sv 38 (pp S 0) [0,1,2] [2] [],⟨[],[],[],[39],fun f=>f 39=sB (some ⟨(cU (f 39)),0,none⟩) (List.replicate 32 (0:UInt8)) 32⟩,sv 40 (pp S 0) [0,1,2,3,4] [3] [],sv 41 (pp S 0) (List.range 6) [5] [],⟨(List.range 7),[6,4],[],[],fun _=>True⟩] [(some 7,[7]),u0,u0,u0,u1 [3],u1 [0]] [⟨(some 4),none,[],[39],fun f=>rB (some ⟨(cU (f 39)),0,none⟩) (List.replicate 32 (0:UInt8)) 32⟩,⟨(some 7),none,[],[39],fun f=>pt S (.cells #[sB (some ⟨(cU (f 39)),0,none⟩) (List.replicate 32 (0:UInt8)) 32,sB pA9 ((nZ k e n xs).a) cA12,sB pB10 ((nZ k e n xs).b) cB13,Ix ((nZ k e n xs).power)] 29)⟩] [(0,pp q2 0),(1,pp q6 0)] [0,1] ⟨rfl,rfl,trivial⟩ ⟨?_,?_,?_,?_,?_,?_,?_,?_,trivial⟩ ?_
    ·rintro f M-⟨i0,-⟩
     exact aU (iI 0)
    ·rintro f M ⟨k0,-⟩-
     exact aU eM
    ·rintro f M ⟨k0,-⟩-
     exact aU aY
    ·rintro f M ⟨k0,-⟩-
     exact aU (iI 0)
    ·rintro f M- -
     refine dU rfl ?_
     refine dX rfl rfl rfl (aKe (c:=32) jV aGp aNy.ok rfl rfl (by omega) (by omega)) ?_
     rintro _ _ ⟨b16,rfl,rfl⟩
     refine aH ?_
     exact aO rfl rfl (aA 0 rfl)
    ·rintro f M ⟨k0,-⟩-
     exact aU eM
    ·rintro f M ⟨k0,-⟩-
     exact aU aY
    ·rintro f M ⟨k0,k1,-⟩-
     have hs39:f 39=sB (some ⟨(cU (f 39)),0,none⟩) (List.replicate 32 (0:UInt8)) 32:=k1
     refine dU (aB (aB (d:=41) rfl k0) hs39) ?_
     refine lu (mS 0 (#[sB (some ⟨(cU (f 39)),0,none⟩) (List.replicate 32 (0:UInt8)) 32,sB pA9 ((nZ k e n xs).a) cA12,sB pB10 ((nZ k e n xs).b) cB13,Ix ((nZ k e n xs).power)])) ?_
     refine aH ?_
     exact bB (aB (aB (d:=41) rfl k0) hs39) trivial (aA 0 rfl)
    rintro fa17 ⟨-,-,-,-,-,-,-,-,-⟩ ⟨j0,j1,-⟩
    refine jI ?_
    refine aD (d:=0) j0 (aD (d:=1) j1 (aVo [9,8,1,2,3,4,5,6,7,0] 10 rfl (by kernel_rfl) ?_))
    refine lV (S:=S) (k:=(oA k e n xs)) (pH:=(some ⟨(cU (fa17 39)),0,none⟩)) (pA:=pA9) (pB:=pB10) (cH:=32) (cA:=cA12) (cB:=cB13) (M:=(pt J (.cells #[pp S 0,Nx (i.epoch),Nx (i.next),vs,vr,Nx (i.size),vd] 143)::pt q2 (.cells #[pp J 0] 89)::pt q6 (.cells #[Nx (e),Nx (n),ws,wr_,wz] 109)::pt q3 (.cells #[sB sa xs (sc)] 27)::rB (dG (fa6 24)) (bP ((e:Nat):Int) ((n:Nat):Int) xs) (dH (fa6 24))::rB pH8 ((nZ k e n xs).head) cH11::[])) (by rw[show oA k e n xs={nZ k e n xs with head:=List.replicate 32 0}from if_pos (by omega)];rfl) ?_
    refine dM [true,true,true,true,true,true,false] rfl ?_
    exact bI ⟨⟨rfl,rfl⟩,rfl⟩
   refine cD (aVo [0,1,2,3,4,5,6,7,8] 9 rfl (by kernel_rfl) ?_)
   refine lV (S:=S) (k:=(oA k e n xs)) (pH:=pH8) (pA:=pA9) (pB:=pB10) (cH:=cH11) (cA:=cA12) (cB:=cB13) (M:=(pt J (.cells #[pp S 0,Nx (i.epoch),Nx (i.next),vs,vr,Nx (i.size),vd] 143)::pt q2 (.cells #[pp J 0] 89)::pt q6 (.cells #[Nx (e),Nx (n),ws,wr_,wz] 109)::pt q3 (.cells #[sB sa xs (sc)] 27)::rB (dG (fa6 24)) (bP ((e:Nat):Int) ((n:Nat):Int) xs) (dH (fa6 24))::[])) (by rw[show oA k e n xs=nZ k e n xs from if_neg (by omega)];rfl) ?_
   exact bI ⟨⟨rfl,rfl⟩,rfl⟩
  rintro f0 L0 ⟨⟨hs0,hs1⟩,hL⟩
  subst L0
  refine bM 0 hs0 (bM 1 hs1 ?_)
  have hf3:(oA k e n xs).fits 655360:=by unfold oA;simp only;split;exact aAz hf2 (by simp);exact hf2
  have hcl:(be 8 (U ((e:Nat):Int))++be 8 (eR ((e:Nat):Int))).length=16:=by simp[bT]
  refine aL ?_
  refine jH [sv 42 (pp q6 0) [] [] [0],sv 43 (Nx (e)) [0] [0] [],sv 44 (Ux (U ((e:Nat):Int))) [0,1] [1] [],⟨[0,1,2],[2],[],[45],fun f=>f 45=sB (dG (f 45)) (be 8 (U ((e:Nat):Int))) (dH (f 45))⟩,sv 46 (pp q6 0) [] [] [0],sv 47 (Nx (e)) [4] [4] [],sv 48 (Ux (eR ((e:Nat):Int))) (List.range 6) [5] [],⟨(List.range 7),[3,6],[],[49],fun f=>f 49=sB (dG (f 49)) ((be 8 (U ((e:Nat):Int)))++be 8 (eR ((e:Nat):Int))) (dH (f 49))⟩,⟨(List.range 8),[7],[],[4,49],fun f=>f 4=sB (dG (f 49)) ((be 8 (U ((e:Nat):Int)))++be 8 (eR ((e:Nat):Int))) (dH (f 49))⟩] [u0,u0,u0,u1 [1,5]] [⟨(some 3),(some 7),[7],[45],fun f=>rB (dG (f 45)) (be 8 (U ((e:Nat):Int))) (dH (f 45))⟩,⟨(some 7),none,[],[49],fun f=>rB (dG (f 49)) ((be 8 (U ((e:Nat):Int)))++be 8 (eR ((e:Nat):Int))) (dH (f 49))⟩] [(1,pp q6 0),(0,pp q2 0)] [1,0] ⟨rfl,rfl,trivial⟩ ⟨?_,?_,?_,?_,?_,?_,?_,?_,?_,trivial⟩ ?_
  ·rintro f M-⟨i0,-⟩
   exact aU aY
  ·rintro f M ⟨k0,-⟩-
   exact aU (cQ 0)
  ·rintro f M ⟨k0,-⟩-
   exact hO (aB (d:=43) rfl k0) rfl (fW (a:=((e:Nat):Int)) rfl ⟨_,tf1⟩ tf2 (sT _)) (.refl _)
  ·rintro f M ⟨k0,-⟩-
   refine dU (aB (d:=44) rfl k0) ?_
   refine pN (cK (vs:=[.slice none 0 0,Ux (U ((e:Nat):Int)),.int .i64 (8)]) aGq.ok rfl rfl) rfl fun w β1 sb kn hw1 back=>(pP β1 w hw1 (U ((e:Nat):Int)) 8 (by decide)).mono ?_
   rintro e w' ⟨p20,c21,rfl,hw'⟩
   refine⟨_,rfl,_,back _ _ hw',?_⟩
   refine aH ?_
   exact aO (aB (d:=44) rfl k0) rfl (aA 0 rfl)
  ·rintro f M-⟨i0,-⟩
   exact aU aY
  ·rintro f M ⟨k0,-⟩-
   exact aU (cQ 0)
  ·rintro f M ⟨k0,-⟩-
   refine dU (aB (d:=47) rfl k0) ?_
   refine iF iE (fun w β1 sb kn hw1=>aEb β1 w hw1 ((e:Nat):Int)) (aH ?_)
   exact aO (aB (d:=47) rfl k0) rfl (List.Perm.refl _)
  ·rintro f M ⟨k0,k1,-⟩-
   have hs45:f 45=sB (dG (f 45)) (be 8 (U ((e:Nat):Int))) (dH (f 45)):=k0
   refine dU (aB (d:=48) (aB rfl hs45) k1) ?_
   refine aW rfl rfl rfl (cK (vs:=[sB (dG (f 45)) (be 8 (U ((e:Nat):Int))) (dH (f 45)),Ux (eR ((e:Nat):Int)),.int .i64 (8)]) aGq.ok rfl rfl) ?_
   intro w hw
   obtain⟨β1,sb,kn,hw1,back⟩:=St.frame (L:=[_]) (M:=M) hw
   refine(jX β1 w _ _ (be 8 (U ((e:Nat):Int))) (eR ((e:Nat):Int)) 8 (by decide) (by simp only[List.length_append,bT];omega) hw1).mono ?_
   rintro e w' ⟨p24,c25,rfl,hw'⟩
   refine⟨_,rfl,_,back _ _ hw',?_⟩
   refine aH ?_
   exact aO (aB (d:=48) (aB rfl hs45) k1) rfl (aA 0 rfl)
  ·rintro f M ⟨k0,-⟩-
   have hs49:f 49=sB (dG (f 49)) ((be 8 (U ((e:Nat):Int)))++be 8 (eR ((e:Nat):Int))) (dH (f 49)):=k0
   exact aU iT
  rintro fa26 ⟨-,-,-,-,-,-,-,-,k8,-⟩ ⟨j0,j1,-⟩
  refine jI ?_
  refine aD (d:=0) j0 (aD (d:=1) j1 (aD (d:=4) k8 (bD ?_)))
  refine jY 12 rfl rfl [⟨[],[],[0],[50],fun f=>f 50=pp J 0⟩,⟨[],[],[0],[51],fun f=>f 51=pp J 0⟩,⟨[1],[1],[],[52],fun f=>f 52=pp J 0⟩,⟨[1,2],[2],[],[53],fun f=>f 53=pp J 0⟩,⟨[1,2,3],[3],[],[54],fun f=>f 54=pp S 0⟩,⟨[1,2,3,4],[4],[],[55],fun f=>f 55=pp S 0⟩,⟨[1,2,3,4,5],[5],[],[56],fun f=>f 56=pp S 0⟩,⟨[],[],[1],[57],fun f=>f 57=pp q6 0⟩,⟨[7],[7],[],[58],fun f=>f 58=Nx (e)⟩,⟨[7,8],[8],[],[59],fun f=>f 59= .int .i64 (0)⟩,⟨[7,8,9],[9],[],[60],fun f=>f 60= .int .i64 (0)⟩,⟨[],[],[2],[61],fun f=>f 61=sB (dG (fa26 49)) ((be 8 (U ((e:Nat):Int)))++be 8 (eR ((e:Nat):Int))) (dH (fa26 49))⟩,⟨(List.range 12),[],[],[],fun _=>True⟩] [⟨none,none,[],[],fun _=>aP S (oA k e n xs)⟩,⟨none,none,[4],[],fun _=>pt J (.cells #[pp S 0,Nx (i.epoch),Nx (i.next),vs,vr,Nx (i.size),vd] 143)⟩,⟨none,none,[0,1],[],fun _=>pt q2 (.cells #[pp J 0] 89)⟩,⟨none,none,[8],[],fun _=>pt q6 (.cells #[Nx (e),Nx (n),ws,wr_,wz] 109)⟩,⟨none,none,[],[],fun _=>pt q3 (.cells #[sB sa xs (sc)] 27)⟩,⟨none,none,[],[],fun _=>rB (dG (fa6 24)) (bP ((e:Nat):Int) ((n:Nat):Int) xs) (dH (fa6 24))⟩,⟨none,none,[],[],fun _=>rB (dG (fa26 49)) ((be 8 (U ((e:Nat):Int)))++be 8 (eR ((e:Nat):Int))) (dH (fa26 49))⟩] [(0,pp q2 0),(1,pp q6 0),(4,sB (dG (fa26 49)) ((be 8 (U ((e:Nat):Int)))++be 8 (eR ((e:Nat):Int))) (dH (fa26 49)))] [] [] (by kernel_rfl) (by kernel_rfl) (by kernel_rfl) (by kernel_rfl) (by kernel_rfl) (by kernel_rfl) rfl ⟨rfl,rfl,rfl,trivial⟩ ⟨?_,?_,?_,?_,?_,?_,?_,?_,?_,?_,?_,?_,trivial⟩ ?_
  ·rintro f M-⟨i0,-⟩
   exact aU (iI 0)
  ·rintro f M-⟨i0,-⟩
   exact aU (iI 0)
  ·rintro f M ⟨k0,-⟩-
   exact aU eM
  ·rintro f M ⟨k0,-⟩-
   exact aU aY
  ·rintro f M ⟨k0,-⟩-
   exact aU (iI 0)
  ·rintro f M ⟨k0,-⟩-
   exact aU eM
  ·rintro f M ⟨k0,-⟩-
   exact aU aY
  ·rintro f M-⟨i0,-⟩
   exact aU aY
  ·rintro f M ⟨k0,-⟩-
   exact aU (cQ 0)
  ·rintro f M ⟨k0,-⟩-
   exact hO (aB (d:=58) rfl k0) rfl (fI (by rw[hpar];rfl) (lR (a:=((e:Nat):Int)) (b:=(2:Int)) rfl rfl (by decide) (gD _ 2))) (.refl _)
  ·rintro f M ⟨k0,-⟩-
   exact hO (aB (d:=59) rfl k0) rfl (tW (a:=(0:Int)) (b:=(16:Int)) rfl rfl (by decide)) (.refl _)
  ·rintro f M-⟨i0,-⟩
   exact aU fN
  rintro fa27 ⟨k0,-,-,-,-,-,k6,-,-,-,k10,k11,-⟩-
  refine lre ?_
  refine dE (d:=50) (v:=pp J 0) k0 (dE (d:=56) (v:=pp S 0) k6 (dE (d:=60) (v:= .int .i64 (0)) k10 ?_))
  refine dE (d:=61) (v:=sB (dG (fa26 49)) ((be 8 (U ((e:Nat):Int)))++be 8 (eR ((e:Nat):Int))) (dH (fa26 49))) k11 ?_
  refine iA rfl rfl rfl (cK (vs:=[pp J 0,pp S 0,.int .i64 (0),sB (dG (fa26 49)) ((be 8 (U ((e:Nat):Int)))++be 8 (eR ((e:Nat):Int))) (dH (fa26 49))]) aNz.ok rfl rfl) ?_
  intro w hw
  obtain⟨β1,sb,kn,hw1,back⟩:=St.frame (L:=[_]) (M:=_::_::_::_::_::_::[]) hw
  refine(aCg β1 w J S (kn _ (bY 0 rfl rfl)) (oA k e n xs) (hf3.le (by omega)) 0 (by omega) ((be 8 (U ((e:Nat):Int)))++be 8 (eR ((e:Nat):Int))) _ (by omega) (kU kn 5 rfl) hw1).mono ?_
  rintro e w' (⟨rfl,ok28,hw'⟩|⟨rfl,ok28,hw'⟩)
  ·refine .inl ⟨_,rfl,_,back _ _ hw',?_⟩
   refine sK ?_
   intro w hw
   refine .inl ⟨rfl,fun h=>ok28 h.2.2,?_⟩
   rw[pM,if_pos ok1,if_pos ok2,ck4,show e%2*16=0 by omega]
   exact aF [true,true,true,true,true,false,false] rfl (hw.perm (L':=[pt J (.cells #[pp S 0,Nx (i.epoch),Nx (i.next),vs,vr,Nx (i.size),vd] 143),pt q2 (.cells #[pp J 0] 89),pt q6 (.cells #[Nx (e),Nx (n),ws,wr_,wz] 109),pt q3 (.cells #[sB sa xs (sc)] 27),aP S (wrH (oA k e n xs) 0 ((be 8 (U ((e:Nat):Int)))++be 8 (eR ((e:Nat):Int)))),rB (dG (fa6 24)) (bP ((e:Nat):Int) ((n:Nat):Int) xs) (dH (fa6 24)),rB (dG (fa26 49)) ((be 8 (U ((e:Nat):Int)))++be 8 (eR ((e:Nat):Int))) (dH (fa26 49))]) (by exact(aV [1,2,3,4,0,5,6] 7 rfl (by kernel_rfl) (by kernel_rfl))))
  refine .inr ⟨_,rfl,_,back _ _ hw',?_⟩
  refine aH (mQ Tryz.results91 ?_)
  intro w hw
  refine .inr ⟨rfl,⟨ok1,ok2,ok28⟩,?_⟩
  rw[pM,if_pos ok1,if_pos ok2,ck4,show e%2*16=0 by omega]
  exact aF [true,true,true,true,true,false,false] rfl (hw.perm (L':=[pt J (.cells #[pp S 0,Nx (i.epoch),Nx (i.next),vs,vr,Nx (i.size),vd] 143),pt q2 (.cells #[pp J 0] 89),pt q6 (.cells #[Nx (e),Nx (n),ws,wr_,wz] 109),pt q3 (.cells #[sB sa xs (sc)] 27),aP S (wrH (oA k e n xs) 0 ((be 8 (U ((e:Nat):Int)))++be 8 (eR ((e:Nat):Int)))),rB (dG (fa6 24)) (bP ((e:Nat):Int) ((n:Nat):Int) xs) (dH (fa6 24)),rB (dG (fa26 49)) ((be 8 (U ((e:Nat):Int)))++be 8 (eR ((e:Nat):Int))) (dH (fa26 49))]) (by exact(aV [1,2,3,4,0,5,6] 7 rfl (by kernel_rfl) (by kernel_rfl))))
 refine gK (by kernel_rfl) (by kernel_rfl) (qE (iI 1) (qE eM (qE aY (qE (iI 0) ?_))))
 refine kX (v:= .agg #[pp S 1,pp S 2]) rfl rfl rfl (cK (vs:=[pp S 0]) aXt.ok rfl rfl) (fun w hw=> ?_) ?_
 ·obtain⟨β1,sb,kn,hw1,back⟩:=St.frame_all hw
  exact(lD β1 w hw1 S).mono (fun e w' ⟨he,hw'⟩=>⟨he,aF [true,true,true,true,true] rfl (back _ _ hw')⟩)
 refine qE aY (qE (cQ 2) ?_)
 refine dQ (v:= .int .i64 (1)) rfl rfl rfl (fI (by rw[hpar];rfl) (lR (a:=((e:Nat):Int)) (b:=(2:Int)) rfl rfl (by decide) (gD _ 2))) ?_
 refine dQ (v:=pp S 2) rfl rfl rfl (fM (cs:= #[pp S 1,pp S 2]) (k:=1) rfl rfl aEa.ok rfl (by decide) aGr.ok) (qE oap (kS (kM ?_)))
 refine lE (iI 1) (lE dN (iA rfl rfl rfl (cK (vs:=[pp J 0,pp S 2,.int .i64 (0)]) aXu.ok rfl rfl) ?_))
 intro w hw
 replace hw:=hw.perm (L':=_::_::_::_::_::[]) (by exact(((((aA 3 rfl).trans (aA 3 rfl)).trans (aA 3 rfl)).trans (aA 3 rfl)).trans (aA 4 rfl)))
 obtain⟨β1,sb,kn,hw1,back⟩:=St.frame (L:=[_]) (M:=_::_::_::_::[]) hw
 refine(aFf β1 w e hpar J S (kn _ (bY 0 rfl rfl)) k (hk.le (by omega)) 0 hw1).mono ?_
 rintro e w' (⟨rfl,ok29,hw'⟩|⟨rfl,ok29,hw'⟩)
 ·refine .inl ⟨_,rfl,_,back _ _ hw',?_⟩
  refine eB (sK ?_)
  intro w hw
  refine .inl ⟨rfl,fun h=>ok29 h.1,?_⟩
  rw[pM,if_neg (show ¬mL k e from ok29)]
  exact aF [true,true,true,true,true] rfl (hw.perm (L':=[pt J (.cells #[pp S 0,Nx (i.epoch),Nx (i.next),vs,vr,Nx (i.size),vd] 143),pt q2 (.cells #[pp J 0] 89),pt q6 (.cells #[Nx (e),Nx (n),ws,wr_,wz] 109),pt q3 (.cells #[sB sa xs (sc)] 27),aP S k]) (by exact(aV [1,2,3,4,0] 5 rfl (by kernel_rfl) (by kernel_rfl))))
 refine .inr ⟨_,rfl,_,back _ _ hw',?_⟩
 refine aN (aL ?_)
 have ok1:mL k e:=ok29
 have hf1:(vK k e).fits 524288:=hk.cut
 refine qP (L':=[aP S (vK k e),pt J (.cells #[pp S 0,Nx (i.epoch),Nx (i.next),vs,vr,Nx (i.size),vd] 143),pt q2 (.cells #[pp J 0] 89),pt q6 (.cells #[Nx (e),Nx (n),ws,wr_,wz] 109),pt q3 (.cells #[sB sa xs (sc)] 27)]) (by rfl) ?_
 refine jY 8 rfl rfl [⟨[],[],[0],[17],fun f=>f 17=pp J 0⟩,⟨[],[],[1],[18],fun f=>f 18=pp S 2⟩,⟨[],[],[2],[19],fun f=>f 19=pp q6 0⟩,⟨[2],[2],[],[20],fun f=>f 20=Nx (e)⟩,⟨[],[],[2],[21],fun f=>f 21=pp q6 1⟩,⟨[4],[4],[],[22],fun f=>f 22=Nx (n)⟩,⟨[],[],[3],[23],fun f=>f 23=sB sa xs (sc)⟩,⟨[2,3,4,5,6],[3,5,6],[],[24],fun f=>f 24=sB (dG (f 24)) (bP ((e:Nat):Int) ((n:Nat):Int) xs) (dH (f 24))⟩,⟨(List.range 8),[],[],[],fun _=>True⟩] [⟨none,none,[],[],fun _=>aP S (vK k e)⟩,⟨none,none,[],[],fun _=>pt J (.cells #[pp S 0,Nx (i.epoch),Nx (i.next),vs,vr,Nx (i.size),vd] 143)⟩,⟨none,none,[0],[],fun _=>pt q2 (.cells #[pp J 0] 89)⟩,⟨none,none,[3,5],[],fun _=>pt q6 (.cells #[Nx (e),Nx (n),ws,wr_,wz] 109)⟩,⟨none,none,[6],[],fun _=>pt q3 (.cells #[sB sa xs (sc)] 27)⟩,⟨(some 7),none,[],[24],fun f=>rB (dG (f 24)) (bP ((e:Nat):Int) ((n:Nat):Int) xs) (dH (f 24))⟩] [(0,pp q2 0),(3,pp S 2),(1,pp q6 0),(2,pp q3 0)] [0,2] [] (by kernel_rfl) (by kernel_rfl) (by kernel_rfl) (by kernel_rfl) (by kernel_rfl) (by kernel_rfl) rfl ⟨rfl,rfl,rfl,rfl,trivial⟩ ⟨?_,?_,?_,?_,?_,?_,?_,?_,trivial⟩ ?_
 ·rintro f M-⟨i0,-⟩
  exact aU (iI 0)
 ·rintro f M-⟨i0,-⟩
  exact aU dN
 ·rintro f M-⟨i0,-⟩
  exact aU aY
 ·rintro f M ⟨k0,-⟩-
  exact aU (cQ 0)
 ·rintro f M-⟨i0,-⟩
  exact aU aY
 ·rintro f M ⟨k0,-⟩-
  exact aU (cQ 0)
 ·rintro f M-⟨i0,-⟩
  exact aU (fR 0)
 ·rintro f M ⟨k0,k1,k2,-⟩-
  refine dU (aB (d:=23) (aB (d:=22) (aB (d:=20) rfl k0) k1) k2) ?_
  refine pN (cK (vs:=[Nx (e),Nx (n),sB sa xs (sc)]) aXv.ok rfl rfl) rfl fun w β1 sb kn hw1 back=>(xE β1 w hw1 ((e:Nat):Int) ((n:Nat):Int) xs _ (by omega) (Sl.mono _ _ _ _ _ sb (⟨⟨_,_,rfl,hl,hm,hx⟩⟩:Sl iK _ _ xs))).mono ?_
  rintro e w' ⟨p32,c33,rfl,hw'⟩
  refine⟨_,rfl,_,back _ _ hw',?_⟩
  refine aH ?_
  exact aO (aB (d:=23) (aB (d:=22) (aB (d:=20) rfl k0) k1) k2) rfl (aA 0 rfl)
 rintro fa34 ⟨k0,k1,-,-,-,-,-,k7,-⟩ ⟨j0,j1,-⟩
 refine lre ?_
 refine dE (d:=0) (v:=pp q2 0) j0 (dE (d:=1) (v:=pp q6 0) j1 (dE (d:=17) (v:=pp J 0) k0 ?_))
 refine dE (d:=18) (v:=pp S 2) k1 ?_
 refine dE (d:=24) (v:=sB (dG (fa34 24)) (bP ((e:Nat):Int) ((n:Nat):Int) xs) (dH (fa34 24))) k7 ?_
 refine iA rfl rfl rfl (cK (vs:=[pp J 0,pp S 2,.int .i64 (0),sB (dG (fa34 24)) (bP ((e:Nat):Int) ((n:Nat):Int) xs) (dH (fa34 24))]) aNz.ok rfl rfl) ?_
 intro w hw
 obtain⟨β1,sb,kn,hw1,back⟩:=St.frame (L:=[_]) (M:=_::_::_::_::_::[]) hw
 have hfl:=dC (e:Int) (n:Int) xs
 refine(zY β1 w e hpar J S (kn _ (bY 0 rfl rfl)) (vK k e) (hf1.le (by omega)) 0 (by omega) (bP ((e:Nat):Int) ((n:Nat):Int) xs) _ (by omega) (kU kn 4 rfl) hw1).mono ?_
 rintro e w' (⟨rfl,ok35,hw'⟩|⟨rfl,ok35,hw'⟩)
 ·refine .inl ⟨_,rfl,_,back _ _ hw',?_⟩
  refine eB (sK ?_)
  intro w hw
  refine .inl ⟨rfl,fun h=>ok35 h.2.1,?_⟩
  rw[pM,if_pos ok1,if_neg (show ¬qK k e n xs from ok35)]
  exact aF [true,true,true,true,true,false] rfl (hw.perm (L':=[pt J (.cells #[pp S 0,Nx (i.epoch),Nx (i.next),vs,vr,Nx (i.size),vd] 143),pt q2 (.cells #[pp J 0] 89),pt q6 (.cells #[Nx (e),Nx (n),ws,wr_,wz] 109),pt q3 (.cells #[sB sa xs (sc)] 27),aP S (sE (vK k e) e 0 (bP ((e:Nat):Int) ((n:Nat):Int) xs)),rB (dG (fa34 24)) (bP ((e:Nat):Int) ((n:Nat):Int) xs) (dH (fa34 24))]) (by exact(aV [1,2,3,4,0,5] 6 rfl (by kernel_rfl) (by kernel_rfl))))
 refine .inr ⟨_,rfl,_,back _ _ hw',?_⟩
 refine aN ?_
 have ok2:qK k e n xs:=ok35
 have hf2:(nZ k e n xs).fits 655360:=(hf1.wr).le (by rw[dC];omega)
 refine qP (L':=[aP S (nZ k e n xs),pt J (.cells #[pp S 0,Nx (i.epoch),Nx (i.next),vs,vr,Nx (i.size),vd] 143),pt q2 (.cells #[pp J 0] 89),pt q6 (.cells #[Nx (e),Nx (n),ws,wr_,wz] 109),pt q3 (.cells #[sB sa xs (sc)] 27),rB (dG (fa34 24)) (bP ((e:Nat):Int) ((n:Nat):Int) xs) (dH (fa34 24))]) (by rfl) ?_
 refine gG (fun(f:Fm) (L:List bU)=>(f 0=pp q2 0∧f 1=pp q6 0)∧L=[aP S (oA k e n xs),pt J (.cells #[pp S 0,Nx (i.epoch),Nx (i.next),vs,vr,Nx (i.size),vd] 143),pt q2 (.cells #[pp J 0] 89),pt q6 (.cells #[Nx (e),Nx (n),ws,wr_,wz] 109),pt q3 (.cells #[sB sa xs (sc)] 27),rB (dG (fa34 24)) (bP ((e:Nat):Int) ((n:Nat):Int) xs) (dH (fa34 24))]) ?_ ?_
 ·refine aL (aAe [0,1,2,3,4,5] 6 rfl (by kernel_rfl) (nK rfl (fun pH36 pA37 pB38 cH39 cA40 cB41=> ?_)))
  refine aC (lE (iI 5) (lE eM (lE aY (lE (iI 4) (lE eM (lE aY (lE (fR 0) (lE gO (lE eZ (aN ?_))))))))))
  refine cG _ rfl (fun hc42=> ?_) (fun hc42=> ?_)
  ·refine jH [sv 35 (pp J 0) [] [] [0],sv 36 (pp J 0) [0] [0] [],sv 37 (pp J 0) [0,1] [1] [],sv 38 (pp S 0) [0,1,2] [2] [],⟨[],[],[],[39],fun f=>f 39=sB (some ⟨(cU (f 39)),0,none⟩) (List.replicate 32 (0:UInt8)) 32⟩,sv 40 (pp S 0) [0,1,2,3,4] [3] [],sv 41 (pp S 0) (List.range 6) [5] [],⟨(List.range 7),[6,4],[],[],fun _=>True⟩] [(some 7,[7]),u0,u0,u0,u1 [3],u1 [0]] [⟨(some 4),none,[],[39],fun f=>rB (some ⟨(cU (f 39)),0,none⟩) (List.replicate 32 (0:UInt8)) 32⟩,⟨(some 7),none,[],[39],fun f=>pt S (.cells #[sB (some ⟨(cU (f 39)),0,none⟩) (List.replicate 32 (0:UInt8)) 32,sB pA37 ((nZ k e n xs).a) cA40,sB pB38 ((nZ k e n xs).b) cB41,Ix ((nZ k e n xs).power)] 29)⟩] [(0,pp q2 0),(1,pp q6 0)] [0,1] ⟨rfl,rfl,trivial⟩ ⟨?_,?_,?_,?_,?_,?_,?_,?_,trivial⟩ ?_
   ·rintro f M-⟨i0,-⟩
    exact aU (iI 0)
   ·rintro f M ⟨k0,-⟩-
    exact aU eM
   ·rintro f M ⟨k0,-⟩-
    exact aU aY
   ·rintro f M ⟨k0,-⟩-
    exact aU (iI 0)
   ·rintro f M- -
    refine dU rfl ?_
    refine dX rfl rfl rfl (aKe (c:=32) jV aGp aNy.ok rfl rfl (by omega) (by omega)) ?_
    rintro _ _ ⟨b44,rfl,rfl⟩
    refine aH ?_
    exact aO rfl rfl (aA 0 rfl)
   ·rintro f M ⟨k0,-⟩-
    exact aU eM
   ·rintro f M ⟨k0,-⟩-
    exact aU aY
   ·rintro f M ⟨k0,k1,-⟩-
    have hs39:f 39=sB (some ⟨(cU (f 39)),0,none⟩) (List.replicate 32 (0:UInt8)) 32:=k1
    refine dU (aB (aB (d:=41) rfl k0) hs39) ?_
    refine lu (mS 0 (#[sB (some ⟨(cU (f 39)),0,none⟩) (List.replicate 32 (0:UInt8)) 32,sB pA37 ((nZ k e n xs).a) cA40,sB pB38 ((nZ k e n xs).b) cB41,Ix ((nZ k e n xs).power)])) ?_
    refine aH ?_
    exact bB (aB (aB (d:=41) rfl k0) hs39) trivial (aA 0 rfl)
   rintro fa45 ⟨-,-,-,-,-,-,-,-,-⟩ ⟨j0,j1,-⟩
   refine jI ?_
   refine aD (d:=0) j0 (aD (d:=1) j1 (aVo [9,8,1,2,3,4,5,6,7,0] 10 rfl (by kernel_rfl) ?_))
   refine lV (S:=S) (k:=(oA k e n xs)) (pH:=(some ⟨(cU (fa45 39)),0,none⟩)) (pA:=pA37) (pB:=pB38) (cH:=32) (cA:=cA40) (cB:=cB41) (M:=(pt J (.cells #[pp S 0,Nx (i.epoch),Nx (i.next),vs,vr,Nx (i.size),vd] 143)::pt q2 (.cells #[pp J 0] 89)::pt q6 (.cells #[Nx (e),Nx (n),ws,wr_,wz] 109)::pt q3 (.cells #[sB sa xs (sc)] 27)::rB (dG (fa34 24)) (bP ((e:Nat):Int) ((n:Nat):Int) xs) (dH (fa34 24))::rB pH36 ((nZ k e n xs).head) cH39::[])) (by rw[show oA k e n xs={nZ k e n xs with head:=List.replicate 32 0}from if_pos (by omega)];rfl) ?_
   refine dM [true,true,true,true,true,true,false] rfl ?_
   exact bI ⟨⟨rfl,rfl⟩,rfl⟩
  refine cD (aVo [0,1,2,3,4,5,6,7,8] 9 rfl (by kernel_rfl) ?_)
  refine lV (S:=S) (k:=(oA k e n xs)) (pH:=pH36) (pA:=pA37) (pB:=pB38) (cH:=cH39) (cA:=cA40) (cB:=cB41) (M:=(pt J (.cells #[pp S 0,Nx (i.epoch),Nx (i.next),vs,vr,Nx (i.size),vd] 143)::pt q2 (.cells #[pp J 0] 89)::pt q6 (.cells #[Nx (e),Nx (n),ws,wr_,wz] 109)::pt q3 (.cells #[sB sa xs (sc)] 27)::rB (dG (fa34 24)) (bP ((e:Nat):Int) ((n:Nat):Int) xs) (dH (fa34 24))::[])) (by rw[show oA k e n xs=nZ k e n xs from if_neg (by omega)];rfl) ?_
  exact bI ⟨⟨rfl,rfl⟩,rfl⟩
 rintro f0 L0 ⟨⟨hs0,hs1⟩,hL⟩
 subst L0
 refine bM 0 hs0 (bM 1 hs1 ?_)
 have hf3:(oA k e n xs).fits 655360:=by unfold oA;simp only;split;exact aAz hf2 (by simp);exact hf2
 have hcl:(be 8 (U ((e:Nat):Int))++be 8 (eR ((e:Nat):Int))).length=16:=by simp[bT]
 refine aL ?_
 refine jH [sv 42 (pp q6 0) [] [] [0],sv 43 (Nx (e)) [0] [0] [],sv 44 (Ux (U ((e:Nat):Int))) [0,1] [1] [],⟨[0,1,2],[2],[],[45],fun f=>f 45=sB (dG (f 45)) (be 8 (U ((e:Nat):Int))) (dH (f 45))⟩,sv 46 (pp q6 0) [] [] [0],sv 47 (Nx (e)) [4] [4] [],sv 48 (Ux (eR ((e:Nat):Int))) (List.range 6) [5] [],⟨(List.range 7),[3,6],[],[49],fun f=>f 49=sB (dG (f 49)) ((be 8 (U ((e:Nat):Int)))++be 8 (eR ((e:Nat):Int))) (dH (f 49))⟩,⟨(List.range 8),[7],[],[4,49],fun f=>f 4=sB (dG (f 49)) ((be 8 (U ((e:Nat):Int)))++be 8 (eR ((e:Nat):Int))) (dH (f 49))⟩] [u0,u0,u0,u1 [1,5]] [⟨(some 3),(some 7),[7],[45],fun f=>rB (dG (f 45)) (be 8 (U ((e:Nat):Int))) (dH (f 45))⟩,⟨(some 7),none,[],[49],fun f=>rB (dG (f 49)) ((be 8 (U ((e:Nat):Int)))++be 8 (eR ((e:Nat):Int))) (dH (f 49))⟩] [(1,pp q6 0),(0,pp q2 0)] [1,0] ⟨rfl,rfl,trivial⟩ ⟨?_,?_,?_,?_,?_,?_,?_,?_,?_,trivial⟩ ?_
 ·rintro f M-⟨i0,-⟩
  exact aU aY
 ·rintro f M ⟨k0,-⟩-
  exact aU (cQ 0)
 ·rintro f M ⟨k0,-⟩-
  exact hO (aB (d:=43) rfl k0) rfl (fW (a:=((e:Nat):Int)) rfl ⟨_,tf1⟩ tf2 (sT _)) (.refl _)
 ·rintro f M ⟨k0,-⟩-
  refine dU (aB (d:=44) rfl k0) ?_
  refine pN (cK (vs:=[.slice none 0 0,Ux (U ((e:Nat):Int)),.int .i64 (8)]) aGq.ok rfl rfl) rfl fun w β1 sb kn hw1 back=>(pP β1 w hw1 (U ((e:Nat):Int)) 8 (by decide)).mono ?_
  rintro e w' ⟨p48,c49,rfl,hw'⟩
  refine⟨_,rfl,_,back _ _ hw',?_⟩
  refine aH ?_
  exact aO (aB (d:=44) rfl k0) rfl (aA 0 rfl)
 ·rintro f M-⟨i0,-⟩
  exact aU aY
 ·rintro f M ⟨k0,-⟩-
  exact aU (cQ 0)
 ·rintro f M ⟨k0,-⟩-
  refine dU (aB (d:=47) rfl k0) ?_
  refine iF iE (fun w β1 sb kn hw1=>aEb β1 w hw1 ((e:Nat):Int)) (aH ?_)
  exact aO (aB (d:=47) rfl k0) rfl (List.Perm.refl _)
 ·rintro f M ⟨k0,k1,-⟩-
  have hs45:f 45=sB (dG (f 45)) (be 8 (U ((e:Nat):Int))) (dH (f 45)):=k0
  refine dU (aB (d:=48) (aB rfl hs45) k1) ?_
  refine aW rfl rfl rfl (cK (vs:=[sB (dG (f 45)) (be 8 (U ((e:Nat):Int))) (dH (f 45)),Ux (eR ((e:Nat):Int)),.int .i64 (8)]) aGq.ok rfl rfl) ?_
  intro w hw
  obtain⟨β1,sb,kn,hw1,back⟩:=St.frame (L:=[_]) (M:=M) hw
  refine(jX β1 w _ _ (be 8 (U ((e:Nat):Int))) (eR ((e:Nat):Int)) 8 (by decide) (by simp only[List.length_append,bT];omega) hw1).mono ?_
  rintro e w' ⟨p52,c53,rfl,hw'⟩
  refine⟨_,rfl,_,back _ _ hw',?_⟩
  refine aH ?_
  exact aO (aB (d:=48) (aB rfl hs45) k1) rfl (aA 0 rfl)
 ·rintro f M ⟨k0,-⟩-
  have hs49:f 49=sB (dG (f 49)) ((be 8 (U ((e:Nat):Int)))++be 8 (eR ((e:Nat):Int))) (dH (f 49)):=k0
  exact aU iT
 rintro fa54 ⟨-,-,-,-,-,-,-,-,k8,-⟩ ⟨j0,j1,-⟩
 refine jI ?_
 refine aD (d:=0) j0 (aD (d:=1) j1 (aD (d:=4) k8 (bD ?_)))
 refine jY 12 rfl rfl [⟨[],[],[0],[50],fun f=>f 50=pp J 0⟩,⟨[],[],[0],[51],fun f=>f 51=pp J 0⟩,⟨[1],[1],[],[52],fun f=>f 52=pp J 0⟩,⟨[1,2],[2],[],[53],fun f=>f 53=pp J 0⟩,⟨[1,2,3],[3],[],[54],fun f=>f 54=pp S 0⟩,⟨[1,2,3,4],[4],[],[55],fun f=>f 55=pp S 0⟩,⟨[1,2,3,4,5],[5],[],[56],fun f=>f 56=pp S 0⟩,⟨[],[],[1],[57],fun f=>f 57=pp q6 0⟩,⟨[7],[7],[],[58],fun f=>f 58=Nx (e)⟩,⟨[7,8],[8],[],[59],fun f=>f 59= .int .i64 (1)⟩,⟨[7,8,9],[9],[],[60],fun f=>f 60= .int .i64 (16)⟩,⟨[],[],[2],[61],fun f=>f 61=sB (dG (fa54 49)) ((be 8 (U ((e:Nat):Int)))++be 8 (eR ((e:Nat):Int))) (dH (fa54 49))⟩,⟨(List.range 12),[],[],[],fun _=>True⟩] [⟨none,none,[],[],fun _=>aP S (oA k e n xs)⟩,⟨none,none,[4],[],fun _=>pt J (.cells #[pp S 0,Nx (i.epoch),Nx (i.next),vs,vr,Nx (i.size),vd] 143)⟩,⟨none,none,[0,1],[],fun _=>pt q2 (.cells #[pp J 0] 89)⟩,⟨none,none,[8],[],fun _=>pt q6 (.cells #[Nx (e),Nx (n),ws,wr_,wz] 109)⟩,⟨none,none,[],[],fun _=>pt q3 (.cells #[sB sa xs (sc)] 27)⟩,⟨none,none,[],[],fun _=>rB (dG (fa34 24)) (bP ((e:Nat):Int) ((n:Nat):Int) xs) (dH (fa34 24))⟩,⟨none,none,[],[],fun _=>rB (dG (fa54 49)) ((be 8 (U ((e:Nat):Int)))++be 8 (eR ((e:Nat):Int))) (dH (fa54 49))⟩] [(0,pp q2 0),(1,pp q6 0),(4,sB (dG (fa54 49)) ((be 8 (U ((e:Nat):Int)))++be 8 (eR ((e:Nat):Int))) (dH (fa54 49)))] [] [] (by kernel_rfl) (by kernel_rfl) (by kernel_rfl) (by kernel_rfl) (by kernel_rfl) (by kernel_rfl) rfl ⟨rfl,rfl,rfl,trivial⟩ ⟨?_,?_,?_,?_,?_,?_,?_,?_,?_,?_,?_,?_,trivial⟩ ?_
 ·rintro f M-⟨i0,-⟩
  exact aU (iI 0)
 ·rintro f M-⟨i0,-⟩
  exact aU (iI 0)
 ·rintro f M ⟨k0,-⟩-
  exact aU eM
 ·rintro f M ⟨k0,-⟩-
  exact aU aY
 ·rintro f M ⟨k0,-⟩-
  exact aU (iI 0)
 ·rintro f M ⟨k0,-⟩-
  exact aU eM
 ·rintro f M ⟨k0,-⟩-
  exact aU aY
 ·rintro f M-⟨i0,-⟩
  exact aU aY
 ·rintro f M ⟨k0,-⟩-
  exact aU (cQ 0)
 ·rintro f M ⟨k0,-⟩-
  exact hO (aB (d:=58) rfl k0) rfl (fI (by rw[hpar];rfl) (lR (a:=((e:Nat):Int)) (b:=(2:Int)) rfl rfl (by decide) (gD _ 2))) (.refl _)
 ·rintro f M ⟨k0,-⟩-
  exact hO (aB (d:=59) rfl k0) rfl (tW (a:=(1:Int)) (b:=(16:Int)) rfl rfl (by decide)) (.refl _)
 ·rintro f M-⟨i0,-⟩
  exact aU fN
 rintro fa55 ⟨k0,-,-,-,-,-,k6,-,-,-,k10,k11,-⟩-
 refine lre ?_
 refine dE (d:=50) (v:=pp J 0) k0 (dE (d:=56) (v:=pp S 0) k6 (dE (d:=60) (v:= .int .i64 (16)) k10 ?_))
 refine dE (d:=61) (v:=sB (dG (fa54 49)) ((be 8 (U ((e:Nat):Int)))++be 8 (eR ((e:Nat):Int))) (dH (fa54 49))) k11 ?_
 refine iA rfl rfl rfl (cK (vs:=[pp J 0,pp S 0,.int .i64 (16),sB (dG (fa54 49)) ((be 8 (U ((e:Nat):Int)))++be 8 (eR ((e:Nat):Int))) (dH (fa54 49))]) aNz.ok rfl rfl) ?_
 intro w hw
 obtain⟨β1,sb,kn,hw1,back⟩:=St.frame (L:=[_]) (M:=_::_::_::_::_::_::[]) hw
 refine(aCg β1 w J S (kn _ (bY 0 rfl rfl)) (oA k e n xs) (hf3.le (by omega)) 16 (by omega) ((be 8 (U ((e:Nat):Int)))++be 8 (eR ((e:Nat):Int))) _ (by omega) (kU kn 5 rfl) hw1).mono ?_
 rintro e w' (⟨rfl,ok56,hw'⟩|⟨rfl,ok56,hw'⟩)
 ·refine .inl ⟨_,rfl,_,back _ _ hw',?_⟩
  refine sK ?_
  intro w hw
  refine .inl ⟨rfl,fun h=>ok56 h.2.2,?_⟩
  rw[pM,if_pos ok1,if_pos ok2,ck4,show e%2*16=16 by omega]
  exact aF [true,true,true,true,true,false,false] rfl (hw.perm (L':=[pt J (.cells #[pp S 0,Nx (i.epoch),Nx (i.next),vs,vr,Nx (i.size),vd] 143),pt q2 (.cells #[pp J 0] 89),pt q6 (.cells #[Nx (e),Nx (n),ws,wr_,wz] 109),pt q3 (.cells #[sB sa xs (sc)] 27),aP S (wrH (oA k e n xs) 16 ((be 8 (U ((e:Nat):Int)))++be 8 (eR ((e:Nat):Int)))),rB (dG (fa34 24)) (bP ((e:Nat):Int) ((n:Nat):Int) xs) (dH (fa34 24)),rB (dG (fa54 49)) ((be 8 (U ((e:Nat):Int)))++be 8 (eR ((e:Nat):Int))) (dH (fa54 49))]) (by exact(aV [1,2,3,4,0,5,6] 7 rfl (by kernel_rfl) (by kernel_rfl))))
 refine .inr ⟨_,rfl,_,back _ _ hw',?_⟩
 refine aH (mQ Tryz.results91 ?_)
 intro w hw
 refine .inr ⟨rfl,⟨ok1,ok2,ok56⟩,?_⟩
 rw[pM,if_pos ok1,if_pos ok2,ck4,show e%2*16=16 by omega]
 exact aF [true,true,true,true,true,false,false] rfl (hw.perm (L':=[pt J (.cells #[pp S 0,Nx (i.epoch),Nx (i.next),vs,vr,Nx (i.size),vd] 143),pt q2 (.cells #[pp J 0] 89),pt q6 (.cells #[Nx (e),Nx (n),ws,wr_,wz] 109),pt q3 (.cells #[sB sa xs (sc)] 27),aP S (wrH (oA k e n xs) 16 ((be 8 (U ((e:Nat):Int)))++be 8 (eR ((e:Nat):Int)))),rB (dG (fa34 24)) (bP ((e:Nat):Int) ((n:Nat):Int) xs) (dH (fa34 24)),rB (dG (fa54 49)) ((be 8 (U ((e:Nat):Int)))++be 8 (eR ((e:Nat):Int))) (dH (fa54 49))]) (by exact(aV [1,2,3,4,0,5,6] 7 rfl (by kernel_rfl) (by kernel_rfl))))
end Go.Proofs
