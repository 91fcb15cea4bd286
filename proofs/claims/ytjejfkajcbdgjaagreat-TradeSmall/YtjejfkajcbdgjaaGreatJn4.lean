/-
 What is attempted: writing a record,cutting an area,a checkpoint. Printed by a program of my own.
-/
import Derived.Test.YtjejfkajcbdgjaaGreatJn3
set_option linter.all false
set_option maxHeartbeats 4000000
namespace Go.Proofs
open Go Go.Sl Go.Jn
instance aYj:CfC Tryz.prog 65:={}
instance tf47:TyC Tryz.prog 141 false 1:={}
instance tf48:FldC Tryz.prog 109 0 0 1 false:={}
instance aHe:TyC Tryz.prog 147 false 1:={}
instance tf50:FldC Tryz.prog 109 4 4 1 false:={}
instance aOn:CfC Tryz.prog 64:={}
instance aYk:CfC Tryz.prog 90:={}
instance tf53:FldC Tryz.prog 109 1 1 1 false:={}
instance aYl:CfC Tryz.prog 61:={}
theorem aAl(β:Base)(w:World)(e:Nat)(hpar:e%2=0)(J S:Nat)(hJ:Cs β.heap ⟨J,0,none⟩ [pp S 0])(k:KS)(hk:k.fits 1048576)(at_:Nat)(hat:at_≤1048576)(bs:Bs)(v:Value)(hb:bs.length≤1048576)(hs:Sl iT β.heap v bs)(hw:St β [aQ S k] w):Calls Tryz.prog 64 #[pp J 0,pp S 1,Nx at_,v] w fun r w'=>(r= .panicked chP∧¬kV k.power bs∧St β [aQ S (sR k e at_ bs)] w')∨(r= .returned (.tuple #[])∧kV k.power bs∧St β [aQ S (sR k e at_ bs)] w'):=by
 have h:=aOy β w J S hJ k hk at_ hat bs v hb hs hw
 rwa [aUv hpar]at h
theorem aFq(β:Base)(w:World)(e:Nat)(hpar:e%2=0)(J S:Nat)(hJ:Cs β.heap ⟨J,0,none⟩ [pp S 0])(k:KS)(hk:k.fits 1048576)(size:Nat)(hw:St β [aQ S k] w):Calls Tryz.prog 90 #[pp J 0,pp S 1,Nx size] w fun r w'=>(r= .panicked chP∧¬jB (k.area e) k.power size∧St β [aQ S k] w')∨(r= .returned (.tuple #[])∧jB (k.area e) k.power size∧St β [aQ S (jV k e size)] w'):=by
 have h:=(aVq β w J S hJ k hk size hw).mono (R':=fun r w'=>(r= .panicked chP∧¬jB k.a k.power size∧St β [aQ S k] w')∨(r= .returned (.tuple #[])∧jB k.a k.power size∧St β [aQ S {k with a:=oK k.a k.power size,power:=kW k.a k.power size}] w')) fun r w' hh=>hh.imp (fun⟨a,b,_,c⟩=>⟨a,b,c⟩) id
 rwa [aMt hpar,←aBa (k:=k) hpar]at h
theorem aAm(β:Base)(w:World)(e:Nat)(hpar:e%2=1)(J S:Nat)(hJ:Cs β.heap ⟨J,0,none⟩ [pp S 0])(k:KS)(hk:k.fits 1048576)(at_:Nat)(hat:at_≤1048576)(bs:Bs)(v:Value)(hb:bs.length≤1048576)(hs:Sl iT β.heap v bs)(hw:St β [aQ S k] w):Calls Tryz.prog 64 #[pp J 0,pp S 2,Nx at_,v] w fun r w'=>(r= .panicked chP∧¬kV k.power bs∧St β [aQ S (sR k e at_ bs)] w')∨(r= .returned (.tuple #[])∧kV k.power bs∧St β [aQ S (sR k e at_ bs)] w'):=by
 have h:=aOz β w J S hJ k hk at_ hat bs v hb hs hw
 rwa [aZj hpar]at h
theorem aFr(β:Base)(w:World)(e:Nat)(hpar:e%2=1)(J S:Nat)(hJ:Cs β.heap ⟨J,0,none⟩ [pp S 0])(k:KS)(hk:k.fits 1048576)(size:Nat)(hw:St β [aQ S k] w):Calls Tryz.prog 90 #[pp J 0,pp S 2,Nx size] w fun r w'=>(r= .panicked chP∧¬jB (k.area e) k.power size∧St β [aQ S k] w')∨(r= .returned (.tuple #[])∧jB (k.area e) k.power size∧St β [aQ S (jV k e size)] w'):=by
 have h:=(aVr β w J S hJ k hk size hw).mono (R':=fun r w'=>(r= .panicked chP∧¬jB k.b k.power size∧St β [aQ S k] w')∨(r= .returned (.tuple #[])∧jB k.b k.power size∧St β [aQ S {k with b:=oK k.b k.power size,power:=kW k.b k.power size}] w')) fun r w' hh=>hh.imp (fun⟨a,b,_,c⟩=>⟨a,b,c⟩) id
 rwa [aQd hpar,←aFb (k:=k) hpar]at h
theorem yI(β:Base)(w:World)(J S q2 q7 q8 cb:Nat)(pb:Option Addr)(k:KS)(i:KI)(vs vr vd:Value)(fb:Bs)(hk:k.fits 524288)(hb:fb.length≤131072)(hsz:i.size≤524288)(hw:St β [pt J (.cells #[pp S 0,Nx (i.epoch),Nx (i.next),vs,vr,Nx (i.size),vd] 143),pt q2 (.cells #[pp J 0] 89),pt q7 (.cells #[pp J 1] 141),pt q8 (.cells #[sB pb fb cb] 27),rB pb fb cb,aQ S k] w):Calls Tryz.prog 63 #[pp q2 0,pp q7 0,pp q8 0] w fun r w'=>(r= .panicked chP∧¬kV k.power fb∧St β [pt J (.cells #[pp S 0,Nx (i.epoch),Nx (i.next),vs,vr,Nx (i.size),vd] 143),pt q2 (.cells #[pp J 0] 89),pt q7 (.cells #[pp J 1] 141),pt q8 (.cells #[sB pb fb cb] 27),rB pb fb cb,aQ S (sR k i.epoch i.size fb)] w')∨(r= .returned (.tuple #[])∧kV k.power fb∧St β [pt J (.cells #[pp S 0,Nx (i.epoch),Nx (i.next),vs,vr,Nx (i.size),vd] 143),pt q2 (.cells #[pp J 0] 89),pt q7 (.cells #[pp J 1] 141),pt q8 (.cells #[sB pb fb cb] 27),rB pb fb cb,aQ S (sR k i.epoch i.size fb)] w'):=by
 refine enter (n:=21) Tryz.func63 rfl Tryz.ntmps63 rfl ?_ hw
 rcases Nat.mod_two_eq_zero_or_one i.epoch with hpar|hpar
 ·refine kH 17 rfl rfl [⟨[],[],[0],[3],fun f=>f 3=pp J 0⟩,⟨[],[],[0],[4],fun f=>f 4=pp J 0⟩,⟨[1],[1],[],[5],fun f=>f 5=pp J 0⟩,⟨[1,2],[2],[],[6],fun f=>f 6=pp J 0⟩,⟨[1,2,3],[3],[],[7],fun f=>f 7=pp S 0⟩,⟨[1,2,3,4],[4],[],[8],fun f=>f 8= .agg #[pp S 1,pp S 2]⟩,⟨[],[],[1],[9],fun f=>f 9=pp J 1⟩,⟨[6],[6],[],[10],fun f=>f 10=pp J 1⟩,⟨[6,7],[7],[],[11],fun f=>f 11=pp J 1⟩,⟨[6,7,8],[8],[],[12],fun f=>f 12=Nx (i.epoch)⟩,⟨[6,7,8,9],[9],[],[13],fun f=>f 13= .int .i64 (0)⟩,⟨[1,2,3,4,5,6,7,8,9,10],[5,10],[],[14],fun f=>f 14=pp S 1⟩,⟨[],[],[1],[15],fun f=>f 15=pp J 1⟩,⟨[12],[12],[],[16],fun f=>f 16=pp J 1⟩,⟨[12,13],[13],[],[17],fun f=>f 17=pp J 5⟩,⟨[12,13,14],[14],[],[18],fun f=>f 18=Nx (i.size)⟩,⟨[],[],[2],[19],fun f=>f 19=sB pb fb cb⟩,⟨(List.range 17),[],[],[],fun _=>True⟩] [⟨none,none,[4,9,15],[],fun _=>pt J (.cells #[pp S 0,Nx (i.epoch),Nx (i.next),vs,vr,Nx (i.size),vd] 143)⟩,⟨none,none,[0,1],[],fun _=>pt q2 (.cells #[pp J 0] 89)⟩,⟨none,none,[6,12],[],fun _=>pt q7 (.cells #[pp J 1] 141)⟩,⟨none,none,[16],[],fun _=>pt q8 (.cells #[sB pb fb cb] 27)⟩,⟨none,none,[],[],fun _=>rB pb fb cb⟩,⟨none,none,[],[],fun _=>aQ S k⟩] [(0,pp q2 0),(1,pp q7 0),(2,pp q8 0)] [] [] (by kernel_rfl) (by kernel_rfl) (by kernel_rfl) (by kernel_rfl) (by kernel_rfl) (by kernel_rfl) rfl ⟨rfl,rfl,rfl,trivial⟩ ⟨?_,?_,?_,?_,?_,?_,?_,?_,?_,?_,?_,?_,?_,?_,?_,?_,?_,trivial⟩ ?_
  ·rintro f M-⟨i0,-⟩
   exact aT (iR 0)
  ·rintro f M-⟨i0,-⟩
   exact aT (iR 0)
  ·rintro f M ⟨k0,-⟩-
   exact aT eS
  ·rintro f M ⟨k0,-⟩-
   exact aT aY
  ·rintro f M ⟨k0,-⟩-
   exact aT (iR 0)
  ·rintro f M ⟨k0,-⟩-
   refine dL (aA (d:=7) rfl k0) ?_
   refine gI gH (fun w β1 sb kn hw1=>lP β1 w hw1 S) (aH ?_)
   exact aO (aA (d:=7) rfl k0) rfl (List.Perm.refl _)
  ·rintro f M-⟨i0,-⟩
   exact aT (iR 0)
  ·rintro f M ⟨k0,-⟩-
   exact aT eS
  ·rintro f M ⟨k0,-⟩-
   exact aT aY
  ·rintro f M ⟨k0,-⟩-
   exact aT (cY 0)
  ·rintro f M ⟨k0,-⟩-
   exact gO (aA (d:=12) rfl k0) rfl (eZ (by rw[hpar];rfl) (lR (a:=((i.epoch:Nat):Int)) (b:=(2:Int)) rfl rfl (by decide) (gG _ 2))) (.refl _)
  ·rintro f M ⟨k0,k1,-⟩-
   exact gO (aA (d:=13) (aA (d:=8) rfl k0) k1) rfl (fP (cs:= #[pp S 1,pp S 2]) (k:=0) rfl rfl aEm.ok rfl (by decide) aHe.ok) (.refl _)
  ·rintro f M-⟨i0,-⟩
   exact aT (iR 0)
  ·rintro f M ⟨k0,-⟩-
   exact aT eS
  ·rintro f M ⟨k0,-⟩-
   exact aT aY
  ·rintro f M ⟨k0,-⟩-
   exact aT (cY 0)
  ·rintro f M-⟨i0,-⟩
   exact aT (fQ 0)
  rintro fa1 ⟨k0,-,-,-,-,-,-,-,-,-,-,k11,-,-,-,k15,k16,-⟩-
  refine lre ?_
  refine dO (d:=3) (v:=pp J 0) k0 (dO (d:=14) (v:=pp S 1) k11 (dO (d:=18) (v:=Nx (i.size)) k15 ?_))
  refine dO (d:=19) (v:=sB pb fb cb) k16 (iJ rfl rfl rfl (cT (vs:=[pp J 0,pp S 1,Nx (i.size),sB pb fb cb]) aOn.ok rfl rfl) ?_)
  intro w hw
  replace hw:=hw.perm (L':=_::_::_::_::_::_::[]) (by exact((((((aB 4 rfl).trans (aB 4 rfl)).trans (aB 4 rfl)).trans (aB 4 rfl)).trans (aB 4 rfl)).trans (aB 5 rfl)))
  obtain⟨β1,sb,kn,hw1,back⟩:=St.frame (L:=[_]) (M:=_::_::_::_::_::[]) hw
  refine(aAl β1 w i.epoch hpar J S (kn _ (cD 0 rfl rfl)) k (hk.le (by omega)) i.size (by omega) fb _ (by omega) (kU kn 4 rfl) hw1).mono ?_
  rintro e w' (⟨rfl,ok2,hw'⟩|⟨rfl,ok2,hw'⟩)
  ·refine .inl ⟨_,rfl,_,back _ _ hw',?_⟩
   refine sX ?_
   intro w hw
   exact .inl ⟨rfl,ok2,aG [true,true,true,true,true,true] rfl (hw.perm (L':=[pt J (.cells #[pp S 0,Nx (i.epoch),Nx (i.next),vs,vr,Nx (i.size),vd] 143),pt q2 (.cells #[pp J 0] 89),pt q7 (.cells #[pp J 1] 141),pt q8 (.cells #[sB pb fb cb] 27),rB pb fb cb,aQ S (sR k i.epoch i.size fb)]) (by exact(aW [1,2,3,4,5,0] 6 rfl (by kernel_rfl) (by kernel_rfl))))⟩
  refine .inr ⟨_,rfl,_,back _ _ hw',?_⟩
  refine aH (mZ Tryz.results63 ?_)
  intro w hw
  exact .inr ⟨rfl,ok2,aG [true,true,true,true,true,true] rfl (hw.perm (L':=[pt J (.cells #[pp S 0,Nx (i.epoch),Nx (i.next),vs,vr,Nx (i.size),vd] 143),pt q2 (.cells #[pp J 0] 89),pt q7 (.cells #[pp J 1] 141),pt q8 (.cells #[sB pb fb cb] 27),rB pb fb cb,aQ S (sR k i.epoch i.size fb)]) (by exact(aW [1,2,3,4,5,0] 6 rfl (by kernel_rfl) (by kernel_rfl))))⟩
 refine kH 17 rfl rfl [⟨[],[],[0],[3],fun f=>f 3=pp J 0⟩,⟨[],[],[0],[4],fun f=>f 4=pp J 0⟩,⟨[1],[1],[],[5],fun f=>f 5=pp J 0⟩,⟨[1,2],[2],[],[6],fun f=>f 6=pp J 0⟩,⟨[1,2,3],[3],[],[7],fun f=>f 7=pp S 0⟩,⟨[1,2,3,4],[4],[],[8],fun f=>f 8= .agg #[pp S 1,pp S 2]⟩,⟨[],[],[1],[9],fun f=>f 9=pp J 1⟩,⟨[6],[6],[],[10],fun f=>f 10=pp J 1⟩,⟨[6,7],[7],[],[11],fun f=>f 11=pp J 1⟩,⟨[6,7,8],[8],[],[12],fun f=>f 12=Nx (i.epoch)⟩,⟨[6,7,8,9],[9],[],[13],fun f=>f 13= .int .i64 (1)⟩,⟨[1,2,3,4,5,6,7,8,9,10],[5,10],[],[14],fun f=>f 14=pp S 2⟩,⟨[],[],[1],[15],fun f=>f 15=pp J 1⟩,⟨[12],[12],[],[16],fun f=>f 16=pp J 1⟩,⟨[12,13],[13],[],[17],fun f=>f 17=pp J 5⟩,⟨[12,13,14],[14],[],[18],fun f=>f 18=Nx (i.size)⟩,⟨[],[],[2],[19],fun f=>f 19=sB pb fb cb⟩,⟨(List.range 17),[],[],[],fun _=>True⟩] [⟨none,none,[4,9,15],[],fun _=>pt J (.cells #[pp S 0,Nx (i.epoch),Nx (i.next),vs,vr,Nx (i.size),vd] 143)⟩,⟨none,none,[0,1],[],fun _=>pt q2 (.cells #[pp J 0] 89)⟩,⟨none,none,[6,12],[],fun _=>pt q7 (.cells #[pp J 1] 141)⟩,⟨none,none,[16],[],fun _=>pt q8 (.cells #[sB pb fb cb] 27)⟩,⟨none,none,[],[],fun _=>rB pb fb cb⟩,⟨none,none,[],[],fun _=>aQ S k⟩] [(0,pp q2 0),(1,pp q7 0),(2,pp q8 0)] [] [] (by kernel_rfl) (by kernel_rfl) (by kernel_rfl) (by kernel_rfl) (by kernel_rfl) (by kernel_rfl) rfl ⟨rfl,rfl,rfl,trivial⟩ ⟨?_,?_,?_,?_,?_,?_,?_,?_,?_,?_,?_,?_,?_,?_,?_,?_,?_,trivial⟩ ?_
 ·rintro f M-⟨i0,-⟩
  exact aT (iR 0)
 ·rintro f M-⟨i0,-⟩
  exact aT (iR 0)
 ·rintro f M ⟨k0,-⟩-
  exact aT eS
 ·rintro f M ⟨k0,-⟩-
  exact aT aY
 ·rintro f M ⟨k0,-⟩-
  exact aT (iR 0)
 ·rintro f M ⟨k0,-⟩-
  refine dL (aA (d:=7) rfl k0) ?_
  refine gI gH (fun w β1 sb kn hw1=>lP β1 w hw1 S) (aH ?_)
  exact aO (aA (d:=7) rfl k0) rfl (List.Perm.refl _)
 ·rintro f M-⟨i0,-⟩
  exact aT (iR 0)
 ·rintro f M ⟨k0,-⟩-
  exact aT eS
 ·rintro f M ⟨k0,-⟩-
  exact aT aY
 ·rintro f M ⟨k0,-⟩-
  exact aT (cY 0)
 ·rintro f M ⟨k0,-⟩-
  exact gO (aA (d:=12) rfl k0) rfl (eZ (by rw[hpar];rfl) (lR (a:=((i.epoch:Nat):Int)) (b:=(2:Int)) rfl rfl (by decide) (gG _ 2))) (.refl _)
 ·rintro f M ⟨k0,k1,-⟩-
  exact gO (aA (d:=13) (aA (d:=8) rfl k0) k1) rfl (fP (cs:= #[pp S 1,pp S 2]) (k:=1) rfl rfl aEm.ok rfl (by decide) aHe.ok) (.refl _)
 ·rintro f M-⟨i0,-⟩
  exact aT (iR 0)
 ·rintro f M ⟨k0,-⟩-
  exact aT eS
 ·rintro f M ⟨k0,-⟩-
  exact aT aY
 ·rintro f M ⟨k0,-⟩-
  exact aT (cY 0)
 ·rintro f M-⟨i0,-⟩
  exact aT (fQ 0)
 rintro fa3 ⟨k0,-,-,-,-,-,-,-,-,-,-,k11,-,-,-,k15,k16,-⟩-
 refine lre ?_
 refine dO (d:=3) (v:=pp J 0) k0 (dO (d:=14) (v:=pp S 2) k11 (dO (d:=18) (v:=Nx (i.size)) k15 ?_))
 refine dO (d:=19) (v:=sB pb fb cb) k16 (iJ rfl rfl rfl (cT (vs:=[pp J 0,pp S 2,Nx (i.size),sB pb fb cb]) aOn.ok rfl rfl) ?_)
 intro w hw
 replace hw:=hw.perm (L':=_::_::_::_::_::_::[]) (by exact((((((aB 4 rfl).trans (aB 4 rfl)).trans (aB 4 rfl)).trans (aB 4 rfl)).trans (aB 4 rfl)).trans (aB 5 rfl)))
 obtain⟨β1,sb,kn,hw1,back⟩:=St.frame (L:=[_]) (M:=_::_::_::_::_::[]) hw
 refine(aAm β1 w i.epoch hpar J S (kn _ (cD 0 rfl rfl)) k (hk.le (by omega)) i.size (by omega) fb _ (by omega) (kU kn 4 rfl) hw1).mono ?_
 rintro e w' (⟨rfl,ok4,hw'⟩|⟨rfl,ok4,hw'⟩)
 ·refine .inl ⟨_,rfl,_,back _ _ hw',?_⟩
  refine sX ?_
  intro w hw
  exact .inl ⟨rfl,ok4,aG [true,true,true,true,true,true] rfl (hw.perm (L':=[pt J (.cells #[pp S 0,Nx (i.epoch),Nx (i.next),vs,vr,Nx (i.size),vd] 143),pt q2 (.cells #[pp J 0] 89),pt q7 (.cells #[pp J 1] 141),pt q8 (.cells #[sB pb fb cb] 27),rB pb fb cb,aQ S (sR k i.epoch i.size fb)]) (by exact(aW [1,2,3,4,5,0] 6 rfl (by kernel_rfl) (by kernel_rfl))))⟩
 refine .inr ⟨_,rfl,_,back _ _ hw',?_⟩
 refine aH (mZ Tryz.results63 ?_)
 intro w hw
 exact .inr ⟨rfl,ok4,aG [true,true,true,true,true,true] rfl (hw.perm (L':=[pt J (.cells #[pp S 0,Nx (i.epoch),Nx (i.next),vs,vr,Nx (i.size),vd] 143),pt q2 (.cells #[pp J 0] 89),pt q7 (.cells #[pp J 1] 141),pt q8 (.cells #[sB pb fb cb] 27),rB pb fb cb,aQ S (sR k i.epoch i.size fb)]) (by exact(aW [1,2,3,4,5,0] 6 rfl (by kernel_rfl) (by kernel_rfl))))⟩
theorem aSn(β:Base)(w:World)(J S q6 q1 q4:Nat)(k:KS)(i:KI)(vs vr vd:Value)(hk:k.fits 524288)(hw:St β [pt J (.cells #[pp S 0,Nx (i.epoch),Nx (i.next),vs,vr,Nx (i.size),vd] 143),pt q6 (.cells #[pp J 0] 89),pt q1 (.cells #[pp S 0] 26),pt q4 (.cells #[Nx (i.epoch),Nx (i.next),vs,vr,Nx (i.size)] 109),aQ S k] w):Calls Tryz.prog 89 #[pp q6 0,pp q1 0,pp q4 0] w fun r w'=>(r= .panicked chP∧¬jB (k.area i.epoch) k.power i.size∧St β [pt J (.cells #[pp S 0,Nx (i.epoch),Nx (i.next),vs,vr,Nx (i.size),vd] 143),pt q6 (.cells #[pp J 0] 89),pt q1 (.cells #[pp S 0] 26),pt q4 (.cells #[Nx (i.epoch),Nx (i.next),vs,vr,Nx (i.size)] 109),aQ S k] w')∨(r= .returned (.tuple #[])∧jB (k.area i.epoch) k.power i.size∧St β [pt J (.cells #[pp S 0,Nx (i.epoch),Nx (i.next),vs,vr,Nx (i.size),vd] 143),pt q6 (.cells #[pp J 0] 89),pt q1 (.cells #[pp S 0] 26),pt q4 (.cells #[Nx (i.epoch),Nx (i.next),vs,vr,Nx (i.size)] 109),aQ S (jV k i.epoch i.size)] w'):=by
 refine enter (n:=13) Tryz.func89 rfl Tryz.ntmps89 rfl ?_ hw
 rcases Nat.mod_two_eq_zero_or_one i.epoch with hpar|hpar
 ·refine kH 9 rfl rfl [⟨[],[],[0],[3],fun f=>f 3=pp J 0⟩,⟨[],[],[1],[4],fun f=>f 4=pp S 0⟩,⟨[1],[1],[],[5],fun f=>f 5= .agg #[pp S 1,pp S 2]⟩,⟨[],[],[2],[6],fun f=>f 6=pp q4 0⟩,⟨[3],[3],[],[7],fun f=>f 7=Nx (i.epoch)⟩,⟨[3,4],[4],[],[8],fun f=>f 8= .int .i64 (0)⟩,⟨[1,2,3,4,5],[2,5],[],[9],fun f=>f 9=pp S 1⟩,⟨[],[],[2],[10],fun f=>f 10=pp q4 4⟩,⟨[7],[7],[],[11],fun f=>f 11=Nx (i.size)⟩,⟨(List.range 9),[],[],[],fun _=>True⟩] [⟨none,none,[],[],fun _=>pt J (.cells #[pp S 0,Nx (i.epoch),Nx (i.next),vs,vr,Nx (i.size),vd] 143)⟩,⟨none,none,[0],[],fun _=>pt q6 (.cells #[pp J 0] 89)⟩,⟨none,none,[1],[],fun _=>pt q1 (.cells #[pp S 0] 26)⟩,⟨none,none,[4,8],[],fun _=>pt q4 (.cells #[Nx (i.epoch),Nx (i.next),vs,vr,Nx (i.size)] 109)⟩,⟨none,none,[],[],fun _=>aQ S k⟩] [(0,pp q6 0),(1,pp q1 0),(2,pp q4 0)] [] [] (by kernel_rfl) (by kernel_rfl) (by kernel_rfl) (by kernel_rfl) (by kernel_rfl) (by kernel_rfl) rfl ⟨rfl,rfl,rfl,trivial⟩ ⟨?_,?_,?_,?_,?_,?_,?_,?_,?_,trivial⟩ ?_
  ·rintro f M-⟨i0,-⟩
   exact aT (iR 0)
  ·rintro f M-⟨i0,-⟩
   exact aT (iR 0)
  ·rintro f M ⟨k0,-⟩-
   refine dL (aA (d:=4) rfl k0) ?_
   refine gI gH (fun w β1 sb kn hw1=>lP β1 w hw1 S) (aH ?_)
   exact aO (aA (d:=4) rfl k0) rfl (List.Perm.refl _)
  ·rintro f M-⟨i0,-⟩
   exact aT aY
  ·rintro f M ⟨k0,-⟩-
   exact aT (cY 0)
  ·rintro f M ⟨k0,-⟩-
   exact gO (aA (d:=7) rfl k0) rfl (eZ (by rw[hpar];rfl) (lR (a:=((i.epoch:Nat):Int)) (b:=(2:Int)) rfl rfl (by decide) (gG _ 2))) (.refl _)
  ·rintro f M ⟨k0,k1,-⟩-
   exact gO (aA (d:=8) (aA (d:=5) rfl k0) k1) rfl (fP (cs:= #[pp S 1,pp S 2]) (k:=0) rfl rfl aEm.ok rfl (by decide) aHe.ok) (.refl _)
  ·rintro f M-⟨i0,-⟩
   exact aT aY
  ·rintro f M ⟨k0,-⟩-
   exact aT (cY 0)
  rintro fa1 ⟨k0,-,-,-,-,-,k6,-,k8,-⟩-
  refine lre ?_
  refine dO (d:=3) (v:=pp J 0) k0 (dO (d:=9) (v:=pp S 1) k6 (dO (d:=11) (v:=Nx (i.size)) k8 ?_))
  refine iJ rfl rfl rfl (cT (vs:=[pp J 0,pp S 1,Nx (i.size)]) aYk.ok rfl rfl) ?_
  intro w hw
  replace hw:=hw.perm (L':=_::_::_::_::_::[]) (by exact(((((aB 3 rfl).trans (aB 3 rfl)).trans (aB 3 rfl)).trans (aB 3 rfl)).trans (aB 4 rfl)))
  obtain⟨β1,sb,kn,hw1,back⟩:=St.frame (L:=[_]) (M:=_::_::_::_::[]) hw
  refine(aFq β1 w i.epoch hpar J S (kn _ (cD 0 rfl rfl)) k (hk.le (by omega)) i.size hw1).mono ?_
  rintro e w' (⟨rfl,ok2,hw'⟩|⟨rfl,ok2,hw'⟩)
  ·refine .inl ⟨_,rfl,_,back _ _ hw',?_⟩
   refine sX ?_
   intro w hw
   exact .inl ⟨rfl,ok2,aG [true,true,true,true,true] rfl (hw.perm (L':=[pt J (.cells #[pp S 0,Nx (i.epoch),Nx (i.next),vs,vr,Nx (i.size),vd] 143),pt q6 (.cells #[pp J 0] 89),pt q1 (.cells #[pp S 0] 26),pt q4 (.cells #[Nx (i.epoch),Nx (i.next),vs,vr,Nx (i.size)] 109),aQ S k]) (by exact(aW [1,2,3,4,0] 5 rfl (by kernel_rfl) (by kernel_rfl))))⟩
  refine .inr ⟨_,rfl,_,back _ _ hw',?_⟩
  refine aH (mZ Tryz.results89 ?_)
  intro w hw
  exact .inr ⟨rfl,ok2,aG [true,true,true,true,true] rfl (hw.perm (L':=[pt J (.cells #[pp S 0,Nx (i.epoch),Nx (i.next),vs,vr,Nx (i.size),vd] 143),pt q6 (.cells #[pp J 0] 89),pt q1 (.cells #[pp S 0] 26),pt q4 (.cells #[Nx (i.epoch),Nx (i.next),vs,vr,Nx (i.size)] 109),aQ S (jV k i.epoch i.size)]) (by exact(aW [1,2,3,4,0] 5 rfl (by kernel_rfl) (by kernel_rfl))))⟩
 refine kH 9 rfl rfl [⟨[],[],[0],[3],fun f=>f 3=pp J 0⟩,⟨[],[],[1],[4],fun f=>f 4=pp S 0⟩,⟨[1],[1],[],[5],fun f=>f 5= .agg #[pp S 1,pp S 2]⟩,⟨[],[],[2],[6],fun f=>f 6=pp q4 0⟩,⟨[3],[3],[],[7],fun f=>f 7=Nx (i.epoch)⟩,⟨[3,4],[4],[],[8],fun f=>f 8= .int .i64 (1)⟩,⟨[1,2,3,4,5],[2,5],[],[9],fun f=>f 9=pp S 2⟩,⟨[],[],[2],[10],fun f=>f 10=pp q4 4⟩,⟨[7],[7],[],[11],fun f=>f 11=Nx (i.size)⟩,⟨(List.range 9),[],[],[],fun _=>True⟩] [⟨none,none,[],[],fun _=>pt J (.cells #[pp S 0,Nx (i.epoch),Nx (i.next),vs,vr,Nx (i.size),vd] 143)⟩,⟨none,none,[0],[],fun _=>pt q6 (.cells #[pp J 0] 89)⟩,⟨none,none,[1],[],fun _=>pt q1 (.cells #[pp S 0] 26)⟩,⟨none,none,[4,8],[],fun _=>pt q4 (.cells #[Nx (i.epoch),Nx (i.next),vs,vr,Nx (i.size)] 109)⟩,⟨none,none,[],[],fun _=>aQ S k⟩] [(0,pp q6 0),(1,pp q1 0),(2,pp q4 0)] [] [] (by kernel_rfl) (by kernel_rfl) (by kernel_rfl) (by kernel_rfl) (by kernel_rfl) (by kernel_rfl) rfl ⟨rfl,rfl,rfl,trivial⟩ ⟨?_,?_,?_,?_,?_,?_,?_,?_,?_,trivial⟩ ?_
 ·rintro f M-⟨i0,-⟩
  exact aT (iR 0)
 ·rintro f M-⟨i0,-⟩
  exact aT (iR 0)
 ·rintro f M ⟨k0,-⟩-
  refine dL (aA (d:=4) rfl k0) ?_
  refine gI gH (fun w β1 sb kn hw1=>lP β1 w hw1 S) (aH ?_)
  exact aO (aA (d:=4) rfl k0) rfl (List.Perm.refl _)
 ·rintro f M-⟨i0,-⟩
  exact aT aY
 ·rintro f M ⟨k0,-⟩-
  exact aT (cY 0)
 ·rintro f M ⟨k0,-⟩-
  exact gO (aA (d:=7) rfl k0) rfl (eZ (by rw[hpar];rfl) (lR (a:=((i.epoch:Nat):Int)) (b:=(2:Int)) rfl rfl (by decide) (gG _ 2))) (.refl _)
 ·rintro f M ⟨k0,k1,-⟩-
  exact gO (aA (d:=8) (aA (d:=5) rfl k0) k1) rfl (fP (cs:= #[pp S 1,pp S 2]) (k:=1) rfl rfl aEm.ok rfl (by decide) aHe.ok) (.refl _)
 ·rintro f M-⟨i0,-⟩
  exact aT aY
 ·rintro f M ⟨k0,-⟩-
  exact aT (cY 0)
 rintro fa3 ⟨k0,-,-,-,-,-,k6,-,k8,-⟩-
 refine lre ?_
 refine dO (d:=3) (v:=pp J 0) k0 (dO (d:=9) (v:=pp S 2) k6 (dO (d:=11) (v:=Nx (i.size)) k8 ?_))
 refine iJ rfl rfl rfl (cT (vs:=[pp J 0,pp S 2,Nx (i.size)]) aYk.ok rfl rfl) ?_
 intro w hw
 replace hw:=hw.perm (L':=_::_::_::_::_::[]) (by exact(((((aB 3 rfl).trans (aB 3 rfl)).trans (aB 3 rfl)).trans (aB 3 rfl)).trans (aB 4 rfl)))
 obtain⟨β1,sb,kn,hw1,back⟩:=St.frame (L:=[_]) (M:=_::_::_::_::[]) hw
 refine(aFr β1 w i.epoch hpar J S (kn _ (cD 0 rfl rfl)) k (hk.le (by omega)) i.size hw1).mono ?_
 rintro e w' (⟨rfl,ok4,hw'⟩|⟨rfl,ok4,hw'⟩)
 ·refine .inl ⟨_,rfl,_,back _ _ hw',?_⟩
  refine sX ?_
  intro w hw
  exact .inl ⟨rfl,ok4,aG [true,true,true,true,true] rfl (hw.perm (L':=[pt J (.cells #[pp S 0,Nx (i.epoch),Nx (i.next),vs,vr,Nx (i.size),vd] 143),pt q6 (.cells #[pp J 0] 89),pt q1 (.cells #[pp S 0] 26),pt q4 (.cells #[Nx (i.epoch),Nx (i.next),vs,vr,Nx (i.size)] 109),aQ S k]) (by exact(aW [1,2,3,4,0] 5 rfl (by kernel_rfl) (by kernel_rfl))))⟩
 refine .inr ⟨_,rfl,_,back _ _ hw',?_⟩
 refine aH (mZ Tryz.results89 ?_)
 intro w hw
 exact .inr ⟨rfl,ok4,aG [true,true,true,true,true] rfl (hw.perm (L':=[pt J (.cells #[pp S 0,Nx (i.epoch),Nx (i.next),vs,vr,Nx (i.size),vd] 143),pt q6 (.cells #[pp J 0] 89),pt q1 (.cells #[pp S 0] 26),pt q4 (.cells #[Nx (i.epoch),Nx (i.next),vs,vr,Nx (i.size)] 109),aQ S (jV k i.epoch i.size)]) (by exact(aW [1,2,3,4,0] 5 rfl (by kernel_rfl) (by kernel_rfl))))⟩
theorem aBe(β:Base)(w:World)(J S q2 q6 q3 sc e n:Nat)(sa:Option Addr)(k:KS)(i:KI)(vs vr vd ws wr_ wz:Value)(xs:Bs)(hl:xs.length≤sc)(hm:sc≤9223372036854775807)(hx:dH iT β.heap sa xs)(hk:k.fits 524288)(hb:xs.length≤65536)(hw:St β [pt J (.cells #[pp S 0,Nx (i.epoch),Nx (i.next),vs,vr,Nx (i.size),vd] 143),pt q2 (.cells #[pp J 0] 89),pt q6 (.cells #[Nx (e),Nx (n),ws,wr_,wz] 109),pt q3 (.cells #[sB sa xs (sc)] 27),aQ S k] w):Calls Tryz.prog 91 #[pp q2 0,pp q6 0,pp q3 0] w fun r w'=>(r= .panicked chP∧¬qB k e n xs∧St β [pt J (.cells #[pp S 0,Nx (i.epoch),Nx (i.next),vs,vr,Nx (i.size),vd] 143),pt q2 (.cells #[pp J 0] 89),pt q6 (.cells #[Nx (e),Nx (n),ws,wr_,wz] 109),pt q3 (.cells #[sB sa xs (sc)] 27),aQ S (pU k e n xs)] w')∨(r= .returned (.tuple #[])∧qB k e n xs∧St β [pt J (.cells #[pp S 0,Nx (i.epoch),Nx (i.next),vs,vr,Nx (i.size),vd] 143),pt q2 (.cells #[pp J 0] 89),pt q6 (.cells #[Nx (e),Nx (n),ws,wr_,wz] 109),pt q3 (.cells #[sB sa xs (sc)] 27),aQ S (pU k e n xs)] w'):=by
 refine enter (n:=63) Tryz.func91 rfl Tryz.ntmps91 rfl ?_ hw
 refine aL ?_
 rcases Nat.mod_two_eq_zero_or_one e with hpar|hpar
 ·refine gS (by kernel_rfl) (by kernel_rfl) (qE (iR 1) (qE eS (qE aY (qE (iR 0) ?_))))
  refine lH (v:= .agg #[pp S 1,pp S 2]) rfl rfl rfl (cT (vs:=[pp S 0]) aYj.ok rfl rfl) (fun w hw=> ?_) ?_
  ·obtain⟨β1,sb,kn,hw1,back⟩:=St.frame_all hw
   exact(lP β1 w hw1 S).mono (fun e w' ⟨he,hw'⟩=>⟨he,aG [true,true,true,true,true] rfl (back _ _ hw')⟩)
  refine qE aY (qE (cY 2) ?_)
  refine dU (v:= .int .i64 (0)) rfl rfl rfl (eZ (by rw[hpar];rfl) (lR (a:=((e:Nat):Int)) (b:=(2:Int)) rfl rfl (by decide) (gG _ 2))) ?_
  refine dU (v:=pp S 1) rfl rfl rfl (fP (cs:= #[pp S 1,pp S 2]) (k:=0) rfl rfl aEm.ok rfl (by decide) aHe.ok) (qE oap (lB (kM ?_)))
  refine lE (iR 1) (lE dS (iJ rfl rfl rfl (cT (vs:=[pp J 0,pp S 1,.int .i64 (0)]) aYk.ok rfl rfl) ?_))
  intro w hw
  replace hw:=hw.perm (L':=_::_::_::_::_::[]) (by exact(((((aB 3 rfl).trans (aB 3 rfl)).trans (aB 3 rfl)).trans (aB 3 rfl)).trans (aB 4 rfl)))
  obtain⟨β1,sb,kn,hw1,back⟩:=St.frame (L:=[_]) (M:=_::_::_::_::[]) hw
  refine(aFq β1 w e hpar J S (kn _ (cD 0 rfl rfl)) k (hk.le (by omega)) 0 hw1).mono ?_
  rintro e w' (⟨rfl,ok1,hw'⟩|⟨rfl,ok1,hw'⟩)
  ·refine .inl ⟨_,rfl,_,back _ _ hw',?_⟩
   refine eG (sX ?_)
   intro w hw
   refine .inl ⟨rfl,fun h=>ok1 h.1,?_⟩
   rw[pU,if_neg (show ¬mV k e from ok1)]
   exact aG [true,true,true,true,true] rfl (hw.perm (L':=[pt J (.cells #[pp S 0,Nx (i.epoch),Nx (i.next),vs,vr,Nx (i.size),vd] 143),pt q2 (.cells #[pp J 0] 89),pt q6 (.cells #[Nx (e),Nx (n),ws,wr_,wz] 109),pt q3 (.cells #[sB sa xs (sc)] 27),aQ S k]) (by exact(aW [1,2,3,4,0] 5 rfl (by kernel_rfl) (by kernel_rfl))))
  refine .inr ⟨_,rfl,_,back _ _ hw',?_⟩
  refine aN (aL ?_)
  have ok1:mV k e:=ok1
  have hf1:(wB k e).fits 524288:=hk.cut
  refine rC (L':=[aQ S (wB k e),pt J (.cells #[pp S 0,Nx (i.epoch),Nx (i.next),vs,vr,Nx (i.size),vd] 143),pt q2 (.cells #[pp J 0] 89),pt q6 (.cells #[Nx (e),Nx (n),ws,wr_,wz] 109),pt q3 (.cells #[sB sa xs (sc)] 27)]) (by rfl) ?_
  refine kH 8 rfl rfl [⟨[],[],[0],[17],fun f=>f 17=pp J 0⟩,⟨[],[],[1],[18],fun f=>f 18=pp S 1⟩,⟨[],[],[2],[19],fun f=>f 19=pp q6 0⟩,⟨[2],[2],[],[20],fun f=>f 20=Nx (e)⟩,⟨[],[],[2],[21],fun f=>f 21=pp q6 1⟩,⟨[4],[4],[],[22],fun f=>f 22=Nx (n)⟩,⟨[],[],[3],[23],fun f=>f 23=sB sa xs (sc)⟩,⟨[2,3,4,5,6],[3,5,6],[],[24],fun f=>f 24=sB (dC (f 24)) (bR ((e:Nat):Int) ((n:Nat):Int) xs) (dE (f 24))⟩,⟨(List.range 8),[],[],[],fun _=>True⟩] [⟨none,none,[],[],fun _=>aQ S (wB k e)⟩,⟨none,none,[],[],fun _=>pt J (.cells #[pp S 0,Nx (i.epoch),Nx (i.next),vs,vr,Nx (i.size),vd] 143)⟩,⟨none,none,[0],[],fun _=>pt q2 (.cells #[pp J 0] 89)⟩,⟨none,none,[3,5],[],fun _=>pt q6 (.cells #[Nx (e),Nx (n),ws,wr_,wz] 109)⟩,⟨none,none,[6],[],fun _=>pt q3 (.cells #[sB sa xs (sc)] 27)⟩,⟨(some 7),none,[],[24],fun f=>rB (dC (f 24)) (bR ((e:Nat):Int) ((n:Nat):Int) xs) (dE (f 24))⟩] [(0,pp q2 0),(3,pp S 1),(1,pp q6 0),(2,pp q3 0)] [0,2] [] (by kernel_rfl) (by kernel_rfl) (by kernel_rfl) (by kernel_rfl) (by kernel_rfl) (by kernel_rfl) rfl ⟨rfl,rfl,rfl,rfl,trivial⟩ ⟨?_,?_,?_,?_,?_,?_,?_,?_,trivial⟩ ?_
  ·rintro f M-⟨i0,-⟩
   exact aT (iR 0)
  ·rintro f M-⟨i0,-⟩
   exact aT dS
  ·rintro f M-⟨i0,-⟩
   exact aT aY
  ·rintro f M ⟨k0,-⟩-
   exact aT (cY 0)
  ·rintro f M-⟨i0,-⟩
   exact aT aY
  ·rintro f M ⟨k0,-⟩-
   exact aT (cY 0)
  ·rintro f M-⟨i0,-⟩
   exact aT (fQ 0)
  ·rintro f M ⟨k0,k1,k2,-⟩-
   refine dL (aA (d:=23) (aA (d:=22) (aA (d:=20) rfl k0) k1) k2) ?_
   refine pV (cT (vs:=[Nx (e),Nx (n),sB sa xs (sc)]) aYl.ok rfl rfl) rfl fun w β1 sb kn hw1 back=>(xT β1 w hw1 ((e:Nat):Int) ((n:Nat):Int) xs _ (by omega) (Sl.mono _ _ _ _ _ sb (⟨⟨_,_,rfl,hl,hm,hx⟩⟩:Sl iT _ _ xs))).mono ?_
   rintro e w' ⟨p4,c5,rfl,hw'⟩
   refine⟨_,rfl,_,back _ _ hw',?_⟩
   refine aH ?_
   exact aO (aA (d:=23) (aA (d:=22) (aA (d:=20) rfl k0) k1) k2) rfl (aB 0 rfl)
  rintro fa6 ⟨k0,k1,-,-,-,-,-,k7,-⟩ ⟨j0,j1,-⟩
  refine lre ?_
  refine dO (d:=0) (v:=pp q2 0) j0 (dO (d:=1) (v:=pp q6 0) j1 (dO (d:=17) (v:=pp J 0) k0 ?_))
  refine dO (d:=18) (v:=pp S 1) k1 ?_
  refine dO (d:=24) (v:=sB (dC (fa6 24)) (bR ((e:Nat):Int) ((n:Nat):Int) xs) (dE (fa6 24))) k7 ?_
  refine iJ rfl rfl rfl (cT (vs:=[pp J 0,pp S 1,.int .i64 (0),sB (dC (fa6 24)) (bR ((e:Nat):Int) ((n:Nat):Int) xs) (dE (fa6 24))]) aOn.ok rfl rfl) ?_
  intro w hw
  obtain⟨β1,sb,kn,hw1,back⟩:=St.frame (L:=[_]) (M:=_::_::_::_::_::[]) hw
  have hfl:=dM (e:Int) (n:Int) xs
  refine(aAl β1 w e hpar J S (kn _ (cD 0 rfl rfl)) (wB k e) (hf1.le (by omega)) 0 (by omega) (bR ((e:Nat):Int) ((n:Nat):Int) xs) _ (by omega) (kU kn 4 rfl) hw1).mono ?_
  rintro e w' (⟨rfl,ok7,hw'⟩|⟨rfl,ok7,hw'⟩)
  ·refine .inl ⟨_,rfl,_,back _ _ hw',?_⟩
   refine eG (sX ?_)
   intro w hw
   refine .inl ⟨rfl,fun h=>ok7 h.2.1,?_⟩
   rw[pU,if_pos ok1,if_neg (show ¬qU k e n xs from ok7)]
   exact aG [true,true,true,true,true,false] rfl (hw.perm (L':=[pt J (.cells #[pp S 0,Nx (i.epoch),Nx (i.next),vs,vr,Nx (i.size),vd] 143),pt q2 (.cells #[pp J 0] 89),pt q6 (.cells #[Nx (e),Nx (n),ws,wr_,wz] 109),pt q3 (.cells #[sB sa xs (sc)] 27),aQ S (sR (wB k e) e 0 (bR ((e:Nat):Int) ((n:Nat):Int) xs)),rB (dC (fa6 24)) (bR ((e:Nat):Int) ((n:Nat):Int) xs) (dE (fa6 24))]) (by exact(aW [1,2,3,4,0,5] 6 rfl (by kernel_rfl) (by kernel_rfl))))
  refine .inr ⟨_,rfl,_,back _ _ hw',?_⟩
  refine aN ?_
  have ok2:qU k e n xs:=ok7
  have hf2:(oI k e n xs).fits 655360:=(hf1.wr).le (by rw[dM];omega)
  refine rC (L':=[aQ S (oI k e n xs),pt J (.cells #[pp S 0,Nx (i.epoch),Nx (i.next),vs,vr,Nx (i.size),vd] 143),pt q2 (.cells #[pp J 0] 89),pt q6 (.cells #[Nx (e),Nx (n),ws,wr_,wz] 109),pt q3 (.cells #[sB sa xs (sc)] 27),rB (dC (fa6 24)) (bR ((e:Nat):Int) ((n:Nat):Int) xs) (dE (fa6 24))]) (by rfl) ?_
  refine gL (fun(f:Fm) (L:List bU)=>(f 0=pp q2 0∧f 1=pp q6 0)∧L=[aQ S (oJ k e n xs),pt J (.cells #[pp S 0,Nx (i.epoch),Nx (i.next),vs,vr,Nx (i.size),vd] 143),pt q2 (.cells #[pp J 0] 89),pt q6 (.cells #[Nx (e),Nx (n),ws,wr_,wz] 109),pt q3 (.cells #[sB sa xs (sc)] 27),rB (dC (fa6 24)) (bR ((e:Nat):Int) ((n:Nat):Int) xs) (dE (fa6 24))]) ?_ ?_
  ·refine aL (sU [0,1,2,3,4,5] 6 rfl (by kernel_rfl) (nT rfl (fun pH8 pA9 pB10 cH11 cA12 cB13=> ?_)))
   refine aC (lE (iR 5) (lE eS (lE aY (lE (iR 4) (lE eS (lE aY (lE (fQ 0) (lE gY (lE fD (aN ?_))))))))))
   refine cN _ rfl (fun hc14=> ?_) (fun hc14=> ?_)
   ·refine jS [sv 35 (pp J 0) [] [] [0],sv 36 (pp J 0) [0] [0] [],sv 37 (pp J 0) [0,1] [1] [],sv 38 (pp S 0) [0,1,2] [2] [],⟨[],[],[],[39],fun f=>f 39=sB (some ⟨(bY (f 39)),0,none⟩) (List.replicate 32 (0:UInt8)) 32⟩,sv 40 (pp S 0) [0,1,2,3,4] [3] [],sv 41 (pp S 0) (List.range 6) [5] [],⟨(List.range 7),[6,4],[],[],fun _=>True⟩] [(some 7,[7]),u0,u0,u0,u1 [3],u1 [0]] [⟨(some 4),none,[],[39],fun f=>rB (some ⟨(bY (f 39)),0,none⟩) (List.replicate 32 (0:UInt8)) 32⟩,⟨(some 7),none,[],[39],fun f=>pt S (.cells #[sB (some ⟨(bY (f 39)),0,none⟩) (List.replicate 32 (0:UInt8)) 32,sB pA9 ((oI k e n xs).a) cA12,sB pB10 ((oI k e n xs).b) cB13,Ix ((oI k e n xs).power)] 29)⟩] [(0,pp q2 0),(1,pp q6 0)] [0,1] ⟨rfl,rfl,trivial⟩ ⟨?_,?_,?_,?_,?_,?_,?_,?_,trivial⟩ ?_
    ·rintro f M-⟨i0,-⟩
     exact aT (iR 0)
    ·rintro f M ⟨k0,-⟩-
     exact aT eS
    ·rintro f M ⟨k0,-⟩-
     exact aT aY
    ·rintro f M ⟨k0,-⟩-
     exact aT (iR 0)
    ·rintro f M- -
     refine dL rfl ?_
     refine dA rfl rfl rfl (aKu (c:=32) kE aHc aOm.ok rfl rfl (by omega) (by omega)) ?_
     rintro _ _ ⟨b16,rfl,rfl⟩
     refine aH ?_
     exact aO rfl rfl (aB 0 rfl)
    ·rintro f M ⟨k0,-⟩-
     exact aT eS
    ·rintro f M ⟨k0,-⟩-
     exact aT aY
    ·rintro f M ⟨k0,k1,-⟩-
     have hs39:f 39=sB (some ⟨(bY (f 39)),0,none⟩) (List.replicate 32 (0:UInt8)) 32:=k1
     refine dL (aA (aA (d:=41) rfl k0) hs39) ?_
     refine lu (mS 0 (#[sB (some ⟨(bY (f 39)),0,none⟩) (List.replicate 32 (0:UInt8)) 32,sB pA9 ((oI k e n xs).a) cA12,sB pB10 ((oI k e n xs).b) cB13,Ix ((oI k e n xs).power)])) ?_
     refine aH ?_
     exact bC (aA (aA (d:=41) rfl k0) hs39) trivial (aB 0 rfl)
    rintro fa17 ⟨-,-,-,-,-,-,-,-,-⟩ ⟨j0,j1,-⟩
    refine jD ?_
    refine aD (d:=0) j0 (aD (d:=1) j1 (aWd [9,8,1,2,3,4,5,6,7,0] 10 rfl (by kernel_rfl) ?_))
    refine mI (S:=S) (k:=(oJ k e n xs)) (pH:=(some ⟨(bY (fa17 39)),0,none⟩)) (pA:=pA9) (pB:=pB10) (cH:=32) (cA:=cA12) (cB:=cB13) (M:=(pt J (.cells #[pp S 0,Nx (i.epoch),Nx (i.next),vs,vr,Nx (i.size),vd] 143)::pt q2 (.cells #[pp J 0] 89)::pt q6 (.cells #[Nx (e),Nx (n),ws,wr_,wz] 109)::pt q3 (.cells #[sB sa xs (sc)] 27)::rB (dC (fa6 24)) (bR ((e:Nat):Int) ((n:Nat):Int) xs) (dE (fa6 24))::rB pH8 ((oI k e n xs).head) cH11::[])) (by rw[show oJ k e n xs={oI k e n xs with head:=List.replicate 32 0}from if_pos (by omega)];rfl) ?_
    refine dD [true,true,true,true,true,true,false] rfl ?_
    exact bG ⟨⟨rfl,rfl⟩,rfl⟩
   refine cG (aWd [0,1,2,3,4,5,6,7,8] 9 rfl (by kernel_rfl) ?_)
   refine mI (S:=S) (k:=(oJ k e n xs)) (pH:=pH8) (pA:=pA9) (pB:=pB10) (cH:=cH11) (cA:=cA12) (cB:=cB13) (M:=(pt J (.cells #[pp S 0,Nx (i.epoch),Nx (i.next),vs,vr,Nx (i.size),vd] 143)::pt q2 (.cells #[pp J 0] 89)::pt q6 (.cells #[Nx (e),Nx (n),ws,wr_,wz] 109)::pt q3 (.cells #[sB sa xs (sc)] 27)::rB (dC (fa6 24)) (bR ((e:Nat):Int) ((n:Nat):Int) xs) (dE (fa6 24))::[])) (by rw[show oJ k e n xs=oI k e n xs from if_neg (by omega)];rfl) ?_
   exact bG ⟨⟨rfl,rfl⟩,rfl⟩
  rintro f0 L0 ⟨⟨hs0,hs1⟩,hL⟩
  subst L0
  refine bJ 0 hs0 (bJ 1 hs1 ?_)
  have hf3:(oJ k e n xs).fits 655360:=by unfold oJ;simp only;split;exact aBk hf2 (by simp);exact hf2
  have hcl:(be 8 (U ((e:Nat):Int))++be 8 (eV ((e:Nat):Int))).length=16:=by simp[bX]
  refine aL ?_
  refine jS [sv 42 (pp q6 0) [] [] [0],sv 43 (Nx (e)) [0] [0] [],sv 44 (Ux (U ((e:Nat):Int))) [0,1] [1] [],⟨[0,1,2],[2],[],[45],fun f=>f 45=sB (dC (f 45)) (be 8 (U ((e:Nat):Int))) (dE (f 45))⟩,sv 46 (pp q6 0) [] [] [0],sv 47 (Nx (e)) [4] [4] [],sv 48 (Ux (eV ((e:Nat):Int))) (List.range 6) [5] [],⟨(List.range 7),[3,6],[],[49],fun f=>f 49=sB (dC (f 49)) ((be 8 (U ((e:Nat):Int)))++be 8 (eV ((e:Nat):Int))) (dE (f 49))⟩,⟨(List.range 8),[7],[],[4,49],fun f=>f 4=sB (dC (f 49)) ((be 8 (U ((e:Nat):Int)))++be 8 (eV ((e:Nat):Int))) (dE (f 49))⟩] [u0,u0,u0,u1 [1,5]] [⟨(some 3),(some 7),[7],[45],fun f=>rB (dC (f 45)) (be 8 (U ((e:Nat):Int))) (dE (f 45))⟩,⟨(some 7),none,[],[49],fun f=>rB (dC (f 49)) ((be 8 (U ((e:Nat):Int)))++be 8 (eV ((e:Nat):Int))) (dE (f 49))⟩] [(1,pp q6 0),(0,pp q2 0)] [1,0] ⟨rfl,rfl,trivial⟩ ⟨?_,?_,?_,?_,?_,?_,?_,?_,?_,trivial⟩ ?_
  ·rintro f M-⟨i0,-⟩
   exact aT aY
  ·rintro f M ⟨k0,-⟩-
   exact aT (cY 0)
  ·rintro f M ⟨k0,-⟩-
   exact gO (aA (d:=43) rfl k0) rfl (gC (a:=((e:Nat):Int)) rfl ⟨_,tf1⟩ tf2 (tG _)) (.refl _)
  ·rintro f M ⟨k0,-⟩-
   refine dL (aA (d:=44) rfl k0) ?_
   refine pV (cT (vs:=[.slice none 0 0,Ux (U ((e:Nat):Int)),.int .i64 (8)]) aHd.ok rfl rfl) rfl fun w β1 sb kn hw1 back=>(pY β1 w hw1 (U ((e:Nat):Int)) 8 (by decide)).mono ?_
   rintro e w' ⟨p20,c21,rfl,hw'⟩
   refine⟨_,rfl,_,back _ _ hw',?_⟩
   refine aH ?_
   exact aO (aA (d:=44) rfl k0) rfl (aB 0 rfl)
  ·rintro f M-⟨i0,-⟩
   exact aT aY
  ·rintro f M ⟨k0,-⟩-
   exact aT (cY 0)
  ·rintro f M ⟨k0,-⟩-
   refine dL (aA (d:=47) rfl k0) ?_
   refine gI gH (fun w β1 sb kn hw1=>aEn β1 w hw1 ((e:Nat):Int)) (aH ?_)
   exact aO (aA (d:=47) rfl k0) rfl (List.Perm.refl _)
  ·rintro f M ⟨k0,k1,-⟩-
   have hs45:f 45=sB (dC (f 45)) (be 8 (U ((e:Nat):Int))) (dE (f 45)):=k0
   refine dL (aA (d:=48) (aA rfl hs45) k1) ?_
   refine aX rfl rfl rfl (cT (vs:=[sB (dC (f 45)) (be 8 (U ((e:Nat):Int))) (dE (f 45)),Ux (eV ((e:Nat):Int)),.int .i64 (8)]) aHd.ok rfl rfl) ?_
   intro w hw
   obtain⟨β1,sb,kn,hw1,back⟩:=St.frame (L:=[_]) (M:=M) hw
   refine(kG β1 w _ _ (be 8 (U ((e:Nat):Int))) (eV ((e:Nat):Int)) 8 (by decide) (by simp only[List.length_append,bX];omega) hw1).mono ?_
   rintro e w' ⟨p24,c25,rfl,hw'⟩
   refine⟨_,rfl,_,back _ _ hw',?_⟩
   refine aH ?_
   exact aO (aA (d:=48) (aA rfl hs45) k1) rfl (aB 0 rfl)
  ·rintro f M ⟨k0,-⟩-
   have hs49:f 49=sB (dC (f 49)) ((be 8 (U ((e:Nat):Int)))++be 8 (eV ((e:Nat):Int))) (dE (f 49)):=k0
   exact aT iO
  rintro fa26 ⟨-,-,-,-,-,-,-,-,k8,-⟩ ⟨j0,j1,-⟩
  refine jD ?_
  refine aD (d:=0) j0 (aD (d:=1) j1 (aD (d:=4) k8 (bA ?_)))
  refine kH 12 rfl rfl [⟨[],[],[0],[50],fun f=>f 50=pp J 0⟩,⟨[],[],[0],[51],fun f=>f 51=pp J 0⟩,⟨[1],[1],[],[52],fun f=>f 52=pp J 0⟩,⟨[1,2],[2],[],[53],fun f=>f 53=pp J 0⟩,⟨[1,2,3],[3],[],[54],fun f=>f 54=pp S 0⟩,⟨[1,2,3,4],[4],[],[55],fun f=>f 55=pp S 0⟩,⟨[1,2,3,4,5],[5],[],[56],fun f=>f 56=pp S 0⟩,⟨[],[],[1],[57],fun f=>f 57=pp q6 0⟩,⟨[7],[7],[],[58],fun f=>f 58=Nx (e)⟩,⟨[7,8],[8],[],[59],fun f=>f 59= .int .i64 (0)⟩,⟨[7,8,9],[9],[],[60],fun f=>f 60= .int .i64 (0)⟩,⟨[],[],[2],[61],fun f=>f 61=sB (dC (fa26 49)) ((be 8 (U ((e:Nat):Int)))++be 8 (eV ((e:Nat):Int))) (dE (fa26 49))⟩,⟨(List.range 12),[],[],[],fun _=>True⟩] [⟨none,none,[],[],fun _=>aQ S (oJ k e n xs)⟩,⟨none,none,[4],[],fun _=>pt J (.cells #[pp S 0,Nx (i.epoch),Nx (i.next),vs,vr,Nx (i.size),vd] 143)⟩,⟨none,none,[0,1],[],fun _=>pt q2 (.cells #[pp J 0] 89)⟩,⟨none,none,[8],[],fun _=>pt q6 (.cells #[Nx (e),Nx (n),ws,wr_,wz] 109)⟩,⟨none,none,[],[],fun _=>pt q3 (.cells #[sB sa xs (sc)] 27)⟩,⟨none,none,[],[],fun _=>rB (dC (fa6 24)) (bR ((e:Nat):Int) ((n:Nat):Int) xs) (dE (fa6 24))⟩,⟨none,none,[],[],fun _=>rB (dC (fa26 49)) ((be 8 (U ((e:Nat):Int)))++be 8 (eV ((e:Nat):Int))) (dE (fa26 49))⟩] [(0,pp q2 0),(1,pp q6 0),(4,sB (dC (fa26 49)) ((be 8 (U ((e:Nat):Int)))++be 8 (eV ((e:Nat):Int))) (dE (fa26 49)))] [] [] (by kernel_rfl) (by kernel_rfl) (by kernel_rfl) (by kernel_rfl) (by kernel_rfl) (by kernel_rfl) rfl ⟨rfl,rfl,rfl,trivial⟩ ⟨?_,?_,?_,?_,?_,?_,?_,?_,?_,?_,?_,?_,trivial⟩ ?_
  ·rintro f M-⟨i0,-⟩
   exact aT (iR 0)
  ·rintro f M-⟨i0,-⟩
   exact aT (iR 0)
  ·rintro f M ⟨k0,-⟩-
   exact aT eS
  ·rintro f M ⟨k0,-⟩-
   exact aT aY
  ·rintro f M ⟨k0,-⟩-
   exact aT (iR 0)
  ·rintro f M ⟨k0,-⟩-
   exact aT eS
  ·rintro f M ⟨k0,-⟩-
   exact aT aY
  ·rintro f M-⟨i0,-⟩
   exact aT aY
  ·rintro f M ⟨k0,-⟩-
   exact aT (cY 0)
  ·rintro f M ⟨k0,-⟩-
   exact gO (aA (d:=58) rfl k0) rfl (eZ (by rw[hpar];rfl) (lR (a:=((e:Nat):Int)) (b:=(2:Int)) rfl rfl (by decide) (gG _ 2))) (.refl _)
  ·rintro f M ⟨k0,-⟩-
   exact gO (aA (d:=59) rfl k0) rfl (tC (a:=(0:Int)) (b:=(16:Int)) rfl rfl (by decide)) (.refl _)
  ·rintro f M-⟨i0,-⟩
   exact aT fL
  rintro fa27 ⟨k0,-,-,-,-,-,k6,-,-,-,k10,k11,-⟩-
  refine lre ?_
  refine dO (d:=50) (v:=pp J 0) k0 (dO (d:=56) (v:=pp S 0) k6 (dO (d:=60) (v:= .int .i64 (0)) k10 ?_))
  refine dO (d:=61) (v:=sB (dC (fa26 49)) ((be 8 (U ((e:Nat):Int)))++be 8 (eV ((e:Nat):Int))) (dE (fa26 49))) k11 ?_
  refine iJ rfl rfl rfl (cT (vs:=[pp J 0,pp S 0,.int .i64 (0),sB (dC (fa26 49)) ((be 8 (U ((e:Nat):Int)))++be 8 (eV ((e:Nat):Int))) (dE (fa26 49))]) aOn.ok rfl rfl) ?_
  intro w hw
  obtain⟨β1,sb,kn,hw1,back⟩:=St.frame (L:=[_]) (M:=_::_::_::_::_::_::[]) hw
  refine(aCs β1 w J S (kn _ (cD 0 rfl rfl)) (oJ k e n xs) (hf3.le (by omega)) 0 (by omega) ((be 8 (U ((e:Nat):Int)))++be 8 (eV ((e:Nat):Int))) _ (by omega) (kU kn 5 rfl) hw1).mono ?_
  rintro e w' (⟨rfl,ok28,hw'⟩|⟨rfl,ok28,hw'⟩)
  ·refine .inl ⟨_,rfl,_,back _ _ hw',?_⟩
   refine sX ?_
   intro w hw
   refine .inl ⟨rfl,fun h=>ok28 h.2.2,?_⟩
   rw[pU,if_pos ok1,if_pos ok2,ck4,show e%2*16=0 by omega]
   exact aG [true,true,true,true,true,false,false] rfl (hw.perm (L':=[pt J (.cells #[pp S 0,Nx (i.epoch),Nx (i.next),vs,vr,Nx (i.size),vd] 143),pt q2 (.cells #[pp J 0] 89),pt q6 (.cells #[Nx (e),Nx (n),ws,wr_,wz] 109),pt q3 (.cells #[sB sa xs (sc)] 27),aQ S (wrH (oJ k e n xs) 0 ((be 8 (U ((e:Nat):Int)))++be 8 (eV ((e:Nat):Int)))),rB (dC (fa6 24)) (bR ((e:Nat):Int) ((n:Nat):Int) xs) (dE (fa6 24)),rB (dC (fa26 49)) ((be 8 (U ((e:Nat):Int)))++be 8 (eV ((e:Nat):Int))) (dE (fa26 49))]) (by exact(aW [1,2,3,4,0,5,6] 7 rfl (by kernel_rfl) (by kernel_rfl))))
  refine .inr ⟨_,rfl,_,back _ _ hw',?_⟩
  refine aH (mZ Tryz.results91 ?_)
  intro w hw
  refine .inr ⟨rfl,⟨ok1,ok2,ok28⟩,?_⟩
  rw[pU,if_pos ok1,if_pos ok2,ck4,show e%2*16=0 by omega]
  exact aG [true,true,true,true,true,false,false] rfl (hw.perm (L':=[pt J (.cells #[pp S 0,Nx (i.epoch),Nx (i.next),vs,vr,Nx (i.size),vd] 143),pt q2 (.cells #[pp J 0] 89),pt q6 (.cells #[Nx (e),Nx (n),ws,wr_,wz] 109),pt q3 (.cells #[sB sa xs (sc)] 27),aQ S (wrH (oJ k e n xs) 0 ((be 8 (U ((e:Nat):Int)))++be 8 (eV ((e:Nat):Int)))),rB (dC (fa6 24)) (bR ((e:Nat):Int) ((n:Nat):Int) xs) (dE (fa6 24)),rB (dC (fa26 49)) ((be 8 (U ((e:Nat):Int)))++be 8 (eV ((e:Nat):Int))) (dE (fa26 49))]) (by exact(aW [1,2,3,4,0,5,6] 7 rfl (by kernel_rfl) (by kernel_rfl))))
 refine gS (by kernel_rfl) (by kernel_rfl) (qE (iR 1) (qE eS (qE aY (qE (iR 0) ?_))))
 refine lH (v:= .agg #[pp S 1,pp S 2]) rfl rfl rfl (cT (vs:=[pp S 0]) aYj.ok rfl rfl) (fun w hw=> ?_) ?_
 ·obtain⟨β1,sb,kn,hw1,back⟩:=St.frame_all hw
  exact(lP β1 w hw1 S).mono (fun e w' ⟨he,hw'⟩=>⟨he,aG [true,true,true,true,true] rfl (back _ _ hw')⟩)
 refine qE aY (qE (cY 2) ?_)
 refine dU (v:= .int .i64 (1)) rfl rfl rfl (eZ (by rw[hpar];rfl) (lR (a:=((e:Nat):Int)) (b:=(2:Int)) rfl rfl (by decide) (gG _ 2))) ?_
 refine dU (v:=pp S 2) rfl rfl rfl (fP (cs:= #[pp S 1,pp S 2]) (k:=1) rfl rfl aEm.ok rfl (by decide) aHe.ok) (qE oap (lB (kM ?_)))
 refine lE (iR 1) (lE dS (iJ rfl rfl rfl (cT (vs:=[pp J 0,pp S 2,.int .i64 (0)]) aYk.ok rfl rfl) ?_))
 intro w hw
 replace hw:=hw.perm (L':=_::_::_::_::_::[]) (by exact(((((aB 3 rfl).trans (aB 3 rfl)).trans (aB 3 rfl)).trans (aB 3 rfl)).trans (aB 4 rfl)))
 obtain⟨β1,sb,kn,hw1,back⟩:=St.frame (L:=[_]) (M:=_::_::_::_::[]) hw
 refine(aFr β1 w e hpar J S (kn _ (cD 0 rfl rfl)) k (hk.le (by omega)) 0 hw1).mono ?_
 rintro e w' (⟨rfl,ok29,hw'⟩|⟨rfl,ok29,hw'⟩)
 ·refine .inl ⟨_,rfl,_,back _ _ hw',?_⟩
  refine eG (sX ?_)
  intro w hw
  refine .inl ⟨rfl,fun h=>ok29 h.1,?_⟩
  rw[pU,if_neg (show ¬mV k e from ok29)]
  exact aG [true,true,true,true,true] rfl (hw.perm (L':=[pt J (.cells #[pp S 0,Nx (i.epoch),Nx (i.next),vs,vr,Nx (i.size),vd] 143),pt q2 (.cells #[pp J 0] 89),pt q6 (.cells #[Nx (e),Nx (n),ws,wr_,wz] 109),pt q3 (.cells #[sB sa xs (sc)] 27),aQ S k]) (by exact(aW [1,2,3,4,0] 5 rfl (by kernel_rfl) (by kernel_rfl))))
 refine .inr ⟨_,rfl,_,back _ _ hw',?_⟩
 refine aN (aL ?_)
 have ok1:mV k e:=ok29
 have hf1:(wB k e).fits 524288:=hk.cut
 refine rC (L':=[aQ S (wB k e),pt J (.cells #[pp S 0,Nx (i.epoch),Nx (i.next),vs,vr,Nx (i.size),vd] 143),pt q2 (.cells #[pp J 0] 89),pt q6 (.cells #[Nx (e),Nx (n),ws,wr_,wz] 109),pt q3 (.cells #[sB sa xs (sc)] 27)]) (by rfl) ?_
 refine kH 8 rfl rfl [⟨[],[],[0],[17],fun f=>f 17=pp J 0⟩,⟨[],[],[1],[18],fun f=>f 18=pp S 2⟩,⟨[],[],[2],[19],fun f=>f 19=pp q6 0⟩,⟨[2],[2],[],[20],fun f=>f 20=Nx (e)⟩,⟨[],[],[2],[21],fun f=>f 21=pp q6 1⟩,⟨[4],[4],[],[22],fun f=>f 22=Nx (n)⟩,⟨[],[],[3],[23],fun f=>f 23=sB sa xs (sc)⟩,⟨[2,3,4,5,6],[3,5,6],[],[24],fun f=>f 24=sB (dC (f 24)) (bR ((e:Nat):Int) ((n:Nat):Int) xs) (dE (f 24))⟩,⟨(List.range 8),[],[],[],fun _=>True⟩] [⟨none,none,[],[],fun _=>aQ S (wB k e)⟩,⟨none,none,[],[],fun _=>pt J (.cells #[pp S 0,Nx (i.epoch),Nx (i.next),vs,vr,Nx (i.size),vd] 143)⟩,⟨none,none,[0],[],fun _=>pt q2 (.cells #[pp J 0] 89)⟩,⟨none,none,[3,5],[],fun _=>pt q6 (.cells #[Nx (e),Nx (n),ws,wr_,wz] 109)⟩,⟨none,none,[6],[],fun _=>pt q3 (.cells #[sB sa xs (sc)] 27)⟩,⟨(some 7),none,[],[24],fun f=>rB (dC (f 24)) (bR ((e:Nat):Int) ((n:Nat):Int) xs) (dE (f 24))⟩] [(0,pp q2 0),(3,pp S 2),(1,pp q6 0),(2,pp q3 0)] [0,2] [] (by kernel_rfl) (by kernel_rfl) (by kernel_rfl) (by kernel_rfl) (by kernel_rfl) (by kernel_rfl) rfl ⟨rfl,rfl,rfl,rfl,trivial⟩ ⟨?_,?_,?_,?_,?_,?_,?_,?_,trivial⟩ ?_
 ·rintro f M-⟨i0,-⟩
  exact aT (iR 0)
 ·rintro f M-⟨i0,-⟩
  exact aT dS
 ·rintro f M-⟨i0,-⟩
  exact aT aY
 ·rintro f M ⟨k0,-⟩-
  exact aT (cY 0)
 ·rintro f M-⟨i0,-⟩
  exact aT aY
 ·rintro f M ⟨k0,-⟩-
  exact aT (cY 0)
 ·rintro f M-⟨i0,-⟩
  exact aT (fQ 0)
 ·rintro f M ⟨k0,k1,k2,-⟩-
  refine dL (aA (d:=23) (aA (d:=22) (aA (d:=20) rfl k0) k1) k2) ?_
  refine pV (cT (vs:=[Nx (e),Nx (n),sB sa xs (sc)]) aYl.ok rfl rfl) rfl fun w β1 sb kn hw1 back=>(xT β1 w hw1 ((e:Nat):Int) ((n:Nat):Int) xs _ (by omega) (Sl.mono _ _ _ _ _ sb (⟨⟨_,_,rfl,hl,hm,hx⟩⟩:Sl iT _ _ xs))).mono ?_
  rintro e w' ⟨p32,c33,rfl,hw'⟩
  refine⟨_,rfl,_,back _ _ hw',?_⟩
  refine aH ?_
  exact aO (aA (d:=23) (aA (d:=22) (aA (d:=20) rfl k0) k1) k2) rfl (aB 0 rfl)
 rintro fa34 ⟨k0,k1,-,-,-,-,-,k7,-⟩ ⟨j0,j1,-⟩
 refine lre ?_
 refine dO (d:=0) (v:=pp q2 0) j0 (dO (d:=1) (v:=pp q6 0) j1 (dO (d:=17) (v:=pp J 0) k0 ?_))
 refine dO (d:=18) (v:=pp S 2) k1 ?_
 refine dO (d:=24) (v:=sB (dC (fa34 24)) (bR ((e:Nat):Int) ((n:Nat):Int) xs) (dE (fa34 24))) k7 ?_
 refine iJ rfl rfl rfl (cT (vs:=[pp J 0,pp S 2,.int .i64 (0),sB (dC (fa34 24)) (bR ((e:Nat):Int) ((n:Nat):Int) xs) (dE (fa34 24))]) aOn.ok rfl rfl) ?_
 intro w hw
 obtain⟨β1,sb,kn,hw1,back⟩:=St.frame (L:=[_]) (M:=_::_::_::_::_::[]) hw
 have hfl:=dM (e:Int) (n:Int) xs
 refine(aAm β1 w e hpar J S (kn _ (cD 0 rfl rfl)) (wB k e) (hf1.le (by omega)) 0 (by omega) (bR ((e:Nat):Int) ((n:Nat):Int) xs) _ (by omega) (kU kn 4 rfl) hw1).mono ?_
 rintro e w' (⟨rfl,ok35,hw'⟩|⟨rfl,ok35,hw'⟩)
 ·refine .inl ⟨_,rfl,_,back _ _ hw',?_⟩
  refine eG (sX ?_)
  intro w hw
  refine .inl ⟨rfl,fun h=>ok35 h.2.1,?_⟩
  rw[pU,if_pos ok1,if_neg (show ¬qU k e n xs from ok35)]
  exact aG [true,true,true,true,true,false] rfl (hw.perm (L':=[pt J (.cells #[pp S 0,Nx (i.epoch),Nx (i.next),vs,vr,Nx (i.size),vd] 143),pt q2 (.cells #[pp J 0] 89),pt q6 (.cells #[Nx (e),Nx (n),ws,wr_,wz] 109),pt q3 (.cells #[sB sa xs (sc)] 27),aQ S (sR (wB k e) e 0 (bR ((e:Nat):Int) ((n:Nat):Int) xs)),rB (dC (fa34 24)) (bR ((e:Nat):Int) ((n:Nat):Int) xs) (dE (fa34 24))]) (by exact(aW [1,2,3,4,0,5] 6 rfl (by kernel_rfl) (by kernel_rfl))))
 refine .inr ⟨_,rfl,_,back _ _ hw',?_⟩
 refine aN ?_
 have ok2:qU k e n xs:=ok35
 have hf2:(oI k e n xs).fits 655360:=(hf1.wr).le (by rw[dM];omega)
 refine rC (L':=[aQ S (oI k e n xs),pt J (.cells #[pp S 0,Nx (i.epoch),Nx (i.next),vs,vr,Nx (i.size),vd] 143),pt q2 (.cells #[pp J 0] 89),pt q6 (.cells #[Nx (e),Nx (n),ws,wr_,wz] 109),pt q3 (.cells #[sB sa xs (sc)] 27),rB (dC (fa34 24)) (bR ((e:Nat):Int) ((n:Nat):Int) xs) (dE (fa34 24))]) (by rfl) ?_
 refine gL (fun(f:Fm) (L:List bU)=>(f 0=pp q2 0∧f 1=pp q6 0)∧L=[aQ S (oJ k e n xs),pt J (.cells #[pp S 0,Nx (i.epoch),Nx (i.next),vs,vr,Nx (i.size),vd] 143),pt q2 (.cells #[pp J 0] 89),pt q6 (.cells #[Nx (e),Nx (n),ws,wr_,wz] 109),pt q3 (.cells #[sB sa xs (sc)] 27),rB (dC (fa34 24)) (bR ((e:Nat):Int) ((n:Nat):Int) xs) (dE (fa34 24))]) ?_ ?_
 ·refine aL (sU [0,1,2,3,4,5] 6 rfl (by kernel_rfl) (nT rfl (fun pH36 pA37 pB38 cH39 cA40 cB41=> ?_)))
  refine aC (lE (iR 5) (lE eS (lE aY (lE (iR 4) (lE eS (lE aY (lE (fQ 0) (lE gY (lE fD (aN ?_))))))))))
  refine cN _ rfl (fun hc42=> ?_) (fun hc42=> ?_)
  ·refine jS [sv 35 (pp J 0) [] [] [0],sv 36 (pp J 0) [0] [0] [],sv 37 (pp J 0) [0,1] [1] [],sv 38 (pp S 0) [0,1,2] [2] [],⟨[],[],[],[39],fun f=>f 39=sB (some ⟨(bY (f 39)),0,none⟩) (List.replicate 32 (0:UInt8)) 32⟩,sv 40 (pp S 0) [0,1,2,3,4] [3] [],sv 41 (pp S 0) (List.range 6) [5] [],⟨(List.range 7),[6,4],[],[],fun _=>True⟩] [(some 7,[7]),u0,u0,u0,u1 [3],u1 [0]] [⟨(some 4),none,[],[39],fun f=>rB (some ⟨(bY (f 39)),0,none⟩) (List.replicate 32 (0:UInt8)) 32⟩,⟨(some 7),none,[],[39],fun f=>pt S (.cells #[sB (some ⟨(bY (f 39)),0,none⟩) (List.replicate 32 (0:UInt8)) 32,sB pA37 ((oI k e n xs).a) cA40,sB pB38 ((oI k e n xs).b) cB41,Ix ((oI k e n xs).power)] 29)⟩] [(0,pp q2 0),(1,pp q6 0)] [0,1] ⟨rfl,rfl,trivial⟩ ⟨?_,?_,?_,?_,?_,?_,?_,?_,trivial⟩ ?_
   ·rintro f M-⟨i0,-⟩
    exact aT (iR 0)
   ·rintro f M ⟨k0,-⟩-
    exact aT eS
   ·rintro f M ⟨k0,-⟩-
    exact aT aY
   ·rintro f M ⟨k0,-⟩-
    exact aT (iR 0)
   ·rintro f M- -
    refine dL rfl ?_
    refine dA rfl rfl rfl (aKu (c:=32) kE aHc aOm.ok rfl rfl (by omega) (by omega)) ?_
    rintro _ _ ⟨b44,rfl,rfl⟩
    refine aH ?_
    exact aO rfl rfl (aB 0 rfl)
   ·rintro f M ⟨k0,-⟩-
    exact aT eS
   ·rintro f M ⟨k0,-⟩-
    exact aT aY
   ·rintro f M ⟨k0,k1,-⟩-
    have hs39:f 39=sB (some ⟨(bY (f 39)),0,none⟩) (List.replicate 32 (0:UInt8)) 32:=k1
    refine dL (aA (aA (d:=41) rfl k0) hs39) ?_
    refine lu (mS 0 (#[sB (some ⟨(bY (f 39)),0,none⟩) (List.replicate 32 (0:UInt8)) 32,sB pA37 ((oI k e n xs).a) cA40,sB pB38 ((oI k e n xs).b) cB41,Ix ((oI k e n xs).power)])) ?_
    refine aH ?_
    exact bC (aA (aA (d:=41) rfl k0) hs39) trivial (aB 0 rfl)
   rintro fa45 ⟨-,-,-,-,-,-,-,-,-⟩ ⟨j0,j1,-⟩
   refine jD ?_
   refine aD (d:=0) j0 (aD (d:=1) j1 (aWd [9,8,1,2,3,4,5,6,7,0] 10 rfl (by kernel_rfl) ?_))
   refine mI (S:=S) (k:=(oJ k e n xs)) (pH:=(some ⟨(bY (fa45 39)),0,none⟩)) (pA:=pA37) (pB:=pB38) (cH:=32) (cA:=cA40) (cB:=cB41) (M:=(pt J (.cells #[pp S 0,Nx (i.epoch),Nx (i.next),vs,vr,Nx (i.size),vd] 143)::pt q2 (.cells #[pp J 0] 89)::pt q6 (.cells #[Nx (e),Nx (n),ws,wr_,wz] 109)::pt q3 (.cells #[sB sa xs (sc)] 27)::rB (dC (fa34 24)) (bR ((e:Nat):Int) ((n:Nat):Int) xs) (dE (fa34 24))::rB pH36 ((oI k e n xs).head) cH39::[])) (by rw[show oJ k e n xs={oI k e n xs with head:=List.replicate 32 0}from if_pos (by omega)];rfl) ?_
   refine dD [true,true,true,true,true,true,false] rfl ?_
   exact bG ⟨⟨rfl,rfl⟩,rfl⟩
  refine cG (aWd [0,1,2,3,4,5,6,7,8] 9 rfl (by kernel_rfl) ?_)
  refine mI (S:=S) (k:=(oJ k e n xs)) (pH:=pH36) (pA:=pA37) (pB:=pB38) (cH:=cH39) (cA:=cA40) (cB:=cB41) (M:=(pt J (.cells #[pp S 0,Nx (i.epoch),Nx (i.next),vs,vr,Nx (i.size),vd] 143)::pt q2 (.cells #[pp J 0] 89)::pt q6 (.cells #[Nx (e),Nx (n),ws,wr_,wz] 109)::pt q3 (.cells #[sB sa xs (sc)] 27)::rB (dC (fa34 24)) (bR ((e:Nat):Int) ((n:Nat):Int) xs) (dE (fa34 24))::[])) (by rw[show oJ k e n xs=oI k e n xs from if_neg (by omega)];rfl) ?_
  exact bG ⟨⟨rfl,rfl⟩,rfl⟩
 rintro f0 L0 ⟨⟨hs0,hs1⟩,hL⟩
 subst L0
 refine bJ 0 hs0 (bJ 1 hs1 ?_)
 have hf3:(oJ k e n xs).fits 655360:=by unfold oJ;simp only;split;exact aBk hf2 (by simp);exact hf2
 have hcl:(be 8 (U ((e:Nat):Int))++be 8 (eV ((e:Nat):Int))).length=16:=by simp[bX]
 refine aL ?_
 refine jS [sv 42 (pp q6 0) [] [] [0],sv 43 (Nx (e)) [0] [0] [],sv 44 (Ux (U ((e:Nat):Int))) [0,1] [1] [],⟨[0,1,2],[2],[],[45],fun f=>f 45=sB (dC (f 45)) (be 8 (U ((e:Nat):Int))) (dE (f 45))⟩,sv 46 (pp q6 0) [] [] [0],sv 47 (Nx (e)) [4] [4] [],sv 48 (Ux (eV ((e:Nat):Int))) (List.range 6) [5] [],⟨(List.range 7),[3,6],[],[49],fun f=>f 49=sB (dC (f 49)) ((be 8 (U ((e:Nat):Int)))++be 8 (eV ((e:Nat):Int))) (dE (f 49))⟩,⟨(List.range 8),[7],[],[4,49],fun f=>f 4=sB (dC (f 49)) ((be 8 (U ((e:Nat):Int)))++be 8 (eV ((e:Nat):Int))) (dE (f 49))⟩] [u0,u0,u0,u1 [1,5]] [⟨(some 3),(some 7),[7],[45],fun f=>rB (dC (f 45)) (be 8 (U ((e:Nat):Int))) (dE (f 45))⟩,⟨(some 7),none,[],[49],fun f=>rB (dC (f 49)) ((be 8 (U ((e:Nat):Int)))++be 8 (eV ((e:Nat):Int))) (dE (f 49))⟩] [(1,pp q6 0),(0,pp q2 0)] [1,0] ⟨rfl,rfl,trivial⟩ ⟨?_,?_,?_,?_,?_,?_,?_,?_,?_,trivial⟩ ?_
 ·rintro f M-⟨i0,-⟩
  exact aT aY
 ·rintro f M ⟨k0,-⟩-
  exact aT (cY 0)
 ·rintro f M ⟨k0,-⟩-
  exact gO (aA (d:=43) rfl k0) rfl (gC (a:=((e:Nat):Int)) rfl ⟨_,tf1⟩ tf2 (tG _)) (.refl _)
 ·rintro f M ⟨k0,-⟩-
  refine dL (aA (d:=44) rfl k0) ?_
  refine pV (cT (vs:=[.slice none 0 0,Ux (U ((e:Nat):Int)),.int .i64 (8)]) aHd.ok rfl rfl) rfl fun w β1 sb kn hw1 back=>(pY β1 w hw1 (U ((e:Nat):Int)) 8 (by decide)).mono ?_
  rintro e w' ⟨p48,c49,rfl,hw'⟩
  refine⟨_,rfl,_,back _ _ hw',?_⟩
  refine aH ?_
  exact aO (aA (d:=44) rfl k0) rfl (aB 0 rfl)
 ·rintro f M-⟨i0,-⟩
  exact aT aY
 ·rintro f M ⟨k0,-⟩-
  exact aT (cY 0)
 ·rintro f M ⟨k0,-⟩-
  refine dL (aA (d:=47) rfl k0) ?_
  refine gI gH (fun w β1 sb kn hw1=>aEn β1 w hw1 ((e:Nat):Int)) (aH ?_)
  exact aO (aA (d:=47) rfl k0) rfl (List.Perm.refl _)
 ·rintro f M ⟨k0,k1,-⟩-
  have hs45:f 45=sB (dC (f 45)) (be 8 (U ((e:Nat):Int))) (dE (f 45)):=k0
  refine dL (aA (d:=48) (aA rfl hs45) k1) ?_
  refine aX rfl rfl rfl (cT (vs:=[sB (dC (f 45)) (be 8 (U ((e:Nat):Int))) (dE (f 45)),Ux (eV ((e:Nat):Int)),.int .i64 (8)]) aHd.ok rfl rfl) ?_
  intro w hw
  obtain⟨β1,sb,kn,hw1,back⟩:=St.frame (L:=[_]) (M:=M) hw
  refine(kG β1 w _ _ (be 8 (U ((e:Nat):Int))) (eV ((e:Nat):Int)) 8 (by decide) (by simp only[List.length_append,bX];omega) hw1).mono ?_
  rintro e w' ⟨p52,c53,rfl,hw'⟩
  refine⟨_,rfl,_,back _ _ hw',?_⟩
  refine aH ?_
  exact aO (aA (d:=48) (aA rfl hs45) k1) rfl (aB 0 rfl)
 ·rintro f M ⟨k0,-⟩-
  have hs49:f 49=sB (dC (f 49)) ((be 8 (U ((e:Nat):Int)))++be 8 (eV ((e:Nat):Int))) (dE (f 49)):=k0
  exact aT iO
 rintro fa54 ⟨-,-,-,-,-,-,-,-,k8,-⟩ ⟨j0,j1,-⟩
 refine jD ?_
 refine aD (d:=0) j0 (aD (d:=1) j1 (aD (d:=4) k8 (bA ?_)))
 refine kH 12 rfl rfl [⟨[],[],[0],[50],fun f=>f 50=pp J 0⟩,⟨[],[],[0],[51],fun f=>f 51=pp J 0⟩,⟨[1],[1],[],[52],fun f=>f 52=pp J 0⟩,⟨[1,2],[2],[],[53],fun f=>f 53=pp J 0⟩,⟨[1,2,3],[3],[],[54],fun f=>f 54=pp S 0⟩,⟨[1,2,3,4],[4],[],[55],fun f=>f 55=pp S 0⟩,⟨[1,2,3,4,5],[5],[],[56],fun f=>f 56=pp S 0⟩,⟨[],[],[1],[57],fun f=>f 57=pp q6 0⟩,⟨[7],[7],[],[58],fun f=>f 58=Nx (e)⟩,⟨[7,8],[8],[],[59],fun f=>f 59= .int .i64 (1)⟩,⟨[7,8,9],[9],[],[60],fun f=>f 60= .int .i64 (16)⟩,⟨[],[],[2],[61],fun f=>f 61=sB (dC (fa54 49)) ((be 8 (U ((e:Nat):Int)))++be 8 (eV ((e:Nat):Int))) (dE (fa54 49))⟩,⟨(List.range 12),[],[],[],fun _=>True⟩] [⟨none,none,[],[],fun _=>aQ S (oJ k e n xs)⟩,⟨none,none,[4],[],fun _=>pt J (.cells #[pp S 0,Nx (i.epoch),Nx (i.next),vs,vr,Nx (i.size),vd] 143)⟩,⟨none,none,[0,1],[],fun _=>pt q2 (.cells #[pp J 0] 89)⟩,⟨none,none,[8],[],fun _=>pt q6 (.cells #[Nx (e),Nx (n),ws,wr_,wz] 109)⟩,⟨none,none,[],[],fun _=>pt q3 (.cells #[sB sa xs (sc)] 27)⟩,⟨none,none,[],[],fun _=>rB (dC (fa34 24)) (bR ((e:Nat):Int) ((n:Nat):Int) xs) (dE (fa34 24))⟩,⟨none,none,[],[],fun _=>rB (dC (fa54 49)) ((be 8 (U ((e:Nat):Int)))++be 8 (eV ((e:Nat):Int))) (dE (fa54 49))⟩] [(0,pp q2 0),(1,pp q6 0),(4,sB (dC (fa54 49)) ((be 8 (U ((e:Nat):Int)))++be 8 (eV ((e:Nat):Int))) (dE (fa54 49)))] [] [] (by kernel_rfl) (by kernel_rfl) (by kernel_rfl) (by kernel_rfl) (by kernel_rfl) (by kernel_rfl) rfl ⟨rfl,rfl,rfl,trivial⟩ ⟨?_,?_,?_,?_,?_,?_,?_,?_,?_,?_,?_,?_,trivial⟩ ?_
 ·rintro f M-⟨i0,-⟩
  exact aT (iR 0)
 ·rintro f M-⟨i0,-⟩
  exact aT (iR 0)
 ·rintro f M ⟨k0,-⟩-
  exact aT eS
 ·rintro f M ⟨k0,-⟩-
  exact aT aY
 ·rintro f M ⟨k0,-⟩-
  exact aT (iR 0)
 ·rintro f M ⟨k0,-⟩-
  exact aT eS
 ·rintro f M ⟨k0,-⟩-
  exact aT aY
 ·rintro f M-⟨i0,-⟩
  exact aT aY
 ·rintro f M ⟨k0,-⟩-
  exact aT (cY 0)
 ·rintro f M ⟨k0,-⟩-
  exact gO (aA (d:=58) rfl k0) rfl (eZ (by rw[hpar];rfl) (lR (a:=((e:Nat):Int)) (b:=(2:Int)) rfl rfl (by decide) (gG _ 2))) (.refl _)
 ·rintro f M ⟨k0,-⟩-
  exact gO (aA (d:=59) rfl k0) rfl (tC (a:=(1:Int)) (b:=(16:Int)) rfl rfl (by decide)) (.refl _)
 ·rintro f M-⟨i0,-⟩
  exact aT fL
 rintro fa55 ⟨k0,-,-,-,-,-,k6,-,-,-,k10,k11,-⟩-
 refine lre ?_
 refine dO (d:=50) (v:=pp J 0) k0 (dO (d:=56) (v:=pp S 0) k6 (dO (d:=60) (v:= .int .i64 (16)) k10 ?_))
 refine dO (d:=61) (v:=sB (dC (fa54 49)) ((be 8 (U ((e:Nat):Int)))++be 8 (eV ((e:Nat):Int))) (dE (fa54 49))) k11 ?_
 refine iJ rfl rfl rfl (cT (vs:=[pp J 0,pp S 0,.int .i64 (16),sB (dC (fa54 49)) ((be 8 (U ((e:Nat):Int)))++be 8 (eV ((e:Nat):Int))) (dE (fa54 49))]) aOn.ok rfl rfl) ?_
 intro w hw
 obtain⟨β1,sb,kn,hw1,back⟩:=St.frame (L:=[_]) (M:=_::_::_::_::_::_::[]) hw
 refine(aCs β1 w J S (kn _ (cD 0 rfl rfl)) (oJ k e n xs) (hf3.le (by omega)) 16 (by omega) ((be 8 (U ((e:Nat):Int)))++be 8 (eV ((e:Nat):Int))) _ (by omega) (kU kn 5 rfl) hw1).mono ?_
 rintro e w' (⟨rfl,ok56,hw'⟩|⟨rfl,ok56,hw'⟩)
 ·refine .inl ⟨_,rfl,_,back _ _ hw',?_⟩
  refine sX ?_
  intro w hw
  refine .inl ⟨rfl,fun h=>ok56 h.2.2,?_⟩
  rw[pU,if_pos ok1,if_pos ok2,ck4,show e%2*16=16 by omega]
  exact aG [true,true,true,true,true,false,false] rfl (hw.perm (L':=[pt J (.cells #[pp S 0,Nx (i.epoch),Nx (i.next),vs,vr,Nx (i.size),vd] 143),pt q2 (.cells #[pp J 0] 89),pt q6 (.cells #[Nx (e),Nx (n),ws,wr_,wz] 109),pt q3 (.cells #[sB sa xs (sc)] 27),aQ S (wrH (oJ k e n xs) 16 ((be 8 (U ((e:Nat):Int)))++be 8 (eV ((e:Nat):Int)))),rB (dC (fa34 24)) (bR ((e:Nat):Int) ((n:Nat):Int) xs) (dE (fa34 24)),rB (dC (fa54 49)) ((be 8 (U ((e:Nat):Int)))++be 8 (eV ((e:Nat):Int))) (dE (fa54 49))]) (by exact(aW [1,2,3,4,0,5,6] 7 rfl (by kernel_rfl) (by kernel_rfl))))
 refine .inr ⟨_,rfl,_,back _ _ hw',?_⟩
 refine aH (mZ Tryz.results91 ?_)
 intro w hw
 refine .inr ⟨rfl,⟨ok1,ok2,ok56⟩,?_⟩
 rw[pU,if_pos ok1,if_pos ok2,ck4,show e%2*16=16 by omega]
 exact aG [true,true,true,true,true,false,false] rfl (hw.perm (L':=[pt J (.cells #[pp S 0,Nx (i.epoch),Nx (i.next),vs,vr,Nx (i.size),vd] 143),pt q2 (.cells #[pp J 0] 89),pt q6 (.cells #[Nx (e),Nx (n),ws,wr_,wz] 109),pt q3 (.cells #[sB sa xs (sc)] 27),aQ S (wrH (oJ k e n xs) 16 ((be 8 (U ((e:Nat):Int)))++be 8 (eV ((e:Nat):Int)))),rB (dC (fa34 24)) (bR ((e:Nat):Int) ((n:Nat):Int) xs) (dE (fa34 24)),rB (dC (fa54 49)) ((be 8 (U ((e:Nat):Int)))++be 8 (eV ((e:Nat):Int))) (dE (fa54 49))]) (by exact(aW [1,2,3,4,0,5,6] 7 rfl (by kernel_rfl) (by kernel_rfl))))
end Go.Proofs
