/-
  Own work; plain Lean (Td19, Td20).
-/
import Derived.Test.YtjejfkajcbdgjaaGreatTd16
set_option linter.all false
set_option maxHeartbeats 4000000
namespace Go.Proofs
open Go Go.Sl Go.Td Go.Jn
theorem yU{a:KAm}{k:Nat}(h:Fits a.a0 k∧Fits a.a1 k∧Fits a.a2 k∧Fits a.a3 k)(hk:k<64:=by decide):∀x∈[a.a0,a.a1,a.a2,a.a3],0≤x∧x<2^k:=fun x hx=>by
 have f:∀v,Fits v k→0≤v∧v<2^k:=fun v hv=>by
  rcases hv.f with h|h
  ·omega
  ·exact⟨h.1,h.2.1⟩
 simp only[List.mem_cons,List.not_mem_nil,or_false]at hx
 rcases hx with rfl|rfl|rfl|rfl
 ·exact f _ h.1
 ·exact f _ h.2.1
 ·exact f _ h.2.2.1
 exact f _ h.2.2.2
theorem bBe{P:Program}{ro:Option Nat}{n:Nat}{ds:List Deferred}{β:Base}{Q:Exit→Act→World→Prop}{f:Fm}{L:List bU}{c:Code}{p:Prop}(hk:bH β L (fun _=>p))(K:p→eE P ro n ds β c Q f L):eE P ro n ds β c Q f L:=fun a w ha hw=>K (hw.knows hk) a w ha hw
theorem aYf{h:bQ}{p:Option Addr}{n c:Nat}{xs:List Int}(hs:Sl aZ.R h (.slice p n c) xs):xs=[]∨p=some (ba p):=by
 obtain⟨a,d,e,h1,h2,h3⟩:=hs
 injection e with e1 e2 e3
 subst e1
 cases xs with
 |nil=>exact .inl rfl
 |cons x xs=>exact .inr (h3 0 x rfl).1
theorem bFh{h:bQ}{p:Option Addr}{n c j:Nat}{xs:List Int}{y:Int}(hs:Sl aZ.R h (.slice p n c) xs)(hy:xs[j]? =some y):Cs h ((ba p).add (j*1)) [Ix y]:=by
 obtain⟨a,d,e,h1,h2,h3⟩:=hs
 injection e with e1 e2 e3
 subst e1
 obtain⟨_,cs,g1,g2⟩:=h3 j y hy
 have g2:cs=[Ix y]:=g2
 rw[g2]at g1
 exact g1
theorem St.nodupMe{β:Base}{L:List bU}{w:World}(hw:St β L w)(i:Nat){m:Nat}{ms:List (Int×KMh)}(hi:L[i]? =some (bB dW m ms)):(ms.map (·.1)).Nodup∧St β L w:=by
 obtain⟨es,c,_,h⟩:=hw.knows (bH.of_res i hi (bB.mono _ _ _) fun _ h=>h)
 exact⟨h.keys,hw⟩
theorem aAb{su:KAm}{last:Int}{ps:List (Int×KAm)}{hs:List (Int×KHo)}{ms:List (Int×KMem)}(h1:ps.length≤256)(h2:hs.length≤128)(h3:(tF ms).length≤4459*64):(gR su last ps hs ms).length≤346368:=by
 have e:(gR su last ps hs ms).length=(63+63+63+63)+(48+(9+(141*ps.length+(9+(189*hs.length+(9+(tF ms).length)))))):=by
  unfold gR;simp only[List.length_append,dF,fN,iD,iB]
 have g1:=Nat.mul_le_mul_left 141 h1
 have g2:=Nat.mul_le_mul_left 189 h2
 rw[e]
 generalize 141*ps.length=a at g1⊢
 generalize 189*hs.length=b at g2⊢
 generalize (tF ms).length=c at h3⊢
 omega
theorem bDn{xs:List UInt8}{su:KAm}{last:Int}{ps:List (Int×KAm)}{hs:List (Int×KHo)}{ms:List (Int×KMem)}(h:Wr xs (gR su last ps hs ms).length (gR su last ps hs ms)):xs≠[]:=fun e=>by
 have h1:=h.len
 rw[e]at h1
 unfold gR at h1
 simp only[List.length_append,dF,fN,List.length_nil]at h1
 omega
instance bGr:CfC Tryz.prog 96:={}
theorem jM(β:Base)(w:World)(wb:Nat)(l:List Bool)(hw:St β [xP wb l] w)(v:Int)(k:Nat)(hv:Fits v k)(hn:l.length+k≤1048576):Calls Tryz.prog 95 #[pp wb 0,Ix v,Nx k] w fun r w'=>r= .returned (.tuple #[])∧St β [xP wb (l++aM (U v) k)] w':=by
 obtain⟨p,c,xs,hr,hw⟩:=St.openWr hw
 refine(jZ β w wb p c xs _ hw hr.len v k hv.k64 hn hv.f).mono ?_
 rintro r w' ⟨p',c',rfl,hw'⟩
 exact⟨rfl,St.closeWr (M:=[]) (jO hv.k64 hr) (by simp only[List.length_append,dF,fN,eX];try omega) hw'⟩
theorem aEl(β:Base)(w:World)(wb:Nat)(l:List Bool)(hw:St β [xP wb l] w)(a:KAm)(k:Nat)(hk:k<64)(hf:∀x∈[a.a0,a.a1,a.a2,a.a3],0≤x∧x<2^k)(hn:l.length+4*k≤1048576):Calls Tryz.prog 94 #[pp wb 0,.agg (eK a),Nx k] w fun r w'=>r= .returned (.tuple #[])∧St β [xP wb (l++lZ a k)] w':=by
 obtain⟨p,c,xs,hr,hw⟩:=St.openWr hw
 refine(aTz β w wb p c xs _ hw hr.len a k hk hn hf).mono ?_
 rintro r w' ⟨p',c',rfl,hw'⟩
 exact⟨rfl,St.closeWr (M:=[]) (aPh (by omega) hr) (by simp only[List.length_append,dF,fN,eX];try omega) hw'⟩
theorem aOl(β:Base)(w:World)(wb:Nat)(l:List Bool)(hw:St β [xP wb l] w)(au nu:Int)(v:Value)(al:List KAct)(hs:Sl cJ.R β.heap v al)(hf:cO au nu al=true)(hn:l.length+(57+225*al.length)≤1048576):Calls Tryz.prog 58 #[pp wb 0,.agg #[Ix au,Ix nu,v]] w fun r w'=>r= .returned (.tuple #[])∧St β [xP wb (l++kR au nu al)] w':=by
 obtain⟨p,c,xs,hr,hw⟩:=St.openWr hw
 refine(aJv β w wb p c xs _ hw hr.len au nu v al hs (fJ.1 hf).2.2.2 (fJ.1 hf).2.2.1.2 (by have:=(fJ.1 hf).1;omega) (by have:=(fJ.1 hf).2.1;omega) hn).mono ?_
 rintro r w' ⟨p',c',rfl,hw'⟩
 exact⟨rfl,St.closeWr (M:=[]) (aFs hr) (by simp only[List.length_append,dF,fN,eX];try omega) hw'⟩
theorem aJk(β:Base)(w:World)(wb:Nat)(l:List Bool)(hw:St β [xP wb l] w)(hn:l.length≤1048576):Calls Tryz.prog 59 #[pp wb 0] w fun r w'=>∃p c xs,Wr xs l.length l∧r= .returned (sB p xs c)∧St β [rB p xs c] w':=by
 obtain⟨p,c,xs,hr,hw⟩:=St.openWr hw
 refine(aCp β w wb p c xs _ hw (by rw[hr.len];omega)).mono ?_
 rintro r w' ⟨p',c',rfl,hw'⟩
 exact⟨p',c',xs,hr,rfl,hw'⟩
theorem aOa(β:Base)(w:World)(mp mh mm:Nat)(s:KSt)(ms:List (Int×KMh))(zs:List (KMh×KMem))(hw:St β [bB cC mp s.ps,bB bL mh s.hs,bB dW mm ms,dG zs] w)(X:KHs)(he:EqS s X.s)(hmm:MmOk X ms zs)(hxo:XOk X)(hla:X.s.last≤16000000):Calls Tryz.prog 49 #[.agg (vO mp mh mm s.last s.su)] w fun r w'=>∃p c bs,Wr bs (gR s.su s.last (mG s) (nM s) (nZ X ms)).length (gR s.su s.last (mG s) (nM s) (nZ X ms))∧(gR s.su s.last (mG s) (nM s) (nZ X ms)).length≤346368∧r= .returned (sB p bs c)∧St β [rB p bs c,bB cC mp s.ps,bB bL mh s.hs,bB dW mm ms,dG zs] w':=by
 obtain⟨hkn,hw⟩:=St.nodupMe hw 2 rfl
 have hms:=aSb hmm hkn
 have hsf:=aJc hxo hla (he.p.symm.trans (zK he.np)) (he.h.symm.trans (yV he.nh)) hms
 have hpn:=hsf.pn
 have hgn:=hsf.hn
 have hmn:=hsf.mn
 rw[uZ]at hpn
 rw[uQ]at hgn
 rw[uV]at hmn
 have hpfew:(s.ps.map (·.1)).length≤256:=by rw[List.length_map];exact hpn
 have hgfew:(s.hs.map (·.1)).length≤256:=by rw[List.length_map];omega
 have hmfew:(ms.map (·.1)).length≤256:=by rw[List.length_map];omega
 have hpfew2:(mG s).length≤256:=by rw[uZ];exact hpn
 have hgfew2:(nM s).length≤256:=by rw[uQ];omega
 have hmfew2:(nZ X ms).length≤256:=by rw[uV];omega
 have hfpl:=hsf.pl
 rw[uZ]at hfpl
 have hfgl:=hsf.hl
 rw[uQ]at hfgl
 have hfml:=hsf.ml
 rw[uV]at hfml
 have hfla:=hsf.la
 rw[←he.l]at hfla
 have hfsu:=hsf.su
 rw[←he.u]at hfsu
 have hmall:∀k,(tF ((nZ X ms).take k)).length≤4459*64:=fun k=>Nat.le_trans (aDr _ fun p hp=>xZ (hsf.mm p (List.mem_of_mem_take hp)) hla) (Nat.mul_le_mul_left _ (by rw[List.length_take];have:=hsf.mn;omega))
 refine enter (n:=114) Tryz.func49 rfl Tryz.ntmps49 rfl ?_ hw
 refine bD (mL fun b1=> ?_)
 refine lE iO (eY (gB fun b2=>aN (aL (iK (r:=aK hG 5 none 0 []) (eA _ _ _) (sU [1,0,2,3,4,5,6] 7 rfl (by kernel_rfl) ?_)))))
 refine mH (L:=wrL b2 none 0 [] 0) (M:=[pt b1 (.cells #[.map (some mp),.map (some mh),Ix (s.last),Ix (s.su.a0),Ix (s.su.a1),Ix (s.su.a2),Ix (s.su.a3),.map (some mm)] 88),bB cC mp s.ps,bB bL mh s.hs,bB dW mm ms,dG zs]) (r:=xP b2 []) (fun a h=>aOw a h) ?_
 refine aC (lE aY (lE (dK 1) (aX rfl rfl rfl (cT (vs:=[pp b2 0,.agg (eK s.su),.int .i64 (63)]) aYw.ok rfl rfl) ?_)))
 intro w hw
 obtain⟨β1,sb,kn,hw1,back⟩:=St.frame (L:=[_]) (M:=_::_::_::_::_::[]) hw
 refine(aEl β1 w b2 [] hw1 s.su 63 (by decide) (yU hfsu) (by simp only[List.length_append,dF,fN,iD,iB,iC,eX,List.length_take,List.length_nil];omega)).mono ?_
 rintro e w' ⟨rfl,hw'⟩
 refine⟨_,rfl,_,back _ _ hw',?_⟩
 refine eY (lE aY (lE (cY 1) (aX rfl rfl rfl (cT (vs:=[pp b2 0,Ix (s.last),.int .i64 (48)]) nP.ok rfl rfl) ?_)))
 intro w hw
 obtain⟨β1,sb,kn,hw1,back⟩:=St.frame (L:=[_]) (M:=_::_::_::_::_::[]) hw
 refine(jM β1 w b2 ([]++lZ s.su 63) hw1 s.last 48 hfla (by simp only[List.length_append,dF,fN,iD,iB,iC,eX,List.length_take,List.length_nil];omega)).mono ?_
 rintro e w' ⟨rfl,hw'⟩
 refine⟨_,rfl,_,back _ _ hw',?_⟩
 refine eY (lE aY (lv (v:= .map (some mp)) (bI rZ.ok rfl (cD 1 rfl rfl)) ?_))
 refine lv (v:=Nx (s.ps.length)) (yS (K:=cC) (b:=mp) (ks:=s.ps) rfl rfl (bH.of_res 2 rfl (bB.mono _ _ _) fun _ h=>h)) ?_
 refine aX rfl rfl rfl (cT (vs:=[pp b2 0,Nx (s.ps.length),.int .i64 (9)]) nP.ok rfl rfl) ?_
 intro w hw
 obtain⟨β1,sb,kn,hw1,back⟩:=St.frame (L:=[_]) (M:=_::_::_::_::_::[]) hw
 refine(jM β1 w b2 (([]++lZ s.su 63)++aM (U s.last) 48) hw1 ((s.ps.length:Nat):Int) 9 hfpl (by simp only[List.length_append,dF,fN,iD,iB,iC,eX,List.length_take,List.length_nil];omega)).mono ?_
 rintro e w' ⟨rfl,hw'⟩
 refine⟨_,rfl,_,back _ _ hw',?_⟩
 refine aN (eR (aC (lE aY (lv (v:= .map (some mp)) (bI rZ.ok rfl (cD 1 rfl rfl)) ?_))))
 refine pV (cT (vs:=[.map (some mp)]) bAj.ok rfl rfl) rfl fun w β1 sb kn hw1 back=>(aGh β1 w hw1 mp).mono ?_
 rintro e w' ⟨b3,rfl,hw'⟩
 refine⟨_,rfl,_,back _ _ hw',?_⟩
 refine aX rfl rfl rfl (cT (vs:=[.func (.func 80) #[] #[pp b3 0]]) aHg.ok rfl rfl) ?_
 intro w hw
 obtain⟨β1,sb,kn,hw1,back⟩:=St.frame (L:=[_]) (M:=_::_::_::_::_::_::[]) hw
 refine(nJ β1 w _ _ _ (aBp β1 b3 mp s.ps (kn _ (bH.of_res 2 rfl (bB.mono _ _ _) fun _ h=>h))) (Nat.le_trans hpfew (by decide)) hw1).mono ?_
 rintro e w' ⟨p4,c5,rfl,hw'⟩
 refine⟨_,rfl,_,back _ _ hw',?_⟩
 refine lE gY (lE aU (aN (aJ ?_)))
 refine cZ (fun(kp:Nat) f L=>(f 1=pp b1 0∧f 3=pp b2 0∧f 27=sB p4 (sortI (s.ps.map (·.1))) c5∧f 28=Nx ((sortI (s.ps.map (·.1))).length)∧f 29=Nx (kp))∧L=[aK aZ 3 p4 c5 (sortI (s.ps.map (·.1))),xP b2 (((([]++lZ s.su 63)++aM (U s.last) 48)++aM (U ((s.ps.length:Nat):Int)) 9)++qX ((mG s).take kp)),pt b1 (.cells #[.map (some mp),.map (some mh),Ix (s.last),Ix (s.su.a0),Ix (s.su.a1),Ix (s.su.a2),Ix (s.su.a3),.map (some mm)] 88),bB cC mp s.ps,bB bL mh s.hs,bB dW mm ms,dG zs]∧(kp≤(sortI (s.ps.map (·.1))).length)) (fun kp=>(sortI (s.ps.map (·.1))).length-kp) 0 ?_ ?_
 ·exact⟨⟨rfl,rfl,rfl,rfl,rfl⟩,by rw[show(mG s).take 0=[]from rfl,show qX []=[]from rfl,List.append_nil]<;>rfl,Nat.zero_le _⟩
 rintro kp f0 L0 ⟨⟨hs1,hs3,hs27,hs28,hs29⟩,hL,hkp⟩
 subst L0
 refine bJ 1 hs1 (bJ 3 hs3 (bJ 27 hs27 (bJ 28 hs28 (bJ 29 hs29 ?_))))
 have hsl:=jQ (s.ps.map (·.1))
 have holp:((mG s)).length≤256:=hpfew2
 refine bD (lE gN (aN (aL (cN _ rfl (fun hc6=> ?_) (fun hc6=> ?_)))))
 ·refine eB (aL (aJ (bD (lv (v:= .pointer (some ((ba p4).add (kp*1)))) (eL 0 (F:=aZ) rfl rfl rfl rY (by omega) rfl) ?_))))
  obtain⟨x7,hx8⟩:∃x_,(sortI (s.ps.map (·.1)))[kp]? =some x_:=⟨_,List.getElem?_eq_getElem (by first|omega|decide)⟩
  refine lv (v:=Ix (x7)) (bI tt2.ok rfl (lF 0 (F:=aZ) rfl hx8)) (lE bN (aN (aL ?_)))
  have hpt:=aXl (s:=s) hx8
  have hxf:=hsf.pp _ hpt.2
  refine aC (lE aU (aX rfl rfl rfl (cT (vs:=[pp b2 0,Ix (x7),.int .i64 (17)]) nP.ok rfl rfl) ?_))
  intro w hw
  replace hw:=hw.perm (L':=_::_::_::_::_::_::_::[]) (by exact(((((((aB 6 rfl).trans (aB 6 rfl)).trans (aB 6 rfl)).trans (aB 6 rfl)).trans (aB 6 rfl)).trans (aB 5 rfl)).trans (aB 6 rfl)))
  obtain⟨β1,sb,kn,hw1,back⟩:=St.frame (L:=[_]) (M:=_::_::_::_::_::_::[]) hw
  refine(jM β1 w b2 (((([]++lZ s.su 63)++aM (U s.last) 48)++aM (U ((s.ps.length:Nat):Int)) 9)++qX ((mG s).take kp)) hw1 x7 17 hxf.1 (by simp only[List.length_append,dF,fN,iD,iB,iC,eX,List.length_take,List.length_nil];omega)).mono ?_
  rintro e w' ⟨rfl,hw'⟩
  refine⟨_,rfl,_,back _ _ hw',?_⟩
  refine xJ (lE aY (lv (v:= .map (some mp)) (bI rZ.ok rfl (cD 2 rfl rfl)) (lE aU ?_)))
  refine lv (v:= .agg (eK ((cC.look s.ps (x7)).getD zeroA))) (lL (K:=cC) (b:=mp) (ks:=s.ps) (k:=(x7)) rfl rfl rfl (bH.of_res 3 rfl (bB.mono _ _ _) fun _ h=>h)) ?_
  refine aX rfl rfl rfl (cT (vs:=[pp b2 0,.agg (eK ((cC.look s.ps (x7)).getD zeroA)),.int .i64 (31)]) aYw.ok rfl rfl) ?_
  intro w hw
  obtain⟨β1,sb,kn,hw1,back⟩:=St.frame (L:=[_]) (M:=_::_::_::_::_::_::[]) hw
  refine(aEl β1 w b2 ((((([]++lZ s.su 63)++aM (U s.last) 48)++aM (U ((s.ps.length:Nat):Int)) 9)++qX ((mG s).take kp))++aM (U x7) 17) hw1 ((cC.look s.ps (x7)).getD zeroA) 31 (by decide) (yU hxf.2) (by simp only[List.length_append,dF,fN,iD,iB,iC,eX,List.length_take,List.length_nil];omega)).mono ?_
  rintro e w' ⟨rfl,hw'⟩
  refine⟨_,rfl,_,back _ _ hw',?_⟩
  refine aH (aP (bA (aC (lv (v:=Nx (kp+1)) (bO rfl rfl (cW (by omega) (by omega))) (lE aU (aH (tZ [1,0,2,3,4,5,6] 7 ?_)))))))
  exact bG ⟨kp+1,⟨⟨rfl,rfl,rfl,rfl,rfl⟩,by rw[hpt.1];simp only[sB,rB,List.append_assoc];rfl,(by omega)⟩,(show(sortI (s.ps.map (·.1))).length-(kp+1)<(sortI (s.ps.map (·.1))).length-kp from by omega)⟩
 refine cK (aF (aF (cL (qV ?_))))
 have hkpe:kp=(mG s).length:=by rw[uZ];have:=jQ (s.ps.map (·.1));rw[List.length_map]at this;omega
 refine rC (L':=[aK aZ 3 p4 c5 (sortI (s.ps.map (·.1))),xP b2 (((([]++lZ s.su 63)++aM (U s.last) 48)++aM (U ((s.ps.length:Nat):Int)) 9)++qX (mG s)),pt b1 (.cells #[.map (some mp),.map (some mh),Ix (s.last),Ix (s.su.a0),Ix (s.su.a1),Ix (s.su.a2),Ix (s.su.a3),.map (some mm)] 88),bB cC mp s.ps,bB bL mh s.hs,bB dW mm ms,dG zs]) (by rw[hkpe,List.take_length]) ?_
 refine aC (lE aY (lv (v:= .map (some mh)) (bI vQ.ok rfl (cD 2 rfl rfl)) ?_))
 refine lv (v:=Nx (s.hs.length)) (yS (K:=bL) (b:=mh) (ks:=s.hs) rfl rfl (bH.of_res 4 rfl (bB.mono _ _ _) fun _ h=>h)) ?_
 refine aX rfl rfl rfl (cT (vs:=[pp b2 0,Nx (s.hs.length),.int .i64 (9)]) nP.ok rfl rfl) ?_
 intro w hw
 replace hw:=hw.perm (L':=_::_::_::_::_::_::_::[]) (by exact(((((((aB 6 rfl).trans (aB 6 rfl)).trans (aB 6 rfl)).trans (aB 6 rfl)).trans (aB 6 rfl)).trans (aB 5 rfl)).trans (aB 6 rfl)))
 obtain⟨β1,sb,kn,hw1,back⟩:=St.frame (L:=[_]) (M:=_::_::_::_::_::_::[]) hw
 refine(jM β1 w b2 (((([]++lZ s.su 63)++aM (U s.last) 48)++aM (U ((s.ps.length:Nat):Int)) 9)++qX (mG s)) hw1 ((s.hs.length:Nat):Int) 9 hfgl (by simp only[List.length_append,dF,fN,iD,iB,iC,eX,List.length_take,List.length_nil];omega)).mono ?_
 rintro e w' ⟨rfl,hw'⟩
 refine⟨_,rfl,_,back _ _ hw',?_⟩
 refine aN (eR (aC (lE aY (lv (v:= .map (some mh)) (bI vQ.ok rfl (cD 2 rfl rfl)) ?_))))
 refine pV (cT (vs:=[.map (some mh)]) bAk.ok rfl rfl) rfl fun w β1 sb kn hw1 back=>(aGg β1 w hw1 mh).mono ?_
 rintro e w' ⟨b9,rfl,hw'⟩
 refine⟨_,rfl,_,back _ _ hw',?_⟩
 refine aX rfl rfl rfl (cT (vs:=[.func (.func 79) #[] #[pp b9 0]]) aHg.ok rfl rfl) ?_
 intro w hw
 obtain⟨β1,sb,kn,hw1,back⟩:=St.frame (L:=[_]) (M:=_::_::_::_::_::_::_::[]) hw
 refine(nJ β1 w _ _ _ (aBo β1 b9 mh s.hs (kn _ (bH.of_res 4 rfl (bB.mono _ _ _) fun _ h=>h))) (Nat.le_trans hgfew (by decide)) hw1).mono ?_
 rintro e w' ⟨p10,c11,rfl,hw'⟩
 refine⟨_,rfl,_,back _ _ hw',?_⟩
 refine lE gY (lE aU (aN (aJ ?_)))
 refine cZ (fun(kg:Nat) f L=>(f 1=pp b1 0∧f 3=pp b2 0∧f 48=sB p10 (sortI (s.hs.map (·.1))) c11∧f 49=Nx ((sortI (s.hs.map (·.1))).length)∧f 50=Nx (kg))∧L=[aK aZ 3 p10 c11 (sortI (s.hs.map (·.1))),xP b2 (((((([]++lZ s.su 63)++aM (U s.last) 48)++aM (U ((s.ps.length:Nat):Int)) 9)++qX (mG s))++aM (U ((s.hs.length:Nat):Int)) 9)++sV ((nM s).take kg)),aK aZ 3 p4 c5 (sortI (s.ps.map (·.1))),pt b1 (.cells #[.map (some mp),.map (some mh),Ix (s.last),Ix (s.su.a0),Ix (s.su.a1),Ix (s.su.a2),Ix (s.su.a3),.map (some mm)] 88),bB cC mp s.ps,bB bL mh s.hs,bB dW mm ms,dG zs]∧(kg≤(sortI (s.hs.map (·.1))).length)) (fun kg=>(sortI (s.hs.map (·.1))).length-kg) 0 ?_ ?_
 ·exact⟨⟨rfl,rfl,rfl,rfl,rfl⟩,by rw[show(nM s).take 0=[]from rfl,show sV []=[]from rfl,List.append_nil]<;>rfl,Nat.zero_le _⟩
 rintro kg f0 L0 ⟨⟨hs1,hs3,hs48,hs49,hs50⟩,hL,hkg⟩
 subst L0
 refine bJ 1 hs1 (bJ 3 hs3 (bJ 48 hs48 (bJ 49 hs49 (bJ 50 hs50 ?_))))
 have hsl:=jQ (s.hs.map (·.1))
 have holg:((nM s)).length≤256:=hgfew2
 refine bD (lE gN (aN (aL (cN _ rfl (fun hc12=> ?_) (fun hc12=> ?_)))))
 ·refine eB (aL (aJ (bD (lv (v:= .pointer (some ((ba p10).add (kg*1)))) (eL 0 (F:=aZ) rfl rfl rfl rY (by omega) rfl) ?_))))
  obtain⟨x13,hx14⟩:∃x_,(sortI (s.hs.map (·.1)))[kg]? =some x_:=⟨_,List.getElem?_eq_getElem (by first|omega|decide)⟩
  refine lv (v:=Ix (x13)) (bI tt2.ok rfl (lF 0 (F:=aZ) rfl hx14)) (lE bN (aN (aL ?_)))
  have hgt:=aWj (s:=s) hx14
  have hxf:=hsf.hh _ hgt.2
  refine aC (lE aY (lv (v:= .map (some mh)) (bI vQ.ok rfl (cD 3 rfl rfl)) (lE aU ?_)))
  refine lv (v:= .agg #[Ix (((bL.look s.hs (x13)).getD bE).number),Ix (((bL.look s.hs (x13)).getD bE).owner),Ix (((bL.look s.hs (x13)).getD bE).a.a0),Ix (((bL.look s.hs (x13)).getD bE).a.a1),Ix (((bL.look s.hs (x13)).getD bE).a.a2),Ix (((bL.look s.hs (x13)).getD bE).a.a3)]) (lL (K:=bL) (b:=mh) (ks:=s.hs) (k:=(x13)) rfl rfl rfl (bH.of_res 5 rfl (bB.mono _ _ _) fun _ h=>h)) ?_
  refine gB fun b15=> ?_
  refine lu (mS 0 (#[Ix (((bL.look s.hs (x13)).getD bE).number),Ix (((bL.look s.hs (x13)).getD bE).owner),Ix (((bL.look s.hs (x13)).getD bE).a.a0),Ix (((bL.look s.hs (x13)).getD bE).a.a1),Ix (((bL.look s.hs (x13)).getD bE).a.a2),Ix (((bL.look s.hs (x13)).getD bE).a.a3)])) ?_
  refine eY (lE aU (aX rfl rfl rfl (cT (vs:=[pp b2 0,Ix (x13),.int .i64 (48)]) nP.ok rfl rfl) ?_))
  intro w hw
  replace hw:=hw.perm (L':=_::_::_::_::_::_::_::_::_::[]) (by exact(((((((((aB 8 rfl).trans (aB 8 rfl)).trans (aB 8 rfl)).trans (aB 8 rfl)).trans (aB 8 rfl)).trans (aB 8 rfl)).trans (aB 7 rfl)).trans (aB 7 rfl)).trans (aB 8 rfl)))
  obtain⟨β1,sb,kn,hw1,back⟩:=St.frame (L:=[_]) (M:=_::_::_::_::_::_::_::_::[]) hw
  refine(jM β1 w b2 (((((([]++lZ s.su 63)++aM (U s.last) 48)++aM (U ((s.ps.length:Nat):Int)) 9)++qX (mG s))++aM (U ((s.hs.length:Nat):Int)) 9)++sV ((nM s).take kg)) hw1 x13 48 hxf.1 (by simp only[List.length_append,dF,fN,iD,iB,iC,eX,List.length_take,List.length_nil];omega)).mono ?_
  rintro e w' ⟨rfl,hw'⟩
  refine⟨_,rfl,_,back _ _ hw',?_⟩
  refine eY (lE aY (lE (cY 1) ?_))
  refine aX rfl rfl rfl (cT (vs:=[pp b2 0,Ix (((bL.look s.hs (x13)).getD bE).owner),.int .i64 (17)]) nP.ok rfl rfl) ?_
  intro w hw
  obtain⟨β1,sb,kn,hw1,back⟩:=St.frame (L:=[_]) (M:=_::_::_::_::_::_::_::_::[]) hw
  refine(jM β1 w b2 ((((((([]++lZ s.su 63)++aM (U s.last) 48)++aM (U ((s.ps.length:Nat):Int)) 9)++qX (mG s))++aM (U ((s.hs.length:Nat):Int)) 9)++sV ((nM s).take kg))++aM (U x13) 48) hw1 (((bL.look s.hs (x13)).getD bE).owner) 17 hxf.2.1 (by simp only[List.length_append,dF,fN,iD,iB,iC,eX,List.length_take,List.length_nil];omega)).mono ?_
  rintro e w' ⟨rfl,hw'⟩
  refine⟨_,rfl,_,back _ _ hw',?_⟩
  refine xJ (lE aY (lE (dK 1) ?_))
  refine aX rfl rfl rfl (cT (vs:=[pp b2 0,.agg #[Ix (((bL.look s.hs (x13)).getD bE).a.a0),Ix (((bL.look s.hs (x13)).getD bE).a.a1),Ix (((bL.look s.hs (x13)).getD bE).a.a2),Ix (((bL.look s.hs (x13)).getD bE).a.a3)],.int .i64 (31)]) aYw.ok rfl rfl) ?_
  intro w hw
  obtain⟨β1,sb,kn,hw1,back⟩:=St.frame (L:=[_]) (M:=_::_::_::_::_::_::_::_::[]) hw
  refine(aEl β1 w b2 (((((((([]++lZ s.su 63)++aM (U s.last) 48)++aM (U ((s.ps.length:Nat):Int)) 9)++qX (mG s))++aM (U ((s.hs.length:Nat):Int)) 9)++sV ((nM s).take kg))++aM (U x13) 48)++aM (U (((bL.look s.hs (x13)).getD bE).owner)) 17) hw1 (((bL.look s.hs (x13)).getD bE).a) 31 (by decide) (yU hxf.2.2.1) (by simp only[List.length_append,dF,fN,iD,iB,iC,eX,List.length_take,List.length_nil];omega)).mono ?_
  rintro e w' ⟨rfl,hw'⟩
  refine⟨_,rfl,_,back _ _ hw',?_⟩
  refine aH (aP (bA (aC (lv (v:=Nx (kg+1)) (bO rfl rfl (cW (by omega) (by omega))) (lE aU (aH ?_))))))
  refine tZ [2,0,3,4,5,6,7,8,1] 9 ?_
  refine dD [true,true,true,true,true,true,true,true,false] rfl ?_
  exact bG ⟨kg+1,⟨⟨rfl,rfl,rfl,rfl,rfl⟩,by rw[hgt.1];simp only[sB,rB,List.append_assoc];rfl,(by omega)⟩,(show(sortI (s.hs.map (·.1))).length-(kg+1)<(sortI (s.hs.map (·.1))).length-kg from by omega)⟩
 refine cK (aF (aF (cL (qV ?_))))
 have hkge:kg=(nM s).length:=by rw[uQ];have:=jQ (s.hs.map (·.1));rw[List.length_map]at this;omega
 refine rC (L':=[aK aZ 3 p10 c11 (sortI (s.hs.map (·.1))),xP b2 (((((([]++lZ s.su 63)++aM (U s.last) 48)++aM (U ((s.ps.length:Nat):Int)) 9)++qX (mG s))++aM (U ((s.hs.length:Nat):Int)) 9)++sV (nM s)),aK aZ 3 p4 c5 (sortI (s.ps.map (·.1))),pt b1 (.cells #[.map (some mp),.map (some mh),Ix (s.last),Ix (s.su.a0),Ix (s.su.a1),Ix (s.su.a2),Ix (s.su.a3),.map (some mm)] 88),bB cC mp s.ps,bB bL mh s.hs,bB dW mm ms,dG zs]) (by rw[hkge,List.take_length]) ?_
 refine aC (lE aY (lv (v:= .map (some mm)) (bI aEo.ok rfl (cD 3 rfl rfl)) ?_))
 refine lv (v:=Nx (ms.length)) (yS (K:=dW) (b:=mm) (ks:=ms) rfl rfl (bH.of_res 6 rfl (bB.mono _ _ _) fun _ h=>h)) ?_
 refine aX rfl rfl rfl (cT (vs:=[pp b2 0,Nx (ms.length),.int .i64 (9)]) nP.ok rfl rfl) ?_
 intro w hw
 replace hw:=hw.perm (L':=_::_::_::_::_::_::_::_::[]) (by exact((((((((aB 7 rfl).trans (aB 7 rfl)).trans (aB 7 rfl)).trans (aB 7 rfl)).trans (aB 7 rfl)).trans (aB 7 rfl)).trans (aB 6 rfl)).trans (aB 7 rfl)))
 obtain⟨β1,sb,kn,hw1,back⟩:=St.frame (L:=[_]) (M:=_::_::_::_::_::_::_::[]) hw
 refine(jM β1 w b2 (((((([]++lZ s.su 63)++aM (U s.last) 48)++aM (U ((s.ps.length:Nat):Int)) 9)++qX (mG s))++aM (U ((s.hs.length:Nat):Int)) 9)++sV (nM s)) hw1 ((ms.length:Nat):Int) 9 hfml (by simp only[List.length_append,dF,fN,iD,iB,iC,eX,List.length_take,List.length_nil];omega)).mono ?_
 rintro e w' ⟨rfl,hw'⟩
 refine⟨_,rfl,_,back _ _ hw',?_⟩
 refine aN (eR (aC (lE aY (lv (v:= .map (some mm)) (bI aEo.ok rfl (cD 3 rfl rfl)) ?_))))
 refine pV (cT (vs:=[.map (some mm)]) bGr.ok rfl rfl) rfl fun w β1 sb kn hw1 back=>(aRo β1 w hw1 mm).mono ?_
 rintro e w' ⟨b16,rfl,hw'⟩
 refine⟨_,rfl,_,back _ _ hw',?_⟩
 refine aX rfl rfl rfl (cT (vs:=[.func (.func 121) #[] #[pp b16 0]]) aHg.ok rfl rfl) ?_
 intro w hw
 obtain⟨β1,sb,kn,hw1,back⟩:=St.frame (L:=[_]) (M:=_::_::_::_::_::_::_::_::[]) hw
 refine(nJ β1 w _ _ _ (aNi β1 b16 mm ms (kn _ (bH.of_res 6 rfl (bB.mono _ _ _) fun _ h=>h))) (Nat.le_trans hmfew (by decide)) hw1).mono ?_
 rintro e w' ⟨p17,c18,rfl,hw'⟩
 refine⟨_,rfl,_,back _ _ hw',?_⟩
 refine lE gY (lE aU (aN (aJ ?_)))
 refine cZ (fun(km:Nat) f L=>(f 1=pp b1 0∧f 3=pp b2 0∧f 74=sB p17 (sortI (ms.map (·.1))) c18∧f 75=Nx ((sortI (ms.map (·.1))).length)∧f 76=Nx (km))∧L=[aK aZ 3 p17 c18 (sortI (ms.map (·.1))),xP b2 (((((((([]++lZ s.su 63)++aM (U s.last) 48)++aM (U ((s.ps.length:Nat):Int)) 9)++qX (mG s))++aM (U ((s.hs.length:Nat):Int)) 9)++sV (nM s))++aM (U ((ms.length:Nat):Int)) 9)++tF ((nZ X ms).take km)),aK aZ 3 p10 c11 (sortI (s.hs.map (·.1))),aK aZ 3 p4 c5 (sortI (s.ps.map (·.1))),pt b1 (.cells #[.map (some mp),.map (some mh),Ix (s.last),Ix (s.su.a0),Ix (s.su.a1),Ix (s.su.a2),Ix (s.su.a3),.map (some mm)] 88),bB cC mp s.ps,bB bL mh s.hs,bB dW mm ms,dG zs]∧(km≤(sortI (ms.map (·.1))).length)) (fun km=>(sortI (ms.map (·.1))).length-km) 0 ?_ ?_
 ·exact⟨⟨rfl,rfl,rfl,rfl,rfl⟩,by rw[show(nZ X ms).take 0=[]from rfl,show tF []=[]from rfl,List.append_nil]<;>rfl,Nat.zero_le _⟩
 rintro km f0 L0 ⟨⟨hs1,hs3,hs74,hs75,hs76⟩,hL,hkm⟩
 subst L0
 refine bJ 1 hs1 (bJ 3 hs3 (bJ 74 hs74 (bJ 75 hs75 (bJ 76 hs76 ?_))))
 have hsl:=jQ (ms.map (·.1))
 have holm:((nZ X ms)).length≤256:=hmfew2
 refine bD (lE gN (aN (aL (cN _ rfl (fun hc19=> ?_) (fun hc19=> ?_)))))
 ·refine eB (aL (aJ (bD (lv (v:= .pointer (some ((ba p17).add (km*1)))) (eL 0 (F:=aZ) rfl rfl rfl rY (by omega) rfl) ?_))))
  obtain⟨x20,hx21⟩:∃x_,(sortI (ms.map (·.1)))[km]? =some x_:=⟨_,List.getElem?_eq_getElem (by first|omega|decide)⟩
  refine lv (v:=Ix (x20)) (bI tt2.ok rfl (lF 0 (F:=aZ) rfl hx21)) (lE bN (aN (aL ?_)))
  obtain⟨hd,mal,mhl,hlk,hlo,hnl,hml,hdn⟩:=bEx hmm hkn hx21
  have hmt:=aXc (X:=X) hx21 hdn
  have hmk:=hxo.m _ _ hdn
  have hmf:=xZ hmk hla
  have hmd:cO hd.author hd.number mal=true:=hmf.fm
  have hm16:=hmf.few
  have hd16:=hmf.d.few
  replace hm16:mhl.length≤16:=hm16
  replace hd16:mal.length≤16:=hd16
  have hmsl:(tF ((nZ X ms).take km)).length≤4459*64:=hmall km
  refine aC (lE aY (lv (v:= .map (some mm)) (bI aEo.ok rfl (cD 4 rfl rfl)) (lE aU ?_)))
  refine lv (v:= .agg #[Ix (hd.author),Ix (hd.number),.slice hd.p (hd.n) hd.c,.bool (hd.done),Ix (hd.at_),Ix (hd.e),.slice hd.q (hd.m) hd.k]) (eZ (congrArg dW.encv hlk) (lL (K:=dW) (b:=mm) (ks:=ms) (k:=x20) rfl rfl rfl (bH.of_res 7 rfl (bB.mono _ _ _) fun _ h=>h))) ?_
  refine gB fun b22=> ?_
  refine lu (mS 0 (#[Ix (hd.author),Ix (hd.number),.slice hd.p (hd.n) hd.c,.bool (hd.done),Ix (hd.at_),Ix (hd.e),.slice hd.q (hd.m) hd.k])) (eY ?_)
  refine lE aY (lE (dK 0) ?_)
  refine aX rfl rfl rfl (cT (vs:=[pp b2 0,.agg #[Ix (hd.author),Ix (hd.number),.slice hd.p (hd.n) hd.c]]) bHb.ok rfl rfl) ?_
  intro w hw
  replace hw:=hw.perm (L':=[xP b2 (((((((([]++lZ s.su 63)++aM (U s.last) 48)++aM (U ((s.ps.length:Nat):Int)) 9)++qX (mG s))++aM (U ((s.hs.length:Nat):Int)) 9)++sV (nM s))++aM (U ((ms.length:Nat):Int)) 9)++tF ((nZ X ms).take km)),pt b22 (.cells #[Ix (hd.author),Ix (hd.number),.slice hd.p (hd.n) hd.c,.bool (hd.done),Ix (hd.at_),Ix (hd.e),.slice hd.q (hd.m) hd.k] 82),aK aZ 3 p17 c18 (sortI (ms.map (·.1))),aK aZ 3 p10 c11 (sortI (s.hs.map (·.1))),aK aZ 3 p4 c5 (sortI (s.ps.map (·.1))),pt b1 (.cells #[.map (some mp),.map (some mh),Ix (s.last),Ix (s.su.a0),Ix (s.su.a1),Ix (s.su.a2),Ix (s.su.a3),.map (some mm)] 88),bB cC mp s.ps,bB bL mh s.hs,bB dW mm ms,dG zs]) (by exact(aW [2,0,1,3,4,5,6,7,8,9] 10 rfl (by kernel_rfl) (by kernel_rfl)))
  obtain⟨β1,sb,kn,hw1,back⟩:=St.frame (L:=[_]) (M:=_::_::_::_::_::_::_::_::_::[]) hw
  refine(aOl β1 w b2 (((((((([]++lZ s.su 63)++aM (U s.last) 48)++aM (U ((s.ps.length:Nat):Int)) 9)++qX (mG s))++aM (U ((s.hs.length:Nat):Int)) 9)++sV (nM s))++aM (U ((ms.length:Nat):Int)) 9)++tF ((nZ X ms).take km)) hw1 hd.author hd.number _ mal (kn _ (aZz 8 rfl hlo)) hmd (by simp only[List.length_append,dF,fN,iD,iB,iC,eX,List.length_take,List.length_nil];omega)).mono ?_
  rintro e w' ⟨rfl,hw'⟩
  refine⟨_,rfl,_,back _ _ hw',?_⟩
  refine eY (lE aY (lE aY (lE (fQ 1) (lE gY (aX rfl rfl rfl (cT (vs:=[pp b2 0,Nx (hd.m),.int .i64 (9)]) nP.ok rfl rfl) ?_)))))
  intro w hw
  replace hw:=hw.perm (L':=[xP b2 ((((((((([]++lZ s.su 63)++aM (U s.last) 48)++aM (U ((s.ps.length:Nat):Int)) 9)++qX (mG s))++aM (U ((s.hs.length:Nat):Int)) 9)++sV (nM s))++aM (U ((ms.length:Nat):Int)) 9)++tF ((nZ X ms).take km))++kR hd.author hd.number mal),pt b22 (.cells #[Ix (hd.author),Ix (hd.number),.slice hd.p (hd.n) hd.c,.bool (hd.done),Ix (hd.at_),Ix (hd.e),.slice hd.q (hd.m) hd.k] 82),aK aZ 3 p17 c18 (sortI (ms.map (·.1))),aK aZ 3 p10 c11 (sortI (s.hs.map (·.1))),aK aZ 3 p4 c5 (sortI (s.ps.map (·.1))),pt b1 (.cells #[.map (some mp),.map (some mh),Ix (s.last),Ix (s.su.a0),Ix (s.su.a1),Ix (s.su.a2),Ix (s.su.a3),.map (some mm)] 88),bB cC mp s.ps,bB bL mh s.hs,bB dW mm ms,dG zs]) (by exact(aW [0,1,2,3,4,5,6,7,8,9] 10 rfl (by kernel_rfl) (by kernel_rfl)))
  obtain⟨β1,sb,kn,hw1,back⟩:=St.frame (L:=[_]) (M:=_::_::_::_::_::_::_::_::_::[]) hw
  refine(jM β1 w b2 ((((((((([]++lZ s.su 63)++aM (U s.last) 48)++aM (U ((s.ps.length:Nat):Int)) 9)++qX (mG s))++aM (U ((s.hs.length:Nat):Int)) 9)++sV (nM s))++aM (U ((ms.length:Nat):Int)) 9)++tF ((nZ X ms).take km))++kR hd.author hd.number mal) hw1 ((hd.m:Nat):Int) 9 (by rw[hml];exact hmf.l) (by simp only[List.length_append,dF,fN,iD,iB,iC,eX,List.length_take,List.length_nil];omega)).mono ?_
  rintro e w' ⟨rfl,hw'⟩
  refine⟨_,rfl,_,back _ _ hw',?_⟩
  refine aN (eR (bBe (p:=mhl=[]∨hd.q=some (ba hd.q)) (bH.imp (aKp 9 rfl hlo) fun _ h=>aYf h) (fun hqs=> ?_)))
  refine aC (lE aY (lE aY (lE (fQ 1) (lE gY (lE aU (aN (aJ ?_)))))))
  refine cZ (fun(j:Nat) f L=>(f 1=pp b1 0∧f 3=pp b2 0∧f 11=pp b22 0∧f 74=sB p17 (sortI (ms.map (·.1))) c18∧f 75=Nx ((sortI (ms.map (·.1))).length)∧f 76=Nx (km)∧f 94= .slice hd.q (hd.m) hd.k∧f 95=Nx (hd.m)∧f 96=Nx (j))∧L=[xP b2 ((((((((((([]++lZ s.su 63)++aM (U s.last) 48)++aM (U ((s.ps.length:Nat):Int)) 9)++qX (mG s))++aM (U ((s.hs.length:Nat):Int)) 9)++sV (nM s))++aM (U ((ms.length:Nat):Int)) 9)++tF ((nZ X ms).take km))++kR hd.author hd.number mal)++aM (U ((hd.m:Nat):Int)) 9)++nsL (mhl.take j)),pt b22 (.cells #[Ix (hd.author),Ix (hd.number),.slice hd.p (hd.n) hd.c,.bool (hd.done),Ix (hd.at_),Ix (hd.e),.slice hd.q (hd.m) hd.k] 82),aK aZ 3 p17 c18 (sortI (ms.map (·.1))),aK aZ 3 p10 c11 (sortI (s.hs.map (·.1))),aK aZ 3 p4 c5 (sortI (s.ps.map (·.1))),pt b1 (.cells #[.map (some mp),.map (some mh),Ix (s.last),Ix (s.su.a0),Ix (s.su.a1),Ix (s.su.a2),Ix (s.su.a3),.map (some mm)] 88),bB cC mp s.ps,bB bL mh s.hs,bB dW mm ms,dG zs]∧(j≤mhl.length)) (fun j=>mhl.length-j) 0 ?_ ?_
  ·exact⟨⟨rfl,rfl,rfl,rfl,rfl,rfl,rfl,rfl,rfl⟩,by rw[show mhl.take 0=[]from rfl,show nsL []=[]from rfl,List.append_nil]<;>rfl,Nat.zero_le _⟩
  rintro j f0 L0 ⟨⟨hs1,hs3,hs11,hs74,hs75,hs76,hs94,hs95,hs96⟩,hL,hj⟩
  subst L0
  refine bJ 1 hs1 (bJ 3 hs3 (bJ 11 hs11 (bJ 74 hs74 (bJ 75 hs75 (bJ 76 hs76 (bJ 94 hs94 (bJ 95 hs95 (bJ 96 hs96 (bD (lE gN (aN (aL ?_))))))))))))
  refine cN _ rfl (fun hc23=> ?_) (fun hc23=> ?_)
  ·refine eB (aL (aJ (aL ?_)))
   obtain⟨y,hy⟩:∃y,mhl[j]? =some y:=⟨_,List.getElem?_eq_getElem (by omega)⟩
   have hyf:=hmf.h _ (List.mem_of_getElem? hy)
   have hqa:=hqs.resolve_left (fun q=>by rw[q]at hy;cases hy)
   refine aC ?_
   refine lv (v:= .pointer (some ((ba hd.q).add (j*1)))) (iQ (k:=j) (len:=hd.m) (cap:=hd.k) (a:=hd.q) rfl rfl rY (by rw[hml];omega) hqa) ?_
   refine lv (v:=Ix (y)) (bI tt2.ok rfl (bH.imp (aKp 9 rfl hlo) fun _ h=>bFh h hy)) (lE bN (xJ (lE aU ?_)))
   refine aX rfl rfl rfl (cT (vs:=[pp b2 0,Ix (y),.int .i64 (48)]) nP.ok rfl rfl) ?_
   intro w hw
   replace hw:=hw.perm (L':=[xP b2 ((((((((((([]++lZ s.su 63)++aM (U s.last) 48)++aM (U ((s.ps.length:Nat):Int)) 9)++qX (mG s))++aM (U ((s.hs.length:Nat):Int)) 9)++sV (nM s))++aM (U ((ms.length:Nat):Int)) 9)++tF ((nZ X ms).take km))++kR hd.author hd.number mal)++aM (U ((hd.m:Nat):Int)) 9)++nsL (mhl.take j)),pt b22 (.cells #[Ix (hd.author),Ix (hd.number),.slice hd.p (hd.n) hd.c,.bool (hd.done),Ix (hd.at_),Ix (hd.e),.slice hd.q (hd.m) hd.k] 82),aK aZ 3 p17 c18 (sortI (ms.map (·.1))),aK aZ 3 p10 c11 (sortI (s.hs.map (·.1))),aK aZ 3 p4 c5 (sortI (s.ps.map (·.1))),pt b1 (.cells #[.map (some mp),.map (some mh),Ix (s.last),Ix (s.su.a0),Ix (s.su.a1),Ix (s.su.a2),Ix (s.su.a3),.map (some mm)] 88),bB cC mp s.ps,bB bL mh s.hs,bB dW mm ms,dG zs]) (by exact(aW [0,1,2,3,4,5,6,7,8,9] 10 rfl (by kernel_rfl) (by kernel_rfl)))
   obtain⟨β1,sb,kn,hw1,back⟩:=St.frame (L:=[_]) (M:=_::_::_::_::_::_::_::_::_::[]) hw
   refine(jM β1 w b2 ((((((((((([]++lZ s.su 63)++aM (U s.last) 48)++aM (U ((s.ps.length:Nat):Int)) 9)++qX (mG s))++aM (U ((s.hs.length:Nat):Int)) 9)++sV (nM s))++aM (U ((ms.length:Nat):Int)) 9)++tF ((nZ X ms).take km))++kR hd.author hd.number mal)++aM (U ((hd.m:Nat):Int)) 9)++nsL (mhl.take j)) hw1 y 48 hyf (by simp only[List.length_append,dF,fN,iD,iB,iC,eX,List.length_take,List.length_nil];omega)).mono ?_
   rintro e w' ⟨rfl,hw'⟩
   refine⟨_,rfl,_,back _ _ hw',?_⟩
   refine aH (aP (bA (aC (lv (v:=Nx (j+1)) (bO rfl rfl (cW (by omega) (by omega))) (lE aU (aH ?_))))))
   exact bG ⟨j+1,⟨⟨rfl,rfl,rfl,rfl,rfl,rfl,rfl,rfl,rfl⟩,by rw[←jR hy,aLa];simp only[sB,rB,List.append_assoc];rfl,(by omega)⟩,(show mhl.length-(j+1)<mhl.length-j from by omega)⟩
  refine cK (aF (aF (cL (qV ?_))))
  have hje:j=mhl.length:=by omega
  refine rC (L':=[xP b2 ((((((((((([]++lZ s.su 63)++aM (U s.last) 48)++aM (U ((s.ps.length:Nat):Int)) 9)++qX (mG s))++aM (U ((s.hs.length:Nat):Int)) 9)++sV (nM s))++aM (U ((ms.length:Nat):Int)) 9)++tF ((nZ X ms).take km))++kR hd.author hd.number mal)++aM (U ((hd.m:Nat):Int)) 9)++nsL mhl),pt b22 (.cells #[Ix (hd.author),Ix (hd.number),.slice hd.p (hd.n) hd.c,.bool (hd.done),Ix (hd.at_),Ix (hd.e),.slice hd.q (hd.m) hd.k] 82),aK aZ 3 p17 c18 (sortI (ms.map (·.1))),aK aZ 3 p10 c11 (sortI (s.hs.map (·.1))),aK aZ 3 p4 c5 (sortI (s.ps.map (·.1))),pt b1 (.cells #[.map (some mp),.map (some mh),Ix (s.last),Ix (s.su.a0),Ix (s.su.a1),Ix (s.su.a2),Ix (s.su.a3),.map (some mm)] 88),bB cC mp s.ps,bB bL mh s.hs,bB dW mm ms,dG zs]) (by rw[hje,List.take_length]) ?_
  refine aC (lE aY (lE aY (lE (cY 1) (aX rfl rfl rfl (cT (vs:=[pp b2 0,Ix (hd.at_),.int .i64 (9)]) nP.ok rfl rfl) ?_))))
  intro w hw
  replace hw:=hw.perm (L':=[xP b2 ((((((((((([]++lZ s.su 63)++aM (U s.last) 48)++aM (U ((s.ps.length:Nat):Int)) 9)++qX (mG s))++aM (U ((s.hs.length:Nat):Int)) 9)++sV (nM s))++aM (U ((ms.length:Nat):Int)) 9)++tF ((nZ X ms).take km))++kR hd.author hd.number mal)++aM (U ((hd.m:Nat):Int)) 9)++nsL mhl),pt b22 (.cells #[Ix (hd.author),Ix (hd.number),.slice hd.p (hd.n) hd.c,.bool (hd.done),Ix (hd.at_),Ix (hd.e),.slice hd.q (hd.m) hd.k] 82),aK aZ 3 p17 c18 (sortI (ms.map (·.1))),aK aZ 3 p10 c11 (sortI (s.hs.map (·.1))),aK aZ 3 p4 c5 (sortI (s.ps.map (·.1))),pt b1 (.cells #[.map (some mp),.map (some mh),Ix (s.last),Ix (s.su.a0),Ix (s.su.a1),Ix (s.su.a2),Ix (s.su.a3),.map (some mm)] 88),bB cC mp s.ps,bB bL mh s.hs,bB dW mm ms,dG zs]) (by exact(aW [0,1,2,3,4,5,6,7,8,9] 10 rfl (by kernel_rfl) (by kernel_rfl)))
  obtain⟨β1,sb,kn,hw1,back⟩:=St.frame (L:=[_]) (M:=_::_::_::_::_::_::_::_::_::[]) hw
  refine(jM β1 w b2 ((((((((((([]++lZ s.su 63)++aM (U s.last) 48)++aM (U ((s.ps.length:Nat):Int)) 9)++qX (mG s))++aM (U ((s.hs.length:Nat):Int)) 9)++sV (nM s))++aM (U ((ms.length:Nat):Int)) 9)++tF ((nZ X ms).take km))++kR hd.author hd.number mal)++aM (U ((hd.m:Nat):Int)) 9)++nsL mhl) hw1 hd.at_ 9 hmf.at_ (by simp only[List.length_append,dF,fN,iD,iB,iC,eX,List.length_take,List.length_nil];omega)).mono ?_
  rintro e w' ⟨rfl,hw'⟩
  refine⟨_,rfl,_,back _ _ hw',?_⟩
  refine xJ (lE aY (lE aY (lE (cY 1) (aX rfl rfl rfl (cT (vs:=[pp b2 0,Ix (hd.e),.int .i64 (16)]) nP.ok rfl rfl) ?_))))
  intro w hw
  replace hw:=hw.perm (L':=[xP b2 (((((((((((([]++lZ s.su 63)++aM (U s.last) 48)++aM (U ((s.ps.length:Nat):Int)) 9)++qX (mG s))++aM (U ((s.hs.length:Nat):Int)) 9)++sV (nM s))++aM (U ((ms.length:Nat):Int)) 9)++tF ((nZ X ms).take km))++kR hd.author hd.number mal)++aM (U ((hd.m:Nat):Int)) 9)++nsL mhl)++aM (U hd.at_) 9),pt b22 (.cells #[Ix (hd.author),Ix (hd.number),.slice hd.p (hd.n) hd.c,.bool (hd.done),Ix (hd.at_),Ix (hd.e),.slice hd.q (hd.m) hd.k] 82),aK aZ 3 p17 c18 (sortI (ms.map (·.1))),aK aZ 3 p10 c11 (sortI (s.hs.map (·.1))),aK aZ 3 p4 c5 (sortI (s.ps.map (·.1))),pt b1 (.cells #[.map (some mp),.map (some mh),Ix (s.last),Ix (s.su.a0),Ix (s.su.a1),Ix (s.su.a2),Ix (s.su.a3),.map (some mm)] 88),bB cC mp s.ps,bB bL mh s.hs,bB dW mm ms,dG zs]) (by exact(aW [0,1,2,3,4,5,6,7,8,9] 10 rfl (by kernel_rfl) (by kernel_rfl)))
  obtain⟨β1,sb,kn,hw1,back⟩:=St.frame (L:=[_]) (M:=_::_::_::_::_::_::_::_::_::[]) hw
  refine(jM β1 w b2 (((((((((((([]++lZ s.su 63)++aM (U s.last) 48)++aM (U ((s.ps.length:Nat):Int)) 9)++qX (mG s))++aM (U ((s.hs.length:Nat):Int)) 9)++sV (nM s))++aM (U ((ms.length:Nat):Int)) 9)++tF ((nZ X ms).take km))++kR hd.author hd.number mal)++aM (U ((hd.m:Nat):Int)) 9)++nsL mhl)++aM (U hd.at_) 9) hw1 hd.e 16 hmf.e (by simp only[List.length_append,dF,fN,iD,iB,iC,eX,List.length_take,List.length_nil];omega)).mono ?_
  rintro e w' ⟨rfl,hw'⟩
  refine⟨_,rfl,_,back _ _ hw',?_⟩
  refine aH (aP (bA (aC (lv (v:=Nx (km+1)) (bO rfl rfl (cW (by omega) (by omega))) (lE aU (aH ?_))))))
  refine tZ [2,0,3,4,5,6,7,8,9,1] 10 ?_
  refine dD [true,true,true,true,true,true,true,true,true,false] rfl ?_
  exact bG ⟨km+1,⟨⟨rfl,rfl,rfl,rfl,rfl⟩,by rw[hmt];simp only[sB,rB,List.append_assoc,hml];rfl,(by omega)⟩,(show(sortI (ms.map (·.1))).length-(km+1)<(sortI (ms.map (·.1))).length-km from by omega)⟩
 refine cK (aF (aF (cL (qV ?_))))
 have hkme:km=(nZ X ms).length:=by rw[uV];have:=jQ (ms.map (·.1));rw[List.length_map]at this;omega
 refine rC (L':=[aK aZ 3 p17 c18 (sortI (ms.map (·.1))),xP b2 (((((((([]++lZ s.su 63)++aM (U s.last) 48)++aM (U ((s.ps.length:Nat):Int)) 9)++qX (mG s))++aM (U ((s.hs.length:Nat):Int)) 9)++sV (nM s))++aM (U ((ms.length:Nat):Int)) 9)++tF (nZ X ms)),aK aZ 3 p10 c11 (sortI (s.hs.map (·.1))),aK aZ 3 p4 c5 (sortI (s.ps.map (·.1))),pt b1 (.cells #[.map (some mp),.map (some mh),Ix (s.last),Ix (s.su.a0),Ix (s.su.a1),Ix (s.su.a2),Ix (s.su.a3),.map (some mm)] 88),bB cC mp s.ps,bB bL mh s.hs,bB dW mm ms,dG zs]) (by rw[hkme,List.take_length]) ?_
 have hmall2:=hmall (nZ X ms).length
 rw[List.take_length]at hmall2
 have hlen:(gR s.su s.last (mG s) (nM s) (nZ X ms)).length≤346368:=aAb hsf.pn hsf.hn hmall2
 have hfin:(gR s.su s.last (mG s) (nM s) (nZ X ms)).length≤1048576:=Nat.le_trans hlen (by decide)
 refine rC (L':=[aK aZ 3 p17 c18 (sortI (ms.map (·.1))),xP b2 (gR s.su s.last (mG s) (nM s) (nZ X ms)),aK aZ 3 p10 c11 (sortI (s.hs.map (·.1))),aK aZ 3 p4 c5 (sortI (s.ps.map (·.1))),pt b1 (.cells #[.map (some mp),.map (some mh),Ix (s.last),Ix (s.su.a0),Ix (s.su.a1),Ix (s.su.a2),Ix (s.su.a3),.map (some mm)] 88),bB cC mp s.ps,bB bL mh s.hs,bB dW mm ms,dG zs]) (by unfold gR;rw[uZ,uQ,uV];simp only[List.append_assoc,List.nil_append]) ?_
 refine aC (lE aY (aX rfl rfl rfl (cT (vs:=[pp b2 0]) bHc.ok rfl rfl) ?_))
 intro w hw
 replace hw:=hw.perm (L':=_::_::_::_::_::_::_::_::_::[]) (by exact(((((((((aB 8 rfl).trans (aB 8 rfl)).trans (aB 8 rfl)).trans (aB 8 rfl)).trans (aB 8 rfl)).trans (aB 8 rfl)).trans (aB 8 rfl)).trans (aB 7 rfl)).trans (aB 8 rfl)))
 obtain⟨β1,sb,kn,hw1,back⟩:=St.frame (L:=[_]) (M:=_::_::_::_::_::_::_::_::[]) hw
 refine(aJk β1 w b2 (gR s.su s.last (mG s) (nM s) (nZ X ms)) hw1 hfin).mono ?_
 rintro e w' ⟨p24,c25,bs26,hwr,rfl,hw'⟩
 refine⟨_,rfl,_,back _ _ hw',?_⟩
 refine lE iO (aN (aV (dJ Tryz.results49 rfl ?_)))
 intro w hw
 replace hw:=hw.perm (L':=[rB p24 bs26 c25,bB cC mp s.ps,bB bL mh s.hs,bB dW mm ms,dG zs,aK aZ 3 p17 c18 (sortI (ms.map (·.1))),aK aZ 3 p10 c11 (sortI (s.hs.map (·.1))),aK aZ 3 p4 c5 (sortI (s.ps.map (·.1))),pt b1 (.cells #[.map (some mp),.map (some mh),Ix (s.last),Ix (s.su.a0),Ix (s.su.a1),Ix (s.su.a2),Ix (s.su.a3),.map (some mm)] 88)]) (by exact(aW [0,5,6,7,8,1,2,3,4] 9 rfl (by kernel_rfl) (by kernel_rfl)))
 replace hw:=aG (L':=[rB p24 bs26 c25,bB cC mp s.ps,bB bL mh s.hs,bB dW mm ms,dG zs]) [true,true,true,true,true,false,false,false,false] rfl hw
 exact⟨_,_,bs26,hwr,hlen,rfl,hw⟩
open Go Go.Sl Go.Td Go.Jn
theorem aYd{X:KHs}{s:KSt}{ms:List (Int×KMh)}{zs:List (KMh×KMem)}(he:EqS s X.s)(hmm:MmOk X ms zs)(hxo:XOk X)(hla:X.s.last≤16000000)(hkn:(ms.map (·.1)).Nodup):
  ∃bs,StB X bs∧bs.length≤43300∧bs≠[]∧Wr bs (gR s.su s.last (mG s) (nM s) (nZ X ms)).length (gR s.su s.last (mG s) (nM s) (nZ X ms)):=by
 have h:=aLc (gR s.su s.last (mG s) (nM s) (nZ X ms)) aJn
 rw[List.nil_append,Nat.zero_add]at h
 have hms:=aSb hmm hkn
 have hsf:=aJc hxo hla (he.p.symm.trans (zK he.np)) (he.h.symm.trans (yV he.nh)) hms
 have hl:=aAb (su:=s.su) (last:=s.last) hsf.pn hsf.hn (ms:=nZ X ms) (Nat.le_trans (aDr _ fun p hp=>xZ (hsf.mm p hp) hla) (Nat.mul_le_mul_left _ hsf.mn))
 exact⟨_,⟨mG s,nM s,nZ X ms,he.p.symm.trans (zK he.np),he.h.symm.trans (yV he.nh),hms,_,by rw[←he.l,←he.u];exact h⟩,by rw[h.len];omega,bDn h,h⟩
theorem aTv(β:Base)(w:World)(mp mh mm:Nat)(s:KSt)(ms:List (Int×KMh))(zs:List (KMh×KMem))(hw:St β [bB cC mp s.ps,bB bL mh s.hs,bB dW mm ms,dG zs] w)(X:KHs)(he:EqS s X.s)(hmm:MmOk X ms zs)(hxo:XOk X)(hla:X.s.last≤16000000)(bs:List UInt8)(hbs:Wr bs (gR s.su s.last (mG s) (nM s) (nZ X ms)).length (gR s.su s.last (mG s) (nM s) (nZ X ms))):
  Calls Tryz.prog 49 #[.agg (vO mp mh mm s.last s.su)] w fun r w'=>∃p c,r= .returned (sB p bs c)∧St β [rB p bs c,bB cC mp s.ps,bB bL mh s.hs,bB dW mm ms,dG zs] w':=by
 refine(aOa β w mp mh mm s ms zs hw X he hmm hxo hla).mono ?_
 rintro r w' ⟨p,c,bs',h1,_,h2,h3⟩
 have:=aOx h1 hbs
 subst this
 exact⟨p,c,h2,h3⟩
instance bAx:CfC Tryz.prog 49:={}
instance bAy:CfC Tryz.prog 48:={}
theorem aFp(β:Base)(w:World)(H S N e z:Nat)(pw:Int)(X:KHs)(hw:St β [rK H S X N pw e z] w)(hN:N≤1000000)(hW:e*218000+z≤54000000):Calls Tryz.prog 22 #[pp H 0] w fun r w'=>(r= .returned (Ix 0)∧∃z2 q e2,(-1≤q∧q≤1000)∧(pw= -1→q= -1)∧z2≤43324∧e2=e+1∧St β [rK H S X (N+1) q e2 z2] w')∨(pw≠-1∧r= .returned (Ix 310)∧∃q,St β [mC S X (N+1) (e*218000+z+262144) q] w'):=by
 obtain⟨J,mp,mh,mm,s,ms,zs,i,k,hk,hpw,hie,hiz,hw⟩:=St.openE hw
 have hla:=hk.so.last16 hN
 obtain⟨bs,hsb,hbl,hbn,hbs⟩:=aYd hk.eq hk.mm hk.so.ok hla (St.nodupMe hw 5 rfl).1
 refine enter (n:=26) Tryz.func22 rfl Tryz.ntmps22 rfl ?_ hw
 refine bD (lE bN (aN (eR (aC (lE dS (gI gH (fun w β1 sb kn hw1=>aBn β1 w hw1 _ _ _ _ _ s (kn _ (cD 0 rfl rfl))) (lE bN ?_)))))))
 refine eY (lE aU (lE lO (aN (cR rfl (eB (aL ?_))))))
 have hfit:=hk.so.fit hN
 have hep:=hk.so.epoch hW
 by_cases hc:qB k (i.epoch+1) i.next bs
 ·refine jS [sv 10 (pp H 0) [] [] [0],sv 11 (pp H 0) [0] [0] [],sv 12 (pp H 0) [0,1] [1] [],sv 13 (pp J 0) [0,1,2] [2] [],sv 14 (pp H 0) [] [] [0],sv 15 (pp H 0) [4] [4] [],sv 16 (pp H 1) [4,5] [5] [],sv 17 (.agg #[.map (some mp),.map (some mh),Ix (s.last),Ix (s.su.a0),Ix (s.su.a1),Ix (s.su.a2),Ix (s.su.a3),.map (some mm)]) [4,5,6] [6] [],⟨[4,5,6,7],[7],[],[18],fun f=>f 18=sB (dC (f 18)) bs (dE (f 18))⟩,sv 19 (.int .i64 (0)) (List.range 9) [3,8] [],sv 4 (.int .i64 (0)) (List.range 10) [9] []] [u1 [3,7],(some 9,[9]),(some 9,[9]),u1 [8],u1 [8],u1 [8],u1 [8]] [⟨(some 8),none,[9],[18],fun f=>rB (dC (f 18)) bs (dE (f 18))⟩,⟨(some 9),none,[],[],fun _=>fA J S (uI i bs) false⟩,⟨(some 9),none,[],[],fun _=>aQ S (pU k (i.epoch+1) i.next bs)⟩] [(0,pp H 0)] [0] ⟨rfl,trivial⟩ ⟨?_,?_,?_,?_,?_,?_,?_,?_,?_,?_,?_,trivial⟩ ?_
  ·rintro f M-⟨i0,-⟩
   exact aT dS
  ·rintro f M ⟨k0,-⟩-
   exact aT eS
  ·rintro f M ⟨k0,-⟩-
   exact aT aY
  ·rintro f M ⟨k0,-⟩-
   exact aT (iR 0)
  ·rintro f M-⟨i0,-⟩
   exact aT dS
  ·rintro f M ⟨k0,-⟩-
   exact aT eS
  ·rintro f M ⟨k0,-⟩-
   exact aT aY
  ·rintro f M ⟨k0,-⟩-
   exact aT (dK 0)
  ·rintro f M ⟨k0,-⟩-
   refine dL (aA (d:=17) rfl k0) ?_
   refine aX rfl rfl rfl (cT (vs:=[.agg #[.map (some mp),.map (some mh),Ix (s.last),Ix (s.su.a0),Ix (s.su.a1),Ix (s.su.a2),Ix (s.su.a3),.map (some mm)]]) bAx.ok rfl rfl) ?_
   intro w hw
   obtain⟨β1,sb,kn,hw1,back⟩:=St.frame (L:=[_,_,_,_]) (M:=M) hw
   refine(aTv β1 w mp mh mm s ms zs hw1 X hk.eq hk.mm hk.so.ok hla bs hbs).mono ?_
   rintro e w' ⟨p3,c4,rfl,hw'⟩
   refine⟨_,rfl,_,back _ _ hw',?_⟩
   refine aH ?_
   exact aO (aA (d:=17) rfl k0) rfl (((((aB 0 rfl).trans (aB 4 rfl)).trans (aB 4 rfl)).trans (aB 4 rfl)).trans (aB 4 rfl))
  ·rintro f M ⟨k0,k1,-⟩-
   have hs18:f 18=sB (dC (f 18)) bs (dE (f 18)):=k1
   refine dL (aA (aA (d:=13) rfl k0) hs18) ?_
   refine aX rfl rfl rfl (cT (vs:=[pp J 0,sB (dC (f 18)) bs (dE (f 18))]) bAy.ok rfl rfl) ?_
   intro w hw
   obtain⟨β1,sb,kn,hw1,back⟩:=St.frame (L:=[_,_]) (M:=_::M) hw
   refine(aMm β1 w J S k i bs (by omega) hfit hep hc _ (kU kn 0 rfl) hw1).mono ?_
   rintro e w' ⟨rfl,hw'⟩
   refine⟨_,rfl,_,back _ _ hw',?_⟩
   refine aH ?_
   exact aO (aA (aA (d:=13) rfl k0) hs18) rfl (((aB 1 rfl).trans (aB 1 rfl)).trans (aB 2 rfl))
  ·rintro f M ⟨k0,-⟩-
   exact aT bN
  rintro fa5 ⟨-,-,-,-,-,-,-,-,-,-,k10,-⟩ ⟨j0,-⟩
  refine jD ?_
  refine aD (d:=0) j0 (aD (d:=4) k10 (qV (bD (lE aU (lE lO (aN (cR rfl (eB (bD (lE aU (lE bN (aN (aV ?_)))))))))))))
  refine dJ Tryz.results22 rfl ?_
  intro w hw
  replace hw:=hw.perm (L':=[pt H (.cells #[pp J 0,.map (some mp),.map (some mh),Ix (s.last),Ix (s.su.a0),Ix (s.su.a1),Ix (s.su.a2),Ix (s.su.a3),.map (some mm),.bool false] 91),fA J S (uI i bs) false,aQ S (pU k (i.epoch+1) i.next bs),bB cC mp s.ps,bB bL mh s.hs,bB dW mm ms,dG zs,rB (dC (fa5 18)) bs (dE (fa5 18))]) (by exact(aW [0,6,7,1,2,3,4,5] 8 rfl (by kernel_rfl) (by kernel_rfl)))
  replace hw:=aG (L':=[pt H (.cells #[pp J 0,.map (some mp),.map (some mh),Ix (s.last),Ix (s.su.a0),Ix (s.su.a1),Ix (s.su.a2),Ix (s.su.a3),.map (some mm),.bool false] 91),fA J S (uI i bs) false,aQ S (pU k (i.epoch+1) i.next bs),bB cC mp s.ps,bB bL mh s.hs,bB dW mm ms,dG zs]) [true,true,true,true,true,true,true,false] rfl hw
  exact .inl ⟨rfl,_,_,_,(hk.ck hN hW hbl hsb hbn hc).so.inv.pw,fun q=>(aJs (hpw.trans q)).2,aPy hbl,hie▸rfl,St.closeE (M:=[]) (hk.ck hN hW hbl hsb hbn hc) rfl hw⟩
 refine jS [sv 10 (pp H 0) [] [] [0],sv 11 (pp H 0) [0] [0] [],sv 12 (pp H 0) [0,1] [1] [],sv 13 (pp J 0) [0,1,2] [2] [],sv 14 (pp H 0) [] [] [0],sv 15 (pp H 0) [4] [4] [],sv 16 (pp H 1) [4,5] [5] [],sv 17 (.agg #[.map (some mp),.map (some mh),Ix (s.last),Ix (s.su.a0),Ix (s.su.a1),Ix (s.su.a2),Ix (s.su.a3),.map (some mm)]) [4,5,6] [6] [],⟨[4,5,6,7],[7],[],[18],fun f=>f 18=sB (dC (f 18)) bs (dE (f 18))⟩,sv 19 (.int .i64 (310)) (List.range 9) [3,8] [],sv 4 (.int .i64 (310)) (List.range 10) [9] []] [u1 [3,7],(some 9,[9]),(some 9,[9]),u1 [8],u1 [8],u1 [8],u1 [8]] [⟨(some 8),none,[9],[18],fun f=>rB (dC (f 18)) bs (dE (f 18))⟩,⟨(some 9),none,[],[],fun _=>fA J S i true⟩,⟨(some 9),none,[],[],fun _=>aQ S (pU k (i.epoch+1) i.next bs)⟩] [(0,pp H 0)] [0] ⟨rfl,trivial⟩ ⟨?_,?_,?_,?_,?_,?_,?_,?_,?_,?_,?_,trivial⟩ ?_
 ·rintro f M-⟨i0,-⟩
  exact aT dS
 ·rintro f M ⟨k0,-⟩-
  exact aT eS
 ·rintro f M ⟨k0,-⟩-
  exact aT aY
 ·rintro f M ⟨k0,-⟩-
  exact aT (iR 0)
 ·rintro f M-⟨i0,-⟩
  exact aT dS
 ·rintro f M ⟨k0,-⟩-
  exact aT eS
 ·rintro f M ⟨k0,-⟩-
  exact aT aY
 ·rintro f M ⟨k0,-⟩-
  exact aT (dK 0)
 ·rintro f M ⟨k0,-⟩-
  refine dL (aA (d:=17) rfl k0) ?_
  refine aX rfl rfl rfl (cT (vs:=[.agg #[.map (some mp),.map (some mh),Ix (s.last),Ix (s.su.a0),Ix (s.su.a1),Ix (s.su.a2),Ix (s.su.a3),.map (some mm)]]) bAx.ok rfl rfl) ?_
  intro w hw
  obtain⟨β1,sb,kn,hw1,back⟩:=St.frame (L:=[_,_,_,_]) (M:=M) hw
  refine(aTv β1 w mp mh mm s ms zs hw1 X hk.eq hk.mm hk.so.ok hla bs hbs).mono ?_
  rintro e w' ⟨p8,c9,rfl,hw'⟩
  refine⟨_,rfl,_,back _ _ hw',?_⟩
  refine aH ?_
  exact aO (aA (d:=17) rfl k0) rfl (((((aB 0 rfl).trans (aB 4 rfl)).trans (aB 4 rfl)).trans (aB 4 rfl)).trans (aB 4 rfl))
 ·rintro f M ⟨k0,k1,-⟩-
  have hs18:f 18=sB (dC (f 18)) bs (dE (f 18)):=k1
  refine dL (aA (aA (d:=13) rfl k0) hs18) ?_
  refine aX rfl rfl rfl (cT (vs:=[pp J 0,sB (dC (f 18)) bs (dE (f 18))]) bAy.ok rfl rfl) ?_
  intro w hw
  obtain⟨β1,sb,kn,hw1,back⟩:=St.frame (L:=[_,_]) (M:=_::M) hw
  refine(aFk β1 w J S k i bs (by omega) hfit hep hc _ (kU kn 0 rfl) hw1).mono ?_
  rintro e w' ⟨rfl,hw'⟩
  refine⟨_,rfl,_,back _ _ hw',?_⟩
  refine aH ?_
  exact aO (aA (aA (d:=13) rfl k0) hs18) rfl (((aB 1 rfl).trans (aB 1 rfl)).trans (aB 2 rfl))
 ·rintro f M ⟨k0,-⟩-
  exact aT bN
 rintro fa10 ⟨-,-,-,-,-,-,-,-,-,-,k10,-⟩ ⟨j0,-⟩
 refine jD ?_
 refine aD (d:=0) j0 (aD (d:=4) k10 (qV (bD (lE aU (lE lO (aN (dN rfl (aC (lE dS (lE eS (lE aY ?_)))))))))))
 refine lu (mS 0 (#[pp J 0,.map (some mp),.map (some mh),Ix (s.last),Ix (s.su.a0),Ix (s.su.a1),Ix (s.su.a2),Ix (s.su.a3),.map (some mm),.bool true])) ?_
 refine eY (lE aU (lE bN (aN (aV (dJ Tryz.results22 rfl ?_)))))
 intro w hw
 replace hw:=hw.perm (L':=[aQ S (pU k (i.epoch+1) i.next bs),pt H (.cells #[pp J 0,.map (some mp),.map (some mh),Ix (s.last),Ix (s.su.a0),Ix (s.su.a1),Ix (s.su.a2),Ix (s.su.a3),.map (some mm),.bool true] 91),bB cC mp s.ps,bB bL mh s.hs,bB dW mm ms,dG zs,rB (dC (fa10 18)) bs (dE (fa10 18)),fA J S i true]) (by exact(aW [7,0,1,2,3,4,5,6] 8 rfl (by kernel_rfl) (by kernel_rfl)))
 replace hw:=aG (L':=[aQ S (pU k (i.epoch+1) i.next bs)]) [true,false,false,false,false,false,false,false] rfl hw
 obtain⟨j,hj⟩:=hk.so.ck_no hN hW hbl hsb hbn hc
 exact .inr ⟨fun q=>hc (aJs (hpw.trans q)).1,rfl,_,St.closeShelf (M:=[]) hj rfl hw⟩
end Go.Proofs
