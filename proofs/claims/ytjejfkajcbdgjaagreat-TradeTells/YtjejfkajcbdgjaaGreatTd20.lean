/-
  Own work; plain Lean (Td19, Td20).
-/
import Derived.Test.YtjejfkajcbdgjaaGreatTd16
set_option linter.all false
set_option maxHeartbeats 4000000
namespace Go.Proofs
open Go Go.Sl Go.Td Go.Jn
theorem yG{a:KAm}{k:Nat}(h:Fits a.a0 k∧Fits a.a1 k∧Fits a.a2 k∧Fits a.a3 k)(hk:k<64:=by decide):∀x∈[a.a0,a.a1,a.a2,a.a3],0≤x∧x<2^k:=fun x hx=>by
 have f:∀v,Fits v k→0≤v∧v<2^k:=fun v hv=>by
  rcases hv.f with h|h
  ·omega
  ·exact⟨h.1,h.2.1⟩
 simp only[List.mem_cons,List.not_mem_nil,or_false]at hx
 rcases hx with rfl|rfl|rfl|rfl
 ·exact f _ h.1
 ·exact f _ h.2.1
 ·exact f _ h.2.2.1
 exact f _ h.2.2.2
theorem bAm{P:Program}{ro:Option Nat}{n:Nat}{ds:List Deferred}{β:Base}{Q:Exit→Act→World→Prop}{f:Fm}{L:List bU}{c:Code}{p:Prop}(hk:bF β L (fun _=>p))(K:p→eA P ro n ds β c Q f L):eA P ro n ds β c Q f L:=fun a w ha hw=>K (hw.knows hk) a w ha hw
theorem aXp{h:bV}{p:Option Addr}{n c:Nat}{xs:List Int}(hs:Sl bA.R h (.slice p n c) xs):xs=[]∨p=some (ba p):=by
 obtain⟨a,d,e,h1,h2,h3⟩:=hs
 injection e with e1 e2 e3
 subst e1
 cases xs with
 |nil=>exact .inl rfl
 |cons x xs=>exact .inr (h3 0 x rfl).1
theorem bEk{h:bV}{p:Option Addr}{n c j:Nat}{xs:List Int}{y:Int}(hs:Sl bA.R h (.slice p n c) xs)(hy:xs[j]? =some y):Cs h ((ba p).add (j*1)) [Ix y]:=by
 obtain⟨a,d,e,h1,h2,h3⟩:=hs
 injection e with e1 e2 e3
 subst e1
 obtain⟨_,cs,g1,g2⟩:=h3 j y hy
 have g2:cs=[Ix y]:=g2
 rw[g2]at g1
 exact g1
theorem St.nodupMe{β:Base}{L:List bU}{w:World}(hw:St β L w)(i:Nat){m:Nat}{ms:List (Int×KMh)}(hi:L[i]? =some (aZ dS m ms)):(ms.map (·.1)).Nodup∧St β L w:=by
 obtain⟨es,c,_,h⟩:=hw.knows (bF.of_res i hi (aZ.mono _ _ _) fun _ h=>h)
 exact⟨h.keys,hw⟩
theorem zL{su:KAm}{last:Int}{ps:List (Int×KAm)}{hs:List (Int×KHo)}{ms:List (Int×KMem)}(h1:ps.length≤256)(h2:hs.length≤128)(h3:(sS ms).length≤4459*64):(gJ su last ps hs ms).length≤346368:=by
 have e:(gJ su last ps hs ms).length=(63+63+63+63)+(48+(9+(141*ps.length+(9+(189*hs.length+(9+(sS ms).length)))))):=by
  unfold gJ;simp only[List.length_append,cT,fK,gV,gT]
 have g1:=Nat.mul_le_mul_left 141 h1
 have g2:=Nat.mul_le_mul_left 189 h2
 rw[e]
 generalize 141*ps.length=a at g1⊢
 generalize 189*hs.length=b at g2⊢
 generalize (sS ms).length=c at h3⊢
 omega
theorem bCu{xs:List UInt8}{su:KAm}{last:Int}{ps:List (Int×KAm)}{hs:List (Int×KHo)}{ms:List (Int×KMem)}(h:Wr xs (gJ su last ps hs ms).length (gJ su last ps hs ms)):xs≠[]:=fun e=>by
 have h1:=h.len
 rw[e]at h1
 unfold gJ at h1
 simp only[List.length_append,cT,fK,List.length_nil]at h1
 omega
instance bFu:CfC Tryz.prog 96:={}
theorem iX(β:Base)(w:World)(wb:Nat)(l:List Bool)(hw:St β [xA wb l] w)(v:Int)(k:Nat)(hv:Fits v k)(hn:l.length+k≤1048576):Calls Tryz.prog 95 #[pp wb 0,Ix v,Nx k] w fun r w'=>r= .returned (.tuple #[])∧St β [xA wb (l++aJ (U v) k)] w':=by
 obtain⟨p,c,xs,hr,hw⟩:=St.openWr hw
 refine(jS β w wb p c xs _ hw hr.len v k hv.k64 hn hv.f).mono ?_
 rintro r w' ⟨p',c',rfl,hw'⟩
 exact⟨rfl,St.closeWr (M:=[]) (jC hv.k64 hr) (by simp only[List.length_append,cT,fK,eU];try omega) hw'⟩
theorem aDz(β:Base)(w:World)(wb:Nat)(l:List Bool)(hw:St β [xA wb l] w)(a:KAm)(k:Nat)(hk:k<64)(hf:∀x∈[a.a0,a.a1,a.a2,a.a3],0≤x∧x<2^k)(hn:l.length+4*k≤1048576):Calls Tryz.prog 94 #[pp wb 0,.agg (eI a),Nx k] w fun r w'=>r= .returned (.tuple #[])∧St β [xA wb (l++lN a k)] w':=by
 obtain⟨p,c,xs,hr,hw⟩:=St.openWr hw
 refine(aTj β w wb p c xs _ hw hr.len a k hk hn hf).mono ?_
 rintro r w' ⟨p',c',rfl,hw'⟩
 exact⟨rfl,St.closeWr (M:=[]) (aOt (by omega) hr) (by simp only[List.length_append,cT,fK,eU];try omega) hw'⟩
theorem aNx(β:Base)(w:World)(wb:Nat)(l:List Bool)(hw:St β [xA wb l] w)(au nu:Int)(v:Value)(al:List KAct)(hs:Sl dI.R β.heap v al)(hf:cE au nu al=true)(hn:l.length+(57+225*al.length)≤1048576):Calls Tryz.prog 58 #[pp wb 0,.agg #[Ix au,Ix nu,v]] w fun r w'=>r= .returned (.tuple #[])∧St β [xA wb (l++kI au nu al)] w':=by
 obtain⟨p,c,xs,hr,hw⟩:=St.openWr hw
 refine(aJg β w wb p c xs _ hw hr.len au nu v al hs (fG.1 hf).2.2.2 (fG.1 hf).2.2.1.2 (by have:=(fG.1 hf).1;omega) (by have:=(fG.1 hf).2.1;omega) hn).mono ?_
 rintro r w' ⟨p',c',rfl,hw'⟩
 exact⟨rfl,St.closeWr (M:=[]) (aFg hr) (by simp only[List.length_append,cT,fK,eU];try omega) hw'⟩
theorem aIw(β:Base)(w:World)(wb:Nat)(l:List Bool)(hw:St β [xA wb l] w)(hn:l.length≤1048576):Calls Tryz.prog 59 #[pp wb 0] w fun r w'=>∃p c xs,Wr xs l.length l∧r= .returned (sB p xs c)∧St β [rB p xs c] w':=by
 obtain⟨p,c,xs,hr,hw⟩:=St.openWr hw
 refine(aCd β w wb p c xs _ hw (by rw[hr.len];omega)).mono ?_
 rintro r w' ⟨p',c',rfl,hw'⟩
 exact⟨p',c',xs,hr,rfl,hw'⟩
theorem aNm(β:Base)(w:World)(mp mh mm:Nat)(s:KSt)(ms:List (Int×KMh))(zs:List (KMh×KMem))(hw:St β [aZ bW mp s.ps,aZ bK mh s.hs,aZ dS mm ms,cV zs] w)(X:KHs)(he:EqS s X.s)(hmm:MmOk X ms zs)(hxo:XOk X)(hla:X.s.last≤16000000):Calls Tryz.prog 49 #[.agg (uX mp mh mm s.last s.su)] w fun r w'=>∃p c bs,Wr bs (gJ s.su s.last (lU s) (nE s) (nQ X ms)).length (gJ s.su s.last (lU s) (nE s) (nQ X ms))∧(gJ s.su s.last (lU s) (nE s) (nQ X ms)).length≤346368∧r= .returned (sB p bs c)∧St β [rB p bs c,aZ bW mp s.ps,aZ bK mh s.hs,aZ dS mm ms,cV zs] w':=by
 obtain⟨hkn,hw⟩:=St.nodupMe hw 2 rfl
 have hms:=aRn hmm hkn
 have hsf:=aIo hxo hla (he.p.symm.trans (yV he.np)) (he.h.symm.trans (yH he.nh)) hms
 have hpn:=hsf.pn
 have hgn:=hsf.hn
 have hmn:=hsf.mn
 rw[uJ]at hpn
 rw[uA]at hgn
 rw[uF]at hmn
 have hpfew:(s.ps.map (·.1)).length≤256:=by rw[List.length_map];exact hpn
 have hgfew:(s.hs.map (·.1)).length≤256:=by rw[List.length_map];omega
 have hmfew:(ms.map (·.1)).length≤256:=by rw[List.length_map];omega
 have hpfew2:(lU s).length≤256:=by rw[uJ];exact hpn
 have hgfew2:(nE s).length≤256:=by rw[uA];omega
 have hmfew2:(nQ X ms).length≤256:=by rw[uF];omega
 have hfpl:=hsf.pl
 rw[uJ]at hfpl
 have hfgl:=hsf.hl
 rw[uA]at hfgl
 have hfml:=hsf.ml
 rw[uF]at hfml
 have hfla:=hsf.la
 rw[←he.l]at hfla
 have hfsu:=hsf.su
 rw[←he.u]at hfsu
 have hmall:∀k,(sS ((nQ X ms).take k)).length≤4459*64:=fun k=>Nat.le_trans (aDg _ fun p hp=>xJ (hsf.mm p (List.mem_of_mem_take hp)) hla) (Nat.mul_le_mul_left _ (by rw[List.length_take];have:=hsf.mn;omega))
 refine enter (n:=114) Tryz.func49 rfl Tryz.ntmps49 rfl ?_ hw
 refine bE (mA fun b1=> ?_)
 refine lE iT (eY (gB fun b2=>aN (aL (jN (r:=aM gQ 5 none 0 []) (eG _ _ _) (aAe [1,0,2,3,4,5,6] 7 rfl (by kernel_rfl) ?_)))))
 refine aCr (L:=wrL b2 none 0 [] 0) (M:=[pt b1 (.cells #[.map (some mp),.map (some mh),Ix (s.last),Ix (s.su.a0),Ix (s.su.a1),Ix (s.su.a2),Ix (s.su.a3),.map (some mm)] 88),aZ bW mp s.ps,aZ bK mh s.hs,aZ dS mm ms,cV zs]) (r:=xA b2 []) (fun a h=>aOh a h) ?_
 refine aC (lE aY (lE (dD 1) (aW rfl rfl rfl (cK (vs:=[pp b2 0,.agg (eI s.su),.int .i64 (63)]) aYg.ok rfl rfl) ?_)))
 intro w hw
 obtain⟨β1,sb,kn,hw1,back⟩:=St.frame (L:=[_]) (M:=_::_::_::_::_::[]) hw
 refine(aDz β1 w b2 [] hw1 s.su 63 (by decide) (yG hfsu) (by simp only[List.length_append,cT,fK,gV,gT,gU,eU,List.length_take,List.length_nil];omega)).mono ?_
 rintro e w' ⟨rfl,hw'⟩
 refine⟨_,rfl,_,back _ _ hw',?_⟩
 refine eY (lE aY (lE (cQ 1) (aW rfl rfl rfl (cK (vs:=[pp b2 0,Ix (s.last),.int .i64 (48)]) nG.ok rfl rfl) ?_)))
 intro w hw
 obtain⟨β1,sb,kn,hw1,back⟩:=St.frame (L:=[_]) (M:=_::_::_::_::_::[]) hw
 refine(iX β1 w b2 ([]++lN s.su 63) hw1 s.last 48 hfla (by simp only[List.length_append,cT,fK,gV,gT,gU,eU,List.length_take,List.length_nil];omega)).mono ?_
 rintro e w' ⟨rfl,hw'⟩
 refine⟨_,rfl,_,back _ _ hw',?_⟩
 refine eY (lE aY (lv (v:= .map (some mp)) (bH rL.ok rfl (bY 1 rfl rfl)) ?_))
 refine lv (v:=Nx (s.ps.length)) (yD (K:=bW) (b:=mp) (ks:=s.ps) rfl rfl (bF.of_res 2 rfl (aZ.mono _ _ _) fun _ h=>h)) ?_
 refine aW rfl rfl rfl (cK (vs:=[pp b2 0,Nx (s.ps.length),.int .i64 (9)]) nG.ok rfl rfl) ?_
 intro w hw
 obtain⟨β1,sb,kn,hw1,back⟩:=St.frame (L:=[_]) (M:=_::_::_::_::_::[]) hw
 refine(iX β1 w b2 (([]++lN s.su 63)++aJ (U s.last) 48) hw1 ((s.ps.length:Nat):Int) 9 hfpl (by simp only[List.length_append,cT,fK,gV,gT,gU,eU,List.length_take,List.length_nil];omega)).mono ?_
 rintro e w' ⟨rfl,hw'⟩
 refine⟨_,rfl,_,back _ _ hw',?_⟩
 refine aN (eS (aC (lE aY (lv (v:= .map (some mp)) (bH rL.ok rfl (bY 1 rfl rfl)) ?_))))
 refine pN (cK (vs:=[.map (some mp)]) aZq.ok rfl rfl) rfl fun w β1 sb kn hw1 back=>(aFu β1 w hw1 mp).mono ?_
 rintro e w' ⟨b3,rfl,hw'⟩
 refine⟨_,rfl,_,back _ _ hw',?_⟩
 refine aW rfl rfl rfl (cK (vs:=[.func (.func 80) #[] #[pp b3 0]]) aGt.ok rfl rfl) ?_
 intro w hw
 obtain⟨β1,sb,kn,hw1,back⟩:=St.frame (L:=[_]) (M:=_::_::_::_::_::_::[]) hw
 refine(nB β1 w _ _ _ (aBe β1 b3 mp s.ps (kn _ (bF.of_res 2 rfl (aZ.mono _ _ _) fun _ h=>h))) (Nat.le_trans hpfew (by decide)) hw1).mono ?_
 rintro e w' ⟨p4,c5,rfl,hw'⟩
 refine⟨_,rfl,_,back _ _ hw',?_⟩
 refine lE gO (lE aX (aN (aK ?_)))
 refine dB (fun(kp:Nat) f L=>(f 1=pp b1 0∧f 3=pp b2 0∧f 27=sB p4 (sortI (s.ps.map (·.1))) c5∧f 28=Nx ((sortI (s.ps.map (·.1))).length)∧f 29=Nx (kp))∧L=[aM bA 3 p4 c5 (sortI (s.ps.map (·.1))),xA b2 (((([]++lN s.su 63)++aJ (U s.last) 48)++aJ (U ((s.ps.length:Nat):Int)) 9)++qM ((lU s).take kp)),pt b1 (.cells #[.map (some mp),.map (some mh),Ix (s.last),Ix (s.su.a0),Ix (s.su.a1),Ix (s.su.a2),Ix (s.su.a3),.map (some mm)] 88),aZ bW mp s.ps,aZ bK mh s.hs,aZ dS mm ms,cV zs]∧(kp≤(sortI (s.ps.map (·.1))).length)) (fun kp=>(sortI (s.ps.map (·.1))).length-kp) 0 ?_ ?_
 ·exact⟨⟨rfl,rfl,rfl,rfl,rfl⟩,by rw[show(lU s).take 0=[]from rfl,show qM []=[]from rfl,List.append_nil]<;>rfl,Nat.zero_le _⟩
 rintro kp f0 L0 ⟨⟨hs1,hs3,hs27,hs28,hs29⟩,hL,hkp⟩
 subst L0
 refine bM 1 hs1 (bM 3 hs3 (bM 27 hs27 (bM 28 hs28 (bM 29 hs29 ?_))))
 have hsl:=jF (s.ps.map (·.1))
 have holp:((lU s)).length≤256:=hpfew2
 refine bE (lE gH (aN (aL (cG _ rfl (fun hc6=> ?_) (fun hc6=> ?_)))))
 ·refine eF (aL (aK (bE (lv (v:= .pointer (some ((ba p4).add (kp*1)))) (eT 0 (F:=bA) rfl rfl rfl rK (by omega) rfl) ?_))))
  obtain⟨x7,hx8⟩:∃x_,(sortI (s.ps.map (·.1)))[kp]? =some x_:=⟨_,List.getElem?_eq_getElem (by first|omega|decide)⟩
  refine lv (v:=Ix (x7)) (bH tt2.ok rfl (mT 0 (F:=bA) rfl hx8)) (lE bN (aN (aL ?_)))
  have hpt:=aWv (s:=s) hx8
  have hxf:=hsf.pp _ hpt.2
  refine aC (lE aX (aW rfl rfl rfl (cK (vs:=[pp b2 0,Ix (x7),.int .i64 (17)]) nG.ok rfl rfl) ?_))
  intro w hw
  replace hw:=hw.perm (L':=_::_::_::_::_::_::_::[]) (by exact(((((((aA 6 rfl).trans (aA 6 rfl)).trans (aA 6 rfl)).trans (aA 6 rfl)).trans (aA 6 rfl)).trans (aA 5 rfl)).trans (aA 6 rfl)))
  obtain⟨β1,sb,kn,hw1,back⟩:=St.frame (L:=[_]) (M:=_::_::_::_::_::_::[]) hw
  refine(iX β1 w b2 (((([]++lN s.su 63)++aJ (U s.last) 48)++aJ (U ((s.ps.length:Nat):Int)) 9)++qM ((lU s).take kp)) hw1 x7 17 hxf.1 (by simp only[List.length_append,cT,fK,gV,gT,gU,eU,List.length_take,List.length_nil];omega)).mono ?_
  rintro e w' ⟨rfl,hw'⟩
  refine⟨_,rfl,_,back _ _ hw',?_⟩
  refine wU (lE aY (lv (v:= .map (some mp)) (bH rL.ok rfl (bY 2 rfl rfl)) (lE aX ?_)))
  refine lv (v:= .agg (eI ((bW.look s.ps (x7)).getD zeroA))) (lA (K:=bW) (b:=mp) (ks:=s.ps) (k:=(x7)) rfl rfl rfl (bF.of_res 3 rfl (aZ.mono _ _ _) fun _ h=>h)) ?_
  refine aW rfl rfl rfl (cK (vs:=[pp b2 0,.agg (eI ((bW.look s.ps (x7)).getD zeroA)),.int .i64 (31)]) aYg.ok rfl rfl) ?_
  intro w hw
  obtain⟨β1,sb,kn,hw1,back⟩:=St.frame (L:=[_]) (M:=_::_::_::_::_::_::[]) hw
  refine(aDz β1 w b2 ((((([]++lN s.su 63)++aJ (U s.last) 48)++aJ (U ((s.ps.length:Nat):Int)) 9)++qM ((lU s).take kp))++aJ (U x7) 17) hw1 ((bW.look s.ps (x7)).getD zeroA) 31 (by decide) (yG hxf.2) (by simp only[List.length_append,cT,fK,gV,gT,gU,eU,List.length_take,List.length_nil];omega)).mono ?_
  rintro e w' ⟨rfl,hw'⟩
  refine⟨_,rfl,_,back _ _ hw',?_⟩
  refine aH (aR (bD (aC (lv (v:=Nx (kp+1)) (bX rfl rfl (dA (by omega) (by omega))) (lE aX (aH (vP [1,0,2,3,4,5,6] 7 ?_)))))))
  exact bI ⟨kp+1,⟨⟨rfl,rfl,rfl,rfl,rfl⟩,by rw[hpt.1];simp only[sB,rB,List.append_assoc];rfl,(by omega)⟩,(show(sortI (s.ps.map (·.1))).length-(kp+1)<(sortI (s.ps.map (·.1))).length-kp from by omega)⟩
 refine cM (aG (aG (cN (rT ?_))))
 have hkpe:kp=(lU s).length:=by rw[uJ];have:=jF (s.ps.map (·.1));rw[List.length_map]at this;omega
 refine qP (L':=[aM bA 3 p4 c5 (sortI (s.ps.map (·.1))),xA b2 (((([]++lN s.su 63)++aJ (U s.last) 48)++aJ (U ((s.ps.length:Nat):Int)) 9)++qM (lU s)),pt b1 (.cells #[.map (some mp),.map (some mh),Ix (s.last),Ix (s.su.a0),Ix (s.su.a1),Ix (s.su.a2),Ix (s.su.a3),.map (some mm)] 88),aZ bW mp s.ps,aZ bK mh s.hs,aZ dS mm ms,cV zs]) (by rw[hkpe,List.take_length]) ?_
 refine aC (lE aY (lv (v:= .map (some mh)) (bH uZ.ok rfl (bY 2 rfl rfl)) ?_))
 refine lv (v:=Nx (s.hs.length)) (yD (K:=bK) (b:=mh) (ks:=s.hs) rfl rfl (bF.of_res 4 rfl (aZ.mono _ _ _) fun _ h=>h)) ?_
 refine aW rfl rfl rfl (cK (vs:=[pp b2 0,Nx (s.hs.length),.int .i64 (9)]) nG.ok rfl rfl) ?_
 intro w hw
 replace hw:=hw.perm (L':=_::_::_::_::_::_::_::[]) (by exact(((((((aA 6 rfl).trans (aA 6 rfl)).trans (aA 6 rfl)).trans (aA 6 rfl)).trans (aA 6 rfl)).trans (aA 5 rfl)).trans (aA 6 rfl)))
 obtain⟨β1,sb,kn,hw1,back⟩:=St.frame (L:=[_]) (M:=_::_::_::_::_::_::[]) hw
 refine(iX β1 w b2 (((([]++lN s.su 63)++aJ (U s.last) 48)++aJ (U ((s.ps.length:Nat):Int)) 9)++qM (lU s)) hw1 ((s.hs.length:Nat):Int) 9 hfgl (by simp only[List.length_append,cT,fK,gV,gT,gU,eU,List.length_take,List.length_nil];omega)).mono ?_
 rintro e w' ⟨rfl,hw'⟩
 refine⟨_,rfl,_,back _ _ hw',?_⟩
 refine aN (eS (aC (lE aY (lv (v:= .map (some mh)) (bH uZ.ok rfl (bY 2 rfl rfl)) ?_))))
 refine pN (cK (vs:=[.map (some mh)]) aZr.ok rfl rfl) rfl fun w β1 sb kn hw1 back=>(aFt β1 w hw1 mh).mono ?_
 rintro e w' ⟨b9,rfl,hw'⟩
 refine⟨_,rfl,_,back _ _ hw',?_⟩
 refine aW rfl rfl rfl (cK (vs:=[.func (.func 79) #[] #[pp b9 0]]) aGt.ok rfl rfl) ?_
 intro w hw
 obtain⟨β1,sb,kn,hw1,back⟩:=St.frame (L:=[_]) (M:=_::_::_::_::_::_::_::[]) hw
 refine(nB β1 w _ _ _ (aBd β1 b9 mh s.hs (kn _ (bF.of_res 4 rfl (aZ.mono _ _ _) fun _ h=>h))) (Nat.le_trans hgfew (by decide)) hw1).mono ?_
 rintro e w' ⟨p10,c11,rfl,hw'⟩
 refine⟨_,rfl,_,back _ _ hw',?_⟩
 refine lE gO (lE aX (aN (aK ?_)))
 refine dB (fun(kg:Nat) f L=>(f 1=pp b1 0∧f 3=pp b2 0∧f 48=sB p10 (sortI (s.hs.map (·.1))) c11∧f 49=Nx ((sortI (s.hs.map (·.1))).length)∧f 50=Nx (kg))∧L=[aM bA 3 p10 c11 (sortI (s.hs.map (·.1))),xA b2 (((((([]++lN s.su 63)++aJ (U s.last) 48)++aJ (U ((s.ps.length:Nat):Int)) 9)++qM (lU s))++aJ (U ((s.hs.length:Nat):Int)) 9)++sI ((nE s).take kg)),aM bA 3 p4 c5 (sortI (s.ps.map (·.1))),pt b1 (.cells #[.map (some mp),.map (some mh),Ix (s.last),Ix (s.su.a0),Ix (s.su.a1),Ix (s.su.a2),Ix (s.su.a3),.map (some mm)] 88),aZ bW mp s.ps,aZ bK mh s.hs,aZ dS mm ms,cV zs]∧(kg≤(sortI (s.hs.map (·.1))).length)) (fun kg=>(sortI (s.hs.map (·.1))).length-kg) 0 ?_ ?_
 ·exact⟨⟨rfl,rfl,rfl,rfl,rfl⟩,by rw[show(nE s).take 0=[]from rfl,show sI []=[]from rfl,List.append_nil]<;>rfl,Nat.zero_le _⟩
 rintro kg f0 L0 ⟨⟨hs1,hs3,hs48,hs49,hs50⟩,hL,hkg⟩
 subst L0
 refine bM 1 hs1 (bM 3 hs3 (bM 48 hs48 (bM 49 hs49 (bM 50 hs50 ?_))))
 have hsl:=jF (s.hs.map (·.1))
 have holg:((nE s)).length≤256:=hgfew2
 refine bE (lE gH (aN (aL (cG _ rfl (fun hc12=> ?_) (fun hc12=> ?_)))))
 ·refine eF (aL (aK (bE (lv (v:= .pointer (some ((ba p10).add (kg*1)))) (eT 0 (F:=bA) rfl rfl rfl rK (by omega) rfl) ?_))))
  obtain⟨x13,hx14⟩:∃x_,(sortI (s.hs.map (·.1)))[kg]? =some x_:=⟨_,List.getElem?_eq_getElem (by first|omega|decide)⟩
  refine lv (v:=Ix (x13)) (bH tt2.ok rfl (mT 0 (F:=bA) rfl hx14)) (lE bN (aN (aL ?_)))
  have hgt:=aVu (s:=s) hx14
  have hxf:=hsf.hh _ hgt.2
  refine aC (lE aY (lv (v:= .map (some mh)) (bH uZ.ok rfl (bY 3 rfl rfl)) (lE aX ?_)))
  refine lv (v:= .agg #[Ix (((bK.look s.hs (x13)).getD bC).number),Ix (((bK.look s.hs (x13)).getD bC).owner),Ix (((bK.look s.hs (x13)).getD bC).a.a0),Ix (((bK.look s.hs (x13)).getD bC).a.a1),Ix (((bK.look s.hs (x13)).getD bC).a.a2),Ix (((bK.look s.hs (x13)).getD bC).a.a3)]) (lA (K:=bK) (b:=mh) (ks:=s.hs) (k:=(x13)) rfl rfl rfl (bF.of_res 5 rfl (aZ.mono _ _ _) fun _ h=>h)) ?_
  refine gB fun b15=> ?_
  refine lu (mS 0 (#[Ix (((bK.look s.hs (x13)).getD bC).number),Ix (((bK.look s.hs (x13)).getD bC).owner),Ix (((bK.look s.hs (x13)).getD bC).a.a0),Ix (((bK.look s.hs (x13)).getD bC).a.a1),Ix (((bK.look s.hs (x13)).getD bC).a.a2),Ix (((bK.look s.hs (x13)).getD bC).a.a3)])) ?_
  refine eY (lE aX (aW rfl rfl rfl (cK (vs:=[pp b2 0,Ix (x13),.int .i64 (48)]) nG.ok rfl rfl) ?_))
  intro w hw
  replace hw:=hw.perm (L':=_::_::_::_::_::_::_::_::_::[]) (by exact(((((((((aA 8 rfl).trans (aA 8 rfl)).trans (aA 8 rfl)).trans (aA 8 rfl)).trans (aA 8 rfl)).trans (aA 8 rfl)).trans (aA 7 rfl)).trans (aA 7 rfl)).trans (aA 8 rfl)))
  obtain⟨β1,sb,kn,hw1,back⟩:=St.frame (L:=[_]) (M:=_::_::_::_::_::_::_::_::[]) hw
  refine(iX β1 w b2 (((((([]++lN s.su 63)++aJ (U s.last) 48)++aJ (U ((s.ps.length:Nat):Int)) 9)++qM (lU s))++aJ (U ((s.hs.length:Nat):Int)) 9)++sI ((nE s).take kg)) hw1 x13 48 hxf.1 (by simp only[List.length_append,cT,fK,gV,gT,gU,eU,List.length_take,List.length_nil];omega)).mono ?_
  rintro e w' ⟨rfl,hw'⟩
  refine⟨_,rfl,_,back _ _ hw',?_⟩
  refine eY (lE aY (lE (cQ 1) ?_))
  refine aW rfl rfl rfl (cK (vs:=[pp b2 0,Ix (((bK.look s.hs (x13)).getD bC).owner),.int .i64 (17)]) nG.ok rfl rfl) ?_
  intro w hw
  obtain⟨β1,sb,kn,hw1,back⟩:=St.frame (L:=[_]) (M:=_::_::_::_::_::_::_::_::[]) hw
  refine(iX β1 w b2 ((((((([]++lN s.su 63)++aJ (U s.last) 48)++aJ (U ((s.ps.length:Nat):Int)) 9)++qM (lU s))++aJ (U ((s.hs.length:Nat):Int)) 9)++sI ((nE s).take kg))++aJ (U x13) 48) hw1 (((bK.look s.hs (x13)).getD bC).owner) 17 hxf.2.1 (by simp only[List.length_append,cT,fK,gV,gT,gU,eU,List.length_take,List.length_nil];omega)).mono ?_
  rintro e w' ⟨rfl,hw'⟩
  refine⟨_,rfl,_,back _ _ hw',?_⟩
  refine wU (lE aY (lE (dD 1) ?_))
  refine aW rfl rfl rfl (cK (vs:=[pp b2 0,.agg #[Ix (((bK.look s.hs (x13)).getD bC).a.a0),Ix (((bK.look s.hs (x13)).getD bC).a.a1),Ix (((bK.look s.hs (x13)).getD bC).a.a2),Ix (((bK.look s.hs (x13)).getD bC).a.a3)],.int .i64 (31)]) aYg.ok rfl rfl) ?_
  intro w hw
  obtain⟨β1,sb,kn,hw1,back⟩:=St.frame (L:=[_]) (M:=_::_::_::_::_::_::_::_::[]) hw
  refine(aDz β1 w b2 (((((((([]++lN s.su 63)++aJ (U s.last) 48)++aJ (U ((s.ps.length:Nat):Int)) 9)++qM (lU s))++aJ (U ((s.hs.length:Nat):Int)) 9)++sI ((nE s).take kg))++aJ (U x13) 48)++aJ (U (((bK.look s.hs (x13)).getD bC).owner)) 17) hw1 (((bK.look s.hs (x13)).getD bC).a) 31 (by decide) (yG hxf.2.2.1) (by simp only[List.length_append,cT,fK,gV,gT,gU,eU,List.length_take,List.length_nil];omega)).mono ?_
  rintro e w' ⟨rfl,hw'⟩
  refine⟨_,rfl,_,back _ _ hw',?_⟩
  refine aH (aR (bD (aC (lv (v:=Nx (kg+1)) (bX rfl rfl (dA (by omega) (by omega))) (lE aX (aH ?_))))))
  refine vP [2,0,3,4,5,6,7,8,1] 9 ?_
  refine dM [true,true,true,true,true,true,true,true,false] rfl ?_
  exact bI ⟨kg+1,⟨⟨rfl,rfl,rfl,rfl,rfl⟩,by rw[hgt.1];simp only[sB,rB,List.append_assoc];rfl,(by omega)⟩,(show(sortI (s.hs.map (·.1))).length-(kg+1)<(sortI (s.hs.map (·.1))).length-kg from by omega)⟩
 refine cM (aG (aG (cN (rT ?_))))
 have hkge:kg=(nE s).length:=by rw[uA];have:=jF (s.hs.map (·.1));rw[List.length_map]at this;omega
 refine qP (L':=[aM bA 3 p10 c11 (sortI (s.hs.map (·.1))),xA b2 (((((([]++lN s.su 63)++aJ (U s.last) 48)++aJ (U ((s.ps.length:Nat):Int)) 9)++qM (lU s))++aJ (U ((s.hs.length:Nat):Int)) 9)++sI (nE s)),aM bA 3 p4 c5 (sortI (s.ps.map (·.1))),pt b1 (.cells #[.map (some mp),.map (some mh),Ix (s.last),Ix (s.su.a0),Ix (s.su.a1),Ix (s.su.a2),Ix (s.su.a3),.map (some mm)] 88),aZ bW mp s.ps,aZ bK mh s.hs,aZ dS mm ms,cV zs]) (by rw[hkge,List.take_length]) ?_
 refine aC (lE aY (lv (v:= .map (some mm)) (bH aEc.ok rfl (bY 3 rfl rfl)) ?_))
 refine lv (v:=Nx (ms.length)) (yD (K:=dS) (b:=mm) (ks:=ms) rfl rfl (bF.of_res 6 rfl (aZ.mono _ _ _) fun _ h=>h)) ?_
 refine aW rfl rfl rfl (cK (vs:=[pp b2 0,Nx (ms.length),.int .i64 (9)]) nG.ok rfl rfl) ?_
 intro w hw
 replace hw:=hw.perm (L':=_::_::_::_::_::_::_::_::[]) (by exact((((((((aA 7 rfl).trans (aA 7 rfl)).trans (aA 7 rfl)).trans (aA 7 rfl)).trans (aA 7 rfl)).trans (aA 7 rfl)).trans (aA 6 rfl)).trans (aA 7 rfl)))
 obtain⟨β1,sb,kn,hw1,back⟩:=St.frame (L:=[_]) (M:=_::_::_::_::_::_::_::[]) hw
 refine(iX β1 w b2 (((((([]++lN s.su 63)++aJ (U s.last) 48)++aJ (U ((s.ps.length:Nat):Int)) 9)++qM (lU s))++aJ (U ((s.hs.length:Nat):Int)) 9)++sI (nE s)) hw1 ((ms.length:Nat):Int) 9 hfml (by simp only[List.length_append,cT,fK,gV,gT,gU,eU,List.length_take,List.length_nil];omega)).mono ?_
 rintro e w' ⟨rfl,hw'⟩
 refine⟨_,rfl,_,back _ _ hw',?_⟩
 refine aN (eS (aC (lE aY (lv (v:= .map (some mm)) (bH aEc.ok rfl (bY 3 rfl rfl)) ?_))))
 refine pN (cK (vs:=[.map (some mm)]) bFu.ok rfl rfl) rfl fun w β1 sb kn hw1 back=>(aRc β1 w hw1 mm).mono ?_
 rintro e w' ⟨b16,rfl,hw'⟩
 refine⟨_,rfl,_,back _ _ hw',?_⟩
 refine aW rfl rfl rfl (cK (vs:=[.func (.func 121) #[] #[pp b16 0]]) aGt.ok rfl rfl) ?_
 intro w hw
 obtain⟨β1,sb,kn,hw1,back⟩:=St.frame (L:=[_]) (M:=_::_::_::_::_::_::_::_::[]) hw
 refine(nB β1 w _ _ _ (aMt β1 b16 mm ms (kn _ (bF.of_res 6 rfl (aZ.mono _ _ _) fun _ h=>h))) (Nat.le_trans hmfew (by decide)) hw1).mono ?_
 rintro e w' ⟨p17,c18,rfl,hw'⟩
 refine⟨_,rfl,_,back _ _ hw',?_⟩
 refine lE gO (lE aX (aN (aK ?_)))
 refine dB (fun(km:Nat) f L=>(f 1=pp b1 0∧f 3=pp b2 0∧f 74=sB p17 (sortI (ms.map (·.1))) c18∧f 75=Nx ((sortI (ms.map (·.1))).length)∧f 76=Nx (km))∧L=[aM bA 3 p17 c18 (sortI (ms.map (·.1))),xA b2 (((((((([]++lN s.su 63)++aJ (U s.last) 48)++aJ (U ((s.ps.length:Nat):Int)) 9)++qM (lU s))++aJ (U ((s.hs.length:Nat):Int)) 9)++sI (nE s))++aJ (U ((ms.length:Nat):Int)) 9)++sS ((nQ X ms).take km)),aM bA 3 p10 c11 (sortI (s.hs.map (·.1))),aM bA 3 p4 c5 (sortI (s.ps.map (·.1))),pt b1 (.cells #[.map (some mp),.map (some mh),Ix (s.last),Ix (s.su.a0),Ix (s.su.a1),Ix (s.su.a2),Ix (s.su.a3),.map (some mm)] 88),aZ bW mp s.ps,aZ bK mh s.hs,aZ dS mm ms,cV zs]∧(km≤(sortI (ms.map (·.1))).length)) (fun km=>(sortI (ms.map (·.1))).length-km) 0 ?_ ?_
 ·exact⟨⟨rfl,rfl,rfl,rfl,rfl⟩,by rw[show(nQ X ms).take 0=[]from rfl,show sS []=[]from rfl,List.append_nil]<;>rfl,Nat.zero_le _⟩
 rintro km f0 L0 ⟨⟨hs1,hs3,hs74,hs75,hs76⟩,hL,hkm⟩
 subst L0
 refine bM 1 hs1 (bM 3 hs3 (bM 74 hs74 (bM 75 hs75 (bM 76 hs76 ?_))))
 have hsl:=jF (ms.map (·.1))
 have holm:((nQ X ms)).length≤256:=hmfew2
 refine bE (lE gH (aN (aL (cG _ rfl (fun hc19=> ?_) (fun hc19=> ?_)))))
 ·refine eF (aL (aK (bE (lv (v:= .pointer (some ((ba p17).add (km*1)))) (eT 0 (F:=bA) rfl rfl rfl rK (by omega) rfl) ?_))))
  obtain⟨x20,hx21⟩:∃x_,(sortI (ms.map (·.1)))[km]? =some x_:=⟨_,List.getElem?_eq_getElem (by first|omega|decide)⟩
  refine lv (v:=Ix (x20)) (bH tt2.ok rfl (mT 0 (F:=bA) rfl hx21)) (lE bN (aN (aL ?_)))
  obtain⟨hd,mal,mhl,hlk,hlo,hnl,hml,hdn⟩:=bEc hmm hkn hx21
  have hmt:=aWo (X:=X) hx21 hdn
  have hmk:=hxo.m _ _ hdn
  have hmf:=xJ hmk hla
  have hmd:cE hd.author hd.number mal=true:=hmf.fm
  have hm16:=hmf.few
  have hd16:=hmf.d.few
  replace hm16:mhl.length≤16:=hm16
  replace hd16:mal.length≤16:=hd16
  have hmsl:(sS ((nQ X ms).take km)).length≤4459*64:=hmall km
  refine aC (lE aY (lv (v:= .map (some mm)) (bH aEc.ok rfl (bY 4 rfl rfl)) (lE aX ?_)))
  refine lv (v:= .agg #[Ix (hd.author),Ix (hd.number),.slice hd.p (hd.n) hd.c,.bool (hd.done),Ix (hd.at_),Ix (hd.e),.slice hd.q (hd.m) hd.k]) (fI (congrArg dS.encv hlk) (lA (K:=dS) (b:=mm) (ks:=ms) (k:=x20) rfl rfl rfl (bF.of_res 7 rfl (aZ.mono _ _ _) fun _ h=>h))) ?_
  refine gB fun b22=> ?_
  refine lu (mS 0 (#[Ix (hd.author),Ix (hd.number),.slice hd.p (hd.n) hd.c,.bool (hd.done),Ix (hd.at_),Ix (hd.e),.slice hd.q (hd.m) hd.k])) (eY ?_)
  refine lE aY (lE (dD 0) ?_)
  refine aW rfl rfl rfl (cK (vs:=[pp b2 0,.agg #[Ix (hd.author),Ix (hd.number),.slice hd.p (hd.n) hd.c]]) bGe.ok rfl rfl) ?_
  intro w hw
  replace hw:=hw.perm (L':=[xA b2 (((((((([]++lN s.su 63)++aJ (U s.last) 48)++aJ (U ((s.ps.length:Nat):Int)) 9)++qM (lU s))++aJ (U ((s.hs.length:Nat):Int)) 9)++sI (nE s))++aJ (U ((ms.length:Nat):Int)) 9)++sS ((nQ X ms).take km)),pt b22 (.cells #[Ix (hd.author),Ix (hd.number),.slice hd.p (hd.n) hd.c,.bool (hd.done),Ix (hd.at_),Ix (hd.e),.slice hd.q (hd.m) hd.k] 82),aM bA 3 p17 c18 (sortI (ms.map (·.1))),aM bA 3 p10 c11 (sortI (s.hs.map (·.1))),aM bA 3 p4 c5 (sortI (s.ps.map (·.1))),pt b1 (.cells #[.map (some mp),.map (some mh),Ix (s.last),Ix (s.su.a0),Ix (s.su.a1),Ix (s.su.a2),Ix (s.su.a3),.map (some mm)] 88),aZ bW mp s.ps,aZ bK mh s.hs,aZ dS mm ms,cV zs]) (by exact(aV [2,0,1,3,4,5,6,7,8,9] 10 rfl (by kernel_rfl) (by kernel_rfl)))
  obtain⟨β1,sb,kn,hw1,back⟩:=St.frame (L:=[_]) (M:=_::_::_::_::_::_::_::_::_::[]) hw
  refine(aNx β1 w b2 (((((((([]++lN s.su 63)++aJ (U s.last) 48)++aJ (U ((s.ps.length:Nat):Int)) 9)++qM (lU s))++aJ (U ((s.hs.length:Nat):Int)) 9)++sI (nE s))++aJ (U ((ms.length:Nat):Int)) 9)++sS ((nQ X ms).take km)) hw1 hd.author hd.number _ mal (kn _ (aZh 8 rfl hlo)) hmd (by simp only[List.length_append,cT,fK,gV,gT,gU,eU,List.length_take,List.length_nil];omega)).mono ?_
  rintro e w' ⟨rfl,hw'⟩
  refine⟨_,rfl,_,back _ _ hw',?_⟩
  refine eY (lE aY (lE aY (lE (fR 1) (lE gO (aW rfl rfl rfl (cK (vs:=[pp b2 0,Nx (hd.m),.int .i64 (9)]) nG.ok rfl rfl) ?_)))))
  intro w hw
  replace hw:=hw.perm (L':=[xA b2 ((((((((([]++lN s.su 63)++aJ (U s.last) 48)++aJ (U ((s.ps.length:Nat):Int)) 9)++qM (lU s))++aJ (U ((s.hs.length:Nat):Int)) 9)++sI (nE s))++aJ (U ((ms.length:Nat):Int)) 9)++sS ((nQ X ms).take km))++kI hd.author hd.number mal),pt b22 (.cells #[Ix (hd.author),Ix (hd.number),.slice hd.p (hd.n) hd.c,.bool (hd.done),Ix (hd.at_),Ix (hd.e),.slice hd.q (hd.m) hd.k] 82),aM bA 3 p17 c18 (sortI (ms.map (·.1))),aM bA 3 p10 c11 (sortI (s.hs.map (·.1))),aM bA 3 p4 c5 (sortI (s.ps.map (·.1))),pt b1 (.cells #[.map (some mp),.map (some mh),Ix (s.last),Ix (s.su.a0),Ix (s.su.a1),Ix (s.su.a2),Ix (s.su.a3),.map (some mm)] 88),aZ bW mp s.ps,aZ bK mh s.hs,aZ dS mm ms,cV zs]) (by exact(aV [0,1,2,3,4,5,6,7,8,9] 10 rfl (by kernel_rfl) (by kernel_rfl)))
  obtain⟨β1,sb,kn,hw1,back⟩:=St.frame (L:=[_]) (M:=_::_::_::_::_::_::_::_::_::[]) hw
  refine(iX β1 w b2 ((((((((([]++lN s.su 63)++aJ (U s.last) 48)++aJ (U ((s.ps.length:Nat):Int)) 9)++qM (lU s))++aJ (U ((s.hs.length:Nat):Int)) 9)++sI (nE s))++aJ (U ((ms.length:Nat):Int)) 9)++sS ((nQ X ms).take km))++kI hd.author hd.number mal) hw1 ((hd.m:Nat):Int) 9 (by rw[hml];exact hmf.l) (by simp only[List.length_append,cT,fK,gV,gT,gU,eU,List.length_take,List.length_nil];omega)).mono ?_
  rintro e w' ⟨rfl,hw'⟩
  refine⟨_,rfl,_,back _ _ hw',?_⟩
  refine aN (eS (bAm (p:=mhl=[]∨hd.q=some (ba hd.q)) (bF.imp (aJz 9 rfl hlo) fun _ h=>aXp h) (fun hqs=> ?_)))
  refine aC (lE aY (lE aY (lE (fR 1) (lE gO (lE aX (aN (aK ?_)))))))
  refine dB (fun(j:Nat) f L=>(f 1=pp b1 0∧f 3=pp b2 0∧f 11=pp b22 0∧f 74=sB p17 (sortI (ms.map (·.1))) c18∧f 75=Nx ((sortI (ms.map (·.1))).length)∧f 76=Nx (km)∧f 94= .slice hd.q (hd.m) hd.k∧f 95=Nx (hd.m)∧f 96=Nx (j))∧L=[xA b2 ((((((((((([]++lN s.su 63)++aJ (U s.last) 48)++aJ (U ((s.ps.length:Nat):Int)) 9)++qM (lU s))++aJ (U ((s.hs.length:Nat):Int)) 9)++sI (nE s))++aJ (U ((ms.length:Nat):Int)) 9)++sS ((nQ X ms).take km))++kI hd.author hd.number mal)++aJ (U ((hd.m:Nat):Int)) 9)++nsL (mhl.take j)),pt b22 (.cells #[Ix (hd.author),Ix (hd.number),.slice hd.p (hd.n) hd.c,.bool (hd.done),Ix (hd.at_),Ix (hd.e),.slice hd.q (hd.m) hd.k] 82),aM bA 3 p17 c18 (sortI (ms.map (·.1))),aM bA 3 p10 c11 (sortI (s.hs.map (·.1))),aM bA 3 p4 c5 (sortI (s.ps.map (·.1))),pt b1 (.cells #[.map (some mp),.map (some mh),Ix (s.last),Ix (s.su.a0),Ix (s.su.a1),Ix (s.su.a2),Ix (s.su.a3),.map (some mm)] 88),aZ bW mp s.ps,aZ bK mh s.hs,aZ dS mm ms,cV zs]∧(j≤mhl.length)) (fun j=>mhl.length-j) 0 ?_ ?_
  ·exact⟨⟨rfl,rfl,rfl,rfl,rfl,rfl,rfl,rfl,rfl⟩,by rw[show mhl.take 0=[]from rfl,show nsL []=[]from rfl,List.append_nil]<;>rfl,Nat.zero_le _⟩
  rintro j f0 L0 ⟨⟨hs1,hs3,hs11,hs74,hs75,hs76,hs94,hs95,hs96⟩,hL,hj⟩
  subst L0
  refine bM 1 hs1 (bM 3 hs3 (bM 11 hs11 (bM 74 hs74 (bM 75 hs75 (bM 76 hs76 (bM 94 hs94 (bM 95 hs95 (bM 96 hs96 (bE (lE gH (aN (aL ?_))))))))))))
  refine cG _ rfl (fun hc23=> ?_) (fun hc23=> ?_)
  ·refine eF (aL (aK (aL ?_)))
   obtain⟨y,hy⟩:∃y,mhl[j]? =some y:=⟨_,List.getElem?_eq_getElem (by omega)⟩
   have hyf:=hmf.h _ (List.mem_of_getElem? hy)
   have hqa:=hqs.resolve_left (fun q=>by rw[q]at hy;cases hy)
   refine aC ?_
   refine lv (v:= .pointer (some ((ba hd.q).add (j*1)))) (iH (k:=j) (len:=hd.m) (cap:=hd.k) (a:=hd.q) rfl rfl rK (by rw[hml];omega) hqa) ?_
   refine lv (v:=Ix (y)) (bH tt2.ok rfl (bF.imp (aJz 9 rfl hlo) fun _ h=>bEk h hy)) (lE bN (wU (lE aX ?_)))
   refine aW rfl rfl rfl (cK (vs:=[pp b2 0,Ix (y),.int .i64 (48)]) nG.ok rfl rfl) ?_
   intro w hw
   replace hw:=hw.perm (L':=[xA b2 ((((((((((([]++lN s.su 63)++aJ (U s.last) 48)++aJ (U ((s.ps.length:Nat):Int)) 9)++qM (lU s))++aJ (U ((s.hs.length:Nat):Int)) 9)++sI (nE s))++aJ (U ((ms.length:Nat):Int)) 9)++sS ((nQ X ms).take km))++kI hd.author hd.number mal)++aJ (U ((hd.m:Nat):Int)) 9)++nsL (mhl.take j)),pt b22 (.cells #[Ix (hd.author),Ix (hd.number),.slice hd.p (hd.n) hd.c,.bool (hd.done),Ix (hd.at_),Ix (hd.e),.slice hd.q (hd.m) hd.k] 82),aM bA 3 p17 c18 (sortI (ms.map (·.1))),aM bA 3 p10 c11 (sortI (s.hs.map (·.1))),aM bA 3 p4 c5 (sortI (s.ps.map (·.1))),pt b1 (.cells #[.map (some mp),.map (some mh),Ix (s.last),Ix (s.su.a0),Ix (s.su.a1),Ix (s.su.a2),Ix (s.su.a3),.map (some mm)] 88),aZ bW mp s.ps,aZ bK mh s.hs,aZ dS mm ms,cV zs]) (by exact(aV [0,1,2,3,4,5,6,7,8,9] 10 rfl (by kernel_rfl) (by kernel_rfl)))
   obtain⟨β1,sb,kn,hw1,back⟩:=St.frame (L:=[_]) (M:=_::_::_::_::_::_::_::_::_::[]) hw
   refine(iX β1 w b2 ((((((((((([]++lN s.su 63)++aJ (U s.last) 48)++aJ (U ((s.ps.length:Nat):Int)) 9)++qM (lU s))++aJ (U ((s.hs.length:Nat):Int)) 9)++sI (nE s))++aJ (U ((ms.length:Nat):Int)) 9)++sS ((nQ X ms).take km))++kI hd.author hd.number mal)++aJ (U ((hd.m:Nat):Int)) 9)++nsL (mhl.take j)) hw1 y 48 hyf (by simp only[List.length_append,cT,fK,gV,gT,gU,eU,List.length_take,List.length_nil];omega)).mono ?_
   rintro e w' ⟨rfl,hw'⟩
   refine⟨_,rfl,_,back _ _ hw',?_⟩
   refine aH (aR (bD (aC (lv (v:=Nx (j+1)) (bX rfl rfl (dA (by omega) (by omega))) (lE aX (aH ?_))))))
   exact bI ⟨j+1,⟨⟨rfl,rfl,rfl,rfl,rfl,rfl,rfl,rfl,rfl⟩,by rw[←jG hy,aKk];simp only[sB,rB,List.append_assoc];rfl,(by omega)⟩,(show mhl.length-(j+1)<mhl.length-j from by omega)⟩
  refine cM (aG (aG (cN (rT ?_))))
  have hje:j=mhl.length:=by omega
  refine qP (L':=[xA b2 ((((((((((([]++lN s.su 63)++aJ (U s.last) 48)++aJ (U ((s.ps.length:Nat):Int)) 9)++qM (lU s))++aJ (U ((s.hs.length:Nat):Int)) 9)++sI (nE s))++aJ (U ((ms.length:Nat):Int)) 9)++sS ((nQ X ms).take km))++kI hd.author hd.number mal)++aJ (U ((hd.m:Nat):Int)) 9)++nsL mhl),pt b22 (.cells #[Ix (hd.author),Ix (hd.number),.slice hd.p (hd.n) hd.c,.bool (hd.done),Ix (hd.at_),Ix (hd.e),.slice hd.q (hd.m) hd.k] 82),aM bA 3 p17 c18 (sortI (ms.map (·.1))),aM bA 3 p10 c11 (sortI (s.hs.map (·.1))),aM bA 3 p4 c5 (sortI (s.ps.map (·.1))),pt b1 (.cells #[.map (some mp),.map (some mh),Ix (s.last),Ix (s.su.a0),Ix (s.su.a1),Ix (s.su.a2),Ix (s.su.a3),.map (some mm)] 88),aZ bW mp s.ps,aZ bK mh s.hs,aZ dS mm ms,cV zs]) (by rw[hje,List.take_length]) ?_
  refine aC (lE aY (lE aY (lE (cQ 1) (aW rfl rfl rfl (cK (vs:=[pp b2 0,Ix (hd.at_),.int .i64 (9)]) nG.ok rfl rfl) ?_))))
  intro w hw
  replace hw:=hw.perm (L':=[xA b2 ((((((((((([]++lN s.su 63)++aJ (U s.last) 48)++aJ (U ((s.ps.length:Nat):Int)) 9)++qM (lU s))++aJ (U ((s.hs.length:Nat):Int)) 9)++sI (nE s))++aJ (U ((ms.length:Nat):Int)) 9)++sS ((nQ X ms).take km))++kI hd.author hd.number mal)++aJ (U ((hd.m:Nat):Int)) 9)++nsL mhl),pt b22 (.cells #[Ix (hd.author),Ix (hd.number),.slice hd.p (hd.n) hd.c,.bool (hd.done),Ix (hd.at_),Ix (hd.e),.slice hd.q (hd.m) hd.k] 82),aM bA 3 p17 c18 (sortI (ms.map (·.1))),aM bA 3 p10 c11 (sortI (s.hs.map (·.1))),aM bA 3 p4 c5 (sortI (s.ps.map (·.1))),pt b1 (.cells #[.map (some mp),.map (some mh),Ix (s.last),Ix (s.su.a0),Ix (s.su.a1),Ix (s.su.a2),Ix (s.su.a3),.map (some mm)] 88),aZ bW mp s.ps,aZ bK mh s.hs,aZ dS mm ms,cV zs]) (by exact(aV [0,1,2,3,4,5,6,7,8,9] 10 rfl (by kernel_rfl) (by kernel_rfl)))
  obtain⟨β1,sb,kn,hw1,back⟩:=St.frame (L:=[_]) (M:=_::_::_::_::_::_::_::_::_::[]) hw
  refine(iX β1 w b2 ((((((((((([]++lN s.su 63)++aJ (U s.last) 48)++aJ (U ((s.ps.length:Nat):Int)) 9)++qM (lU s))++aJ (U ((s.hs.length:Nat):Int)) 9)++sI (nE s))++aJ (U ((ms.length:Nat):Int)) 9)++sS ((nQ X ms).take km))++kI hd.author hd.number mal)++aJ (U ((hd.m:Nat):Int)) 9)++nsL mhl) hw1 hd.at_ 9 hmf.at_ (by simp only[List.length_append,cT,fK,gV,gT,gU,eU,List.length_take,List.length_nil];omega)).mono ?_
  rintro e w' ⟨rfl,hw'⟩
  refine⟨_,rfl,_,back _ _ hw',?_⟩
  refine wU (lE aY (lE aY (lE (cQ 1) (aW rfl rfl rfl (cK (vs:=[pp b2 0,Ix (hd.e),.int .i64 (16)]) nG.ok rfl rfl) ?_))))
  intro w hw
  replace hw:=hw.perm (L':=[xA b2 (((((((((((([]++lN s.su 63)++aJ (U s.last) 48)++aJ (U ((s.ps.length:Nat):Int)) 9)++qM (lU s))++aJ (U ((s.hs.length:Nat):Int)) 9)++sI (nE s))++aJ (U ((ms.length:Nat):Int)) 9)++sS ((nQ X ms).take km))++kI hd.author hd.number mal)++aJ (U ((hd.m:Nat):Int)) 9)++nsL mhl)++aJ (U hd.at_) 9),pt b22 (.cells #[Ix (hd.author),Ix (hd.number),.slice hd.p (hd.n) hd.c,.bool (hd.done),Ix (hd.at_),Ix (hd.e),.slice hd.q (hd.m) hd.k] 82),aM bA 3 p17 c18 (sortI (ms.map (·.1))),aM bA 3 p10 c11 (sortI (s.hs.map (·.1))),aM bA 3 p4 c5 (sortI (s.ps.map (·.1))),pt b1 (.cells #[.map (some mp),.map (some mh),Ix (s.last),Ix (s.su.a0),Ix (s.su.a1),Ix (s.su.a2),Ix (s.su.a3),.map (some mm)] 88),aZ bW mp s.ps,aZ bK mh s.hs,aZ dS mm ms,cV zs]) (by exact(aV [0,1,2,3,4,5,6,7,8,9] 10 rfl (by kernel_rfl) (by kernel_rfl)))
  obtain⟨β1,sb,kn,hw1,back⟩:=St.frame (L:=[_]) (M:=_::_::_::_::_::_::_::_::_::[]) hw
  refine(iX β1 w b2 (((((((((((([]++lN s.su 63)++aJ (U s.last) 48)++aJ (U ((s.ps.length:Nat):Int)) 9)++qM (lU s))++aJ (U ((s.hs.length:Nat):Int)) 9)++sI (nE s))++aJ (U ((ms.length:Nat):Int)) 9)++sS ((nQ X ms).take km))++kI hd.author hd.number mal)++aJ (U ((hd.m:Nat):Int)) 9)++nsL mhl)++aJ (U hd.at_) 9) hw1 hd.e 16 hmf.e (by simp only[List.length_append,cT,fK,gV,gT,gU,eU,List.length_take,List.length_nil];omega)).mono ?_
  rintro e w' ⟨rfl,hw'⟩
  refine⟨_,rfl,_,back _ _ hw',?_⟩
  refine aH (aR (bD (aC (lv (v:=Nx (km+1)) (bX rfl rfl (dA (by omega) (by omega))) (lE aX (aH ?_))))))
  refine vP [2,0,3,4,5,6,7,8,9,1] 10 ?_
  refine dM [true,true,true,true,true,true,true,true,true,false] rfl ?_
  exact bI ⟨km+1,⟨⟨rfl,rfl,rfl,rfl,rfl⟩,by rw[hmt];simp only[sB,rB,List.append_assoc,hml];rfl,(by omega)⟩,(show(sortI (ms.map (·.1))).length-(km+1)<(sortI (ms.map (·.1))).length-km from by omega)⟩
 refine cM (aG (aG (cN (rT ?_))))
 have hkme:km=(nQ X ms).length:=by rw[uF];have:=jF (ms.map (·.1));rw[List.length_map]at this;omega
 refine qP (L':=[aM bA 3 p17 c18 (sortI (ms.map (·.1))),xA b2 (((((((([]++lN s.su 63)++aJ (U s.last) 48)++aJ (U ((s.ps.length:Nat):Int)) 9)++qM (lU s))++aJ (U ((s.hs.length:Nat):Int)) 9)++sI (nE s))++aJ (U ((ms.length:Nat):Int)) 9)++sS (nQ X ms)),aM bA 3 p10 c11 (sortI (s.hs.map (·.1))),aM bA 3 p4 c5 (sortI (s.ps.map (·.1))),pt b1 (.cells #[.map (some mp),.map (some mh),Ix (s.last),Ix (s.su.a0),Ix (s.su.a1),Ix (s.su.a2),Ix (s.su.a3),.map (some mm)] 88),aZ bW mp s.ps,aZ bK mh s.hs,aZ dS mm ms,cV zs]) (by rw[hkme,List.take_length]) ?_
 have hmall2:=hmall (nQ X ms).length
 rw[List.take_length]at hmall2
 have hlen:(gJ s.su s.last (lU s) (nE s) (nQ X ms)).length≤346368:=zL hsf.pn hsf.hn hmall2
 have hfin:(gJ s.su s.last (lU s) (nE s) (nQ X ms)).length≤1048576:=Nat.le_trans hlen (by decide)
 refine qP (L':=[aM bA 3 p17 c18 (sortI (ms.map (·.1))),xA b2 (gJ s.su s.last (lU s) (nE s) (nQ X ms)),aM bA 3 p10 c11 (sortI (s.hs.map (·.1))),aM bA 3 p4 c5 (sortI (s.ps.map (·.1))),pt b1 (.cells #[.map (some mp),.map (some mh),Ix (s.last),Ix (s.su.a0),Ix (s.su.a1),Ix (s.su.a2),Ix (s.su.a3),.map (some mm)] 88),aZ bW mp s.ps,aZ bK mh s.hs,aZ dS mm ms,cV zs]) (by unfold gJ;rw[uJ,uA,uF];simp only[List.append_assoc,List.nil_append]) ?_
 refine aC (lE aY (aW rfl rfl rfl (cK (vs:=[pp b2 0]) bGf.ok rfl rfl) ?_))
 intro w hw
 replace hw:=hw.perm (L':=_::_::_::_::_::_::_::_::_::[]) (by exact(((((((((aA 8 rfl).trans (aA 8 rfl)).trans (aA 8 rfl)).trans (aA 8 rfl)).trans (aA 8 rfl)).trans (aA 8 rfl)).trans (aA 8 rfl)).trans (aA 7 rfl)).trans (aA 8 rfl)))
 obtain⟨β1,sb,kn,hw1,back⟩:=St.frame (L:=[_]) (M:=_::_::_::_::_::_::_::_::[]) hw
 refine(aIw β1 w b2 (gJ s.su s.last (lU s) (nE s) (nQ X ms)) hw1 hfin).mono ?_
 rintro e w' ⟨p24,c25,bs26,hwr,rfl,hw'⟩
 refine⟨_,rfl,_,back _ _ hw',?_⟩
 refine lE iT (aN (aT (cZ Tryz.results49 rfl ?_)))
 intro w hw
 replace hw:=hw.perm (L':=[rB p24 bs26 c25,aZ bW mp s.ps,aZ bK mh s.hs,aZ dS mm ms,cV zs,aM bA 3 p17 c18 (sortI (ms.map (·.1))),aM bA 3 p10 c11 (sortI (s.hs.map (·.1))),aM bA 3 p4 c5 (sortI (s.ps.map (·.1))),pt b1 (.cells #[.map (some mp),.map (some mh),Ix (s.last),Ix (s.su.a0),Ix (s.su.a1),Ix (s.su.a2),Ix (s.su.a3),.map (some mm)] 88)]) (by exact(aV [0,5,6,7,8,1,2,3,4] 9 rfl (by kernel_rfl) (by kernel_rfl)))
 replace hw:=aF (L':=[rB p24 bs26 c25,aZ bW mp s.ps,aZ bK mh s.hs,aZ dS mm ms,cV zs]) [true,true,true,true,true,false,false,false,false] rfl hw
 exact⟨_,_,bs26,hwr,hlen,rfl,hw⟩
open Go Go.Sl Go.Td Go.Jn
theorem aXn{X:KHs}{s:KSt}{ms:List (Int×KMh)}{zs:List (KMh×KMem)}(he:EqS s X.s)(hmm:MmOk X ms zs)(hxo:XOk X)(hla:X.s.last≤16000000)(hkn:(ms.map (·.1)).Nodup):
  ∃bs,StB X bs∧bs.length≤43300∧bs≠[]∧Wr bs (gJ s.su s.last (lU s) (nE s) (nQ X ms)).length (gJ s.su s.last (lU s) (nE s) (nQ X ms)):=by
 have h:=aKm (gJ s.su s.last (lU s) (nE s) (nQ X ms)) aIz
 rw[List.nil_append,Nat.zero_add]at h
 have hms:=aRn hmm hkn
 have hsf:=aIo hxo hla (he.p.symm.trans (yV he.np)) (he.h.symm.trans (yH he.nh)) hms
 have hl:=zL (su:=s.su) (last:=s.last) hsf.pn hsf.hn (ms:=nQ X ms) (Nat.le_trans (aDg _ fun p hp=>xJ (hsf.mm p hp) hla) (Nat.mul_le_mul_left _ hsf.mn))
 exact⟨_,⟨lU s,nE s,nQ X ms,he.p.symm.trans (yV he.np),he.h.symm.trans (yH he.nh),hms,_,by rw[←he.l,←he.u];exact h⟩,by rw[h.len];omega,bCu h,h⟩
theorem aTg(β:Base)(w:World)(mp mh mm:Nat)(s:KSt)(ms:List (Int×KMh))(zs:List (KMh×KMem))(hw:St β [aZ bW mp s.ps,aZ bK mh s.hs,aZ dS mm ms,cV zs] w)(X:KHs)(he:EqS s X.s)(hmm:MmOk X ms zs)(hxo:XOk X)(hla:X.s.last≤16000000)(bs:List UInt8)(hbs:Wr bs (gJ s.su s.last (lU s) (nE s) (nQ X ms)).length (gJ s.su s.last (lU s) (nE s) (nQ X ms))):
  Calls Tryz.prog 49 #[.agg (uX mp mh mm s.last s.su)] w fun r w'=>∃p c,r= .returned (sB p bs c)∧St β [rB p bs c,aZ bW mp s.ps,aZ bK mh s.hs,aZ dS mm ms,cV zs] w':=by
 refine(aNm β w mp mh mm s ms zs hw X he hmm hxo hla).mono ?_
 rintro r w' ⟨p,c,bs',h1,_,h2,h3⟩
 have:=aOi h1 hbs
 subst this
 exact⟨p,c,h2,h3⟩
instance bAe:CfC Tryz.prog 49:={}
instance bAf:CfC Tryz.prog 48:={}
theorem aFc(β:Base)(w:World)(H S N e z:Nat)(pw:Int)(X:KHs)(hw:St β [qW H S X N pw e z] w)(hN:N≤1000000)(hW:e*218000+z≤54000000):Calls Tryz.prog 22 #[pp H 0] w fun r w'=>(r= .returned (Ix 0)∧∃z2 q e2,(-1≤q∧q≤1000)∧(pw= -1→q= -1)∧z2≤43324∧e2=e+1∧St β [qW H S X (N+1) q e2 z2] w')∨(pw≠-1∧r= .returned (Ix 310)∧∃q,St β [lP S X (N+1) (e*218000+z+262144) q] w'):=by
 obtain⟨J,mp,mh,mm,s,ms,zs,i,k,hk,hpw,hie,hiz,hw⟩:=St.openE hw
 have hla:=hk.so.last16 hN
 obtain⟨bs,hsb,hbl,hbn,hbs⟩:=aXn hk.eq hk.mm hk.so.ok hla (St.nodupMe hw 5 rfl).1
 refine enter (n:=26) Tryz.func22 rfl Tryz.ntmps22 rfl ?_ hw
 refine bE (lE bN (aN (eS (aC (lE dN (iF iE (fun w β1 sb kn hw1=>aBc β1 w hw1 _ _ _ _ _ s (kn _ (bY 0 rfl rfl))) (lE bN ?_)))))))
 refine eY (lE aX (lE lC (aN (cY rfl (eF (aL ?_))))))
 have hfit:=hk.so.fit hN
 have hep:=hk.so.epoch hW
 by_cases hc:pR k (i.epoch+1) i.next bs
 ·refine jH [sv 10 (pp H 0) [] [] [0],sv 11 (pp H 0) [0] [0] [],sv 12 (pp H 0) [0,1] [1] [],sv 13 (pp J 0) [0,1,2] [2] [],sv 14 (pp H 0) [] [] [0],sv 15 (pp H 0) [4] [4] [],sv 16 (pp H 1) [4,5] [5] [],sv 17 (.agg #[.map (some mp),.map (some mh),Ix (s.last),Ix (s.su.a0),Ix (s.su.a1),Ix (s.su.a2),Ix (s.su.a3),.map (some mm)]) [4,5,6] [6] [],⟨[4,5,6,7],[7],[],[18],fun f=>f 18=sB (dG (f 18)) bs (dH (f 18))⟩,sv 19 (.int .i64 (0)) (List.range 9) [3,8] [],sv 4 (.int .i64 (0)) (List.range 10) [9] []] [u1 [3,7],(some 9,[9]),(some 9,[9]),u1 [8],u1 [8],u1 [8],u1 [8]] [⟨(some 8),none,[9],[18],fun f=>rB (dG (f 18)) bs (dH (f 18))⟩,⟨(some 9),none,[],[],fun _=>eV J S (tS i bs) false⟩,⟨(some 9),none,[],[],fun _=>aP S (pM k (i.epoch+1) i.next bs)⟩] [(0,pp H 0)] [0] ⟨rfl,trivial⟩ ⟨?_,?_,?_,?_,?_,?_,?_,?_,?_,?_,?_,trivial⟩ ?_
  ·rintro f M-⟨i0,-⟩
   exact aU dN
  ·rintro f M ⟨k0,-⟩-
   exact aU eM
  ·rintro f M ⟨k0,-⟩-
   exact aU aY
  ·rintro f M ⟨k0,-⟩-
   exact aU (iI 0)
  ·rintro f M-⟨i0,-⟩
   exact aU dN
  ·rintro f M ⟨k0,-⟩-
   exact aU eM
  ·rintro f M ⟨k0,-⟩-
   exact aU aY
  ·rintro f M ⟨k0,-⟩-
   exact aU (dD 0)
  ·rintro f M ⟨k0,-⟩-
   refine dU (aB (d:=17) rfl k0) ?_
   refine aW rfl rfl rfl (cK (vs:=[.agg #[.map (some mp),.map (some mh),Ix (s.last),Ix (s.su.a0),Ix (s.su.a1),Ix (s.su.a2),Ix (s.su.a3),.map (some mm)]]) bAe.ok rfl rfl) ?_
   intro w hw
   obtain⟨β1,sb,kn,hw1,back⟩:=St.frame (L:=[_,_,_,_]) (M:=M) hw
   refine(aTg β1 w mp mh mm s ms zs hw1 X hk.eq hk.mm hk.so.ok hla bs hbs).mono ?_
   rintro e w' ⟨p3,c4,rfl,hw'⟩
   refine⟨_,rfl,_,back _ _ hw',?_⟩
   refine aH ?_
   exact aO (aB (d:=17) rfl k0) rfl (((((aA 0 rfl).trans (aA 4 rfl)).trans (aA 4 rfl)).trans (aA 4 rfl)).trans (aA 4 rfl))
  ·rintro f M ⟨k0,k1,-⟩-
   have hs18:f 18=sB (dG (f 18)) bs (dH (f 18)):=k1
   refine dU (aB (aB (d:=13) rfl k0) hs18) ?_
   refine aW rfl rfl rfl (cK (vs:=[pp J 0,sB (dG (f 18)) bs (dH (f 18))]) bAf.ok rfl rfl) ?_
   intro w hw
   obtain⟨β1,sb,kn,hw1,back⟩:=St.frame (L:=[_,_]) (M:=_::M) hw
   refine(aLw β1 w J S k i bs (by omega) hfit hep hc _ (kU kn 0 rfl) hw1).mono ?_
   rintro e w' ⟨rfl,hw'⟩
   refine⟨_,rfl,_,back _ _ hw',?_⟩
   refine aH ?_
   exact aO (aB (aB (d:=13) rfl k0) hs18) rfl (((aA 1 rfl).trans (aA 1 rfl)).trans (aA 2 rfl))
  ·rintro f M ⟨k0,-⟩-
   exact aU bN
  rintro fa5 ⟨-,-,-,-,-,-,-,-,-,-,k10,-⟩ ⟨j0,-⟩
  refine jI ?_
  refine aD (d:=0) j0 (aD (d:=4) k10 (rT (bE (lE aX (lE lC (aN (cY rfl (eF (bE (lE aX (lE bN (aN (aT ?_)))))))))))))
  refine cZ Tryz.results22 rfl ?_
  intro w hw
  replace hw:=hw.perm (L':=[pt H (.cells #[pp J 0,.map (some mp),.map (some mh),Ix (s.last),Ix (s.su.a0),Ix (s.su.a1),Ix (s.su.a2),Ix (s.su.a3),.map (some mm),.bool false] 91),eV J S (tS i bs) false,aP S (pM k (i.epoch+1) i.next bs),aZ bW mp s.ps,aZ bK mh s.hs,aZ dS mm ms,cV zs,rB (dG (fa5 18)) bs (dH (fa5 18))]) (by exact(aV [0,6,7,1,2,3,4,5] 8 rfl (by kernel_rfl) (by kernel_rfl)))
  replace hw:=aF (L':=[pt H (.cells #[pp J 0,.map (some mp),.map (some mh),Ix (s.last),Ix (s.su.a0),Ix (s.su.a1),Ix (s.su.a2),Ix (s.su.a3),.map (some mm),.bool false] 91),eV J S (tS i bs) false,aP S (pM k (i.epoch+1) i.next bs),aZ bW mp s.ps,aZ bK mh s.hs,aZ dS mm ms,cV zs]) [true,true,true,true,true,true,true,false] rfl hw
  exact .inl ⟨rfl,_,_,_,(hk.ck hN hW hbl hsb hbn hc).so.inv.pw,fun q=>(aJd (hpw.trans q)).2,aPm hbl,hie▸rfl,St.closeE (M:=[]) (hk.ck hN hW hbl hsb hbn hc) rfl hw⟩
 refine jH [sv 10 (pp H 0) [] [] [0],sv 11 (pp H 0) [0] [0] [],sv 12 (pp H 0) [0,1] [1] [],sv 13 (pp J 0) [0,1,2] [2] [],sv 14 (pp H 0) [] [] [0],sv 15 (pp H 0) [4] [4] [],sv 16 (pp H 1) [4,5] [5] [],sv 17 (.agg #[.map (some mp),.map (some mh),Ix (s.last),Ix (s.su.a0),Ix (s.su.a1),Ix (s.su.a2),Ix (s.su.a3),.map (some mm)]) [4,5,6] [6] [],⟨[4,5,6,7],[7],[],[18],fun f=>f 18=sB (dG (f 18)) bs (dH (f 18))⟩,sv 19 (.int .i64 (310)) (List.range 9) [3,8] [],sv 4 (.int .i64 (310)) (List.range 10) [9] []] [u1 [3,7],(some 9,[9]),(some 9,[9]),u1 [8],u1 [8],u1 [8],u1 [8]] [⟨(some 8),none,[9],[18],fun f=>rB (dG (f 18)) bs (dH (f 18))⟩,⟨(some 9),none,[],[],fun _=>eV J S i true⟩,⟨(some 9),none,[],[],fun _=>aP S (pM k (i.epoch+1) i.next bs)⟩] [(0,pp H 0)] [0] ⟨rfl,trivial⟩ ⟨?_,?_,?_,?_,?_,?_,?_,?_,?_,?_,?_,trivial⟩ ?_
 ·rintro f M-⟨i0,-⟩
  exact aU dN
 ·rintro f M ⟨k0,-⟩-
  exact aU eM
 ·rintro f M ⟨k0,-⟩-
  exact aU aY
 ·rintro f M ⟨k0,-⟩-
  exact aU (iI 0)
 ·rintro f M-⟨i0,-⟩
  exact aU dN
 ·rintro f M ⟨k0,-⟩-
  exact aU eM
 ·rintro f M ⟨k0,-⟩-
  exact aU aY
 ·rintro f M ⟨k0,-⟩-
  exact aU (dD 0)
 ·rintro f M ⟨k0,-⟩-
  refine dU (aB (d:=17) rfl k0) ?_
  refine aW rfl rfl rfl (cK (vs:=[.agg #[.map (some mp),.map (some mh),Ix (s.last),Ix (s.su.a0),Ix (s.su.a1),Ix (s.su.a2),Ix (s.su.a3),.map (some mm)]]) bAe.ok rfl rfl) ?_
  intro w hw
  obtain⟨β1,sb,kn,hw1,back⟩:=St.frame (L:=[_,_,_,_]) (M:=M) hw
  refine(aTg β1 w mp mh mm s ms zs hw1 X hk.eq hk.mm hk.so.ok hla bs hbs).mono ?_
  rintro e w' ⟨p8,c9,rfl,hw'⟩
  refine⟨_,rfl,_,back _ _ hw',?_⟩
  refine aH ?_
  exact aO (aB (d:=17) rfl k0) rfl (((((aA 0 rfl).trans (aA 4 rfl)).trans (aA 4 rfl)).trans (aA 4 rfl)).trans (aA 4 rfl))
 ·rintro f M ⟨k0,k1,-⟩-
  have hs18:f 18=sB (dG (f 18)) bs (dH (f 18)):=k1
  refine dU (aB (aB (d:=13) rfl k0) hs18) ?_
  refine aW rfl rfl rfl (cK (vs:=[pp J 0,sB (dG (f 18)) bs (dH (f 18))]) bAf.ok rfl rfl) ?_
  intro w hw
  obtain⟨β1,sb,kn,hw1,back⟩:=St.frame (L:=[_,_]) (M:=_::M) hw
  refine(aEx β1 w J S k i bs (by omega) hfit hep hc _ (kU kn 0 rfl) hw1).mono ?_
  rintro e w' ⟨rfl,hw'⟩
  refine⟨_,rfl,_,back _ _ hw',?_⟩
  refine aH ?_
  exact aO (aB (aB (d:=13) rfl k0) hs18) rfl (((aA 1 rfl).trans (aA 1 rfl)).trans (aA 2 rfl))
 ·rintro f M ⟨k0,-⟩-
  exact aU bN
 rintro fa10 ⟨-,-,-,-,-,-,-,-,-,-,k10,-⟩ ⟨j0,-⟩
 refine jI ?_
 refine aD (d:=0) j0 (aD (d:=4) k10 (rT (bE (lE aX (lE lC (aN (dL rfl (aC (lE dN (lE eM (lE aY ?_)))))))))))
 refine lu (mS 0 (#[pp J 0,.map (some mp),.map (some mh),Ix (s.last),Ix (s.su.a0),Ix (s.su.a1),Ix (s.su.a2),Ix (s.su.a3),.map (some mm),.bool true])) ?_
 refine eY (lE aX (lE bN (aN (aT (cZ Tryz.results22 rfl ?_)))))
 intro w hw
 replace hw:=hw.perm (L':=[aP S (pM k (i.epoch+1) i.next bs),pt H (.cells #[pp J 0,.map (some mp),.map (some mh),Ix (s.last),Ix (s.su.a0),Ix (s.su.a1),Ix (s.su.a2),Ix (s.su.a3),.map (some mm),.bool true] 91),aZ bW mp s.ps,aZ bK mh s.hs,aZ dS mm ms,cV zs,rB (dG (fa10 18)) bs (dH (fa10 18)),eV J S i true]) (by exact(aV [7,0,1,2,3,4,5,6] 8 rfl (by kernel_rfl) (by kernel_rfl)))
 replace hw:=aF (L':=[aP S (pM k (i.epoch+1) i.next bs)]) [true,false,false,false,false,false,false,false] rfl hw
 obtain⟨j,hj⟩:=hk.so.ck_no hN hW hbl hsb hbn hc
 exact .inr ⟨fun q=>hc (aJd (hpw.trans q)).1,rfl,_,St.closeShelf (M:=[]) hj rfl hw⟩
end Go.Proofs
