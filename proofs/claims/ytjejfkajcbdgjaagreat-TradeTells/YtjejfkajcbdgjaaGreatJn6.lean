/-
 Open,Append,Checkpoint,walked. Printed by a program of my own.
-/
import Derived.Test.YtjejfkajcbdgjaaGreatJn5
set_option linter.all false
set_option maxHeartbeats 4000000
namespace Go.Proofs
open Go Go.Sl Go.Jn
theorem aVp{k:KS}(h:k.okP)(hp:k.power≤9223372036854775807):k.fits 524288:=by
 unfold KS.okP at h
 exact⟨by omega,by omega,by omega,hp⟩
instance bHr:CfC Tryz.prog 45:={}
theorem bHs:xP Tryz.prog 143 [(0,1),(1,5),(6,1)]=true:=by kernel_rfl
instance bHt:ZerC Tryz.prog 143 (.agg #[.pointer none,.int .i64 (0),.int .i64 (0),.slice none 0 0,.slice none 0 0,.int .i64 (0),.bool false]):={}
instance tf72:ZerC Tryz.prog 89 (.pointer none):={}
instance aTp:CfC Tryz.prog 62:={}
instance tf74:CfC Tryz.prog 60:={}
instance tf75:FldC Tryz.prog 143 1 1 5 true:={}
instance tf76:ZerC Tryz.prog 141 (.pointer none):={}
theorem aGg(β:Base)(w:World)(hw:St β [] w)(k:KS)(vh va vb:Value)(hH:Sl iK β.heap vh k.head)(hA:Sl iK β.heap va k.a)(hB:Sl iK β.heap vb k.b)(h:k.okP)(i:KI)(h2:oZ k=some i):Calls Tryz.prog 45 #[.agg #[vh,va,vb,Ix k.power]] w fun r w'=>∃ps pr cs cr,r= .returned (.tuple #[.agg #[Nx i.epoch,Nx i.next,sB ps i.state cs,sB pr i.recs cr,Nx i.size],.int .i64 0])∧St β [rB ps i.state cs,gI 27 pr cr i.recs] w':=by
 refine(aWz β w hw k vh va vb hH hA hB).mono fun r w' hh=> ?_
 rcases hh with⟨_,b,_⟩|⟨_,_,b,_⟩|⟨j,_,b,hh⟩
 ·exact absurd h b
 ·rw[h2]at b;cases b
 rw[h2]at b;injection b with b;subst b;exact hh
theorem aEq(β:Base)(w:World)(J S q6 q1 q4:Nat)(k:KS)(i:KI)(vs vr:Value)(hk:k.fits 524288)(hc:iS (k.area i.epoch) k.power i.size)(hw:St β [pt J (.cells #[pp S 0,Nx (i.epoch),Nx (i.next),vs,vr,Nx (i.size),.bool false] 143),pt q6 (.cells #[pp J 0] 89),pt q1 (.cells #[pp S 0] 26),pt q4 (.cells #[Nx (i.epoch),Nx (i.next),vs,vr,Nx (i.size)] 109),aP S k] w):Calls Tryz.prog 62 #[pp J 0,.func (.func 89) #[] #[pp q6 0,pp q1 0,pp q4 0]] w fun r w'=>r= .returned (.int .i64 0)∧St β [pt J (.cells #[pp S 0,Nx (i.epoch),Nx (i.next),vs,vr,Nx (i.size),.bool false] 143),pt q6 (.cells #[pp J 0] 89),pt q1 (.cells #[pp S 0] 26),pt q4 (.cells #[Nx (i.epoch),Nx (i.next),vs,vr,Nx (i.size)] 109),aP S (jO k i.epoch i.size)] w':=by
 refine(mI β w J 89 [pp q6 0,pp q1 0,pp q4 0] _ _ _ _ _ _ _ [pt q6 (.cells #[pp J 0] 89),pt q1 (.cells #[pp S 0] 26),pt q4 (.cells #[Nx (i.epoch),Nx (i.next),vs,vr,Nx (i.size)] 109),aP S k] [pt q6 (.cells #[pp J 0] 89),pt q1 (.cells #[pp S 0] 26),pt q4 (.cells #[Nx (i.epoch),Nx (i.next),vs,vr,Nx (i.size)] 109),aP S (jO k i.epoch i.size)] [pt q6 (.cells #[pp J 0] 89),pt q1 (.cells #[pp S 0] 26),pt q4 (.cells #[Nx (i.epoch),Nx (i.next),vs,vr,Nx (i.size)] 109),aP S k] (iS (k.area i.epoch) k.power i.size) (¬(iS (k.area i.epoch) k.power i.size)) (by kernel_rfl) hw (fun β' sb w hw=>aRx β' w J S q6 q1 q4 k i vs vr (.bool false) hk hw)).mono fun r w' hh=> ?_
 rcases hh with⟨a,b,c⟩|⟨a,b,c⟩
 ·exact⟨a,c⟩
 exact absurd hc b
theorem aAd(β:Base)(w:World)(J S q2 q7 q8 cb:Nat)(pb:Option Addr)(k:KS)(i:KI)(vs vr:Value)(fb:Bs)(hk:k.fits 524288)(hb:fb.length≤131072)(hsz:i.size≤524288)(hc:kL k.power fb)(hw:St β [pt J (.cells #[pp S 0,Nx (i.epoch),Nx (i.next),vs,vr,Nx (i.size),.bool false] 143),pt q2 (.cells #[pp J 0] 89),pt q7 (.cells #[pp J 1] 141),pt q8 (.cells #[sB pb fb cb] 27),rB pb fb cb,aP S k] w):Calls Tryz.prog 62 #[pp J 0,.func (.func 63) #[] #[pp q2 0,pp q7 0,pp q8 0]] w fun r w'=>r= .returned (.int .i64 0)∧St β [pt J (.cells #[pp S 0,Nx (i.epoch),Nx (i.next),vs,vr,Nx (i.size),.bool false] 143),pt q2 (.cells #[pp J 0] 89),pt q7 (.cells #[pp J 1] 141),pt q8 (.cells #[sB pb fb cb] 27),rB pb fb cb,aP S (sE k i.epoch i.size fb)] w':=by
 refine(mI β w J 63 [pp q2 0,pp q7 0,pp q8 0] _ _ _ _ _ _ _ [pt q2 (.cells #[pp J 0] 89),pt q7 (.cells #[pp J 1] 141),pt q8 (.cells #[sB pb fb cb] 27),rB pb fb cb,aP S k] [pt q2 (.cells #[pp J 0] 89),pt q7 (.cells #[pp J 1] 141),pt q8 (.cells #[sB pb fb cb] 27),rB pb fb cb,aP S (sE k i.epoch i.size fb)] [pt q2 (.cells #[pp J 0] 89),pt q7 (.cells #[pp J 1] 141),pt q8 (.cells #[sB pb fb cb] 27),rB pb fb cb,aP S (sE k i.epoch i.size fb)] (kL k.power fb) (¬(kL k.power fb)) (by kernel_rfl) hw (fun β' sb w hw=>xT β' w J S q2 q7 q8 cb pb k i vs vr (.bool false) fb hk hb hsz hw)).mono fun r w' hh=> ?_
 rcases hh with⟨a,b,c⟩|⟨a,b,c⟩
 ·exact⟨a,c⟩
 exact absurd hc b
theorem aAc(β:Base)(w:World)(J S q2 q7 q8 cb:Nat)(pb:Option Addr)(k:KS)(i:KI)(vs vr:Value)(fb:Bs)(hk:k.fits 524288)(hb:fb.length≤131072)(hsz:i.size≤524288)(hc:¬(kL k.power fb))(hw:St β [pt J (.cells #[pp S 0,Nx (i.epoch),Nx (i.next),vs,vr,Nx (i.size),.bool false] 143),pt q2 (.cells #[pp J 0] 89),pt q7 (.cells #[pp J 1] 141),pt q8 (.cells #[sB pb fb cb] 27),rB pb fb cb,aP S k] w):Calls Tryz.prog 62 #[pp J 0,.func (.func 63) #[] #[pp q2 0,pp q7 0,pp q8 0]] w fun r w'=>r= .returned (.int .i64 310)∧St β [pt J (.cells #[pp S 0,Nx (i.epoch),Nx (i.next),vs,vr,Nx (i.size),.bool true] 143),pt q2 (.cells #[pp J 0] 89),pt q7 (.cells #[pp J 1] 141),pt q8 (.cells #[sB pb fb cb] 27),rB pb fb cb,aP S (sE k i.epoch i.size fb)] w':=by
 refine(mI β w J 63 [pp q2 0,pp q7 0,pp q8 0] _ _ _ _ _ _ _ [pt q2 (.cells #[pp J 0] 89),pt q7 (.cells #[pp J 1] 141),pt q8 (.cells #[sB pb fb cb] 27),rB pb fb cb,aP S k] [pt q2 (.cells #[pp J 0] 89),pt q7 (.cells #[pp J 1] 141),pt q8 (.cells #[sB pb fb cb] 27),rB pb fb cb,aP S (sE k i.epoch i.size fb)] [pt q2 (.cells #[pp J 0] 89),pt q7 (.cells #[pp J 1] 141),pt q8 (.cells #[sB pb fb cb] 27),rB pb fb cb,aP S (sE k i.epoch i.size fb)] (kL k.power fb) (¬(kL k.power fb)) (by kernel_rfl) hw (fun β' sb w hw=>xT β' w J S q2 q7 q8 cb pb k i vs vr (.bool false) fb hk hb hsz hw)).mono fun r w' hh=> ?_
 rcases hh with⟨a,b,c⟩|⟨a,b,c⟩
 ·exact absurd b hc
 exact⟨a,c⟩
theorem aCo(β:Base)(w:World)(J S q2 q6 q3 sc e n:Nat)(sa:Option Addr)(k:KS)(i:KI)(vs vr:Value)(ws wr_ wz:Value)(xs:Bs)(hl:xs.length≤sc)(hm:sc≤9223372036854775807)(hx:cX iK β.heap sa xs)(hk:k.fits 524288)(hb:xs.length≤65536)(hc:pR k e n xs)(hw:St β [pt J (.cells #[pp S 0,Nx (i.epoch),Nx (i.next),vs,vr,Nx (i.size),.bool false] 143),pt q2 (.cells #[pp J 0] 89),pt q6 (.cells #[Nx (e),Nx (n),ws,wr_,wz] 109),pt q3 (.cells #[sB sa xs (sc)] 27),aP S k] w):Calls Tryz.prog 62 #[pp J 0,.func (.func 91) #[] #[pp q2 0,pp q6 0,pp q3 0]] w fun r w'=>r= .returned (.int .i64 0)∧St β [pt J (.cells #[pp S 0,Nx (i.epoch),Nx (i.next),vs,vr,Nx (i.size),.bool false] 143),pt q2 (.cells #[pp J 0] 89),pt q6 (.cells #[Nx (e),Nx (n),ws,wr_,wz] 109),pt q3 (.cells #[sB sa xs (sc)] 27),aP S (pM k e n xs)] w':=by
 refine(mI β w J 91 [pp q2 0,pp q6 0,pp q3 0] _ _ _ _ _ _ _ [pt q2 (.cells #[pp J 0] 89),pt q6 (.cells #[Nx (e),Nx (n),ws,wr_,wz] 109),pt q3 (.cells #[sB sa xs (sc)] 27),aP S k] [pt q2 (.cells #[pp J 0] 89),pt q6 (.cells #[Nx (e),Nx (n),ws,wr_,wz] 109),pt q3 (.cells #[sB sa xs (sc)] 27),aP S (pM k e n xs)] [pt q2 (.cells #[pp J 0] 89),pt q6 (.cells #[Nx (e),Nx (n),ws,wr_,wz] 109),pt q3 (.cells #[sB sa xs (sc)] 27),aP S (pM k e n xs)] (pR k e n xs) (¬(pR k e n xs)) (by kernel_rfl) hw (fun β' sb w hw=>aAt β' w J S q2 q6 q3 sc e n sa k i vs vr (.bool false) ws wr_ wz xs hl hm (cX.mono _ _ _ _ _ sb hx) hk hb hw)).mono fun r w' hh=> ?_
 rcases hh with⟨a,b,c⟩|⟨a,b,c⟩
 ·exact⟨a,c⟩
 exact absurd hc b
theorem aCn(β:Base)(w:World)(J S q2 q6 q3 sc e n:Nat)(sa:Option Addr)(k:KS)(i:KI)(vs vr:Value)(ws wr_ wz:Value)(xs:Bs)(hl:xs.length≤sc)(hm:sc≤9223372036854775807)(hx:cX iK β.heap sa xs)(hk:k.fits 524288)(hb:xs.length≤65536)(hc:¬(pR k e n xs))(hw:St β [pt J (.cells #[pp S 0,Nx (i.epoch),Nx (i.next),vs,vr,Nx (i.size),.bool false] 143),pt q2 (.cells #[pp J 0] 89),pt q6 (.cells #[Nx (e),Nx (n),ws,wr_,wz] 109),pt q3 (.cells #[sB sa xs (sc)] 27),aP S k] w):Calls Tryz.prog 62 #[pp J 0,.func (.func 91) #[] #[pp q2 0,pp q6 0,pp q3 0]] w fun r w'=>r= .returned (.int .i64 310)∧St β [pt J (.cells #[pp S 0,Nx (i.epoch),Nx (i.next),vs,vr,Nx (i.size),.bool true] 143),pt q2 (.cells #[pp J 0] 89),pt q6 (.cells #[Nx (e),Nx (n),ws,wr_,wz] 109),pt q3 (.cells #[sB sa xs (sc)] 27),aP S (pM k e n xs)] w':=by
 refine(mI β w J 91 [pp q2 0,pp q6 0,pp q3 0] _ _ _ _ _ _ _ [pt q2 (.cells #[pp J 0] 89),pt q6 (.cells #[Nx (e),Nx (n),ws,wr_,wz] 109),pt q3 (.cells #[sB sa xs (sc)] 27),aP S k] [pt q2 (.cells #[pp J 0] 89),pt q6 (.cells #[Nx (e),Nx (n),ws,wr_,wz] 109),pt q3 (.cells #[sB sa xs (sc)] 27),aP S (pM k e n xs)] [pt q2 (.cells #[pp J 0] 89),pt q6 (.cells #[Nx (e),Nx (n),ws,wr_,wz] 109),pt q3 (.cells #[sB sa xs (sc)] 27),aP S (pM k e n xs)] (pR k e n xs) (¬(pR k e n xs)) (by kernel_rfl) hw (fun β' sb w hw=>aAt β' w J S q2 q6 q3 sc e n sa k i vs vr (.bool false) ws wr_ wz xs hl hm (cX.mono _ _ _ _ _ sb hx) hk hb hw)).mono fun r w' hh=> ?_
 rcases hh with⟨a,b,c⟩|⟨a,b,c⟩
 ·exact absurd b hc
 exact⟨a,c⟩
theorem aWu(β:Base)(w:World)(S:Nat)(k:KS)(hok:k.okP)(hpw:k.power≤9223372036854775807)(i:KI)(hri:oZ k=some i)(hcut:iS (k.area i.epoch) k.power i.size)(hw:St β [aP S k] w):Calls Tryz.prog 47 #[pp S 0] w fun r w'=>∃J,r= .returned (.tuple #[pp J 0,.int .i64 0])∧St β [eV J S i false,aP S (jO k i.epoch i.size)] w':=by
 have hfit:k.fits 524288:=aVp hok hpw
 refine enter (n:=31) Tryz.func47 rfl Tryz.ntmps47 rfl ?_ hw
 refine bE (bxp fun b1=> ?_)
 refine lE oap (lE bN (aN (eS (aC (lE (iI 0) (lv (v:= .bool false) (iL (p:=some (⟨S,0,none⟩)) rfl rfl bEn) (aN (cY rfl ?_))))))))
 refine eF (aL (aAe [1,0] 2 rfl (by kernel_rfl) (nK rfl (fun pH2 pA3 pB4 cH5 cA6 cB7=> ?_))))
 refine aC (lE (iI 4) (lE eM (lE (dD 0) ?_)))
 refine pN (cK (vs:=[.agg #[sB pH2 k.head cH5,sB pA3 k.a cA6,sB pB4 k.b cB7,Ix (k.power)]]) bHr.ok rfl rfl) rfl fun w β1 sb kn hw1 back=>(aGg β1 w hw1 k _ _ _ (kU kn 1 rfl) (kU kn 2 rfl) (kU kn 3 rfl) hok i hri).mono ?_
 rintro e w' ⟨ps8,pr9,cs10,cr11,rfl,hw'⟩
 refine⟨_,rfl,_,back _ _ hw',?_⟩
 refine lE oE (lE qS (lE pO (gB fun b12=>lu (mS 0 (#[Nx (i.epoch),Nx (i.next),sB ps8 i.state cs10,sB pr9 i.recs cr11,Nx (i.size)])) (lE bN ?_))))
 refine aN (eS (aC (lE aX (lE lC (aN (cY rfl (eF (bE (lE (iI 7) (lE (dD 0) ?_))))))))))
 refine lv (v:= .agg #[pp S 0,Nx (i.epoch),Nx (i.next),sB ps8 i.state cs10,sB pr9 i.recs cr11,Nx (i.size),.bool false]) (cR bHt.ok bHs (vs:=[(0,pp S 0),(1,.agg #[Nx (i.epoch),Nx (i.next),sB ps8 i.state cs10,sB pr9 i.recs cr11,Nx (i.size)])]) (cells:= #[pp S 0,Nx (i.epoch),Nx (i.next),sB ps8 i.state cs10,sB pr9 i.recs cr11,Nx (i.size),.bool false]) rfl rfl) ?_
 refine mA fun b13=> ?_
 refine gB fun b14=>lu (mS 0 (#[pp b13 0])) (aN (eS (aAe [5,6,7,8,0,1,2,3,4,9] 10 rfl (by kernel_rfl) ?_)))
 refine tR (S:=S) (k:=k) (pH:=pH2) (pA:=pA3) (pB:=pB4) (cH:=cH5) (cA:=cA6) (cB:=cB7) (M:=(pt b14 (.cells #[pp b13 0] 89)::pt b13 (.cells #[pp S 0,Nx (i.epoch),Nx (i.next),sB ps8 i.state cs10,sB pr9 i.recs cr11,Nx (i.size),.bool false] 143)::pt b12 (.cells #[Nx (i.epoch),Nx (i.next),sB ps8 i.state cs10,sB pr9 i.recs cr11,Nx (i.size)] 109)::rB ps8 i.state cs10::gI 27 pr9 cr11 i.recs::pt b1 (.cells #[pp S 0] 26)::[])) rfl ?_
 refine aC (lE (iI 1) ?_)
 refine lv (v:= .func (.func 89) #[] #[pp b14 0,pp b1 0,pp b12 0]) (mM (u:=[]) (v:=[pp b14 0,pp b1 0,pp b12 0]) rfl rfl) ?_
 refine aW rfl rfl rfl (cK (vs:=[pp b13 0,.func (.func 89) #[] #[pp b14 0,pp b1 0,pp b12 0]]) aTp.ok rfl rfl) ?_
 intro w hw
 replace hw:=hw.perm (L':=_::_::_::_::_::_::_::[]) (by exact(((((((aA 5 rfl).trans (aA 5 rfl)).trans (aA 2 rfl)).trans (aA 5 rfl)).trans (aA 6 rfl)).trans (aA 5 rfl)).trans (aA 6 rfl)))
 obtain⟨β1,sb,kn,hw1,back⟩:=St.frame (L:=[_,_,_,_,_]) (M:=_::_::[]) hw
 refine(aEq β1 w b13 S b14 b1 b12 k i (sB ps8 i.state cs10) (sB pr9 i.recs cr11) hfit hcut hw1).mono ?_
 rintro e w' ⟨rfl,hw'⟩
 refine⟨_,rfl,_,back _ _ hw',?_⟩
 refine lE bN (eY (lE aX (lE lC (aN (cY rfl (eF (bE (lE (iI 1) (lE oap (lE bN (aN (aT ?_))))))))))))
 refine nF (v:=pp b13 0) (v':= .int .i64 (0)) Tryz.results47 rfl rfl ?_
 intro w hw
 exact⟨_,rfl,St.closeJour (i:=i) (dn:=false) (M:=[aP S (jO k i.epoch i.size)]) (aF [true,true,true,true,false,false,false] rfl (hw.perm (L':=[pt b13 (.cells #[pp S 0,Nx (i.epoch),Nx (i.next),sB ps8 i.state cs10,sB pr9 i.recs cr11,Nx (i.size),.bool false] 143),rB ps8 i.state cs10,gI 27 pr9 cr11 i.recs,aP S (jO k i.epoch i.size),pt b14 (.cells #[pp b13 0] 89),pt b1 (.cells #[pp S 0] 26),pt b12 (.cells #[Nx (i.epoch),Nx (i.next),sB ps8 i.state cs10,sB pr9 i.recs cr11,Nx (i.size)] 109)]) (by exact(aV [0,5,6,4,1,2,3] 7 rfl (by kernel_rfl) (by kernel_rfl)))))⟩
theorem xM(β:Base)(w:World)(hw:St β [] w)(J S:Nat)(x1 x2 x3 x4 x5:Value)(dn:Bool)(hJ:Cs β.heap ⟨J,0,none⟩ [pp S 0,x1,x2,x3,x4,x5,.bool (dn)])(bs:Bs)(v:Value)(hs:Sl iK β.heap v bs)(c:Int)(hc:zC dn bs=c):oJ Tryz.prog 60 #[pp J 0,v] β w (.int .i64 c):=by
 subst hc
 exact aSn β w hw J S x1 x2 x3 x4 x5 dn hJ bs v hs
theorem aEo(β:Base)(w:World)(J S:Nat)(k:KS)(i:KI)(bs:Bs)(hlong:bs.length≤65536)(hfit:k.fits 524288)(hnl:i.next≤4611686018427387904)(hsz:i.size≤262144)(hrl:i.recs.length≤1048576)(hful:i.size+24+bs.length≤262144)(hnm:i.next≠4611686018427387904)(hc:¬xS k i bs)(v:Value)(hs:Sl iK β.heap v bs)(hw:St β [eV J S i false,aP S k] w):Calls Tryz.prog 38 #[pp J 0,v] w fun r w'=>r= .returned (.tuple #[.int .i64 0,.int .i64 310])∧St β [eV J S i true,aP S (apS k i bs)] w':=by
 obtain⟨va,vc,rfl,vl,vm,ve⟩:=hs.get
 obtain⟨ps,pr,cs,cr,hw⟩:=St.openJour hw
 refine enter (n:=83) Tryz.func38 rfl Tryz.ntmps38 rfl ?_ hw
 refine bE (bxp fun b1=> ?_)
 refine lE bN (lE bN (aN (eS (aC (lE (iI 0) (lE fN ?_))))))
 refine iF iE (fun w β1 sb kn hw1=>xM β1 w hw1 J S (Nx (i.epoch)) (Nx (i.next)) (sB ps i.state cs) (sB pr i.recs cr) (Nx (i.size)) false (kn _ (bY 1 rfl rfl)) bs _ (Sl.mono _ _ _ _ _ sb (⟨⟨_,_,rfl,vl,vm,ve⟩⟩:Sl iK _ _ bs)) (0) ((if_neg (by omega)).trans (if_neg (by decide)))) ?_
 refine lE bN (eY (lE aX (lE lC (aN (cY rfl (eF (bE (lE (iI 0) (lE eM (lE aY (gB fun b2=>lu (mS 0 (#[pp J 1])) (aN (eS (aC ?_))))))))))))))
 refine lE (iI 0) (lE eM (lE aY (lE (cQ 2) (lv (v:=Nx (i.size+24)) (bX rfl rfl (dA (by omega) (by omega))) (lE fN (lE gO ?_))))))
 refine lv (v:=Nx ((i.size+24)+bs.length)) (bX rfl rfl (dA (by omega) (by omega))) (lE oG (lE fJ ?_))
 refine eJ (s:=28) rfl (fun h=> ?_) (fun h=> ?_)
 exact absurd h (by omega)
 refine gE (iI 0) (gE eM (gE aY (gE (cQ 2) (gE eZ (lE dP (aN (cG _ rfl (fun hc3=> ?_) (fun hc3=> ?_))))))))
 ·exact absurd hc3 (by omega)
 refine eF (aL ?_)
 refine jH [sv 35 (pp J 1) [] [] [0],sv 36 (pp J 1) [0] [0] [],sv 37 (pp J 1) [0,1] [1] [],sv 38 (Nx (i.epoch)) [0,1,2] [2] [],sv 39 (pp J 1) [] [] [0],sv 40 (pp J 1) [4] [4] [],sv 41 (pp J 2) [4,5] [5] [],sv 42 (Nx (i.next)) [4,5,6] [6] [],sv 43 (sB va bs (vc)) [] [] [1],⟨(List.range 9),[3,7,8],[],[44],fun f=>f 44=sB (dG (f 44)) (bP ((i.epoch:Nat):Int) ((i.next:Nat):Int) bs) (dH (f 44))⟩,⟨[],[],[],[8],fun f=>f 8= .pointer (some ⟨(cU (f 8)),0,none⟩)⟩,⟨(List.range 11),[10,9],[],[],fun _=>True⟩] [u1 [0,4],u0,u1 [3,7]] [⟨(some 9),none,[],[44],fun f=>rB (dG (f 44)) (bP ((i.epoch:Nat):Int) ((i.next:Nat):Int) bs) (dH (f 44))⟩,⟨(some 10),(some 11),[11],[8],fun f=>pt (cU (f 8)) (.cells #[.slice none 0 0] 27)⟩,⟨(some 11),none,[],[8,44],fun f=>pt (cU (f 8)) (.cells #[sB (dG (f 44)) (bP ((i.epoch:Nat):Int) ((i.next:Nat):Int) bs) (dH (f 44))] 27)⟩] [(7,pp b2 0),(1,sB va bs (vc)),(2,pp b1 0)] [1,2,0] ⟨rfl,rfl,rfl,trivial⟩ ⟨?_,?_,?_,?_,?_,?_,?_,?_,?_,?_,?_,?_,trivial⟩ ?_
 ·rintro f M-⟨i0,-⟩
  exact aU (iI 0)
 ·rintro f M ⟨k0,-⟩-
  exact aU eM
 ·rintro f M ⟨k0,-⟩-
  exact aU aY
 ·rintro f M ⟨k0,-⟩-
  exact aU (cQ 0)
 ·rintro f M-⟨i0,-⟩
  exact aU (iI 0)
 ·rintro f M ⟨k0,-⟩-
  exact aU eM
 ·rintro f M ⟨k0,-⟩-
  exact aU aY
 ·rintro f M ⟨k0,-⟩-
  exact aU (cQ 0)
 ·rintro f M-⟨i0,-⟩
  exact aU fN
 ·rintro f M ⟨k0,k1,k2,-⟩-
  refine dU (aB (d:=43) (aB (d:=42) (aB (d:=38) rfl k0) k1) k2) ?_
  refine pN (cK (vs:=[Nx (i.epoch),Nx (i.next),sB va bs (vc)]) aXv.ok rfl rfl) rfl fun w β1 sb kn hw1 back=>(xE β1 w hw1 ((i.epoch:Nat):Int) ((i.next:Nat):Int) bs _ (by omega) (Sl.mono _ _ _ _ _ sb (⟨⟨_,_,rfl,vl,vm,ve⟩⟩:Sl iK _ _ bs))).mono ?_
  rintro e w' ⟨p6,c7,rfl,hw'⟩
  refine⟨_,rfl,_,back _ _ hw',?_⟩
  refine aH ?_
  exact aO (aB (d:=43) (aB (d:=42) (aB (d:=38) rfl k0) k1) k2) rfl (aA 0 rfl)
 ·rintro f M- -
  refine dU rfl ?_
  refine gB fun b9=>aH ?_
  exact aO rfl rfl (aA 0 rfl)
 ·rintro f M ⟨k0,k1,-⟩-
  have hs8:f 8= .pointer (some ⟨(cU (f 8)),0,none⟩):=k0
  have hs44:f 44=sB (dG (f 44)) (bP ((i.epoch:Nat):Int) ((i.next:Nat):Int) bs) (dH (f 44)):=k1
  refine dU (aB (aB rfl hs8) hs44) ?_
  refine lu (mS 0 (#[sB (dG (f 44)) (bP ((i.epoch:Nat):Int) ((i.next:Nat):Int) bs) (dH (f 44))])) (aH ?_)
  exact bB (aB (aB rfl hs8) hs44) trivial (aA 0 rfl)
 rintro fa10 ⟨-,-,-,-,-,-,-,-,-,-,k10,-,-⟩ ⟨j0,j1,j2,-⟩
 refine jI ?_
 refine aD (d:=1) j0 (aD (d:=2) j1 (aD (d:=7) j2 (aD (d:=8) k10 (rT (bE (lE (iI 1) ?_))))))
 refine lv (v:= .func (.func 63) #[] #[pp b1 0,pp b2 0,.pointer (some ⟨(cU (fa10 8)),0,none⟩)]) (mM (u:=[]) (v:=[pp b1 0,pp b2 0,.pointer (some ⟨(cU (fa10 8)),0,none⟩)]) rfl rfl) ?_
 refine aW rfl rfl rfl (cK (vs:=[pp J 0,.func (.func 63) #[] #[pp b1 0,pp b2 0,.pointer (some ⟨(cU (fa10 8)),0,none⟩)]]) aTp.ok rfl rfl) ?_
 intro w hw
 replace hw:=hw.perm (L':=_::_::_::_::_::_::_::_::[]) (by exact((((((((aA 4 rfl).trans (aA 4 rfl)).trans (aA 5 rfl)).trans (aA 6 rfl)).trans (aA 7 rfl)).trans (aA 5 rfl)).trans (aA 6 rfl)).trans (aA 7 rfl)))
 obtain⟨β1,sb,kn,hw1,back⟩:=St.frame (L:=[_,_,_,_,_,_]) (M:=_::_::[]) hw
 refine(aAc β1 w J S b1 b2 (cU (fa10 8)) (dH (fa10 44)) (dG (fa10 44)) k i (sB ps i.state cs) (sB pr i.recs cr) (bP ((i.epoch:Nat):Int) ((i.next:Nat):Int) bs) hfit (by rw[dC];omega) (by omega) hc hw1).mono ?_
 rintro e w' ⟨rfl,hw'⟩
 refine⟨_,rfl,_,back _ _ hw',?_⟩
 refine lE bN (eY (lE aX (lE lC (aN (dL rfl (bE (lE aX (lE bN (lE bN (aN (aT (aI ?_))))))))))))
 refine nF (v:= .int .i64 (0)) (v':= .int .i64 (310)) Tryz.results38 rfl rfl ?_
 intro w hw
 exact⟨rfl,St.closeJour (i:=i) (dn:=true) (M:=[aP S (sE k i.epoch i.size (bP ((i.epoch:Nat):Int) ((i.next:Nat):Int) bs))]) (aF [true,true,true,true,false,false,false,false] rfl (hw.perm (L':=[pt J (.cells #[pp S 0,Nx (i.epoch),Nx (i.next),sB ps i.state cs,sB pr i.recs cr,Nx (i.size),.bool true] 143),rB ps i.state cs,gI 27 pr cr i.recs,aP S (sE k i.epoch i.size (bP ((i.epoch:Nat):Int) ((i.next:Nat):Int) bs)),pt b1 (.cells #[pp J 0] 89),pt b2 (.cells #[pp J 1] 141),pt (cU (fa10 8)) (.cells #[sB (dG (fa10 44)) (bP ((i.epoch:Nat):Int) ((i.next:Nat):Int) bs) (dH (fa10 44))] 27),rB (dG (fa10 44)) (bP ((i.epoch:Nat):Int) ((i.next:Nat):Int) bs) (dH (fa10 44))]) (by exact(aV [0,6,7,5,1,2,3,4] 8 rfl (by kernel_rfl) (by kernel_rfl)))))⟩
theorem aLp(β:Base)(w:World)(J S:Nat)(k:KS)(i:KI)(bs:Bs)(hlong:bs.length≤65536)(hfit:k.fits 524288)(hnl:i.next≤4611686018427387904)(hsz:i.size≤262144)(hrl:i.recs.length≤1048576)(hful:i.size+24+bs.length≤262144)(hnm:i.next≠4611686018427387904)(hc:xS k i bs)(v:Value)(hs:Sl iK β.heap v bs)(hw:St β [eV J S i false,aP S k] w):Calls Tryz.prog 38 #[pp J 0,v] w fun r w'=>r= .returned (.tuple #[Nx i.next,.int .i64 0])∧St β [eV J S (apI i bs) false,aP S (apS k i bs)] w':=by
 obtain⟨va,vc,rfl,vl,vm,ve⟩:=hs.get
 obtain⟨ps,pr,cs,cr,hw⟩:=St.openJour hw
 refine enter (n:=83) Tryz.func38 rfl Tryz.ntmps38 rfl ?_ hw
 refine bE (bxp fun b1=> ?_)
 refine lE bN (lE bN (aN (eS (aC (lE (iI 0) (lE fN ?_))))))
 refine iF iE (fun w β1 sb kn hw1=>xM β1 w hw1 J S (Nx (i.epoch)) (Nx (i.next)) (sB ps i.state cs) (sB pr i.recs cr) (Nx (i.size)) false (kn _ (bY 1 rfl rfl)) bs _ (Sl.mono _ _ _ _ _ sb (⟨⟨_,_,rfl,vl,vm,ve⟩⟩:Sl iK _ _ bs)) (0) ((if_neg (by omega)).trans (if_neg (by decide)))) ?_
 refine lE bN (eY (lE aX (lE lC (aN (cY rfl (eF (bE (lE (iI 0) (lE eM (lE aY (gB fun b2=>lu (mS 0 (#[pp J 1])) (aN (eS (aC ?_))))))))))))))
 refine lE (iI 0) (lE eM (lE aY (lE (cQ 2) (lv (v:=Nx (i.size+24)) (bX rfl rfl (dA (by omega) (by omega))) (lE fN (lE gO ?_))))))
 refine lv (v:=Nx ((i.size+24)+bs.length)) (bX rfl rfl (dA (by omega) (by omega))) (lE oG (lE fJ ?_))
 refine eJ (s:=28) rfl (fun h=> ?_) (fun h=> ?_)
 exact absurd h (by omega)
 refine gE (iI 0) (gE eM (gE aY (gE (cQ 2) (gE eZ (lE dP (aN (cG _ rfl (fun hc3=> ?_) (fun hc3=> ?_))))))))
 ·exact absurd hc3 (by omega)
 refine eF (aL ?_)
 refine jH [sv 35 (pp J 1) [] [] [0],sv 36 (pp J 1) [0] [0] [],sv 37 (pp J 1) [0,1] [1] [],sv 38 (Nx (i.epoch)) [0,1,2] [2] [],sv 39 (pp J 1) [] [] [0],sv 40 (pp J 1) [4] [4] [],sv 41 (pp J 2) [4,5] [5] [],sv 42 (Nx (i.next)) [4,5,6] [6] [],sv 43 (sB va bs (vc)) [] [] [1],⟨(List.range 9),[3,7,8],[],[44],fun f=>f 44=sB (dG (f 44)) (bP ((i.epoch:Nat):Int) ((i.next:Nat):Int) bs) (dH (f 44))⟩,⟨[],[],[],[8],fun f=>f 8= .pointer (some ⟨(cU (f 8)),0,none⟩)⟩,⟨(List.range 11),[10,9],[],[],fun _=>True⟩] [u1 [0,4],u0,u1 [3,7]] [⟨(some 9),none,[],[44],fun f=>rB (dG (f 44)) (bP ((i.epoch:Nat):Int) ((i.next:Nat):Int) bs) (dH (f 44))⟩,⟨(some 10),(some 11),[11],[8],fun f=>pt (cU (f 8)) (.cells #[.slice none 0 0] 27)⟩,⟨(some 11),none,[],[8,44],fun f=>pt (cU (f 8)) (.cells #[sB (dG (f 44)) (bP ((i.epoch:Nat):Int) ((i.next:Nat):Int) bs) (dH (f 44))] 27)⟩] [(7,pp b2 0),(1,sB va bs (vc)),(2,pp b1 0)] [1,2,0] ⟨rfl,rfl,rfl,trivial⟩ ⟨?_,?_,?_,?_,?_,?_,?_,?_,?_,?_,?_,?_,trivial⟩ ?_
 ·rintro f M-⟨i0,-⟩
  exact aU (iI 0)
 ·rintro f M ⟨k0,-⟩-
  exact aU eM
 ·rintro f M ⟨k0,-⟩-
  exact aU aY
 ·rintro f M ⟨k0,-⟩-
  exact aU (cQ 0)
 ·rintro f M-⟨i0,-⟩
  exact aU (iI 0)
 ·rintro f M ⟨k0,-⟩-
  exact aU eM
 ·rintro f M ⟨k0,-⟩-
  exact aU aY
 ·rintro f M ⟨k0,-⟩-
  exact aU (cQ 0)
 ·rintro f M-⟨i0,-⟩
  exact aU fN
 ·rintro f M ⟨k0,k1,k2,-⟩-
  refine dU (aB (d:=43) (aB (d:=42) (aB (d:=38) rfl k0) k1) k2) ?_
  refine pN (cK (vs:=[Nx (i.epoch),Nx (i.next),sB va bs (vc)]) aXv.ok rfl rfl) rfl fun w β1 sb kn hw1 back=>(xE β1 w hw1 ((i.epoch:Nat):Int) ((i.next:Nat):Int) bs _ (by omega) (Sl.mono _ _ _ _ _ sb (⟨⟨_,_,rfl,vl,vm,ve⟩⟩:Sl iK _ _ bs))).mono ?_
  rintro e w' ⟨p6,c7,rfl,hw'⟩
  refine⟨_,rfl,_,back _ _ hw',?_⟩
  refine aH ?_
  exact aO (aB (d:=43) (aB (d:=42) (aB (d:=38) rfl k0) k1) k2) rfl (aA 0 rfl)
 ·rintro f M- -
  refine dU rfl ?_
  refine gB fun b9=>aH ?_
  exact aO rfl rfl (aA 0 rfl)
 ·rintro f M ⟨k0,k1,-⟩-
  have hs8:f 8= .pointer (some ⟨(cU (f 8)),0,none⟩):=k0
  have hs44:f 44=sB (dG (f 44)) (bP ((i.epoch:Nat):Int) ((i.next:Nat):Int) bs) (dH (f 44)):=k1
  refine dU (aB (aB rfl hs8) hs44) ?_
  refine lu (mS 0 (#[sB (dG (f 44)) (bP ((i.epoch:Nat):Int) ((i.next:Nat):Int) bs) (dH (f 44))])) (aH ?_)
  exact bB (aB (aB rfl hs8) hs44) trivial (aA 0 rfl)
 rintro fa10 ⟨-,-,-,-,-,-,-,-,-,-,k10,-,-⟩ ⟨j0,j1,j2,-⟩
 refine jI ?_
 refine aD (d:=1) j0 (aD (d:=2) j1 (aD (d:=7) j2 (aD (d:=8) k10 (rT (bE (lE (iI 1) ?_))))))
 refine lv (v:= .func (.func 63) #[] #[pp b1 0,pp b2 0,.pointer (some ⟨(cU (fa10 8)),0,none⟩)]) (mM (u:=[]) (v:=[pp b1 0,pp b2 0,.pointer (some ⟨(cU (fa10 8)),0,none⟩)]) rfl rfl) ?_
 refine aW rfl rfl rfl (cK (vs:=[pp J 0,.func (.func 63) #[] #[pp b1 0,pp b2 0,.pointer (some ⟨(cU (fa10 8)),0,none⟩)]]) aTp.ok rfl rfl) ?_
 intro w hw
 replace hw:=hw.perm (L':=_::_::_::_::_::_::_::_::[]) (by exact((((((((aA 4 rfl).trans (aA 4 rfl)).trans (aA 5 rfl)).trans (aA 6 rfl)).trans (aA 7 rfl)).trans (aA 5 rfl)).trans (aA 6 rfl)).trans (aA 7 rfl)))
 obtain⟨β1,sb,kn,hw1,back⟩:=St.frame (L:=[_,_,_,_,_,_]) (M:=_::_::[]) hw
 refine(aAd β1 w J S b1 b2 (cU (fa10 8)) (dH (fa10 44)) (dG (fa10 44)) k i (sB ps i.state cs) (sB pr i.recs cr) (bP ((i.epoch:Nat):Int) ((i.next:Nat):Int) bs) hfit (by rw[dC];omega) (by omega) hc hw1).mono ?_
 rintro e w' ⟨rfl,hw'⟩
 refine⟨_,rfl,_,back _ _ hw',?_⟩
 refine lE bN (eY (lE aX (lE lC (aN (cY rfl (eF (aL ?_)))))))
 refine jH [sv 51 (pp J 1) [] [] [0],sv 52 (pp J 1) [] [] [0],sv 53 (pp J 1) [1] [1] [],sv 54 (pp J 4) [1,2] [2] [],sv 55 (sB pr i.recs cr) [1,2,3] [3] [],sv 56 (sB va bs (vc)) [] [] [1],⟨[5],[5],[],[57],fun f=>f 57=sB (dG (f 57)) bs (dH (f 57))⟩,⟨[5,6],[6],[],[58],fun f=>f 58= .slice (some ⟨(cU (f 58)),0,none⟩) 1 1⟩,⟨[1,2,3,4,5,6,7],[4,7],[],[59],fun f=>f 59=sB (dG (f 59)) ((i.recs++[bs])) (dH (f 59))⟩,sv 60 (pp J 1) (List.range 9) [0] [],sv 61 (pp J 4) (List.range 10) [9] [],⟨(List.range 11),[10,8],[],[],fun _=>True⟩] [(some 11,[4,11]),u0,u1 [0,1],u0,u0,u0,u0,(some 8,[8])] [⟨(some 6),(some 8),[8],[57],fun f=>rB (dG (f 57)) bs (dH (f 57))⟩,⟨(some 7),none,[8],[57,58],fun f=>pt (cU (f 58)) (.cells #[sB (dG (f 57)) bs (dH (f 57))] 27)⟩,⟨(some 8),none,[],[59],fun f=>gI 27 (dG (f 59)) (dH (f 59)) (i.recs++[bs])⟩,⟨(some 11),none,[],[59],fun f=>pt J (.cells #[pp S 0,Nx (i.epoch),Nx (i.next),sB ps i.state cs,sB (dG (f 59)) ((i.recs++[bs])) (dH (f 59)),Nx (i.size),.bool false] 143)⟩] [(7,pp b2 0),(1,sB va bs (vc)),(8,.pointer (some ⟨(cU (fa10 8)),0,none⟩))] [0,2] ⟨rfl,rfl,rfl,trivial⟩ ⟨?_,?_,?_,?_,?_,?_,?_,?_,?_,?_,?_,?_,trivial⟩ ?_
 ·rintro f M-⟨i0,-⟩
  exact aU (iI 0)
 ·rintro f M-⟨i0,-⟩
  exact aU (iI 0)
 ·rintro f M ⟨k0,-⟩-
  exact aU eM
 ·rintro f M ⟨k0,-⟩-
  exact aU aY
 ·rintro f M ⟨k0,-⟩-
  exact aU (fR 0)
 ·rintro f M-⟨i0,-⟩
  exact aU fN
 ·rintro f M ⟨k0,-⟩-
  refine dU (aB (d:=56) rfl k0) ?_
  refine pN (cK (vs:=[sB va bs (vc)]) aOa.ok rfl rfl) rfl fun w β1 sb kn hw1 back=>(lF β1 w hw1 bs _ (by omega) (Sl.mono _ _ _ _ _ sb (⟨⟨_,_,rfl,vl,vm,ve⟩⟩:Sl iK _ _ bs))).mono ?_
  rintro e w' ⟨p13,c14,rfl,hw'⟩
  refine⟨_,rfl,_,back _ _ hw',?_⟩
  refine aH ?_
  exact aO (aB (d:=56) rfl k0) rfl (aA 0 rfl)
 ·rintro f M ⟨k0,-⟩-
  have hs57:f 57=sB (dG (f 57)) bs (dH (f 57)):=k0
  refine dU (aB rfl hs57) ?_
  refine dX rfl rfl rfl (dO aOb bCd.ok (cells:= #[sB (dG (f 57)) bs (dH (f 57))]) rfl rfl rfl rfl) ?_
  rintro _ _ ⟨b16,rfl,rfl⟩
  refine aH ?_
  exact aO (aB rfl hs57) rfl (aA 0 rfl)
 ·rintro f M ⟨k0,k1,-⟩-
  have hs58:f 58= .slice (some ⟨(cU (f 58)),0,none⟩) 1 1:=k1
  refine dU (aB (aB (d:=55) rfl k0) hs58) ?_
  refine aDa (L':=(gI 27 pr cr i.recs::rB (dG (f 57)) bs (dH (f 57))::pt (cU (f 58)) (.cells #[sB (dG (f 57)) bs (dH (f 57))] 27)::M)) (List.Perm.refl _) ?_
  refine dX rfl rfl rfl (qX (xs:=i.recs) (bs:=bs) (b:=(cU (f 58))) rfl aOb bCe rfl rfl (by omega) (by omega)) ?_
  rintro _ _ ⟨rp19,rc20,rfl,rfl⟩
  refine aH ?_
  exact aO (aB (aB (d:=55) rfl k0) hs58) rfl ((aA 0 rfl).trans (aA 1 rfl))
 ·rintro f M ⟨k0,-⟩-
  exact aU eM
 ·rintro f M ⟨k0,-⟩-
  exact aU aY
 ·rintro f M ⟨k0,k1,-⟩-
  have hs59:f 59=sB (dG (f 59)) ((i.recs++[bs])) (dH (f 59)):=k1
  refine dU (aB (aB (d:=61) rfl k0) hs59) ?_
  refine lu (mS 0 (#[pp S 0,Nx (i.epoch),Nx (i.next),sB ps i.state cs,sB (dG (f 59)) ((i.recs++[bs])) (dH (f 59)),Nx (i.size),.bool false])) ?_
  refine aH ?_
  exact bB (aB (aB (d:=61) rfl k0) hs59) trivial (aA 0 rfl)
 rintro fa21 ⟨-,-,-,-,-,-,-,-,-,-,-,-,-⟩ ⟨j0,j1,-⟩
 refine jI ?_
 refine aD (d:=7) j0 (aD (d:=8) j1 (rT ?_))
 have hfl:=dC ((i.epoch:Nat):Int) ((i.next:Nat):Int) bs
 refine jH [sv 62 (pp J 1) [] [] [0],sv 63 (pp J 1) [0] [0] [],sv 64 (pp J 5) [0,1] [1] [],sv 65 (Nx (i.size)) [0,1,2] [2] [],sv 66 (sB (dG (fa10 44)) (bP ((i.epoch:Nat):Int) ((i.next:Nat):Int) bs) (dH (fa10 44))) [] [] [1],sv 67 (Nx ((bP ((i.epoch:Nat):Int) ((i.next:Nat):Int) bs).length)) [4] [4] [],sv 68 (Nx (i.size+((bP ((i.epoch:Nat):Int) ((i.next:Nat):Int) bs).length))) (List.range 6) [3,5] [],sv 69 (pp J 1) (List.range 7) [0] [],sv 70 (pp J 5) (List.range 8) [7] [],⟨(List.range 9),[8,6],[],[],fun _=>True⟩] [u0,u1 [0],u1 [4],u0,u0,u0,u0,u0,(some 9,[3,9])] [⟨(some 9),none,[],[],fun _=>pt J (.cells #[pp S 0,Nx (i.epoch),Nx (i.next),sB ps i.state cs,sB (dG (fa21 59)) ((i.recs++[bs])) (dH (fa21 59)),Nx (i.size+((bP ((i.epoch:Nat):Int) ((i.next:Nat):Int) bs).length)),.bool false] 143)⟩] [(7,pp b2 0),(8,.pointer (some ⟨(cU (fa10 8)),0,none⟩))] [0] ⟨rfl,rfl,trivial⟩ ⟨?_,?_,?_,?_,?_,?_,?_,?_,?_,?_,trivial⟩ ?_
 ·rintro f M-⟨i0,-⟩
  exact aU (iI 0)
 ·rintro f M ⟨k0,-⟩-
  exact aU eM
 ·rintro f M ⟨k0,-⟩-
  exact aU aY
 ·rintro f M ⟨k0,-⟩-
  exact aU (cQ 0)
 ·rintro f M-⟨i0,-⟩
  exact aU (fR 0)
 ·rintro f M ⟨k0,-⟩-
  exact aU gO
 ·rintro f M ⟨k0,k1,-⟩-
  exact hO (aB (d:=67) (aB (d:=65) rfl k0) k1) rfl (bX (a:=((i.size:Nat):Int)) (b:=(((bP ((i.epoch:Nat):Int) ((i.next:Nat):Int) bs).length:Nat):Int)) rfl rfl (dA (by omega) (by omega))) (.refl _)
 ·rintro f M ⟨k0,-⟩-
  exact aU eM
 ·rintro f M ⟨k0,-⟩-
  exact aU aY
 ·rintro f M ⟨k0,k1,-⟩-
  refine dU (aB (d:=68) (aB (d:=70) rfl k0) k1) ?_
  refine lu (mS 0 (#[pp S 0,Nx (i.epoch),Nx (i.next),sB ps i.state cs,sB (dG (fa21 59)) ((i.recs++[bs])) (dH (fa21 59)),Nx (i.size+((bP ((i.epoch:Nat):Int) ((i.next:Nat):Int) bs).length)),.bool false])) ?_
  refine aH ?_
  exact bB (aB (d:=68) (aB (d:=70) rfl k0) k1) trivial (aA 0 rfl)
 rintro fa22 ⟨-,-,-,-,-,-,-,-,-,-,-⟩ ⟨j0,-⟩
 refine jI ?_
 refine aD (d:=7) j0 (kM (lE (iI 1) (lE eM (lE aY (lE (cQ 8) (lv (v:=Nx (i.next+1)) (bX rfl rfl (dA (by omega) (by omega))) ?_))))))
 refine lE eM (lE aY ?_)
 refine lu (mS 8 (#[pp S 0,Nx (i.epoch),Nx (i.next+1),sB ps i.state cs,sB (dG (fa21 59)) ((i.recs++[bs])) (dH (fa21 59)),Nx (i.size+((bP ((i.epoch:Nat):Int) ((i.next:Nat):Int) bs).length)),.bool false])) ?_
 refine eY (lE (iI 1) (lE eM (lE aY (lE (cQ 8) (lE omn (lE bN (lE bN (aN (aT ?_)))))))))
 refine nF (v:=Ix (((i.next+1:Nat):Int)-(1:Int))) (v':= .int .i64 (0)) Tryz.results38 rfl rfl ?_
 intro w hw
 refine⟨congrArg (fun z:Int=>Ending.returned (.tuple #[Ix z,.int .i64 0])) (by omega),?_⟩
 exact St.closeJour (i:=apI i bs) (dn:=false) (M:=[aP S (sE k i.epoch i.size (bP ((i.epoch:Nat):Int) ((i.next:Nat):Int) bs))]) (aF [true,true,true,true,false,false,false,false,false] rfl (hw.perm (L':=[pt J (.cells #[pp S 0,Nx (i.epoch),Nx (i.next+1),sB ps i.state cs,sB (dG (fa21 59)) ((i.recs++[bs])) (dH (fa21 59)),Nx (i.size+((bP ((i.epoch:Nat):Int) ((i.next:Nat):Int) bs).length)),.bool false] 143),rB ps i.state cs,gI 27 (dG (fa21 59)) (dH (fa21 59)) (i.recs++[bs]),aP S (sE k i.epoch i.size (bP ((i.epoch:Nat):Int) ((i.next:Nat):Int) bs)),pt b1 (.cells #[pp J 0] 89),pt b2 (.cells #[pp J 1] 141),pt (cU (fa10 8)) (.cells #[sB (dG (fa10 44)) (bP ((i.epoch:Nat):Int) ((i.next:Nat):Int) bs) (dH (fa10 44))] 27),rB (dG (fa10 44)) (bP ((i.epoch:Nat):Int) ((i.next:Nat):Int) bs) (dH (fa10 44)),pt (cU (fa21 58)) (.cells #[sB (dG (fa21 57)) bs (dH (fa21 57))] 27)]) (by exact(aV [8,5,7,4,0,1,2,3,6] 9 rfl (by kernel_rfl) (by kernel_rfl)))))
theorem append_nil(β:Base)(w:World)(hw:St β [] w)(v:Value):oJ Tryz.prog 38 #[.pointer none,v] β w (.tuple #[.int .i64 0,.int .i64 1]):=by
 refine enter (n:=83) Tryz.func38 rfl Tryz.ntmps38 rfl ?_ hw
 refine bE (bxp fun b1=> ?_)
 refine lE bN (lE bN (aN (eS (aC (lE (iI 0) (lv cC (iF iE (fun w β1 sb kn hw1=>aNf β1 w hw1 _) (lE bN (eY (lE aX ?_))))))))))
 refine lE lC (aN (dL rfl (bE (lE aX (lE bN (lE bN (aN (aT (aI ?_)))))))))
 refine nF (v:= .int .i64 (0)) (v':= .int .i64 (1)) Tryz.results38 rfl rfl ?_
 intro w hw
 exact⟨rfl,aF [false] rfl hw⟩
theorem aEx(β:Base)(w:World)(J S:Nat)(k:KS)(i:KI)(bs:Bs)(hlong:bs.length≤65536)(hfit:k.fits 524288)(hful:i.epoch<4611686018427387903)(hc:¬pR k (i.epoch+1) i.next bs)(v:Value)(hs:Sl iK β.heap v bs)(hw:St β [eV J S i false,aP S k] w):Calls Tryz.prog 48 #[pp J 0,v] w fun r w'=>r= .returned (.int .i64 310)∧St β [eV J S i true,aP S (pM k (i.epoch+1) i.next bs)] w':=by
 obtain⟨va,vc,rfl,vl,vm,ve⟩:=hs.get
 obtain⟨ps,pr,cs,cr,hw⟩:=St.openJour hw
 refine enter (n:=47) Tryz.func48 rfl Tryz.ntmps48 rfl ?_ hw
 refine bE (bxp fun b1=> ?_)
 refine bxs fun b2=> ?_
 refine lE bN (aN (eS (aC (lE (iI 1) (lE (fR 0) ?_)))))
 refine iF iE (fun w β1 sb kn hw1=>xM β1 w hw1 J S (Nx (i.epoch)) (Nx (i.next)) (sB ps i.state cs) (sB pr i.recs cr) (Nx (i.size)) false (kn _ (bY 2 rfl rfl)) bs _ (Sl.mono _ _ _ _ _ sb (⟨⟨_,_,rfl,vl,vm,ve⟩⟩:Sl iK _ _ bs)) (0) ((if_neg (by omega)).trans (if_neg (by decide)))) ?_
 refine lE bN (eY (lE aX (lE lC (aN (cY rfl (eF (eS (aC (lE (iI 1) (lE eM (lE aY (lE aY (lE (cQ 2) (lE eZ (aN ?_)))))))))))))))
 refine cG _ rfl (fun hc3=> ?_) (fun hc3=> ?_)
 ·exact absurd hc3 (by omega)
 refine eF (aL ?_)
 refine jH [sv 20 (pp J 0) [] [] [0],sv 21 (pp J 0) [0] [0] [],sv 22 (pp J 1) [0,1] [1] [],sv 23 (pp J 1) [0,1,2] [2] [],sv 24 (Nx (i.epoch)) [0,1,2,3] [3] [],sv 25 (Nx (i.epoch+1)) [0,1,2,3,4] [4] [],sv 26 (pp J 0) [] [] [0],sv 27 (pp J 0) [6] [6] [],sv 28 (pp J 1) [6,7] [7] [],sv 29 (pp J 2) [6,7,8] [8] [],sv 30 (Nx (i.next)) [6,7,8,9] [9] [],sv 31 (sB va bs (vc)) [] [] [1],⟨[11],[11],[],[32],fun f=>f 32=sB (dG (f 32)) bs (dH (f 32))⟩,sv 33 (sB va bs (vc)) [] [] [1],sv 34 (Nx (bs.length)) [13] [13] [],sv 35 (Nx (24+bs.length)) [13,14] [14] [],⟨(List.range 16),[5,10,12,15],[],[32,36],fun f=>f 36= .agg #[Nx (i.epoch+1),Nx (i.next),sB (dG (f 32)) bs (dH (f 32)),.slice none 0 0,Nx (24+bs.length)]⟩,⟨[],[],[],[6],fun f=>f 6= .pointer (some ⟨(cU (f 6)),0,none⟩)⟩,⟨(List.range 18),[17,16],[],[],fun _=>True⟩] [u1 [11,13],u1 [0,6],u1 [4,10]] [⟨(some 12),none,[],[32],fun f=>rB (dG (f 32)) bs (dH (f 32))⟩,⟨(some 17),(some 18),[18],[6],fun f=>pt (cU (f 6)) (.cells #[.int .i64 (0),.int .i64 (0),.slice none 0 0,.slice none 0 0,.int .i64 (0)] 109)⟩,⟨(some 18),none,[],[6,32],fun f=>pt (cU (f 6)) (.cells #[Nx (i.epoch+1),Nx (i.next),sB (dG (f 32)) bs (dH (f 32)),.slice none 0 0,Nx (24+bs.length)] 109)⟩] [(2,pp b1 0),(3,pp b2 0)] [0,1] ⟨rfl,rfl,trivial⟩ ⟨?_,?_,?_,?_,?_,?_,?_,?_,?_,?_,?_,?_,?_,?_,?_,?_,?_,?_,?_,trivial⟩ ?_
 ·rintro f M-⟨i0,-⟩
  exact aU (iI 0)
 ·rintro f M ⟨k0,-⟩-
  exact aU eM
 ·rintro f M ⟨k0,-⟩-
  exact aU aY
 ·rintro f M ⟨k0,-⟩-
  exact aU aY
 ·rintro f M ⟨k0,-⟩-
  exact aU (cQ 0)
 ·rintro f M ⟨k0,-⟩-
  exact hO (aB (d:=24) rfl k0) rfl (bX (a:=((i.epoch:Nat):Int)) (b:=(1:Int)) rfl rfl (dA (by omega) (by omega))) (.refl _)
 ·rintro f M-⟨i0,-⟩
  exact aU (iI 0)
 ·rintro f M ⟨k0,-⟩-
  exact aU eM
 ·rintro f M ⟨k0,-⟩-
  exact aU aY
 ·rintro f M ⟨k0,-⟩-
  exact aU aY
 ·rintro f M ⟨k0,-⟩-
  exact aU (cQ 0)
 ·rintro f M-⟨i0,-⟩
  exact aU (fR 0)
 ·rintro f M ⟨k0,-⟩-
  refine dU (aB (d:=31) rfl k0) ?_
  refine pN (cK (vs:=[sB va bs (vc)]) aOa.ok rfl rfl) rfl fun w β1 sb kn hw1 back=>(lF β1 w hw1 bs _ (by omega) (Sl.mono _ _ _ _ _ sb (⟨⟨_,_,rfl,vl,vm,ve⟩⟩:Sl iK _ _ bs))).mono ?_
  rintro e w' ⟨p6,c7,rfl,hw'⟩
  refine⟨_,rfl,_,back _ _ hw',?_⟩
  refine aH ?_
  exact aO (aB (d:=31) rfl k0) rfl (aA 0 rfl)
 ·rintro f M-⟨i0,-⟩
  exact aU (fR 0)
 ·rintro f M ⟨k0,-⟩-
  exact aU gO
 ·rintro f M ⟨k0,-⟩-
  exact hO (aB (d:=34) rfl k0) rfl (bX (a:=(24:Int)) (b:=((bs.length:Nat):Int)) rfl rfl (dA (by omega) (by omega))) (.refl _)
 ·rintro f M ⟨k0,k1,k2,k3,-⟩-
  have hs32:f 32=sB (dG (f 32)) bs (dH (f 32)):=k2
  exact hO (aB (d:=35) (aB (aB (d:=30) (aB (d:=25) rfl k0) k1) hs32) k3) rfl (cR aTn.ok aTo (vs:=[(0,Nx (i.epoch+1)),(1,Nx (i.next)),(2,sB (dG (f 32)) bs (dH (f 32))),(4,Nx (24+bs.length))]) (cells:= #[Nx (i.epoch+1),Nx (i.next),sB (dG (f 32)) bs (dH (f 32)),.slice none 0 0,Nx (24+bs.length)]) rfl rfl) (.refl _)
 ·rintro f M- -
  refine dU rfl ?_
  refine gB fun b9=>aH ?_
  exact aO rfl rfl (aA 0 rfl)
 ·rintro f M ⟨k0,k1,-⟩-
  have hs6:f 6= .pointer (some ⟨(cU (f 6)),0,none⟩):=k0
  have hs36:f 36= .agg #[Nx (i.epoch+1),Nx (i.next),sB (dG (f 32)) bs (dH (f 32)),.slice none 0 0,Nx (24+bs.length)]:=k1
  refine dU (aB (aB rfl hs6) hs36) ?_
  refine lu (mS 0 (#[Nx (i.epoch+1),Nx (i.next),sB (dG (f 32)) bs (dH (f 32)),.slice none 0 0,Nx (24+bs.length)])) (aH ?_)
  exact bB (aB (aB rfl hs6) hs36) trivial (aA 0 rfl)
 rintro fa10 ⟨-,-,-,-,-,-,-,-,-,-,-,-,-,-,-,-,-,k17,-,-⟩ ⟨j0,j1,-⟩
 refine jI ?_
 refine aD (d:=2) j0 (aD (d:=3) j1 (aD (d:=6) k17 (kM (lE (iI 1) ?_))))
 refine lv (v:= .func (.func 91) #[] #[pp b1 0,.pointer (some ⟨(cU (fa10 6)),0,none⟩),pp b2 0]) (mM (u:=[]) (v:=[pp b1 0,.pointer (some ⟨(cU (fa10 6)),0,none⟩),pp b2 0]) rfl rfl) ?_
 refine aW rfl rfl rfl (cK (vs:=[pp J 0,.func (.func 91) #[] #[pp b1 0,.pointer (some ⟨(cU (fa10 6)),0,none⟩),pp b2 0]]) aTp.ok rfl rfl) ?_
 intro w hw
 replace hw:=hw.perm (L':=_::_::_::_::_::_::_::_::[]) (by exact((((((((aA 6 rfl).trans (aA 5 rfl)).trans (aA 5 rfl)).trans (aA 6 rfl)).trans (aA 4 rfl)).trans (aA 7 rfl)).trans (aA 6 rfl)).trans (aA 7 rfl)))
 obtain⟨β1,sb,kn,hw1,back⟩:=St.frame (L:=[_,_,_,_,_]) (M:=_::_::_::[]) hw
 refine(aCn β1 w J S b1 (cU (fa10 6)) b2 vc (i.epoch+1) i.next va k i (sB ps i.state cs) (sB pr i.recs cr) (sB (dG (fa10 32)) bs (dH (fa10 32))) (.slice none 0 0) (Nx (24+bs.length)) bs (by omega) (by omega) (cX.mono _ _ _ _ _ sb ve) hfit (by omega) hc hw1).mono ?_
 rintro e w' ⟨rfl,hw'⟩
 refine⟨_,rfl,_,back _ _ hw',?_⟩
 refine lE bN (aN (eS (aC (lE aX (lE eZ (aN (cY rfl (eF (bE (lE aX (lE bN (aN (aT (cZ Tryz.results48 rfl ?_))))))))))))))
 intro w hw
 exact⟨rfl,St.closeJour (i:=i) (dn:=true) (M:=[aP S (pM k (i.epoch+1) i.next bs)]) (aF [true,true,true,true,false,false,false,false] rfl (hw.perm (L':=[pt J (.cells #[pp S 0,Nx (i.epoch),Nx (i.next),sB ps i.state cs,sB pr i.recs cr,Nx (i.size),.bool true] 143),rB ps i.state cs,gI 27 pr cr i.recs,aP S (pM k (i.epoch+1) i.next bs),pt b1 (.cells #[pp J 0] 89),pt (cU (fa10 6)) (.cells #[Nx (i.epoch+1),Nx (i.next),sB (dG (fa10 32)) bs (dH (fa10 32)),.slice none 0 0,Nx (24+bs.length)] 109),pt b2 (.cells #[sB va bs (vc)] 27),rB (dG (fa10 32)) bs (dH (fa10 32))]) (by exact(aV [0,5,6,4,1,2,3,7] 8 rfl (by kernel_rfl) (by kernel_rfl)))))⟩
theorem aLw(β:Base)(w:World)(J S:Nat)(k:KS)(i:KI)(bs:Bs)(hlong:bs.length≤65536)(hfit:k.fits 524288)(hful:i.epoch<4611686018427387903)(hc:pR k (i.epoch+1) i.next bs)(v:Value)(hs:Sl iK β.heap v bs)(hw:St β [eV J S i false,aP S k] w):Calls Tryz.prog 48 #[pp J 0,v] w fun r w'=>r= .returned (.int .i64 0)∧St β [eV J S (tS i bs) false,aP S (pM k (i.epoch+1) i.next bs)] w':=by
 obtain⟨va,vc,rfl,vl,vm,ve⟩:=hs.get
 obtain⟨ps,pr,cs,cr,hw⟩:=St.openJour hw
 refine enter (n:=47) Tryz.func48 rfl Tryz.ntmps48 rfl ?_ hw
 refine bE (bxp fun b1=> ?_)
 refine bxs fun b2=> ?_
 refine lE bN (aN (eS (aC (lE (iI 1) (lE (fR 0) ?_)))))
 refine iF iE (fun w β1 sb kn hw1=>xM β1 w hw1 J S (Nx (i.epoch)) (Nx (i.next)) (sB ps i.state cs) (sB pr i.recs cr) (Nx (i.size)) false (kn _ (bY 2 rfl rfl)) bs _ (Sl.mono _ _ _ _ _ sb (⟨⟨_,_,rfl,vl,vm,ve⟩⟩:Sl iK _ _ bs)) (0) ((if_neg (by omega)).trans (if_neg (by decide)))) ?_
 refine lE bN (eY (lE aX (lE lC (aN (cY rfl (eF (eS (aC (lE (iI 1) (lE eM (lE aY (lE aY (lE (cQ 2) (lE eZ (aN ?_)))))))))))))))
 refine cG _ rfl (fun hc3=> ?_) (fun hc3=> ?_)
 ·exact absurd hc3 (by omega)
 refine eF (aL ?_)
 refine jH [sv 20 (pp J 0) [] [] [0],sv 21 (pp J 0) [0] [0] [],sv 22 (pp J 1) [0,1] [1] [],sv 23 (pp J 1) [0,1,2] [2] [],sv 24 (Nx (i.epoch)) [0,1,2,3] [3] [],sv 25 (Nx (i.epoch+1)) [0,1,2,3,4] [4] [],sv 26 (pp J 0) [] [] [0],sv 27 (pp J 0) [6] [6] [],sv 28 (pp J 1) [6,7] [7] [],sv 29 (pp J 2) [6,7,8] [8] [],sv 30 (Nx (i.next)) [6,7,8,9] [9] [],sv 31 (sB va bs (vc)) [] [] [1],⟨[11],[11],[],[32],fun f=>f 32=sB (dG (f 32)) bs (dH (f 32))⟩,sv 33 (sB va bs (vc)) [] [] [1],sv 34 (Nx (bs.length)) [13] [13] [],sv 35 (Nx (24+bs.length)) [13,14] [14] [],⟨(List.range 16),[5,10,12,15],[],[32,36],fun f=>f 36= .agg #[Nx (i.epoch+1),Nx (i.next),sB (dG (f 32)) bs (dH (f 32)),.slice none 0 0,Nx (24+bs.length)]⟩,⟨[],[],[],[6],fun f=>f 6= .pointer (some ⟨(cU (f 6)),0,none⟩)⟩,⟨(List.range 18),[17,16],[],[],fun _=>True⟩] [u1 [11,13],u1 [0,6],u1 [4,10]] [⟨(some 12),none,[],[32],fun f=>rB (dG (f 32)) bs (dH (f 32))⟩,⟨(some 17),(some 18),[18],[6],fun f=>pt (cU (f 6)) (.cells #[.int .i64 (0),.int .i64 (0),.slice none 0 0,.slice none 0 0,.int .i64 (0)] 109)⟩,⟨(some 18),none,[],[6,32],fun f=>pt (cU (f 6)) (.cells #[Nx (i.epoch+1),Nx (i.next),sB (dG (f 32)) bs (dH (f 32)),.slice none 0 0,Nx (24+bs.length)] 109)⟩] [(2,pp b1 0),(3,pp b2 0)] [0,1] ⟨rfl,rfl,trivial⟩ ⟨?_,?_,?_,?_,?_,?_,?_,?_,?_,?_,?_,?_,?_,?_,?_,?_,?_,?_,?_,trivial⟩ ?_
 ·rintro f M-⟨i0,-⟩
  exact aU (iI 0)
 ·rintro f M ⟨k0,-⟩-
  exact aU eM
 ·rintro f M ⟨k0,-⟩-
  exact aU aY
 ·rintro f M ⟨k0,-⟩-
  exact aU aY
 ·rintro f M ⟨k0,-⟩-
  exact aU (cQ 0)
 ·rintro f M ⟨k0,-⟩-
  exact hO (aB (d:=24) rfl k0) rfl (bX (a:=((i.epoch:Nat):Int)) (b:=(1:Int)) rfl rfl (dA (by omega) (by omega))) (.refl _)
 ·rintro f M-⟨i0,-⟩
  exact aU (iI 0)
 ·rintro f M ⟨k0,-⟩-
  exact aU eM
 ·rintro f M ⟨k0,-⟩-
  exact aU aY
 ·rintro f M ⟨k0,-⟩-
  exact aU aY
 ·rintro f M ⟨k0,-⟩-
  exact aU (cQ 0)
 ·rintro f M-⟨i0,-⟩
  exact aU (fR 0)
 ·rintro f M ⟨k0,-⟩-
  refine dU (aB (d:=31) rfl k0) ?_
  refine pN (cK (vs:=[sB va bs (vc)]) aOa.ok rfl rfl) rfl fun w β1 sb kn hw1 back=>(lF β1 w hw1 bs _ (by omega) (Sl.mono _ _ _ _ _ sb (⟨⟨_,_,rfl,vl,vm,ve⟩⟩:Sl iK _ _ bs))).mono ?_
  rintro e w' ⟨p6,c7,rfl,hw'⟩
  refine⟨_,rfl,_,back _ _ hw',?_⟩
  refine aH ?_
  exact aO (aB (d:=31) rfl k0) rfl (aA 0 rfl)
 ·rintro f M-⟨i0,-⟩
  exact aU (fR 0)
 ·rintro f M ⟨k0,-⟩-
  exact aU gO
 ·rintro f M ⟨k0,-⟩-
  exact hO (aB (d:=34) rfl k0) rfl (bX (a:=(24:Int)) (b:=((bs.length:Nat):Int)) rfl rfl (dA (by omega) (by omega))) (.refl _)
 ·rintro f M ⟨k0,k1,k2,k3,-⟩-
  have hs32:f 32=sB (dG (f 32)) bs (dH (f 32)):=k2
  exact hO (aB (d:=35) (aB (aB (d:=30) (aB (d:=25) rfl k0) k1) hs32) k3) rfl (cR aTn.ok aTo (vs:=[(0,Nx (i.epoch+1)),(1,Nx (i.next)),(2,sB (dG (f 32)) bs (dH (f 32))),(4,Nx (24+bs.length))]) (cells:= #[Nx (i.epoch+1),Nx (i.next),sB (dG (f 32)) bs (dH (f 32)),.slice none 0 0,Nx (24+bs.length)]) rfl rfl) (.refl _)
 ·rintro f M- -
  refine dU rfl ?_
  refine gB fun b9=>aH ?_
  exact aO rfl rfl (aA 0 rfl)
 ·rintro f M ⟨k0,k1,-⟩-
  have hs6:f 6= .pointer (some ⟨(cU (f 6)),0,none⟩):=k0
  have hs36:f 36= .agg #[Nx (i.epoch+1),Nx (i.next),sB (dG (f 32)) bs (dH (f 32)),.slice none 0 0,Nx (24+bs.length)]:=k1
  refine dU (aB (aB rfl hs6) hs36) ?_
  refine lu (mS 0 (#[Nx (i.epoch+1),Nx (i.next),sB (dG (f 32)) bs (dH (f 32)),.slice none 0 0,Nx (24+bs.length)])) (aH ?_)
  exact bB (aB (aB rfl hs6) hs36) trivial (aA 0 rfl)
 rintro fa10 ⟨-,-,-,-,-,-,-,-,-,-,-,-,-,-,-,-,-,k17,-,-⟩ ⟨j0,j1,-⟩
 refine jI ?_
 refine aD (d:=2) j0 (aD (d:=3) j1 (aD (d:=6) k17 (kM (lE (iI 1) ?_))))
 refine lv (v:= .func (.func 91) #[] #[pp b1 0,.pointer (some ⟨(cU (fa10 6)),0,none⟩),pp b2 0]) (mM (u:=[]) (v:=[pp b1 0,.pointer (some ⟨(cU (fa10 6)),0,none⟩),pp b2 0]) rfl rfl) ?_
 refine aW rfl rfl rfl (cK (vs:=[pp J 0,.func (.func 91) #[] #[pp b1 0,.pointer (some ⟨(cU (fa10 6)),0,none⟩),pp b2 0]]) aTp.ok rfl rfl) ?_
 intro w hw
 replace hw:=hw.perm (L':=_::_::_::_::_::_::_::_::[]) (by exact((((((((aA 6 rfl).trans (aA 5 rfl)).trans (aA 5 rfl)).trans (aA 6 rfl)).trans (aA 4 rfl)).trans (aA 7 rfl)).trans (aA 6 rfl)).trans (aA 7 rfl)))
 obtain⟨β1,sb,kn,hw1,back⟩:=St.frame (L:=[_,_,_,_,_]) (M:=_::_::_::[]) hw
 refine(aCo β1 w J S b1 (cU (fa10 6)) b2 vc (i.epoch+1) i.next va k i (sB ps i.state cs) (sB pr i.recs cr) (sB (dG (fa10 32)) bs (dH (fa10 32))) (.slice none 0 0) (Nx (24+bs.length)) bs (by omega) (by omega) (cX.mono _ _ _ _ _ sb ve) hfit (by omega) hc hw1).mono ?_
 rintro e w' ⟨rfl,hw'⟩
 refine⟨_,rfl,_,back _ _ hw',?_⟩
 refine lE bN (aN (eS (aC (lE aX (lE eZ (aN (dL rfl (aC (lE (iI 1) (lE (dD 2) (lE eM (lE aY ?_))))))))))))
 refine lu (mS 0 (#[pp S 0,Nx (i.epoch+1),Nx (i.next),sB (dG (fa10 32)) bs (dH (fa10 32)),.slice none 0 0,Nx (24+bs.length),.bool false])) ?_
 refine eY (lE aX (lE bN (aN (aT (cZ Tryz.results48 rfl ?_)))))
 intro w hw
 replace hw:=hw.emp (zE 27 _)
 exact⟨rfl,St.closeJour (i:=tS i bs) (dn:=false) (M:=[aP S (pM k (i.epoch+1) i.next bs)]) (aF [true,true,true,true,false,false,false,false,false] rfl (hw.perm (L':=[pt J (.cells #[pp S 0,Nx (i.epoch+1),Nx (i.next),sB (dG (fa10 32)) bs (dH (fa10 32)),.slice none 0 0,Nx (24+bs.length),.bool false] 143),rB (dG (fa10 32)) bs (dH (fa10 32)),gI 27 none 0 [],aP S (pM k (i.epoch+1) i.next bs),pt b1 (.cells #[pp J 0] 89),pt (cU (fa10 6)) (.cells #[Nx (i.epoch+1),Nx (i.next),sB (dG (fa10 32)) bs (dH (fa10 32)),.slice none 0 0,Nx (24+bs.length)] 109),pt b2 (.cells #[sB va bs (vc)] 27),rB ps i.state cs,gI 27 pr cr i.recs]) (by exact(aV [1,8,0,5,2,3,4,6,7] 9 rfl (by kernel_rfl) (by kernel_rfl)))))⟩
end Go.Proofs
