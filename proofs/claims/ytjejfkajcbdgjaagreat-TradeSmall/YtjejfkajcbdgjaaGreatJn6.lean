/-
 Open,Append,Checkpoint,walked. Printed by a program of my own.
-/
import Derived.Test.YtjejfkajcbdgjaaGreatJn5
set_option linter.all false
set_option maxHeartbeats 4000000
namespace Go.Proofs
open Go Go.Sl Go.Jn
theorem aWe{k:KS}(h:k.okP)(hp:k.power≤9223372036854775807):k.fits 524288:=by
 unfold KS.okP at h
 exact⟨by omega,by omega,by omega,hp⟩
instance bIs:CfC Tryz.prog 45:={}
theorem bIt:xC Tryz.prog 143 [(0,1),(1,5),(6,1)]=true:=by kernel_rfl
instance bIu:ZerC Tryz.prog 143 (.agg #[.pointer none,.int .i64 (0),.int .i64 (0),.slice none 0 0,.slice none 0 0,.int .i64 (0),.bool false]):={}
instance tf72:ZerC Tryz.prog 89 (.pointer none):={}
instance aUf:CfC Tryz.prog 62:={}
instance tf74:CfC Tryz.prog 60:={}
instance tf75:FldC Tryz.prog 143 1 1 5 true:={}
instance tf76:ZerC Tryz.prog 141 (.pointer none):={}
theorem aGt(β:Base)(w:World)(hw:St β [] w)(k:KS)(vh va vb:Value)(hH:Sl iT β.heap vh k.head)(hA:Sl iT β.heap va k.a)(hB:Sl iT β.heap vb k.b)(h:k.okP)(i:KI)(h2:pK k=some i):Calls Tryz.prog 45 #[.agg #[vh,va,vb,Ix k.power]] w fun r w'=>∃ps pr cs cr,r= .returned (.tuple #[.agg #[Nx i.epoch,Nx i.next,sB ps i.state cs,sB pr i.recs cr,Nx i.size],.int .i64 0])∧St β [rB ps i.state cs,gQ 27 pr cr i.recs] w':=by
 refine(aXp β w hw k vh va vb hH hA hB).mono fun r w' hh=> ?_
 rcases hh with⟨_,b,_⟩|⟨_,_,b,_⟩|⟨j,_,b,hh⟩
 ·exact absurd h b
 ·rw[h2]at b;cases b
 rw[h2]at b;injection b with b;subst b;exact hh
theorem aFc(β:Base)(w:World)(J S q6 q1 q4:Nat)(k:KS)(i:KI)(vs vr:Value)(hk:k.fits 524288)(hc:jB (k.area i.epoch) k.power i.size)(hw:St β [pt J (.cells #[pp S 0,Nx (i.epoch),Nx (i.next),vs,vr,Nx (i.size),.bool false] 143),pt q6 (.cells #[pp J 0] 89),pt q1 (.cells #[pp S 0] 26),pt q4 (.cells #[Nx (i.epoch),Nx (i.next),vs,vr,Nx (i.size)] 109),aQ S k] w):Calls Tryz.prog 62 #[pp J 0,.func (.func 89) #[] #[pp q6 0,pp q1 0,pp q4 0]] w fun r w'=>r= .returned (.int .i64 0)∧St β [pt J (.cells #[pp S 0,Nx (i.epoch),Nx (i.next),vs,vr,Nx (i.size),.bool false] 143),pt q6 (.cells #[pp J 0] 89),pt q1 (.cells #[pp S 0] 26),pt q4 (.cells #[Nx (i.epoch),Nx (i.next),vs,vr,Nx (i.size)] 109),aQ S (jV k i.epoch i.size)] w':=by
 refine(mT β w J 89 [pp q6 0,pp q1 0,pp q4 0] _ _ _ _ _ _ _ [pt q6 (.cells #[pp J 0] 89),pt q1 (.cells #[pp S 0] 26),pt q4 (.cells #[Nx (i.epoch),Nx (i.next),vs,vr,Nx (i.size)] 109),aQ S k] [pt q6 (.cells #[pp J 0] 89),pt q1 (.cells #[pp S 0] 26),pt q4 (.cells #[Nx (i.epoch),Nx (i.next),vs,vr,Nx (i.size)] 109),aQ S (jV k i.epoch i.size)] [pt q6 (.cells #[pp J 0] 89),pt q1 (.cells #[pp S 0] 26),pt q4 (.cells #[Nx (i.epoch),Nx (i.next),vs,vr,Nx (i.size)] 109),aQ S k] (jB (k.area i.epoch) k.power i.size) (¬(jB (k.area i.epoch) k.power i.size)) (by kernel_rfl) hw (fun β' sb w hw=>aSn β' w J S q6 q1 q4 k i vs vr (.bool false) hk hw)).mono fun r w' hh=> ?_
 rcases hh with⟨a,b,c⟩|⟨a,b,c⟩
 ·exact⟨a,c⟩
 exact absurd hc b
theorem aAq(β:Base)(w:World)(J S q2 q7 q8 cb:Nat)(pb:Option Addr)(k:KS)(i:KI)(vs vr:Value)(fb:Bs)(hk:k.fits 524288)(hb:fb.length≤131072)(hsz:i.size≤524288)(hc:kV k.power fb)(hw:St β [pt J (.cells #[pp S 0,Nx (i.epoch),Nx (i.next),vs,vr,Nx (i.size),.bool false] 143),pt q2 (.cells #[pp J 0] 89),pt q7 (.cells #[pp J 1] 141),pt q8 (.cells #[sB pb fb cb] 27),rB pb fb cb,aQ S k] w):Calls Tryz.prog 62 #[pp J 0,.func (.func 63) #[] #[pp q2 0,pp q7 0,pp q8 0]] w fun r w'=>r= .returned (.int .i64 0)∧St β [pt J (.cells #[pp S 0,Nx (i.epoch),Nx (i.next),vs,vr,Nx (i.size),.bool false] 143),pt q2 (.cells #[pp J 0] 89),pt q7 (.cells #[pp J 1] 141),pt q8 (.cells #[sB pb fb cb] 27),rB pb fb cb,aQ S (sR k i.epoch i.size fb)] w':=by
 refine(mT β w J 63 [pp q2 0,pp q7 0,pp q8 0] _ _ _ _ _ _ _ [pt q2 (.cells #[pp J 0] 89),pt q7 (.cells #[pp J 1] 141),pt q8 (.cells #[sB pb fb cb] 27),rB pb fb cb,aQ S k] [pt q2 (.cells #[pp J 0] 89),pt q7 (.cells #[pp J 1] 141),pt q8 (.cells #[sB pb fb cb] 27),rB pb fb cb,aQ S (sR k i.epoch i.size fb)] [pt q2 (.cells #[pp J 0] 89),pt q7 (.cells #[pp J 1] 141),pt q8 (.cells #[sB pb fb cb] 27),rB pb fb cb,aQ S (sR k i.epoch i.size fb)] (kV k.power fb) (¬(kV k.power fb)) (by kernel_rfl) hw (fun β' sb w hw=>yI β' w J S q2 q7 q8 cb pb k i vs vr (.bool false) fb hk hb hsz hw)).mono fun r w' hh=> ?_
 rcases hh with⟨a,b,c⟩|⟨a,b,c⟩
 ·exact⟨a,c⟩
 exact absurd hc b
theorem aAp(β:Base)(w:World)(J S q2 q7 q8 cb:Nat)(pb:Option Addr)(k:KS)(i:KI)(vs vr:Value)(fb:Bs)(hk:k.fits 524288)(hb:fb.length≤131072)(hsz:i.size≤524288)(hc:¬(kV k.power fb))(hw:St β [pt J (.cells #[pp S 0,Nx (i.epoch),Nx (i.next),vs,vr,Nx (i.size),.bool false] 143),pt q2 (.cells #[pp J 0] 89),pt q7 (.cells #[pp J 1] 141),pt q8 (.cells #[sB pb fb cb] 27),rB pb fb cb,aQ S k] w):Calls Tryz.prog 62 #[pp J 0,.func (.func 63) #[] #[pp q2 0,pp q7 0,pp q8 0]] w fun r w'=>r= .returned (.int .i64 310)∧St β [pt J (.cells #[pp S 0,Nx (i.epoch),Nx (i.next),vs,vr,Nx (i.size),.bool true] 143),pt q2 (.cells #[pp J 0] 89),pt q7 (.cells #[pp J 1] 141),pt q8 (.cells #[sB pb fb cb] 27),rB pb fb cb,aQ S (sR k i.epoch i.size fb)] w':=by
 refine(mT β w J 63 [pp q2 0,pp q7 0,pp q8 0] _ _ _ _ _ _ _ [pt q2 (.cells #[pp J 0] 89),pt q7 (.cells #[pp J 1] 141),pt q8 (.cells #[sB pb fb cb] 27),rB pb fb cb,aQ S k] [pt q2 (.cells #[pp J 0] 89),pt q7 (.cells #[pp J 1] 141),pt q8 (.cells #[sB pb fb cb] 27),rB pb fb cb,aQ S (sR k i.epoch i.size fb)] [pt q2 (.cells #[pp J 0] 89),pt q7 (.cells #[pp J 1] 141),pt q8 (.cells #[sB pb fb cb] 27),rB pb fb cb,aQ S (sR k i.epoch i.size fb)] (kV k.power fb) (¬(kV k.power fb)) (by kernel_rfl) hw (fun β' sb w hw=>yI β' w J S q2 q7 q8 cb pb k i vs vr (.bool false) fb hk hb hsz hw)).mono fun r w' hh=> ?_
 rcases hh with⟨a,b,c⟩|⟨a,b,c⟩
 ·exact absurd b hc
 exact⟨a,c⟩
theorem aDa(β:Base)(w:World)(J S q2 q6 q3 sc e n:Nat)(sa:Option Addr)(k:KS)(i:KI)(vs vr:Value)(ws wr_ wz:Value)(xs:Bs)(hl:xs.length≤sc)(hm:sc≤9223372036854775807)(hx:dH iT β.heap sa xs)(hk:k.fits 524288)(hb:xs.length≤65536)(hc:qB k e n xs)(hw:St β [pt J (.cells #[pp S 0,Nx (i.epoch),Nx (i.next),vs,vr,Nx (i.size),.bool false] 143),pt q2 (.cells #[pp J 0] 89),pt q6 (.cells #[Nx (e),Nx (n),ws,wr_,wz] 109),pt q3 (.cells #[sB sa xs (sc)] 27),aQ S k] w):Calls Tryz.prog 62 #[pp J 0,.func (.func 91) #[] #[pp q2 0,pp q6 0,pp q3 0]] w fun r w'=>r= .returned (.int .i64 0)∧St β [pt J (.cells #[pp S 0,Nx (i.epoch),Nx (i.next),vs,vr,Nx (i.size),.bool false] 143),pt q2 (.cells #[pp J 0] 89),pt q6 (.cells #[Nx (e),Nx (n),ws,wr_,wz] 109),pt q3 (.cells #[sB sa xs (sc)] 27),aQ S (pU k e n xs)] w':=by
 refine(mT β w J 91 [pp q2 0,pp q6 0,pp q3 0] _ _ _ _ _ _ _ [pt q2 (.cells #[pp J 0] 89),pt q6 (.cells #[Nx (e),Nx (n),ws,wr_,wz] 109),pt q3 (.cells #[sB sa xs (sc)] 27),aQ S k] [pt q2 (.cells #[pp J 0] 89),pt q6 (.cells #[Nx (e),Nx (n),ws,wr_,wz] 109),pt q3 (.cells #[sB sa xs (sc)] 27),aQ S (pU k e n xs)] [pt q2 (.cells #[pp J 0] 89),pt q6 (.cells #[Nx (e),Nx (n),ws,wr_,wz] 109),pt q3 (.cells #[sB sa xs (sc)] 27),aQ S (pU k e n xs)] (qB k e n xs) (¬(qB k e n xs)) (by kernel_rfl) hw (fun β' sb w hw=>aBe β' w J S q2 q6 q3 sc e n sa k i vs vr (.bool false) ws wr_ wz xs hl hm (dH.mono _ _ _ _ _ sb hx) hk hb hw)).mono fun r w' hh=> ?_
 rcases hh with⟨a,b,c⟩|⟨a,b,c⟩
 ·exact⟨a,c⟩
 exact absurd hc b
theorem aCz(β:Base)(w:World)(J S q2 q6 q3 sc e n:Nat)(sa:Option Addr)(k:KS)(i:KI)(vs vr:Value)(ws wr_ wz:Value)(xs:Bs)(hl:xs.length≤sc)(hm:sc≤9223372036854775807)(hx:dH iT β.heap sa xs)(hk:k.fits 524288)(hb:xs.length≤65536)(hc:¬(qB k e n xs))(hw:St β [pt J (.cells #[pp S 0,Nx (i.epoch),Nx (i.next),vs,vr,Nx (i.size),.bool false] 143),pt q2 (.cells #[pp J 0] 89),pt q6 (.cells #[Nx (e),Nx (n),ws,wr_,wz] 109),pt q3 (.cells #[sB sa xs (sc)] 27),aQ S k] w):Calls Tryz.prog 62 #[pp J 0,.func (.func 91) #[] #[pp q2 0,pp q6 0,pp q3 0]] w fun r w'=>r= .returned (.int .i64 310)∧St β [pt J (.cells #[pp S 0,Nx (i.epoch),Nx (i.next),vs,vr,Nx (i.size),.bool true] 143),pt q2 (.cells #[pp J 0] 89),pt q6 (.cells #[Nx (e),Nx (n),ws,wr_,wz] 109),pt q3 (.cells #[sB sa xs (sc)] 27),aQ S (pU k e n xs)] w':=by
 refine(mT β w J 91 [pp q2 0,pp q6 0,pp q3 0] _ _ _ _ _ _ _ [pt q2 (.cells #[pp J 0] 89),pt q6 (.cells #[Nx (e),Nx (n),ws,wr_,wz] 109),pt q3 (.cells #[sB sa xs (sc)] 27),aQ S k] [pt q2 (.cells #[pp J 0] 89),pt q6 (.cells #[Nx (e),Nx (n),ws,wr_,wz] 109),pt q3 (.cells #[sB sa xs (sc)] 27),aQ S (pU k e n xs)] [pt q2 (.cells #[pp J 0] 89),pt q6 (.cells #[Nx (e),Nx (n),ws,wr_,wz] 109),pt q3 (.cells #[sB sa xs (sc)] 27),aQ S (pU k e n xs)] (qB k e n xs) (¬(qB k e n xs)) (by kernel_rfl) hw (fun β' sb w hw=>aBe β' w J S q2 q6 q3 sc e n sa k i vs vr (.bool false) ws wr_ wz xs hl hm (dH.mono _ _ _ _ _ sb hx) hk hb hw)).mono fun r w' hh=> ?_
 rcases hh with⟨a,b,c⟩|⟨a,b,c⟩
 ·exact absurd b hc
 exact⟨a,c⟩
theorem aXk(β:Base)(w:World)(S:Nat)(k:KS)(hok:k.okP)(hpw:k.power≤9223372036854775807)(i:KI)(hri:pK k=some i)(hcut:jB (k.area i.epoch) k.power i.size)(hw:St β [aQ S k] w):Calls Tryz.prog 47 #[pp S 0] w fun r w'=>∃J,r= .returned (.tuple #[pp J 0,.int .i64 0])∧St β [fA J S i false,aQ S (jV k i.epoch i.size)] w':=by
 have hfit:k.fits 524288:=aWe hok hpw
 refine enter (n:=31) Tryz.func47 rfl Tryz.ntmps47 rfl ?_ hw
 refine bD (bxp fun b1=> ?_)
 refine lE oap (lE bN (aN (eR (aC (lE (iR 0) (lv (v:= .bool false) (iV (p:=some (⟨S,0,none⟩)) rfl rfl bFk) (aN (cR rfl ?_))))))))
 refine eB (aL (sU [1,0] 2 rfl (by kernel_rfl) (nT rfl (fun pH2 pA3 pB4 cH5 cA6 cB7=> ?_))))
 refine aC (lE (iR 4) (lE eS (lE (dK 0) ?_)))
 refine pV (cT (vs:=[.agg #[sB pH2 k.head cH5,sB pA3 k.a cA6,sB pB4 k.b cB7,Ix (k.power)]]) bIs.ok rfl rfl) rfl fun w β1 sb kn hw1 back=>(aGt β1 w hw1 k _ _ _ (kU kn 1 rfl) (kU kn 2 rfl) (kU kn 3 rfl) hok i hri).mono ?_
 rintro e w' ⟨ps8,pr9,cs10,cr11,rfl,hw'⟩
 refine⟨_,rfl,_,back _ _ hw',?_⟩
 refine lE oM (lE rG (lE pW (gB fun b12=>lu (mS 0 (#[Nx (i.epoch),Nx (i.next),sB ps8 i.state cs10,sB pr9 i.recs cr11,Nx (i.size)])) (lE bN ?_))))
 refine aN (eR (aC (lE aU (lE lO (aN (cR rfl (eB (bD (lE (iR 7) (lE (dK 0) ?_))))))))))
 refine lv (v:= .agg #[pp S 0,Nx (i.epoch),Nx (i.next),sB ps8 i.state cs10,sB pr9 i.recs cr11,Nx (i.size),.bool false]) (bV bIu.ok bIt (vs:=[(0,pp S 0),(1,.agg #[Nx (i.epoch),Nx (i.next),sB ps8 i.state cs10,sB pr9 i.recs cr11,Nx (i.size)])]) (cells:= #[pp S 0,Nx (i.epoch),Nx (i.next),sB ps8 i.state cs10,sB pr9 i.recs cr11,Nx (i.size),.bool false]) rfl rfl) ?_
 refine mL fun b13=> ?_
 refine gB fun b14=>lu (mS 0 (#[pp b13 0])) (aN (eR (sU [5,6,7,8,0,1,2,3,4,9] 10 rfl (by kernel_rfl) ?_)))
 refine uH (S:=S) (k:=k) (pH:=pH2) (pA:=pA3) (pB:=pB4) (cH:=cH5) (cA:=cA6) (cB:=cB7) (M:=(pt b14 (.cells #[pp b13 0] 89)::pt b13 (.cells #[pp S 0,Nx (i.epoch),Nx (i.next),sB ps8 i.state cs10,sB pr9 i.recs cr11,Nx (i.size),.bool false] 143)::pt b12 (.cells #[Nx (i.epoch),Nx (i.next),sB ps8 i.state cs10,sB pr9 i.recs cr11,Nx (i.size)] 109)::rB ps8 i.state cs10::gQ 27 pr9 cr11 i.recs::pt b1 (.cells #[pp S 0] 26)::[])) rfl ?_
 refine aC (lE (iR 1) ?_)
 refine lv (v:= .func (.func 89) #[] #[pp b14 0,pp b1 0,pp b12 0]) (mW (u:=[]) (v:=[pp b14 0,pp b1 0,pp b12 0]) rfl rfl) ?_
 refine aX rfl rfl rfl (cT (vs:=[pp b13 0,.func (.func 89) #[] #[pp b14 0,pp b1 0,pp b12 0]]) aUf.ok rfl rfl) ?_
 intro w hw
 replace hw:=hw.perm (L':=_::_::_::_::_::_::_::[]) (by exact(((((((aB 5 rfl).trans (aB 5 rfl)).trans (aB 2 rfl)).trans (aB 5 rfl)).trans (aB 6 rfl)).trans (aB 5 rfl)).trans (aB 6 rfl)))
 obtain⟨β1,sb,kn,hw1,back⟩:=St.frame (L:=[_,_,_,_,_]) (M:=_::_::[]) hw
 refine(aFc β1 w b13 S b14 b1 b12 k i (sB ps8 i.state cs10) (sB pr9 i.recs cr11) hfit hcut hw1).mono ?_
 rintro e w' ⟨rfl,hw'⟩
 refine⟨_,rfl,_,back _ _ hw',?_⟩
 refine lE bN (eY (lE aU (lE lO (aN (cR rfl (eB (bD (lE (iR 1) (lE oap (lE bN (aN (aV ?_))))))))))))
 refine nO (v:=pp b13 0) (v':= .int .i64 (0)) Tryz.results47 rfl rfl ?_
 intro w hw
 exact⟨_,rfl,St.closeJour (i:=i) (dn:=false) (M:=[aQ S (jV k i.epoch i.size)]) (aG [true,true,true,true,false,false,false] rfl (hw.perm (L':=[pt b13 (.cells #[pp S 0,Nx (i.epoch),Nx (i.next),sB ps8 i.state cs10,sB pr9 i.recs cr11,Nx (i.size),.bool false] 143),rB ps8 i.state cs10,gQ 27 pr9 cr11 i.recs,aQ S (jV k i.epoch i.size),pt b14 (.cells #[pp b13 0] 89),pt b1 (.cells #[pp S 0] 26),pt b12 (.cells #[Nx (i.epoch),Nx (i.next),sB ps8 i.state cs10,sB pr9 i.recs cr11,Nx (i.size)] 109)]) (by exact(aW [0,5,6,4,1,2,3] 7 rfl (by kernel_rfl) (by kernel_rfl)))))⟩
theorem yC(β:Base)(w:World)(hw:St β [] w)(J S:Nat)(x1 x2 x3 x4 x5:Value)(dn:Bool)(hJ:Cs β.heap ⟨J,0,none⟩ [pp S 0,x1,x2,x3,x4,x5,.bool (dn)])(bs:Bs)(v:Value)(hs:Sl iT β.heap v bs)(c:Int)(hc:zS dn bs=c):oP Tryz.prog 60 #[pp J 0,v] β w (.int .i64 c):=by
 subst hc
 exact aTc β w hw J S x1 x2 x3 x4 x5 dn hJ bs v hs
theorem aFa(β:Base)(w:World)(J S:Nat)(k:KS)(i:KI)(bs:Bs)(hlong:bs.length≤65536)(hfit:k.fits 524288)(hnl:i.next≤4611686018427387904)(hsz:i.size≤262144)(hrl:i.recs.length≤1048576)(hful:i.size+24+bs.length≤262144)(hnm:i.next≠4611686018427387904)(hc:¬yH k i bs)(v:Value)(hs:Sl iT β.heap v bs)(hw:St β [fA J S i false,aQ S k] w):Calls Tryz.prog 38 #[pp J 0,v] w fun r w'=>r= .returned (.tuple #[.int .i64 0,.int .i64 310])∧St β [fA J S i true,aQ S (apS k i bs)] w':=by
 obtain⟨va,vc,rfl,vl,vm,ve⟩:=hs.get
 obtain⟨ps,pr,cs,cr,hw⟩:=St.openJour hw
 refine enter (n:=83) Tryz.func38 rfl Tryz.ntmps38 rfl ?_ hw
 refine bD (bxp fun b1=> ?_)
 refine lE bN (lE bN (aN (eR (aC (lE (iR 0) (lE fL ?_))))))
 refine gI gH (fun w β1 sb kn hw1=>yC β1 w hw1 J S (Nx (i.epoch)) (Nx (i.next)) (sB ps i.state cs) (sB pr i.recs cr) (Nx (i.size)) false (kn _ (cD 1 rfl rfl)) bs _ (Sl.mono _ _ _ _ _ sb (⟨⟨_,_,rfl,vl,vm,ve⟩⟩:Sl iT _ _ bs)) (0) ((if_neg (by omega)).trans (if_neg (by decide)))) ?_
 refine lE bN (eY (lE aU (lE lO (aN (cR rfl (eB (bD (lE (iR 0) (lE eS (lE aY (gB fun b2=>lu (mS 0 (#[pp J 1])) (aN (eR (aC ?_))))))))))))))
 refine lE (iR 0) (lE eS (lE aY (lE (cY 2) (lv (v:=Nx (i.size+24)) (bO rfl rfl (cW (by omega) (by omega))) (lE fL (lE gY ?_))))))
 refine lv (v:=Nx ((i.size+24)+bs.length)) (bO rfl rfl (cW (by omega) (by omega))) (lE oQ (lE fM ?_))
 refine eO (s:=28) rfl (fun h=> ?_) (fun h=> ?_)
 exact absurd h (by omega)
 refine gE (iR 0) (gE eS (gE aY (gE (cY 2) (gE fD (lE dT (aN (cN _ rfl (fun hc3=> ?_) (fun hc3=> ?_))))))))
 ·exact absurd hc3 (by omega)
 refine eB (aL ?_)
 refine jS [sv 35 (pp J 1) [] [] [0],sv 36 (pp J 1) [0] [0] [],sv 37 (pp J 1) [0,1] [1] [],sv 38 (Nx (i.epoch)) [0,1,2] [2] [],sv 39 (pp J 1) [] [] [0],sv 40 (pp J 1) [4] [4] [],sv 41 (pp J 2) [4,5] [5] [],sv 42 (Nx (i.next)) [4,5,6] [6] [],sv 43 (sB va bs (vc)) [] [] [1],⟨(List.range 9),[3,7,8],[],[44],fun f=>f 44=sB (dC (f 44)) (bR ((i.epoch:Nat):Int) ((i.next:Nat):Int) bs) (dE (f 44))⟩,⟨[],[],[],[8],fun f=>f 8= .pointer (some ⟨(bY (f 8)),0,none⟩)⟩,⟨(List.range 11),[10,9],[],[],fun _=>True⟩] [u1 [0,4],u0,u1 [3,7]] [⟨(some 9),none,[],[44],fun f=>rB (dC (f 44)) (bR ((i.epoch:Nat):Int) ((i.next:Nat):Int) bs) (dE (f 44))⟩,⟨(some 10),(some 11),[11],[8],fun f=>pt (bY (f 8)) (.cells #[.slice none 0 0] 27)⟩,⟨(some 11),none,[],[8,44],fun f=>pt (bY (f 8)) (.cells #[sB (dC (f 44)) (bR ((i.epoch:Nat):Int) ((i.next:Nat):Int) bs) (dE (f 44))] 27)⟩] [(7,pp b2 0),(1,sB va bs (vc)),(2,pp b1 0)] [1,2,0] ⟨rfl,rfl,rfl,trivial⟩ ⟨?_,?_,?_,?_,?_,?_,?_,?_,?_,?_,?_,?_,trivial⟩ ?_
 ·rintro f M-⟨i0,-⟩
  exact aT (iR 0)
 ·rintro f M ⟨k0,-⟩-
  exact aT eS
 ·rintro f M ⟨k0,-⟩-
  exact aT aY
 ·rintro f M ⟨k0,-⟩-
  exact aT (cY 0)
 ·rintro f M-⟨i0,-⟩
  exact aT (iR 0)
 ·rintro f M ⟨k0,-⟩-
  exact aT eS
 ·rintro f M ⟨k0,-⟩-
  exact aT aY
 ·rintro f M ⟨k0,-⟩-
  exact aT (cY 0)
 ·rintro f M-⟨i0,-⟩
  exact aT fL
 ·rintro f M ⟨k0,k1,k2,-⟩-
  refine dL (aA (d:=43) (aA (d:=42) (aA (d:=38) rfl k0) k1) k2) ?_
  refine pV (cT (vs:=[Nx (i.epoch),Nx (i.next),sB va bs (vc)]) aYl.ok rfl rfl) rfl fun w β1 sb kn hw1 back=>(xT β1 w hw1 ((i.epoch:Nat):Int) ((i.next:Nat):Int) bs _ (by omega) (Sl.mono _ _ _ _ _ sb (⟨⟨_,_,rfl,vl,vm,ve⟩⟩:Sl iT _ _ bs))).mono ?_
  rintro e w' ⟨p6,c7,rfl,hw'⟩
  refine⟨_,rfl,_,back _ _ hw',?_⟩
  refine aH ?_
  exact aO (aA (d:=43) (aA (d:=42) (aA (d:=38) rfl k0) k1) k2) rfl (aB 0 rfl)
 ·rintro f M- -
  refine dL rfl ?_
  refine gB fun b9=>aH ?_
  exact aO rfl rfl (aB 0 rfl)
 ·rintro f M ⟨k0,k1,-⟩-
  have hs8:f 8= .pointer (some ⟨(bY (f 8)),0,none⟩):=k0
  have hs44:f 44=sB (dC (f 44)) (bR ((i.epoch:Nat):Int) ((i.next:Nat):Int) bs) (dE (f 44)):=k1
  refine dL (aA (aA rfl hs8) hs44) ?_
  refine lu (mS 0 (#[sB (dC (f 44)) (bR ((i.epoch:Nat):Int) ((i.next:Nat):Int) bs) (dE (f 44))])) (aH ?_)
  exact bC (aA (aA rfl hs8) hs44) trivial (aB 0 rfl)
 rintro fa10 ⟨-,-,-,-,-,-,-,-,-,-,k10,-,-⟩ ⟨j0,j1,j2,-⟩
 refine jD ?_
 refine aD (d:=1) j0 (aD (d:=2) j1 (aD (d:=7) j2 (aD (d:=8) k10 (qV (bD (lE (iR 1) ?_))))))
 refine lv (v:= .func (.func 63) #[] #[pp b1 0,pp b2 0,.pointer (some ⟨(bY (fa10 8)),0,none⟩)]) (mW (u:=[]) (v:=[pp b1 0,pp b2 0,.pointer (some ⟨(bY (fa10 8)),0,none⟩)]) rfl rfl) ?_
 refine aX rfl rfl rfl (cT (vs:=[pp J 0,.func (.func 63) #[] #[pp b1 0,pp b2 0,.pointer (some ⟨(bY (fa10 8)),0,none⟩)]]) aUf.ok rfl rfl) ?_
 intro w hw
 replace hw:=hw.perm (L':=_::_::_::_::_::_::_::_::[]) (by exact((((((((aB 4 rfl).trans (aB 4 rfl)).trans (aB 5 rfl)).trans (aB 6 rfl)).trans (aB 7 rfl)).trans (aB 5 rfl)).trans (aB 6 rfl)).trans (aB 7 rfl)))
 obtain⟨β1,sb,kn,hw1,back⟩:=St.frame (L:=[_,_,_,_,_,_]) (M:=_::_::[]) hw
 refine(aAp β1 w J S b1 b2 (bY (fa10 8)) (dE (fa10 44)) (dC (fa10 44)) k i (sB ps i.state cs) (sB pr i.recs cr) (bR ((i.epoch:Nat):Int) ((i.next:Nat):Int) bs) hfit (by rw[dM];omega) (by omega) hc hw1).mono ?_
 rintro e w' ⟨rfl,hw'⟩
 refine⟨_,rfl,_,back _ _ hw',?_⟩
 refine lE bN (eY (lE aU (lE lO (aN (dN rfl (bD (lE aU (lE bN (lE bN (aN (aV (aI ?_))))))))))))
 refine nO (v:= .int .i64 (0)) (v':= .int .i64 (310)) Tryz.results38 rfl rfl ?_
 intro w hw
 exact⟨rfl,St.closeJour (i:=i) (dn:=true) (M:=[aQ S (sR k i.epoch i.size (bR ((i.epoch:Nat):Int) ((i.next:Nat):Int) bs))]) (aG [true,true,true,true,false,false,false,false] rfl (hw.perm (L':=[pt J (.cells #[pp S 0,Nx (i.epoch),Nx (i.next),sB ps i.state cs,sB pr i.recs cr,Nx (i.size),.bool true] 143),rB ps i.state cs,gQ 27 pr cr i.recs,aQ S (sR k i.epoch i.size (bR ((i.epoch:Nat):Int) ((i.next:Nat):Int) bs)),pt b1 (.cells #[pp J 0] 89),pt b2 (.cells #[pp J 1] 141),pt (bY (fa10 8)) (.cells #[sB (dC (fa10 44)) (bR ((i.epoch:Nat):Int) ((i.next:Nat):Int) bs) (dE (fa10 44))] 27),rB (dC (fa10 44)) (bR ((i.epoch:Nat):Int) ((i.next:Nat):Int) bs) (dE (fa10 44))]) (by exact(aW [0,6,7,5,1,2,3,4] 8 rfl (by kernel_rfl) (by kernel_rfl)))))⟩
theorem aMf(β:Base)(w:World)(J S:Nat)(k:KS)(i:KI)(bs:Bs)(hlong:bs.length≤65536)(hfit:k.fits 524288)(hnl:i.next≤4611686018427387904)(hsz:i.size≤262144)(hrl:i.recs.length≤1048576)(hful:i.size+24+bs.length≤262144)(hnm:i.next≠4611686018427387904)(hc:yH k i bs)(v:Value)(hs:Sl iT β.heap v bs)(hw:St β [fA J S i false,aQ S k] w):Calls Tryz.prog 38 #[pp J 0,v] w fun r w'=>r= .returned (.tuple #[Nx i.next,.int .i64 0])∧St β [fA J S (apI i bs) false,aQ S (apS k i bs)] w':=by
 obtain⟨va,vc,rfl,vl,vm,ve⟩:=hs.get
 obtain⟨ps,pr,cs,cr,hw⟩:=St.openJour hw
 refine enter (n:=83) Tryz.func38 rfl Tryz.ntmps38 rfl ?_ hw
 refine bD (bxp fun b1=> ?_)
 refine lE bN (lE bN (aN (eR (aC (lE (iR 0) (lE fL ?_))))))
 refine gI gH (fun w β1 sb kn hw1=>yC β1 w hw1 J S (Nx (i.epoch)) (Nx (i.next)) (sB ps i.state cs) (sB pr i.recs cr) (Nx (i.size)) false (kn _ (cD 1 rfl rfl)) bs _ (Sl.mono _ _ _ _ _ sb (⟨⟨_,_,rfl,vl,vm,ve⟩⟩:Sl iT _ _ bs)) (0) ((if_neg (by omega)).trans (if_neg (by decide)))) ?_
 refine lE bN (eY (lE aU (lE lO (aN (cR rfl (eB (bD (lE (iR 0) (lE eS (lE aY (gB fun b2=>lu (mS 0 (#[pp J 1])) (aN (eR (aC ?_))))))))))))))
 refine lE (iR 0) (lE eS (lE aY (lE (cY 2) (lv (v:=Nx (i.size+24)) (bO rfl rfl (cW (by omega) (by omega))) (lE fL (lE gY ?_))))))
 refine lv (v:=Nx ((i.size+24)+bs.length)) (bO rfl rfl (cW (by omega) (by omega))) (lE oQ (lE fM ?_))
 refine eO (s:=28) rfl (fun h=> ?_) (fun h=> ?_)
 exact absurd h (by omega)
 refine gE (iR 0) (gE eS (gE aY (gE (cY 2) (gE fD (lE dT (aN (cN _ rfl (fun hc3=> ?_) (fun hc3=> ?_))))))))
 ·exact absurd hc3 (by omega)
 refine eB (aL ?_)
 refine jS [sv 35 (pp J 1) [] [] [0],sv 36 (pp J 1) [0] [0] [],sv 37 (pp J 1) [0,1] [1] [],sv 38 (Nx (i.epoch)) [0,1,2] [2] [],sv 39 (pp J 1) [] [] [0],sv 40 (pp J 1) [4] [4] [],sv 41 (pp J 2) [4,5] [5] [],sv 42 (Nx (i.next)) [4,5,6] [6] [],sv 43 (sB va bs (vc)) [] [] [1],⟨(List.range 9),[3,7,8],[],[44],fun f=>f 44=sB (dC (f 44)) (bR ((i.epoch:Nat):Int) ((i.next:Nat):Int) bs) (dE (f 44))⟩,⟨[],[],[],[8],fun f=>f 8= .pointer (some ⟨(bY (f 8)),0,none⟩)⟩,⟨(List.range 11),[10,9],[],[],fun _=>True⟩] [u1 [0,4],u0,u1 [3,7]] [⟨(some 9),none,[],[44],fun f=>rB (dC (f 44)) (bR ((i.epoch:Nat):Int) ((i.next:Nat):Int) bs) (dE (f 44))⟩,⟨(some 10),(some 11),[11],[8],fun f=>pt (bY (f 8)) (.cells #[.slice none 0 0] 27)⟩,⟨(some 11),none,[],[8,44],fun f=>pt (bY (f 8)) (.cells #[sB (dC (f 44)) (bR ((i.epoch:Nat):Int) ((i.next:Nat):Int) bs) (dE (f 44))] 27)⟩] [(7,pp b2 0),(1,sB va bs (vc)),(2,pp b1 0)] [1,2,0] ⟨rfl,rfl,rfl,trivial⟩ ⟨?_,?_,?_,?_,?_,?_,?_,?_,?_,?_,?_,?_,trivial⟩ ?_
 ·rintro f M-⟨i0,-⟩
  exact aT (iR 0)
 ·rintro f M ⟨k0,-⟩-
  exact aT eS
 ·rintro f M ⟨k0,-⟩-
  exact aT aY
 ·rintro f M ⟨k0,-⟩-
  exact aT (cY 0)
 ·rintro f M-⟨i0,-⟩
  exact aT (iR 0)
 ·rintro f M ⟨k0,-⟩-
  exact aT eS
 ·rintro f M ⟨k0,-⟩-
  exact aT aY
 ·rintro f M ⟨k0,-⟩-
  exact aT (cY 0)
 ·rintro f M-⟨i0,-⟩
  exact aT fL
 ·rintro f M ⟨k0,k1,k2,-⟩-
  refine dL (aA (d:=43) (aA (d:=42) (aA (d:=38) rfl k0) k1) k2) ?_
  refine pV (cT (vs:=[Nx (i.epoch),Nx (i.next),sB va bs (vc)]) aYl.ok rfl rfl) rfl fun w β1 sb kn hw1 back=>(xT β1 w hw1 ((i.epoch:Nat):Int) ((i.next:Nat):Int) bs _ (by omega) (Sl.mono _ _ _ _ _ sb (⟨⟨_,_,rfl,vl,vm,ve⟩⟩:Sl iT _ _ bs))).mono ?_
  rintro e w' ⟨p6,c7,rfl,hw'⟩
  refine⟨_,rfl,_,back _ _ hw',?_⟩
  refine aH ?_
  exact aO (aA (d:=43) (aA (d:=42) (aA (d:=38) rfl k0) k1) k2) rfl (aB 0 rfl)
 ·rintro f M- -
  refine dL rfl ?_
  refine gB fun b9=>aH ?_
  exact aO rfl rfl (aB 0 rfl)
 ·rintro f M ⟨k0,k1,-⟩-
  have hs8:f 8= .pointer (some ⟨(bY (f 8)),0,none⟩):=k0
  have hs44:f 44=sB (dC (f 44)) (bR ((i.epoch:Nat):Int) ((i.next:Nat):Int) bs) (dE (f 44)):=k1
  refine dL (aA (aA rfl hs8) hs44) ?_
  refine lu (mS 0 (#[sB (dC (f 44)) (bR ((i.epoch:Nat):Int) ((i.next:Nat):Int) bs) (dE (f 44))])) (aH ?_)
  exact bC (aA (aA rfl hs8) hs44) trivial (aB 0 rfl)
 rintro fa10 ⟨-,-,-,-,-,-,-,-,-,-,k10,-,-⟩ ⟨j0,j1,j2,-⟩
 refine jD ?_
 refine aD (d:=1) j0 (aD (d:=2) j1 (aD (d:=7) j2 (aD (d:=8) k10 (qV (bD (lE (iR 1) ?_))))))
 refine lv (v:= .func (.func 63) #[] #[pp b1 0,pp b2 0,.pointer (some ⟨(bY (fa10 8)),0,none⟩)]) (mW (u:=[]) (v:=[pp b1 0,pp b2 0,.pointer (some ⟨(bY (fa10 8)),0,none⟩)]) rfl rfl) ?_
 refine aX rfl rfl rfl (cT (vs:=[pp J 0,.func (.func 63) #[] #[pp b1 0,pp b2 0,.pointer (some ⟨(bY (fa10 8)),0,none⟩)]]) aUf.ok rfl rfl) ?_
 intro w hw
 replace hw:=hw.perm (L':=_::_::_::_::_::_::_::_::[]) (by exact((((((((aB 4 rfl).trans (aB 4 rfl)).trans (aB 5 rfl)).trans (aB 6 rfl)).trans (aB 7 rfl)).trans (aB 5 rfl)).trans (aB 6 rfl)).trans (aB 7 rfl)))
 obtain⟨β1,sb,kn,hw1,back⟩:=St.frame (L:=[_,_,_,_,_,_]) (M:=_::_::[]) hw
 refine(aAq β1 w J S b1 b2 (bY (fa10 8)) (dE (fa10 44)) (dC (fa10 44)) k i (sB ps i.state cs) (sB pr i.recs cr) (bR ((i.epoch:Nat):Int) ((i.next:Nat):Int) bs) hfit (by rw[dM];omega) (by omega) hc hw1).mono ?_
 rintro e w' ⟨rfl,hw'⟩
 refine⟨_,rfl,_,back _ _ hw',?_⟩
 refine lE bN (eY (lE aU (lE lO (aN (cR rfl (eB (aL ?_)))))))
 refine jS [sv 51 (pp J 1) [] [] [0],sv 52 (pp J 1) [] [] [0],sv 53 (pp J 1) [1] [1] [],sv 54 (pp J 4) [1,2] [2] [],sv 55 (sB pr i.recs cr) [1,2,3] [3] [],sv 56 (sB va bs (vc)) [] [] [1],⟨[5],[5],[],[57],fun f=>f 57=sB (dC (f 57)) bs (dE (f 57))⟩,⟨[5,6],[6],[],[58],fun f=>f 58= .slice (some ⟨(bY (f 58)),0,none⟩) 1 1⟩,⟨[1,2,3,4,5,6,7],[4,7],[],[59],fun f=>f 59=sB (dC (f 59)) ((i.recs++[bs])) (dE (f 59))⟩,sv 60 (pp J 1) (List.range 9) [0] [],sv 61 (pp J 4) (List.range 10) [9] [],⟨(List.range 11),[10,8],[],[],fun _=>True⟩] [(some 11,[4,11]),u0,u1 [0,1],u0,u0,u0,u0,(some 8,[8])] [⟨(some 6),(some 8),[8],[57],fun f=>rB (dC (f 57)) bs (dE (f 57))⟩,⟨(some 7),none,[8],[57,58],fun f=>pt (bY (f 58)) (.cells #[sB (dC (f 57)) bs (dE (f 57))] 27)⟩,⟨(some 8),none,[],[59],fun f=>gQ 27 (dC (f 59)) (dE (f 59)) (i.recs++[bs])⟩,⟨(some 11),none,[],[59],fun f=>pt J (.cells #[pp S 0,Nx (i.epoch),Nx (i.next),sB ps i.state cs,sB (dC (f 59)) ((i.recs++[bs])) (dE (f 59)),Nx (i.size),.bool false] 143)⟩] [(7,pp b2 0),(1,sB va bs (vc)),(8,.pointer (some ⟨(bY (fa10 8)),0,none⟩))] [0,2] ⟨rfl,rfl,rfl,trivial⟩ ⟨?_,?_,?_,?_,?_,?_,?_,?_,?_,?_,?_,?_,trivial⟩ ?_
 ·rintro f M-⟨i0,-⟩
  exact aT (iR 0)
 ·rintro f M-⟨i0,-⟩
  exact aT (iR 0)
 ·rintro f M ⟨k0,-⟩-
  exact aT eS
 ·rintro f M ⟨k0,-⟩-
  exact aT aY
 ·rintro f M ⟨k0,-⟩-
  exact aT (fQ 0)
 ·rintro f M-⟨i0,-⟩
  exact aT fL
 ·rintro f M ⟨k0,-⟩-
  refine dL (aA (d:=56) rfl k0) ?_
  refine pV (cT (vs:=[sB va bs (vc)]) aOo.ok rfl rfl) rfl fun w β1 sb kn hw1 back=>(lQ β1 w hw1 bs _ (by omega) (Sl.mono _ _ _ _ _ sb (⟨⟨_,_,rfl,vl,vm,ve⟩⟩:Sl iT _ _ bs))).mono ?_
  rintro e w' ⟨p13,c14,rfl,hw'⟩
  refine⟨_,rfl,_,back _ _ hw',?_⟩
  refine aH ?_
  exact aO (aA (d:=56) rfl k0) rfl (aB 0 rfl)
 ·rintro f M ⟨k0,-⟩-
  have hs57:f 57=sB (dC (f 57)) bs (dE (f 57)):=k0
  refine dL (aA rfl hs57) ?_
  refine dA rfl rfl rfl (bZ aOp bCv.ok (cells:= #[sB (dC (f 57)) bs (dE (f 57))]) rfl rfl rfl rfl) ?_
  rintro _ _ ⟨b16,rfl,rfl⟩
  refine aH ?_
  exact aO (aA rfl hs57) rfl (aB 0 rfl)
 ·rintro f M ⟨k0,k1,-⟩-
  have hs58:f 58= .slice (some ⟨(bY (f 58)),0,none⟩) 1 1:=k1
  refine dL (aA (aA (d:=55) rfl k0) hs58) ?_
  refine aDl (L':=(gQ 27 pr cr i.recs::rB (dC (f 57)) bs (dE (f 57))::pt (bY (f 58)) (.cells #[sB (dC (f 57)) bs (dE (f 57))] 27)::M)) (List.Perm.refl _) ?_
  refine dA rfl rfl rfl (rL (xs:=i.recs) (bs:=bs) (b:=(bY (f 58))) rfl aOp bCw rfl rfl (by omega) (by omega)) ?_
  rintro _ _ ⟨rp19,rc20,rfl,rfl⟩
  refine aH ?_
  exact aO (aA (aA (d:=55) rfl k0) hs58) rfl ((aB 0 rfl).trans (aB 1 rfl))
 ·rintro f M ⟨k0,-⟩-
  exact aT eS
 ·rintro f M ⟨k0,-⟩-
  exact aT aY
 ·rintro f M ⟨k0,k1,-⟩-
  have hs59:f 59=sB (dC (f 59)) ((i.recs++[bs])) (dE (f 59)):=k1
  refine dL (aA (aA (d:=61) rfl k0) hs59) ?_
  refine lu (mS 0 (#[pp S 0,Nx (i.epoch),Nx (i.next),sB ps i.state cs,sB (dC (f 59)) ((i.recs++[bs])) (dE (f 59)),Nx (i.size),.bool false])) ?_
  refine aH ?_
  exact bC (aA (aA (d:=61) rfl k0) hs59) trivial (aB 0 rfl)
 rintro fa21 ⟨-,-,-,-,-,-,-,-,-,-,-,-,-⟩ ⟨j0,j1,-⟩
 refine jD ?_
 refine aD (d:=7) j0 (aD (d:=8) j1 (qV ?_))
 have hfl:=dM ((i.epoch:Nat):Int) ((i.next:Nat):Int) bs
 refine jS [sv 62 (pp J 1) [] [] [0],sv 63 (pp J 1) [0] [0] [],sv 64 (pp J 5) [0,1] [1] [],sv 65 (Nx (i.size)) [0,1,2] [2] [],sv 66 (sB (dC (fa10 44)) (bR ((i.epoch:Nat):Int) ((i.next:Nat):Int) bs) (dE (fa10 44))) [] [] [1],sv 67 (Nx ((bR ((i.epoch:Nat):Int) ((i.next:Nat):Int) bs).length)) [4] [4] [],sv 68 (Nx (i.size+((bR ((i.epoch:Nat):Int) ((i.next:Nat):Int) bs).length))) (List.range 6) [3,5] [],sv 69 (pp J 1) (List.range 7) [0] [],sv 70 (pp J 5) (List.range 8) [7] [],⟨(List.range 9),[8,6],[],[],fun _=>True⟩] [u0,u1 [0],u1 [4],u0,u0,u0,u0,u0,(some 9,[3,9])] [⟨(some 9),none,[],[],fun _=>pt J (.cells #[pp S 0,Nx (i.epoch),Nx (i.next),sB ps i.state cs,sB (dC (fa21 59)) ((i.recs++[bs])) (dE (fa21 59)),Nx (i.size+((bR ((i.epoch:Nat):Int) ((i.next:Nat):Int) bs).length)),.bool false] 143)⟩] [(7,pp b2 0),(8,.pointer (some ⟨(bY (fa10 8)),0,none⟩))] [0] ⟨rfl,rfl,trivial⟩ ⟨?_,?_,?_,?_,?_,?_,?_,?_,?_,?_,trivial⟩ ?_
 ·rintro f M-⟨i0,-⟩
  exact aT (iR 0)
 ·rintro f M ⟨k0,-⟩-
  exact aT eS
 ·rintro f M ⟨k0,-⟩-
  exact aT aY
 ·rintro f M ⟨k0,-⟩-
  exact aT (cY 0)
 ·rintro f M-⟨i0,-⟩
  exact aT (fQ 0)
 ·rintro f M ⟨k0,-⟩-
  exact aT gY
 ·rintro f M ⟨k0,k1,-⟩-
  exact gO (aA (d:=67) (aA (d:=65) rfl k0) k1) rfl (bO (a:=((i.size:Nat):Int)) (b:=(((bR ((i.epoch:Nat):Int) ((i.next:Nat):Int) bs).length:Nat):Int)) rfl rfl (cW (by omega) (by omega))) (.refl _)
 ·rintro f M ⟨k0,-⟩-
  exact aT eS
 ·rintro f M ⟨k0,-⟩-
  exact aT aY
 ·rintro f M ⟨k0,k1,-⟩-
  refine dL (aA (d:=68) (aA (d:=70) rfl k0) k1) ?_
  refine lu (mS 0 (#[pp S 0,Nx (i.epoch),Nx (i.next),sB ps i.state cs,sB (dC (fa21 59)) ((i.recs++[bs])) (dE (fa21 59)),Nx (i.size+((bR ((i.epoch:Nat):Int) ((i.next:Nat):Int) bs).length)),.bool false])) ?_
  refine aH ?_
  exact bC (aA (d:=68) (aA (d:=70) rfl k0) k1) trivial (aB 0 rfl)
 rintro fa22 ⟨-,-,-,-,-,-,-,-,-,-,-⟩ ⟨j0,-⟩
 refine jD ?_
 refine aD (d:=7) j0 (kM (lE (iR 1) (lE eS (lE aY (lE (cY 8) (lv (v:=Nx (i.next+1)) (bO rfl rfl (cW (by omega) (by omega))) ?_))))))
 refine lE eS (lE aY ?_)
 refine lu (mS 8 (#[pp S 0,Nx (i.epoch),Nx (i.next+1),sB ps i.state cs,sB (dC (fa21 59)) ((i.recs++[bs])) (dE (fa21 59)),Nx (i.size+((bR ((i.epoch:Nat):Int) ((i.next:Nat):Int) bs).length)),.bool false])) ?_
 refine eY (lE (iR 1) (lE eS (lE aY (lE (cY 8) (lE omn (lE bN (lE bN (aN (aV ?_)))))))))
 refine nO (v:=Ix (((i.next+1:Nat):Int)-(1:Int))) (v':= .int .i64 (0)) Tryz.results38 rfl rfl ?_
 intro w hw
 refine⟨congrArg (fun z:Int=>Ending.returned (.tuple #[Ix z,.int .i64 0])) (by omega),?_⟩
 exact St.closeJour (i:=apI i bs) (dn:=false) (M:=[aQ S (sR k i.epoch i.size (bR ((i.epoch:Nat):Int) ((i.next:Nat):Int) bs))]) (aG [true,true,true,true,false,false,false,false,false] rfl (hw.perm (L':=[pt J (.cells #[pp S 0,Nx (i.epoch),Nx (i.next+1),sB ps i.state cs,sB (dC (fa21 59)) ((i.recs++[bs])) (dE (fa21 59)),Nx (i.size+((bR ((i.epoch:Nat):Int) ((i.next:Nat):Int) bs).length)),.bool false] 143),rB ps i.state cs,gQ 27 (dC (fa21 59)) (dE (fa21 59)) (i.recs++[bs]),aQ S (sR k i.epoch i.size (bR ((i.epoch:Nat):Int) ((i.next:Nat):Int) bs)),pt b1 (.cells #[pp J 0] 89),pt b2 (.cells #[pp J 1] 141),pt (bY (fa10 8)) (.cells #[sB (dC (fa10 44)) (bR ((i.epoch:Nat):Int) ((i.next:Nat):Int) bs) (dE (fa10 44))] 27),rB (dC (fa10 44)) (bR ((i.epoch:Nat):Int) ((i.next:Nat):Int) bs) (dE (fa10 44)),pt (bY (fa21 58)) (.cells #[sB (dC (fa21 57)) bs (dE (fa21 57))] 27)]) (by exact(aW [8,5,7,4,0,1,2,3,6] 9 rfl (by kernel_rfl) (by kernel_rfl)))))
theorem append_nil(β:Base)(w:World)(hw:St β [] w)(v:Value):oP Tryz.prog 38 #[.pointer none,v] β w (.tuple #[.int .i64 0,.int .i64 1]):=by
 refine enter (n:=83) Tryz.func38 rfl Tryz.ntmps38 rfl ?_ hw
 refine bD (bxp fun b1=> ?_)
 refine lE bN (lE bN (aN (eR (aC (lE (iR 0) (lv cI (gI gH (fun w β1 sb kn hw1=>aNt β1 w hw1 _) (lE bN (eY (lE aU ?_))))))))))
 refine lE lO (aN (dN rfl (bD (lE aU (lE bN (lE bN (aN (aV (aI ?_)))))))))
 refine nO (v:= .int .i64 (0)) (v':= .int .i64 (1)) Tryz.results38 rfl rfl ?_
 intro w hw
 exact⟨rfl,aG [false] rfl hw⟩
theorem aFk(β:Base)(w:World)(J S:Nat)(k:KS)(i:KI)(bs:Bs)(hlong:bs.length≤65536)(hfit:k.fits 524288)(hful:i.epoch<4611686018427387903)(hc:¬qB k (i.epoch+1) i.next bs)(v:Value)(hs:Sl iT β.heap v bs)(hw:St β [fA J S i false,aQ S k] w):Calls Tryz.prog 48 #[pp J 0,v] w fun r w'=>r= .returned (.int .i64 310)∧St β [fA J S i true,aQ S (pU k (i.epoch+1) i.next bs)] w':=by
 obtain⟨va,vc,rfl,vl,vm,ve⟩:=hs.get
 obtain⟨ps,pr,cs,cr,hw⟩:=St.openJour hw
 refine enter (n:=47) Tryz.func48 rfl Tryz.ntmps48 rfl ?_ hw
 refine bD (bxp fun b1=> ?_)
 refine bxs fun b2=> ?_
 refine lE bN (aN (eR (aC (lE (iR 1) (lE (fQ 0) ?_)))))
 refine gI gH (fun w β1 sb kn hw1=>yC β1 w hw1 J S (Nx (i.epoch)) (Nx (i.next)) (sB ps i.state cs) (sB pr i.recs cr) (Nx (i.size)) false (kn _ (cD 2 rfl rfl)) bs _ (Sl.mono _ _ _ _ _ sb (⟨⟨_,_,rfl,vl,vm,ve⟩⟩:Sl iT _ _ bs)) (0) ((if_neg (by omega)).trans (if_neg (by decide)))) ?_
 refine lE bN (eY (lE aU (lE lO (aN (cR rfl (eB (eR (aC (lE (iR 1) (lE eS (lE aY (lE aY (lE (cY 2) (lE fD (aN ?_)))))))))))))))
 refine cN _ rfl (fun hc3=> ?_) (fun hc3=> ?_)
 ·exact absurd hc3 (by omega)
 refine eB (aL ?_)
 refine jS [sv 20 (pp J 0) [] [] [0],sv 21 (pp J 0) [0] [0] [],sv 22 (pp J 1) [0,1] [1] [],sv 23 (pp J 1) [0,1,2] [2] [],sv 24 (Nx (i.epoch)) [0,1,2,3] [3] [],sv 25 (Nx (i.epoch+1)) [0,1,2,3,4] [4] [],sv 26 (pp J 0) [] [] [0],sv 27 (pp J 0) [6] [6] [],sv 28 (pp J 1) [6,7] [7] [],sv 29 (pp J 2) [6,7,8] [8] [],sv 30 (Nx (i.next)) [6,7,8,9] [9] [],sv 31 (sB va bs (vc)) [] [] [1],⟨[11],[11],[],[32],fun f=>f 32=sB (dC (f 32)) bs (dE (f 32))⟩,sv 33 (sB va bs (vc)) [] [] [1],sv 34 (Nx (bs.length)) [13] [13] [],sv 35 (Nx (24+bs.length)) [13,14] [14] [],⟨(List.range 16),[5,10,12,15],[],[32,36],fun f=>f 36= .agg #[Nx (i.epoch+1),Nx (i.next),sB (dC (f 32)) bs (dE (f 32)),.slice none 0 0,Nx (24+bs.length)]⟩,⟨[],[],[],[6],fun f=>f 6= .pointer (some ⟨(bY (f 6)),0,none⟩)⟩,⟨(List.range 18),[17,16],[],[],fun _=>True⟩] [u1 [11,13],u1 [0,6],u1 [4,10]] [⟨(some 12),none,[],[32],fun f=>rB (dC (f 32)) bs (dE (f 32))⟩,⟨(some 17),(some 18),[18],[6],fun f=>pt (bY (f 6)) (.cells #[.int .i64 (0),.int .i64 (0),.slice none 0 0,.slice none 0 0,.int .i64 (0)] 109)⟩,⟨(some 18),none,[],[6,32],fun f=>pt (bY (f 6)) (.cells #[Nx (i.epoch+1),Nx (i.next),sB (dC (f 32)) bs (dE (f 32)),.slice none 0 0,Nx (24+bs.length)] 109)⟩] [(2,pp b1 0),(3,pp b2 0)] [0,1] ⟨rfl,rfl,trivial⟩ ⟨?_,?_,?_,?_,?_,?_,?_,?_,?_,?_,?_,?_,?_,?_,?_,?_,?_,?_,?_,trivial⟩ ?_
 ·rintro f M-⟨i0,-⟩
  exact aT (iR 0)
 ·rintro f M ⟨k0,-⟩-
  exact aT eS
 ·rintro f M ⟨k0,-⟩-
  exact aT aY
 ·rintro f M ⟨k0,-⟩-
  exact aT aY
 ·rintro f M ⟨k0,-⟩-
  exact aT (cY 0)
 ·rintro f M ⟨k0,-⟩-
  exact gO (aA (d:=24) rfl k0) rfl (bO (a:=((i.epoch:Nat):Int)) (b:=(1:Int)) rfl rfl (cW (by omega) (by omega))) (.refl _)
 ·rintro f M-⟨i0,-⟩
  exact aT (iR 0)
 ·rintro f M ⟨k0,-⟩-
  exact aT eS
 ·rintro f M ⟨k0,-⟩-
  exact aT aY
 ·rintro f M ⟨k0,-⟩-
  exact aT aY
 ·rintro f M ⟨k0,-⟩-
  exact aT (cY 0)
 ·rintro f M-⟨i0,-⟩
  exact aT (fQ 0)
 ·rintro f M ⟨k0,-⟩-
  refine dL (aA (d:=31) rfl k0) ?_
  refine pV (cT (vs:=[sB va bs (vc)]) aOo.ok rfl rfl) rfl fun w β1 sb kn hw1 back=>(lQ β1 w hw1 bs _ (by omega) (Sl.mono _ _ _ _ _ sb (⟨⟨_,_,rfl,vl,vm,ve⟩⟩:Sl iT _ _ bs))).mono ?_
  rintro e w' ⟨p6,c7,rfl,hw'⟩
  refine⟨_,rfl,_,back _ _ hw',?_⟩
  refine aH ?_
  exact aO (aA (d:=31) rfl k0) rfl (aB 0 rfl)
 ·rintro f M-⟨i0,-⟩
  exact aT (fQ 0)
 ·rintro f M ⟨k0,-⟩-
  exact aT gY
 ·rintro f M ⟨k0,-⟩-
  exact gO (aA (d:=34) rfl k0) rfl (bO (a:=(24:Int)) (b:=((bs.length:Nat):Int)) rfl rfl (cW (by omega) (by omega))) (.refl _)
 ·rintro f M ⟨k0,k1,k2,k3,-⟩-
  have hs32:f 32=sB (dC (f 32)) bs (dE (f 32)):=k2
  exact gO (aA (d:=35) (aA (aA (d:=30) (aA (d:=25) rfl k0) k1) hs32) k3) rfl (bV aUd.ok aUe (vs:=[(0,Nx (i.epoch+1)),(1,Nx (i.next)),(2,sB (dC (f 32)) bs (dE (f 32))),(4,Nx (24+bs.length))]) (cells:= #[Nx (i.epoch+1),Nx (i.next),sB (dC (f 32)) bs (dE (f 32)),.slice none 0 0,Nx (24+bs.length)]) rfl rfl) (.refl _)
 ·rintro f M- -
  refine dL rfl ?_
  refine gB fun b9=>aH ?_
  exact aO rfl rfl (aB 0 rfl)
 ·rintro f M ⟨k0,k1,-⟩-
  have hs6:f 6= .pointer (some ⟨(bY (f 6)),0,none⟩):=k0
  have hs36:f 36= .agg #[Nx (i.epoch+1),Nx (i.next),sB (dC (f 32)) bs (dE (f 32)),.slice none 0 0,Nx (24+bs.length)]:=k1
  refine dL (aA (aA rfl hs6) hs36) ?_
  refine lu (mS 0 (#[Nx (i.epoch+1),Nx (i.next),sB (dC (f 32)) bs (dE (f 32)),.slice none 0 0,Nx (24+bs.length)])) (aH ?_)
  exact bC (aA (aA rfl hs6) hs36) trivial (aB 0 rfl)
 rintro fa10 ⟨-,-,-,-,-,-,-,-,-,-,-,-,-,-,-,-,-,k17,-,-⟩ ⟨j0,j1,-⟩
 refine jD ?_
 refine aD (d:=2) j0 (aD (d:=3) j1 (aD (d:=6) k17 (kM (lE (iR 1) ?_))))
 refine lv (v:= .func (.func 91) #[] #[pp b1 0,.pointer (some ⟨(bY (fa10 6)),0,none⟩),pp b2 0]) (mW (u:=[]) (v:=[pp b1 0,.pointer (some ⟨(bY (fa10 6)),0,none⟩),pp b2 0]) rfl rfl) ?_
 refine aX rfl rfl rfl (cT (vs:=[pp J 0,.func (.func 91) #[] #[pp b1 0,.pointer (some ⟨(bY (fa10 6)),0,none⟩),pp b2 0]]) aUf.ok rfl rfl) ?_
 intro w hw
 replace hw:=hw.perm (L':=_::_::_::_::_::_::_::_::[]) (by exact((((((((aB 6 rfl).trans (aB 5 rfl)).trans (aB 5 rfl)).trans (aB 6 rfl)).trans (aB 4 rfl)).trans (aB 7 rfl)).trans (aB 6 rfl)).trans (aB 7 rfl)))
 obtain⟨β1,sb,kn,hw1,back⟩:=St.frame (L:=[_,_,_,_,_]) (M:=_::_::_::[]) hw
 refine(aCz β1 w J S b1 (bY (fa10 6)) b2 vc (i.epoch+1) i.next va k i (sB ps i.state cs) (sB pr i.recs cr) (sB (dC (fa10 32)) bs (dE (fa10 32))) (.slice none 0 0) (Nx (24+bs.length)) bs (by omega) (by omega) (dH.mono _ _ _ _ _ sb ve) hfit (by omega) hc hw1).mono ?_
 rintro e w' ⟨rfl,hw'⟩
 refine⟨_,rfl,_,back _ _ hw',?_⟩
 refine lE bN (aN (eR (aC (lE aU (lE fD (aN (cR rfl (eB (bD (lE aU (lE bN (aN (aV (dJ Tryz.results48 rfl ?_))))))))))))))
 intro w hw
 exact⟨rfl,St.closeJour (i:=i) (dn:=true) (M:=[aQ S (pU k (i.epoch+1) i.next bs)]) (aG [true,true,true,true,false,false,false,false] rfl (hw.perm (L':=[pt J (.cells #[pp S 0,Nx (i.epoch),Nx (i.next),sB ps i.state cs,sB pr i.recs cr,Nx (i.size),.bool true] 143),rB ps i.state cs,gQ 27 pr cr i.recs,aQ S (pU k (i.epoch+1) i.next bs),pt b1 (.cells #[pp J 0] 89),pt (bY (fa10 6)) (.cells #[Nx (i.epoch+1),Nx (i.next),sB (dC (fa10 32)) bs (dE (fa10 32)),.slice none 0 0,Nx (24+bs.length)] 109),pt b2 (.cells #[sB va bs (vc)] 27),rB (dC (fa10 32)) bs (dE (fa10 32))]) (by exact(aW [0,5,6,4,1,2,3,7] 8 rfl (by kernel_rfl) (by kernel_rfl)))))⟩
theorem aMm(β:Base)(w:World)(J S:Nat)(k:KS)(i:KI)(bs:Bs)(hlong:bs.length≤65536)(hfit:k.fits 524288)(hful:i.epoch<4611686018427387903)(hc:qB k (i.epoch+1) i.next bs)(v:Value)(hs:Sl iT β.heap v bs)(hw:St β [fA J S i false,aQ S k] w):Calls Tryz.prog 48 #[pp J 0,v] w fun r w'=>r= .returned (.int .i64 0)∧St β [fA J S (uI i bs) false,aQ S (pU k (i.epoch+1) i.next bs)] w':=by
 obtain⟨va,vc,rfl,vl,vm,ve⟩:=hs.get
 obtain⟨ps,pr,cs,cr,hw⟩:=St.openJour hw
 refine enter (n:=47) Tryz.func48 rfl Tryz.ntmps48 rfl ?_ hw
 refine bD (bxp fun b1=> ?_)
 refine bxs fun b2=> ?_
 refine lE bN (aN (eR (aC (lE (iR 1) (lE (fQ 0) ?_)))))
 refine gI gH (fun w β1 sb kn hw1=>yC β1 w hw1 J S (Nx (i.epoch)) (Nx (i.next)) (sB ps i.state cs) (sB pr i.recs cr) (Nx (i.size)) false (kn _ (cD 2 rfl rfl)) bs _ (Sl.mono _ _ _ _ _ sb (⟨⟨_,_,rfl,vl,vm,ve⟩⟩:Sl iT _ _ bs)) (0) ((if_neg (by omega)).trans (if_neg (by decide)))) ?_
 refine lE bN (eY (lE aU (lE lO (aN (cR rfl (eB (eR (aC (lE (iR 1) (lE eS (lE aY (lE aY (lE (cY 2) (lE fD (aN ?_)))))))))))))))
 refine cN _ rfl (fun hc3=> ?_) (fun hc3=> ?_)
 ·exact absurd hc3 (by omega)
 refine eB (aL ?_)
 refine jS [sv 20 (pp J 0) [] [] [0],sv 21 (pp J 0) [0] [0] [],sv 22 (pp J 1) [0,1] [1] [],sv 23 (pp J 1) [0,1,2] [2] [],sv 24 (Nx (i.epoch)) [0,1,2,3] [3] [],sv 25 (Nx (i.epoch+1)) [0,1,2,3,4] [4] [],sv 26 (pp J 0) [] [] [0],sv 27 (pp J 0) [6] [6] [],sv 28 (pp J 1) [6,7] [7] [],sv 29 (pp J 2) [6,7,8] [8] [],sv 30 (Nx (i.next)) [6,7,8,9] [9] [],sv 31 (sB va bs (vc)) [] [] [1],⟨[11],[11],[],[32],fun f=>f 32=sB (dC (f 32)) bs (dE (f 32))⟩,sv 33 (sB va bs (vc)) [] [] [1],sv 34 (Nx (bs.length)) [13] [13] [],sv 35 (Nx (24+bs.length)) [13,14] [14] [],⟨(List.range 16),[5,10,12,15],[],[32,36],fun f=>f 36= .agg #[Nx (i.epoch+1),Nx (i.next),sB (dC (f 32)) bs (dE (f 32)),.slice none 0 0,Nx (24+bs.length)]⟩,⟨[],[],[],[6],fun f=>f 6= .pointer (some ⟨(bY (f 6)),0,none⟩)⟩,⟨(List.range 18),[17,16],[],[],fun _=>True⟩] [u1 [11,13],u1 [0,6],u1 [4,10]] [⟨(some 12),none,[],[32],fun f=>rB (dC (f 32)) bs (dE (f 32))⟩,⟨(some 17),(some 18),[18],[6],fun f=>pt (bY (f 6)) (.cells #[.int .i64 (0),.int .i64 (0),.slice none 0 0,.slice none 0 0,.int .i64 (0)] 109)⟩,⟨(some 18),none,[],[6,32],fun f=>pt (bY (f 6)) (.cells #[Nx (i.epoch+1),Nx (i.next),sB (dC (f 32)) bs (dE (f 32)),.slice none 0 0,Nx (24+bs.length)] 109)⟩] [(2,pp b1 0),(3,pp b2 0)] [0,1] ⟨rfl,rfl,trivial⟩ ⟨?_,?_,?_,?_,?_,?_,?_,?_,?_,?_,?_,?_,?_,?_,?_,?_,?_,?_,?_,trivial⟩ ?_
 ·rintro f M-⟨i0,-⟩
  exact aT (iR 0)
 ·rintro f M ⟨k0,-⟩-
  exact aT eS
 ·rintro f M ⟨k0,-⟩-
  exact aT aY
 ·rintro f M ⟨k0,-⟩-
  exact aT aY
 ·rintro f M ⟨k0,-⟩-
  exact aT (cY 0)
 ·rintro f M ⟨k0,-⟩-
  exact gO (aA (d:=24) rfl k0) rfl (bO (a:=((i.epoch:Nat):Int)) (b:=(1:Int)) rfl rfl (cW (by omega) (by omega))) (.refl _)
 ·rintro f M-⟨i0,-⟩
  exact aT (iR 0)
 ·rintro f M ⟨k0,-⟩-
  exact aT eS
 ·rintro f M ⟨k0,-⟩-
  exact aT aY
 ·rintro f M ⟨k0,-⟩-
  exact aT aY
 ·rintro f M ⟨k0,-⟩-
  exact aT (cY 0)
 ·rintro f M-⟨i0,-⟩
  exact aT (fQ 0)
 ·rintro f M ⟨k0,-⟩-
  refine dL (aA (d:=31) rfl k0) ?_
  refine pV (cT (vs:=[sB va bs (vc)]) aOo.ok rfl rfl) rfl fun w β1 sb kn hw1 back=>(lQ β1 w hw1 bs _ (by omega) (Sl.mono _ _ _ _ _ sb (⟨⟨_,_,rfl,vl,vm,ve⟩⟩:Sl iT _ _ bs))).mono ?_
  rintro e w' ⟨p6,c7,rfl,hw'⟩
  refine⟨_,rfl,_,back _ _ hw',?_⟩
  refine aH ?_
  exact aO (aA (d:=31) rfl k0) rfl (aB 0 rfl)
 ·rintro f M-⟨i0,-⟩
  exact aT (fQ 0)
 ·rintro f M ⟨k0,-⟩-
  exact aT gY
 ·rintro f M ⟨k0,-⟩-
  exact gO (aA (d:=34) rfl k0) rfl (bO (a:=(24:Int)) (b:=((bs.length:Nat):Int)) rfl rfl (cW (by omega) (by omega))) (.refl _)
 ·rintro f M ⟨k0,k1,k2,k3,-⟩-
  have hs32:f 32=sB (dC (f 32)) bs (dE (f 32)):=k2
  exact gO (aA (d:=35) (aA (aA (d:=30) (aA (d:=25) rfl k0) k1) hs32) k3) rfl (bV aUd.ok aUe (vs:=[(0,Nx (i.epoch+1)),(1,Nx (i.next)),(2,sB (dC (f 32)) bs (dE (f 32))),(4,Nx (24+bs.length))]) (cells:= #[Nx (i.epoch+1),Nx (i.next),sB (dC (f 32)) bs (dE (f 32)),.slice none 0 0,Nx (24+bs.length)]) rfl rfl) (.refl _)
 ·rintro f M- -
  refine dL rfl ?_
  refine gB fun b9=>aH ?_
  exact aO rfl rfl (aB 0 rfl)
 ·rintro f M ⟨k0,k1,-⟩-
  have hs6:f 6= .pointer (some ⟨(bY (f 6)),0,none⟩):=k0
  have hs36:f 36= .agg #[Nx (i.epoch+1),Nx (i.next),sB (dC (f 32)) bs (dE (f 32)),.slice none 0 0,Nx (24+bs.length)]:=k1
  refine dL (aA (aA rfl hs6) hs36) ?_
  refine lu (mS 0 (#[Nx (i.epoch+1),Nx (i.next),sB (dC (f 32)) bs (dE (f 32)),.slice none 0 0,Nx (24+bs.length)])) (aH ?_)
  exact bC (aA (aA rfl hs6) hs36) trivial (aB 0 rfl)
 rintro fa10 ⟨-,-,-,-,-,-,-,-,-,-,-,-,-,-,-,-,-,k17,-,-⟩ ⟨j0,j1,-⟩
 refine jD ?_
 refine aD (d:=2) j0 (aD (d:=3) j1 (aD (d:=6) k17 (kM (lE (iR 1) ?_))))
 refine lv (v:= .func (.func 91) #[] #[pp b1 0,.pointer (some ⟨(bY (fa10 6)),0,none⟩),pp b2 0]) (mW (u:=[]) (v:=[pp b1 0,.pointer (some ⟨(bY (fa10 6)),0,none⟩),pp b2 0]) rfl rfl) ?_
 refine aX rfl rfl rfl (cT (vs:=[pp J 0,.func (.func 91) #[] #[pp b1 0,.pointer (some ⟨(bY (fa10 6)),0,none⟩),pp b2 0]]) aUf.ok rfl rfl) ?_
 intro w hw
 replace hw:=hw.perm (L':=_::_::_::_::_::_::_::_::[]) (by exact((((((((aB 6 rfl).trans (aB 5 rfl)).trans (aB 5 rfl)).trans (aB 6 rfl)).trans (aB 4 rfl)).trans (aB 7 rfl)).trans (aB 6 rfl)).trans (aB 7 rfl)))
 obtain⟨β1,sb,kn,hw1,back⟩:=St.frame (L:=[_,_,_,_,_]) (M:=_::_::_::[]) hw
 refine(aDa β1 w J S b1 (bY (fa10 6)) b2 vc (i.epoch+1) i.next va k i (sB ps i.state cs) (sB pr i.recs cr) (sB (dC (fa10 32)) bs (dE (fa10 32))) (.slice none 0 0) (Nx (24+bs.length)) bs (by omega) (by omega) (dH.mono _ _ _ _ _ sb ve) hfit (by omega) hc hw1).mono ?_
 rintro e w' ⟨rfl,hw'⟩
 refine⟨_,rfl,_,back _ _ hw',?_⟩
 refine lE bN (aN (eR (aC (lE aU (lE fD (aN (dN rfl (aC (lE (iR 1) (lE (dK 2) (lE eS (lE aY ?_))))))))))))
 refine lu (mS 0 (#[pp S 0,Nx (i.epoch+1),Nx (i.next),sB (dC (fa10 32)) bs (dE (fa10 32)),.slice none 0 0,Nx (24+bs.length),.bool false])) ?_
 refine eY (lE aU (lE bN (aN (aV (dJ Tryz.results48 rfl ?_)))))
 intro w hw
 replace hw:=hw.emp (zU 27 _)
 exact⟨rfl,St.closeJour (i:=uI i bs) (dn:=false) (M:=[aQ S (pU k (i.epoch+1) i.next bs)]) (aG [true,true,true,true,false,false,false,false,false] rfl (hw.perm (L':=[pt J (.cells #[pp S 0,Nx (i.epoch+1),Nx (i.next),sB (dC (fa10 32)) bs (dE (fa10 32)),.slice none 0 0,Nx (24+bs.length),.bool false] 143),rB (dC (fa10 32)) bs (dE (fa10 32)),gQ 27 none 0 [],aQ S (pU k (i.epoch+1) i.next bs),pt b1 (.cells #[pp J 0] 89),pt (bY (fa10 6)) (.cells #[Nx (i.epoch+1),Nx (i.next),sB (dC (fa10 32)) bs (dE (fa10 32)),.slice none 0 0,Nx (24+bs.length)] 109),pt b2 (.cells #[sB va bs (vc)] 27),rB ps i.state cs,gQ 27 pr cr i.recs]) (by exact(aW [1,8,0,5,2,3,4,6,7] 9 rfl (by kernel_rfl) (by kernel_rfl)))))⟩
end Go.Proofs
