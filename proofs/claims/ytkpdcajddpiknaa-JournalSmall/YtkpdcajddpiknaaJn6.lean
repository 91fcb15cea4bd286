/-
 Open,Append,Checkpoint,walked. Printed by a program of my own.
-/
import Derived.Test.YtkpdcajddpiknaaJn5
set_option linter.all false
set_option maxHeartbeats 4000000
namespace Go.Proofs
open Go Go.Sl Go.Jn
theorem aAx{k:KS}(h:k.okP)(hp:k.power≤9223372036854775807):k.fits 524288:=by
 unfold KS.okP at h
 exact⟨by omega,by omega,by omega,hp⟩
instance aIm:CfC Try.prog 13:={}
theorem aLk:stB Try.prog 84 [(0,1),(1,5),(6,1)]=true:=by kernel_rfl
instance aLl:ZerC Try.prog 84 (.agg #[.pointer none,.int .i64 (0),.int .i64 (0),.slice none 0 0,.slice none 0 0,.int .i64 (0),.bool false]):={}
instance tf72:ZerC Try.prog 43 (.pointer none):={}
instance aGk:CfC Try.prog 51:={}
instance tf74:CfC Try.prog 49:={}
instance tf75:FldC Try.prog 84 1 1 5 true:={}
instance tf76:ZerC Try.prog 94 (.pointer none):={}
theorem vW(β:Base)(w:World)(hw:St β [] w)(k:KS)(vh va vb:Value)(hH:Sl bE β.heap vh k.head)(hA:Sl bE β.heap va k.a)(hB:Sl bE β.heap vb k.b)(h:¬k.okP):kH Try.prog 13 #[.agg #[vh,va,vb,Ix k.power]] β w (.tuple #[.agg #[.int .i64 0,.int .i64 0,.slice none 0 0,.slice none 0 0,.int .i64 0],.int .i64 2]):=by
 refine(xC β w hw k vh va vb hH hA hB).mono fun r w' hh=> ?_
 rcases hh with⟨a,_,c⟩|⟨_,b,_⟩|⟨_,b,_⟩
 ·exact⟨a,c⟩
 ·exact absurd b h
 exact absurd b h
theorem uE(β:Base)(w:World)(hw:St β [] w)(k:KS)(vh va vb:Value)(hH:Sl bE β.heap vh k.head)(hA:Sl bE β.heap va k.a)(hB:Sl bE β.heap vb k.b)(h:k.okP)(h2:eW k=none):kH Try.prog 13 #[.agg #[vh,va,vb,Ix k.power]] β w (.tuple #[.agg #[.int .i64 0,.int .i64 0,.slice none 0 0,.slice none 0 0,.int .i64 0],.int .i64 311]):=by
 refine(xC β w hw k vh va vb hH hA hB).mono fun r w' hh=> ?_
 rcases hh with⟨_,b,_⟩|⟨a,_,_,c⟩|⟨i,_,b,_⟩
 ·exact absurd h b
 ·exact⟨a,c⟩
 rw[h2]at b;cases b
theorem qM(β:Base)(w:World)(hw:St β [] w)(k:KS)(vh va vb:Value)(hH:Sl bE β.heap vh k.head)(hA:Sl bE β.heap va k.a)(hB:Sl bE β.heap vb k.b)(h:k.okP)(i:KI)(h2:eW k=some i):Calls Try.prog 13 #[.agg #[vh,va,vb,Ix k.power]] w fun r w'=>∃ps pr cs cr,r= .returned (.tuple #[.agg #[Nx i.epoch,Nx i.next,sB ps i.state cs,sB pr i.recs cr,Nx i.size],.int .i64 0])∧St β [rB ps i.state cs,dP 30 pr cr i.recs] w':=by
 refine(xC β w hw k vh va vb hH hA hB).mono fun r w' hh=> ?_
 rcases hh with⟨_,b,_⟩|⟨_,_,b,_⟩|⟨j,_,b,hh⟩
 ·exact absurd h b
 ·rw[h2]at b;cases b
 rw[h2]at b;injection b with b;subst b;exact hh
theorem xY(β:Base)(w:World)(J S q6 q1 q4:Nat)(k:KS)(i:KI)(vs vr:Value)(hk:k.fits 524288)(hc:cutOk (k.area i.epoch) k.power i.size)(hw:St β [pt J (.cells #[pp S 0,Nx (i.epoch),Nx (i.next),vs,vr,Nx (i.size),.bool false] 84),pt q6 (.cells #[pp J 0] 43),pt q1 (.cells #[pp S 0] 24),pt q4 (.cells #[Nx (i.epoch),Nx (i.next),vs,vr,Nx (i.size)] 36),aS S k] w):Calls Try.prog 51 #[pp J 0,.func (.func 73) #[] #[pp q6 0,pp q1 0,pp q4 0]] w fun r w'=>r= .returned (.int .i64 0)∧St β [pt J (.cells #[pp S 0,Nx (i.epoch),Nx (i.next),vs,vr,Nx (i.size),.bool false] 84),pt q6 (.cells #[pp J 0] 43),pt q1 (.cells #[pp S 0] 24),pt q4 (.cells #[Nx (i.epoch),Nx (i.next),vs,vr,Nx (i.size)] 36),aS S (aV k i.epoch i.size)] w':=by
 refine(kX β w J 73 [pp q6 0,pp q1 0,pp q4 0] _ _ _ _ _ _ _ [pt q6 (.cells #[pp J 0] 43),pt q1 (.cells #[pp S 0] 24),pt q4 (.cells #[Nx (i.epoch),Nx (i.next),vs,vr,Nx (i.size)] 36),aS S k] [pt q6 (.cells #[pp J 0] 43),pt q1 (.cells #[pp S 0] 24),pt q4 (.cells #[Nx (i.epoch),Nx (i.next),vs,vr,Nx (i.size)] 36),aS S (aV k i.epoch i.size)] [pt q6 (.cells #[pp J 0] 43),pt q1 (.cells #[pp S 0] 24),pt q4 (.cells #[Nx (i.epoch),Nx (i.next),vs,vr,Nx (i.size)] 36),aS S k] (cutOk (k.area i.epoch) k.power i.size) (¬(cutOk (k.area i.epoch) k.power i.size)) (by kernel_rfl) hw (fun β' sb w hw=>yT β' w J S q6 q1 q4 k i vs vr (.bool false) hk hw)).mono fun r w' hh=> ?_
 rcases hh with⟨a,b,c⟩|⟨a,b,c⟩
 ·exact⟨a,c⟩
 exact absurd hc b
theorem xX(β:Base)(w:World)(J S q6 q1 q4:Nat)(k:KS)(i:KI)(vs vr:Value)(hk:k.fits 524288)(hc:¬(cutOk (k.area i.epoch) k.power i.size))(hw:St β [pt J (.cells #[pp S 0,Nx (i.epoch),Nx (i.next),vs,vr,Nx (i.size),.bool false] 84),pt q6 (.cells #[pp J 0] 43),pt q1 (.cells #[pp S 0] 24),pt q4 (.cells #[Nx (i.epoch),Nx (i.next),vs,vr,Nx (i.size)] 36),aS S k] w):Calls Try.prog 51 #[pp J 0,.func (.func 73) #[] #[pp q6 0,pp q1 0,pp q4 0]] w fun r w'=>r= .returned (.int .i64 310)∧St β [pt J (.cells #[pp S 0,Nx (i.epoch),Nx (i.next),vs,vr,Nx (i.size),.bool true] 84),pt q6 (.cells #[pp J 0] 43),pt q1 (.cells #[pp S 0] 24),pt q4 (.cells #[Nx (i.epoch),Nx (i.next),vs,vr,Nx (i.size)] 36),aS S k] w':=by
 refine(kX β w J 73 [pp q6 0,pp q1 0,pp q4 0] _ _ _ _ _ _ _ [pt q6 (.cells #[pp J 0] 43),pt q1 (.cells #[pp S 0] 24),pt q4 (.cells #[Nx (i.epoch),Nx (i.next),vs,vr,Nx (i.size)] 36),aS S k] [pt q6 (.cells #[pp J 0] 43),pt q1 (.cells #[pp S 0] 24),pt q4 (.cells #[Nx (i.epoch),Nx (i.next),vs,vr,Nx (i.size)] 36),aS S (aV k i.epoch i.size)] [pt q6 (.cells #[pp J 0] 43),pt q1 (.cells #[pp S 0] 24),pt q4 (.cells #[Nx (i.epoch),Nx (i.next),vs,vr,Nx (i.size)] 36),aS S k] (cutOk (k.area i.epoch) k.power i.size) (¬(cutOk (k.area i.epoch) k.power i.size)) (by kernel_rfl) hw (fun β' sb w hw=>yT β' w J S q6 q1 q4 k i vs vr (.bool false) hk hw)).mono fun r w' hh=> ?_
 rcases hh with⟨a,b,c⟩|⟨a,b,c⟩
 ·exact absurd b hc
 exact⟨a,c⟩
theorem vE(β:Base)(w:World)(J S q2 q7 q8 cb:Nat)(pb:Option Addr)(k:KS)(i:KI)(vs vr:Value)(fb:Bs)(hk:k.fits 524288)(hb:fb.length≤131072)(hsz:i.size≤524288)(hc:eI k.power fb)(hw:St β [pt J (.cells #[pp S 0,Nx (i.epoch),Nx (i.next),vs,vr,Nx (i.size),.bool false] 84),pt q2 (.cells #[pp J 0] 43),pt q7 (.cells #[pp J 1] 94),pt q8 (.cells #[sB pb fb cb] 30),rB pb fb cb,aS S k] w):Calls Try.prog 51 #[pp J 0,.func (.func 52) #[] #[pp q2 0,pp q7 0,pp q8 0]] w fun r w'=>r= .returned (.int .i64 0)∧St β [pt J (.cells #[pp S 0,Nx (i.epoch),Nx (i.next),vs,vr,Nx (i.size),.bool false] 84),pt q2 (.cells #[pp J 0] 43),pt q7 (.cells #[pp J 1] 94),pt q8 (.cells #[sB pb fb cb] 30),rB pb fb cb,aS S (cJ k i.epoch i.size fb)] w':=by
 refine(kX β w J 52 [pp q2 0,pp q7 0,pp q8 0] _ _ _ _ _ _ _ [pt q2 (.cells #[pp J 0] 43),pt q7 (.cells #[pp J 1] 94),pt q8 (.cells #[sB pb fb cb] 30),rB pb fb cb,aS S k] [pt q2 (.cells #[pp J 0] 43),pt q7 (.cells #[pp J 1] 94),pt q8 (.cells #[sB pb fb cb] 30),rB pb fb cb,aS S (cJ k i.epoch i.size fb)] [pt q2 (.cells #[pp J 0] 43),pt q7 (.cells #[pp J 1] 94),pt q8 (.cells #[sB pb fb cb] 30),rB pb fb cb,aS S (cJ k i.epoch i.size fb)] (eI k.power fb) (¬(eI k.power fb)) (by kernel_rfl) hw (fun β' sb w hw=>tN β' w J S q2 q7 q8 cb pb k i vs vr (.bool false) fb hk hb hsz hw)).mono fun r w' hh=> ?_
 rcases hh with⟨a,b,c⟩|⟨a,b,c⟩
 ·exact⟨a,c⟩
 exact absurd hc b
theorem vD(β:Base)(w:World)(J S q2 q7 q8 cb:Nat)(pb:Option Addr)(k:KS)(i:KI)(vs vr:Value)(fb:Bs)(hk:k.fits 524288)(hb:fb.length≤131072)(hsz:i.size≤524288)(hc:¬(eI k.power fb))(hw:St β [pt J (.cells #[pp S 0,Nx (i.epoch),Nx (i.next),vs,vr,Nx (i.size),.bool false] 84),pt q2 (.cells #[pp J 0] 43),pt q7 (.cells #[pp J 1] 94),pt q8 (.cells #[sB pb fb cb] 30),rB pb fb cb,aS S k] w):Calls Try.prog 51 #[pp J 0,.func (.func 52) #[] #[pp q2 0,pp q7 0,pp q8 0]] w fun r w'=>r= .returned (.int .i64 310)∧St β [pt J (.cells #[pp S 0,Nx (i.epoch),Nx (i.next),vs,vr,Nx (i.size),.bool true] 84),pt q2 (.cells #[pp J 0] 43),pt q7 (.cells #[pp J 1] 94),pt q8 (.cells #[sB pb fb cb] 30),rB pb fb cb,aS S (cJ k i.epoch i.size fb)] w':=by
 refine(kX β w J 52 [pp q2 0,pp q7 0,pp q8 0] _ _ _ _ _ _ _ [pt q2 (.cells #[pp J 0] 43),pt q7 (.cells #[pp J 1] 94),pt q8 (.cells #[sB pb fb cb] 30),rB pb fb cb,aS S k] [pt q2 (.cells #[pp J 0] 43),pt q7 (.cells #[pp J 1] 94),pt q8 (.cells #[sB pb fb cb] 30),rB pb fb cb,aS S (cJ k i.epoch i.size fb)] [pt q2 (.cells #[pp J 0] 43),pt q7 (.cells #[pp J 1] 94),pt q8 (.cells #[sB pb fb cb] 30),rB pb fb cb,aS S (cJ k i.epoch i.size fb)] (eI k.power fb) (¬(eI k.power fb)) (by kernel_rfl) hw (fun β' sb w hw=>tN β' w J S q2 q7 q8 cb pb k i vs vr (.bool false) fb hk hb hsz hw)).mono fun r w' hh=> ?_
 rcases hh with⟨a,b,c⟩|⟨a,b,c⟩
 ·exact absurd b hc
 exact⟨a,c⟩
theorem wI(β:Base)(w:World)(J S q2 q6 q3 sc e n:Nat)(sa:Option Addr)(k:KS)(i:KI)(vs vr:Value)(ws wr_ wz:Value)(xs:Bs)(hl:xs.length≤sc)(hm:sc≤9223372036854775807)(hx:bO bE β.heap sa xs)(hk:k.fits 524288)(hb:xs.length≤65536)(hc:sU k e n xs)(hw:St β [pt J (.cells #[pp S 0,Nx (i.epoch),Nx (i.next),vs,vr,Nx (i.size),.bool false] 84),pt q2 (.cells #[pp J 0] 43),pt q6 (.cells #[Nx (e),Nx (n),ws,wr_,wz] 36),pt q3 (.cells #[sB sa xs (sc)] 30),aS S k] w):Calls Try.prog 51 #[pp J 0,.func (.func 55) #[] #[pp q2 0,pp q6 0,pp q3 0]] w fun r w'=>r= .returned (.int .i64 0)∧St β [pt J (.cells #[pp S 0,Nx (i.epoch),Nx (i.next),vs,vr,Nx (i.size),.bool false] 84),pt q2 (.cells #[pp J 0] 43),pt q6 (.cells #[Nx (e),Nx (n),ws,wr_,wz] 36),pt q3 (.cells #[sB sa xs (sc)] 30),aS S (iE k e n xs)] w':=by
 refine(kX β w J 55 [pp q2 0,pp q6 0,pp q3 0] _ _ _ _ _ _ _ [pt q2 (.cells #[pp J 0] 43),pt q6 (.cells #[Nx (e),Nx (n),ws,wr_,wz] 36),pt q3 (.cells #[sB sa xs (sc)] 30),aS S k] [pt q2 (.cells #[pp J 0] 43),pt q6 (.cells #[Nx (e),Nx (n),ws,wr_,wz] 36),pt q3 (.cells #[sB sa xs (sc)] 30),aS S (iE k e n xs)] [pt q2 (.cells #[pp J 0] 43),pt q6 (.cells #[Nx (e),Nx (n),ws,wr_,wz] 36),pt q3 (.cells #[sB sa xs (sc)] 30),aS S (iE k e n xs)] (sU k e n xs) (¬(sU k e n xs)) (by kernel_rfl) hw (fun β' sb w hw=>aCa β' w J S q2 q6 q3 sc e n sa k i vs vr (.bool false) ws wr_ wz xs hl hm (bO.mono _ _ _ _ _ sb hx) hk hb hw)).mono fun r w' hh=> ?_
 rcases hh with⟨a,b,c⟩|⟨a,b,c⟩
 ·exact⟨a,c⟩
 exact absurd hc b
theorem aFb(β:Base)(w:World)(S:Nat)(k:KS)(hno:¬k.okP)(hw:St β [aS S k] w):Calls Try.prog 40 #[pp S 0] w fun r w'=>r= .returned (.tuple #[.pointer none,.int .i64 2])∧St β [aS S k] w':=by
 refine enter (n:=31) Try.func40 rfl Try.ntmps40 rfl ?_ hw
 refine cC ?_
 refine bxp fun b1=> ?_
 refine lE nV ?_
 refine lE bV ?_
 refine aW ?_
 refine dX ?_
 refine aC ?_
 refine lE (gD 0) ?_
 refine lv (v:= .bool false) (eL (p:=some (⟨S,0,none⟩)) rfl rfl aGh) ?_
 refine aW ?_
 refine dI rfl ?_
 refine eT ?_
 refine aO ?_
 refine eG [1,0] 2 rfl (by kernel_rfl) ?_
 refine cI rfl (fun pH2 pA3 pB4 cH5 cA6 cB7=> ?_)
 refine aC ?_
 refine lE (gD 4) ?_
 refine lE eY ?_
 refine lE (dO 0) ?_
 refine gW gU (fun w β1 sb kn hw1=>vW β1 w hw1 k _ _ _ (kU kn 1 rfl) (kU kn 2 rfl) (kU kn 3 rfl) hno) ?_
 refine lE iK ?_
 refine lE mV ?_
 refine lE kK ?_
 refine fZ fun b8=> ?_
 refine lu (mS 0 (#[.int .i64 (0),.int .i64 (0),.slice none 0 0,.slice none 0 0,.int .i64 (0)])) ?_
 refine lE bV ?_
 refine aW ?_
 refine dX ?_
 refine aC ?_
 refine lE bG ?_
 refine lE gO ?_
 refine aW ?_
 refine dU rfl ?_
 refine cC ?_
 refine lE bG ?_
 refine lE nV ?_
 refine lE bV ?_
 refine aW ?_
 refine bB ?_
 refine aK ?_
 refine vJ (v:= .pointer none) (v':= .int .i64 (2)) Try.results40 rfl rfl ?_
 intro w hw
 exact⟨rfl,St.closeStore (k:=k) (pH:=pH2) (pA:=pA3) (pB:=pB4) (cH:=cH5) (cA:=cA6) (cB:=cB7) (M:=[]) (aF [true,true,true,true,false,false] rfl (hw.perm (L':=[pt S (.cells #[sB pH2 k.head cH5,sB pA3 k.a cA6,sB pB4 k.b cB7,Ix (k.power)] 32),rB pH2 k.head cH5,rB pA3 k.a cA6,rB pB4 k.b cB7,pt b8 (.cells #[.int .i64 (0),.int .i64 (0),.slice none 0 0,.slice none 0 0,.int .i64 (0)] 36),pt b1 (.cells #[pp S 0] 24)]) (by exact(bN [1,2,3,4,0,5] 6 rfl (by kernel_rfl) (by kernel_rfl)))))⟩
theorem aCo(β:Base)(w:World)(S:Nat)(k:KS)(hok:k.okP)(hri:eW k=none)(hw:St β [aS S k] w):Calls Try.prog 40 #[pp S 0] w fun r w'=>r= .returned (.tuple #[.pointer none,.int .i64 311])∧St β [aS S k] w':=by
 refine enter (n:=31) Try.func40 rfl Try.ntmps40 rfl ?_ hw
 refine cC ?_
 refine bxp fun b1=> ?_
 refine lE nV ?_
 refine lE bV ?_
 refine aW ?_
 refine dX ?_
 refine aC ?_
 refine lE (gD 0) ?_
 refine lv (v:= .bool false) (eL (p:=some (⟨S,0,none⟩)) rfl rfl aGh) ?_
 refine aW ?_
 refine dI rfl ?_
 refine eT ?_
 refine aO ?_
 refine eG [1,0] 2 rfl (by kernel_rfl) ?_
 refine cI rfl (fun pH2 pA3 pB4 cH5 cA6 cB7=> ?_)
 refine aC ?_
 refine lE (gD 4) ?_
 refine lE eY ?_
 refine lE (dO 0) ?_
 refine gW gU (fun w β1 sb kn hw1=>uE β1 w hw1 k _ _ _ (kU kn 1 rfl) (kU kn 2 rfl) (kU kn 3 rfl) hok hri) ?_
 refine lE iK ?_
 refine lE mV ?_
 refine lE kK ?_
 refine fZ fun b8=> ?_
 refine lu (mS 0 (#[.int .i64 (0),.int .i64 (0),.slice none 0 0,.slice none 0 0,.int .i64 (0)])) ?_
 refine lE bV ?_
 refine aW ?_
 refine dX ?_
 refine aC ?_
 refine lE bG ?_
 refine lE gO ?_
 refine aW ?_
 refine dU rfl ?_
 refine cC ?_
 refine lE bG ?_
 refine lE nV ?_
 refine lE bV ?_
 refine aW ?_
 refine bB ?_
 refine aK ?_
 refine vJ (v:= .pointer none) (v':= .int .i64 (311)) Try.results40 rfl rfl ?_
 intro w hw
 exact⟨rfl,St.closeStore (k:=k) (pH:=pH2) (pA:=pA3) (pB:=pB4) (cH:=cH5) (cA:=cA6) (cB:=cB7) (M:=[]) (aF [true,true,true,true,false,false] rfl (hw.perm (L':=[pt S (.cells #[sB pH2 k.head cH5,sB pA3 k.a cA6,sB pB4 k.b cB7,Ix (k.power)] 32),rB pH2 k.head cH5,rB pA3 k.a cA6,rB pB4 k.b cB7,pt b8 (.cells #[.int .i64 (0),.int .i64 (0),.slice none 0 0,.slice none 0 0,.int .i64 (0)] 36),pt b1 (.cells #[pp S 0] 24)]) (by exact(bN [1,2,3,4,0,5] 6 rfl (by kernel_rfl) (by kernel_rfl)))))⟩
theorem yU(β:Base)(w:World)(S:Nat)(k:KS)(hok:k.okP)(hpw:k.power≤9223372036854775807)(i:KI)(hri:eW k=some i)(hcut:¬cutOk (k.area i.epoch) k.power i.size)(hw:St β [aS S k] w):Calls Try.prog 40 #[pp S 0] w fun r w'=>r= .returned (.tuple #[.pointer none,.int .i64 310])∧St β [aS S k] w':=by
 have hfit:k.fits 524288:=aAx hok hpw
 refine enter (n:=31) Try.func40 rfl Try.ntmps40 rfl ?_ hw
 refine cC ?_
 refine bxp fun b1=> ?_
 refine lE nV ?_
 refine lE bV ?_
 refine aW ?_
 refine dX ?_
 refine aC ?_
 refine lE (gD 0) ?_
 refine lv (v:= .bool false) (eL (p:=some (⟨S,0,none⟩)) rfl rfl aGh) ?_
 refine aW ?_
 refine dI rfl ?_
 refine eT ?_
 refine aO ?_
 refine eG [1,0] 2 rfl (by kernel_rfl) ?_
 refine cI rfl (fun pH2 pA3 pB4 cH5 cA6 cB7=> ?_)
 refine aC ?_
 refine lE (gD 4) ?_
 refine lE eY ?_
 refine lE (dO 0) ?_
 refine jH (cY (vs:=[.agg #[sB pH2 k.head cH5,sB pA3 k.a cA6,sB pB4 k.b cB7,Ix (k.power)]]) aIm.ok rfl rfl) rfl fun w β1 sb kn hw1 back=>(qM β1 w hw1 k _ _ _ (kU kn 1 rfl) (kU kn 2 rfl) (kU kn 3 rfl) hok i hri).mono ?_
 rintro e w' ⟨ps8,pr9,cs10,cr11,rfl,hw'⟩
 refine⟨_,rfl,_,back _ _ hw',?_⟩
 refine lE iK ?_
 refine lE mV ?_
 refine lE kK ?_
 refine fZ fun b12=> ?_
 refine lu (mS 0 (#[Nx (i.epoch),Nx (i.next),sB ps8 i.state cs10,sB pr9 i.recs cr11,Nx (i.size)])) ?_
 refine lE bV ?_
 refine aW ?_
 refine dX ?_
 refine aC ?_
 refine lE bG ?_
 refine lE gO ?_
 refine aW ?_
 refine dI rfl ?_
 refine eT ?_
 refine cC ?_
 refine lE (gD 7) ?_
 refine lE (dO 0) ?_
 refine lv (v:= .agg #[pp S 0,Nx (i.epoch),Nx (i.next),sB ps8 i.state cs10,sB pr9 i.recs cr11,Nx (i.size),.bool false]) (dW aLl.ok aLk (vs:=[(0,pp S 0),(1,.agg #[Nx (i.epoch),Nx (i.next),sB ps8 i.state cs10,sB pr9 i.recs cr11,Nx (i.size)])]) (cells:= #[pp S 0,Nx (i.epoch),Nx (i.next),sB ps8 i.state cs10,sB pr9 i.recs cr11,Nx (i.size),.bool false]) rfl rfl) ?_
 refine pD fun b13=> ?_
 refine fZ fun b14=> ?_
 refine lu (mS 0 (#[pp b13 0])) ?_
 refine aW ?_
 refine dX ?_
 refine eG [5,6,7,8,0,1,2,3,4,9] 10 rfl (by kernel_rfl) ?_
 refine bW (S:=S) (k:=k) (pH:=pH2) (pA:=pA3) (pB:=pB4) (cH:=cH5) (cA:=cA6) (cB:=cB7) (M:=(pt b14 (.cells #[pp b13 0] 43)::pt b13 (.cells #[pp S 0,Nx (i.epoch),Nx (i.next),sB ps8 i.state cs10,sB pr9 i.recs cr11,Nx (i.size),.bool false] 84)::pt b12 (.cells #[Nx (i.epoch),Nx (i.next),sB ps8 i.state cs10,sB pr9 i.recs cr11,Nx (i.size)] 36)::rB ps8 i.state cs10::dP 30 pr9 cr11 i.recs::pt b1 (.cells #[pp S 0] 24)::[])) rfl ?_
 refine aC ?_
 refine lE (gD 1) ?_
 refine lv (v:= .func (.func 73) #[] #[pp b14 0,pp b1 0,pp b12 0]) (pO (u:=[]) (v:=[pp b14 0,pp b1 0,pp b12 0]) rfl rfl) ?_
 refine bP rfl rfl rfl (cY (vs:=[pp b13 0,.func (.func 73) #[] #[pp b14 0,pp b1 0,pp b12 0]]) aGk.ok rfl rfl) ?_
 intro w hw
 replace hw:=hw.perm (L':=_::_::_::_::_::_::_::[]) (by exact(((((((aB 5 rfl).trans (aB 5 rfl)).trans (aB 2 rfl)).trans (aB 5 rfl)).trans (aB 6 rfl)).trans (aB 5 rfl)).trans (aB 6 rfl)))
 obtain⟨β1,sb,kn,hw1,back⟩:=St.frame (L:=[_,_,_,_,_]) (M:=_::_::[]) hw
 refine(xX β1 w b13 S b14 b1 b12 k i (sB ps8 i.state cs10) (sB pr9 i.recs cr11) hfit hcut hw1).mono ?_
 rintro e w' ⟨rfl,hw'⟩
 refine⟨_,rfl,_,back _ _ hw',?_⟩
 refine lE bV ?_
 refine eJ ?_
 refine lE bG ?_
 refine lE gO ?_
 refine aW ?_
 refine dU rfl ?_
 refine cC ?_
 refine lE bG ?_
 refine lE nV ?_
 refine lE bV ?_
 refine aW ?_
 refine bB ?_
 refine aK ?_
 refine vJ (v:= .pointer none) (v':= .int .i64 (310)) Try.results40 rfl rfl ?_
 intro w hw
 exact⟨rfl,aF [true,false,false,false,false,false,false] rfl (hw.perm (L':=[aS S k,pt b13 (.cells #[pp S 0,Nx (i.epoch),Nx (i.next),sB ps8 i.state cs10,sB pr9 i.recs cr11,Nx (i.size),.bool true] 84),pt b14 (.cells #[pp b13 0] 43),pt b1 (.cells #[pp S 0] 24),pt b12 (.cells #[Nx (i.epoch),Nx (i.next),sB ps8 i.state cs10,sB pr9 i.recs cr11,Nx (i.size)] 36),rB ps8 i.state cs10,dP 30 pr9 cr11 i.recs]) (by exact(bN [4,0,1,2,3,5,6] 7 rfl (by kernel_rfl) (by kernel_rfl))))⟩
theorem oO(β:Base)(w:World)(S:Nat)(k:KS)(hok:k.okP)(hpw:k.power≤9223372036854775807)(i:KI)(hri:eW k=some i)(hcut:cutOk (k.area i.epoch) k.power i.size)(hw:St β [aS S k] w):Calls Try.prog 40 #[pp S 0] w fun r w'=>∃J,r= .returned (.tuple #[pp J 0,.int .i64 0])∧St β [dC J S i false,aS S (aV k i.epoch i.size)] w':=by
 have hfit:k.fits 524288:=aAx hok hpw
 refine enter (n:=31) Try.func40 rfl Try.ntmps40 rfl ?_ hw
 refine cC ?_
 refine bxp fun b1=> ?_
 refine lE nV ?_
 refine lE bV ?_
 refine aW ?_
 refine dX ?_
 refine aC ?_
 refine lE (gD 0) ?_
 refine lv (v:= .bool false) (eL (p:=some (⟨S,0,none⟩)) rfl rfl aGh) ?_
 refine aW ?_
 refine dI rfl ?_
 refine eT ?_
 refine aO ?_
 refine eG [1,0] 2 rfl (by kernel_rfl) ?_
 refine cI rfl (fun pH2 pA3 pB4 cH5 cA6 cB7=> ?_)
 refine aC ?_
 refine lE (gD 4) ?_
 refine lE eY ?_
 refine lE (dO 0) ?_
 refine jH (cY (vs:=[.agg #[sB pH2 k.head cH5,sB pA3 k.a cA6,sB pB4 k.b cB7,Ix (k.power)]]) aIm.ok rfl rfl) rfl fun w β1 sb kn hw1 back=>(qM β1 w hw1 k _ _ _ (kU kn 1 rfl) (kU kn 2 rfl) (kU kn 3 rfl) hok i hri).mono ?_
 rintro e w' ⟨ps8,pr9,cs10,cr11,rfl,hw'⟩
 refine⟨_,rfl,_,back _ _ hw',?_⟩
 refine lE iK ?_
 refine lE mV ?_
 refine lE kK ?_
 refine fZ fun b12=> ?_
 refine lu (mS 0 (#[Nx (i.epoch),Nx (i.next),sB ps8 i.state cs10,sB pr9 i.recs cr11,Nx (i.size)])) ?_
 refine lE bV ?_
 refine aW ?_
 refine dX ?_
 refine aC ?_
 refine lE bG ?_
 refine lE gO ?_
 refine aW ?_
 refine dI rfl ?_
 refine eT ?_
 refine cC ?_
 refine lE (gD 7) ?_
 refine lE (dO 0) ?_
 refine lv (v:= .agg #[pp S 0,Nx (i.epoch),Nx (i.next),sB ps8 i.state cs10,sB pr9 i.recs cr11,Nx (i.size),.bool false]) (dW aLl.ok aLk (vs:=[(0,pp S 0),(1,.agg #[Nx (i.epoch),Nx (i.next),sB ps8 i.state cs10,sB pr9 i.recs cr11,Nx (i.size)])]) (cells:= #[pp S 0,Nx (i.epoch),Nx (i.next),sB ps8 i.state cs10,sB pr9 i.recs cr11,Nx (i.size),.bool false]) rfl rfl) ?_
 refine pD fun b13=> ?_
 refine fZ fun b14=> ?_
 refine lu (mS 0 (#[pp b13 0])) ?_
 refine aW ?_
 refine dX ?_
 refine eG [5,6,7,8,0,1,2,3,4,9] 10 rfl (by kernel_rfl) ?_
 refine bW (S:=S) (k:=k) (pH:=pH2) (pA:=pA3) (pB:=pB4) (cH:=cH5) (cA:=cA6) (cB:=cB7) (M:=(pt b14 (.cells #[pp b13 0] 43)::pt b13 (.cells #[pp S 0,Nx (i.epoch),Nx (i.next),sB ps8 i.state cs10,sB pr9 i.recs cr11,Nx (i.size),.bool false] 84)::pt b12 (.cells #[Nx (i.epoch),Nx (i.next),sB ps8 i.state cs10,sB pr9 i.recs cr11,Nx (i.size)] 36)::rB ps8 i.state cs10::dP 30 pr9 cr11 i.recs::pt b1 (.cells #[pp S 0] 24)::[])) rfl ?_
 refine aC ?_
 refine lE (gD 1) ?_
 refine lv (v:= .func (.func 73) #[] #[pp b14 0,pp b1 0,pp b12 0]) (pO (u:=[]) (v:=[pp b14 0,pp b1 0,pp b12 0]) rfl rfl) ?_
 refine bP rfl rfl rfl (cY (vs:=[pp b13 0,.func (.func 73) #[] #[pp b14 0,pp b1 0,pp b12 0]]) aGk.ok rfl rfl) ?_
 intro w hw
 replace hw:=hw.perm (L':=_::_::_::_::_::_::_::[]) (by exact(((((((aB 5 rfl).trans (aB 5 rfl)).trans (aB 2 rfl)).trans (aB 5 rfl)).trans (aB 6 rfl)).trans (aB 5 rfl)).trans (aB 6 rfl)))
 obtain⟨β1,sb,kn,hw1,back⟩:=St.frame (L:=[_,_,_,_,_]) (M:=_::_::[]) hw
 refine(xY β1 w b13 S b14 b1 b12 k i (sB ps8 i.state cs10) (sB pr9 i.recs cr11) hfit hcut hw1).mono ?_
 rintro e w' ⟨rfl,hw'⟩
 refine⟨_,rfl,_,back _ _ hw',?_⟩
 refine lE bV ?_
 refine eJ ?_
 refine lE bG ?_
 refine lE gO ?_
 refine aW ?_
 refine dI rfl ?_
 refine eT ?_
 refine cC ?_
 refine lE (gD 1) ?_
 refine lE nV ?_
 refine lE bV ?_
 refine aW ?_
 refine bB ?_
 refine vJ (v:=pp b13 0) (v':= .int .i64 (0)) Try.results40 rfl rfl ?_
 intro w hw
 exact⟨_,rfl,St.closeJour (i:=i) (dn:=false) (M:=[aS S (aV k i.epoch i.size)]) (aF [true,true,true,true,false,false,false] rfl (hw.perm (L':=[pt b13 (.cells #[pp S 0,Nx (i.epoch),Nx (i.next),sB ps8 i.state cs10,sB pr9 i.recs cr11,Nx (i.size),.bool false] 84),rB ps8 i.state cs10,dP 30 pr9 cr11 i.recs,aS S (aV k i.epoch i.size),pt b14 (.cells #[pp b13 0] 43),pt b1 (.cells #[pp S 0] 24),pt b12 (.cells #[Nx (i.epoch),Nx (i.next),sB ps8 i.state cs10,sB pr9 i.recs cr11,Nx (i.size)] 36)]) (by exact(bN [0,5,6,4,1,2,3] 7 rfl (by kernel_rfl) (by kernel_rfl)))))⟩
theorem mX(β:Base)(w:World)(hw:St β [] w)(J S:Nat)(x1 x2 x3 x4 x5:Value)(dn:Bool)(hJ:Cs β.heap ⟨J,0,none⟩ [pp S 0,x1,x2,x3,x4,x5,.bool (dn)])(bs:Bs)(v:Value)(hs:Sl bE β.heap v bs)(c:Int)(hc:uF dn bs=c):kH Try.prog 49 #[pp J 0,v] β w (.int .i64 c):=by
 subst hc
 exact aFk β w hw J S x1 x2 x3 x4 x5 dn hJ bs v hs
theorem xW(β:Base)(w:World)(J S:Nat)(k:KS)(i:KI)(dn:Bool)(bs:Bs)(hlong:65536<bs.length)(v:Value)(hs:Sl bE β.heap v bs)(hw:St β [dC J S i dn] w):Calls Try.prog 17 #[pp J 0,v] w fun r w'=>r= .returned (.tuple #[.int .i64 0,.int .i64 3])∧St β [dC J S i dn] w':=by
 obtain⟨va,vc,rfl,vl,vm,ve⟩:=hs.get
 obtain⟨ps,pr,cs,cr,hw⟩:=St.openJour hw
 refine enter (n:=83) Try.func17 rfl Try.ntmps17 rfl ?_ hw
 refine cC ?_
 refine bxp fun b1=> ?_
 iterate 2 refine lE bV ?_
 refine aW ?_
 refine dX ?_
 refine aC ?_
 refine lE (gD 0) ?_
 refine lE cX ?_
 refine gW gU (fun w β1 sb kn hw1=>mX β1 w hw1 J S (Nx (i.epoch)) (Nx (i.next)) (sB ps i.state cs) (sB pr i.recs cr) (Nx (i.size)) dn (kn _ (dM 1 rfl rfl)) bs _ (Sl.mono _ _ _ _ _ sb (⟨⟨_,_,rfl,vl,vm,ve⟩⟩:Sl bE _ _ bs)) (3) (if_pos hlong)) ?_
 refine lE bV ?_
 refine eJ ?_
 refine lE bG ?_
 refine lE gO ?_
 refine aW ?_
 refine dU rfl ?_
 refine cC ?_
 refine lE bG ?_
 iterate 2 refine lE bV ?_
 refine aW ?_
 refine bB ?_
 refine aK ?_
 refine vJ (v:= .int .i64 (0)) (v':= .int .i64 (3)) Try.results17 rfl rfl ?_
 intro w hw
 exact⟨rfl,St.closeJour (i:=i) (dn:=dn) (M:=[]) (aF [true,true,true,false] rfl (hw.perm (L':=[pt J (.cells #[pp S 0,Nx (i.epoch),Nx (i.next),sB ps i.state cs,sB pr i.recs cr,Nx (i.size),.bool (dn)] 84),rB ps i.state cs,dP 30 pr cr i.recs,pt b1 (.cells #[pp J 0] 43)]) (by exact(bN [1,2,3,0] 4 rfl (by kernel_rfl) (by kernel_rfl)))))⟩
theorem nJ(β:Base)(w:World)(J S:Nat)(k:KS)(i:KI)(bs:Bs)(hlong:bs.length≤65536)(hnl:i.next≤4611686018427387904)(hsz:i.size≤262144)(hful:262144<i.size+24+bs.length∨i.next=4611686018427387904)(v:Value)(hs:Sl bE β.heap v bs)(hw:St β [dC J S i false] w):Calls Try.prog 17 #[pp J 0,v] w fun r w'=>r= .returned (.tuple #[.int .i64 0,.int .i64 4])∧St β [dC J S i false] w':=by
 obtain⟨va,vc,rfl,vl,vm,ve⟩:=hs.get
 obtain⟨ps,pr,cs,cr,hw⟩:=St.openJour hw
 refine enter (n:=83) Try.func17 rfl Try.ntmps17 rfl ?_ hw
 refine cC ?_
 refine bxp fun b1=> ?_
 iterate 2 refine lE bV ?_
 refine aW ?_
 refine dX ?_
 refine aC ?_
 refine lE (gD 0) ?_
 refine lE cX ?_
 refine gW gU (fun w β1 sb kn hw1=>mX β1 w hw1 J S (Nx (i.epoch)) (Nx (i.next)) (sB ps i.state cs) (sB pr i.recs cr) (Nx (i.size)) false (kn _ (dM 1 rfl rfl)) bs _ (Sl.mono _ _ _ _ _ sb (⟨⟨_,_,rfl,vl,vm,ve⟩⟩:Sl bE _ _ bs)) (0) ((if_neg (by omega)).trans (if_neg (by decide)))) ?_
 refine lE bV ?_
 refine eJ ?_
 refine lE bG ?_
 refine lE gO ?_
 refine aW ?_
 refine dI rfl ?_
 refine eT ?_
 refine cC ?_
 refine lE (gD 0) ?_
 refine lE eY ?_
 refine lE bM ?_
 refine fZ fun b2=> ?_
 refine lu (mS 0 (#[pp J 1])) ?_
 refine aW ?_
 refine dX ?_
 refine aC ?_
 refine lE (gD 0) ?_
 refine lE eY ?_
 refine lE bM ?_
 refine lE (eU 2) ?_
 refine lv (v:=Nx (i.size+24)) (bJ rfl rfl (bU (by omega) (by omega))) ?_
 refine lE cX ?_
 refine lE fC ?_
 refine lv (v:=Nx ((i.size+24)+bs.length)) (bJ rfl rfl (bU (by omega) (by omega))) ?_
 refine lE qZ ?_
 refine lE dQ ?_
 refine cD (s:=28) rfl (fun hg3=> ?_) (fun hg3=> ?_)
 ·iterate 5 refine iU ?_
  refine lE dY ?_
  refine aW ?_
  refine dU rfl ?_
  refine cC ?_
  iterate 2 refine lE bV ?_
  refine aW ?_
  refine bB ?_
  refine aK ?_
  refine vJ (v:= .int .i64 (0)) (v':= .int .i64 (4)) Try.results17 rfl rfl ?_
  intro w hw
  exact⟨rfl,St.closeJour (i:=i) (dn:=false) (M:=[]) (aF [true,true,true,false,false] rfl (hw.perm (L':=[pt J (.cells #[pp S 0,Nx (i.epoch),Nx (i.next),sB ps i.state cs,sB pr i.recs cr,Nx (i.size),.bool false] 84),rB ps i.state cs,dP 30 pr cr i.recs,pt b2 (.cells #[pp J 1] 94),pt b1 (.cells #[pp J 0] 43)]) (by exact(bN [2,3,4,0,1] 5 rfl (by kernel_rfl) (by kernel_rfl)))))⟩
 refine gE (gD 0) ?_
 refine gE eY ?_
 refine gE bM ?_
 refine gE (eU 2) ?_
 refine gE dR ?_
 refine lE cR ?_
 refine aW ?_
 refine cK _ rfl (fun hc4=> ?_) (fun hc4=> ?_)
 ·refine cC ?_
  iterate 2 refine lE bV ?_
  refine aW ?_
  refine bB ?_
  refine aK ?_
  refine vJ (v:= .int .i64 (0)) (v':= .int .i64 (4)) Try.results17 rfl rfl ?_
  intro w hw
  exact⟨rfl,St.closeJour (i:=i) (dn:=false) (M:=[]) (aF [true,true,true,false,false] rfl (hw.perm (L':=[pt J (.cells #[pp S 0,Nx (i.epoch),Nx (i.next),sB ps i.state cs,sB pr i.recs cr,Nx (i.size),.bool false] 84),rB ps i.state cs,dP 30 pr cr i.recs,pt b2 (.cells #[pp J 1] 94),pt b1 (.cells #[pp J 0] 43)]) (by exact(bN [2,3,4,0,1] 5 rfl (by kernel_rfl) (by kernel_rfl)))))⟩
 exact absurd (by omega) hc4
theorem xV(β:Base)(w:World)(J S:Nat)(k:KS)(i:KI)(bs:Bs)(hlong:bs.length≤65536)(hfit:k.fits 524288)(hnl:i.next≤4611686018427387904)(hsz:i.size≤262144)(hrl:i.recs.length≤1048576)(hful:i.size+24+bs.length≤262144)(hnm:i.next≠4611686018427387904)(hc:¬aBy k i bs)(v:Value)(hs:Sl bE β.heap v bs)(hw:St β [dC J S i false,aS S k] w):Calls Try.prog 17 #[pp J 0,v] w fun r w'=>r= .returned (.tuple #[.int .i64 0,.int .i64 310])∧St β [dC J S i true,aS S (gK k i bs)] w':=by
 obtain⟨va,vc,rfl,vl,vm,ve⟩:=hs.get
 obtain⟨ps,pr,cs,cr,hw⟩:=St.openJour hw
 refine enter (n:=83) Try.func17 rfl Try.ntmps17 rfl ?_ hw
 refine cC ?_
 refine bxp fun b1=> ?_
 iterate 2 refine lE bV ?_
 refine aW ?_
 refine dX ?_
 refine aC ?_
 refine lE (gD 0) ?_
 refine lE cX ?_
 refine gW gU (fun w β1 sb kn hw1=>mX β1 w hw1 J S (Nx (i.epoch)) (Nx (i.next)) (sB ps i.state cs) (sB pr i.recs cr) (Nx (i.size)) false (kn _ (dM 1 rfl rfl)) bs _ (Sl.mono _ _ _ _ _ sb (⟨⟨_,_,rfl,vl,vm,ve⟩⟩:Sl bE _ _ bs)) (0) ((if_neg (by omega)).trans (if_neg (by decide)))) ?_
 refine lE bV ?_
 refine eJ ?_
 refine lE bG ?_
 refine lE gO ?_
 refine aW ?_
 refine dI rfl ?_
 refine eT ?_
 refine cC ?_
 refine lE (gD 0) ?_
 refine lE eY ?_
 refine lE bM ?_
 refine fZ fun b2=> ?_
 refine lu (mS 0 (#[pp J 1])) ?_
 refine aW ?_
 refine dX ?_
 refine aC ?_
 refine lE (gD 0) ?_
 refine lE eY ?_
 refine lE bM ?_
 refine lE (eU 2) ?_
 refine lv (v:=Nx (i.size+24)) (bJ rfl rfl (bU (by omega) (by omega))) ?_
 refine lE cX ?_
 refine lE fC ?_
 refine lv (v:=Nx ((i.size+24)+bs.length)) (bJ rfl rfl (bU (by omega) (by omega))) ?_
 refine lE qZ ?_
 refine lE dQ ?_
 refine cD (s:=28) rfl (fun h=> ?_) (fun h=> ?_)
 exact absurd h (by omega)
 refine gE (gD 0) ?_
 refine gE eY ?_
 refine gE bM ?_
 refine gE (eU 2) ?_
 refine gE dR ?_
 refine lE cR ?_
 refine aW ?_
 refine cK _ rfl (fun hc3=> ?_) (fun hc3=> ?_)
 ·exact absurd hc3 (by omega)
 refine eT ?_
 refine aO ?_
 refine rF [sv 35 (pp J 1) [] [] [0],sv 36 (pp J 1) [0] [0] [],sv 37 (pp J 1) [0,1] [1] [],sv 38 (Nx (i.epoch)) [0,1,2] [2] [],sv 39 (pp J 1) [] [] [0],sv 40 (pp J 1) [4] [4] [],sv 41 (pp J 2) [4,5] [5] [],sv 42 (Nx (i.next)) [4,5,6] [6] [],sv 43 (sB va bs (vc)) [] [] [1],⟨(List.range 9),[3,7,8],[],[44],fun f=>f 44=sB (aM (f 44)) (aD ((i.epoch:Nat):Int) ((i.next:Nat):Int) bs) (aN (f 44))⟩,⟨[],[],[],[8],fun f=>f 8= .pointer (some ⟨(bI (f 8)),0,none⟩)⟩,⟨(List.range 11),[10,9],[],[],fun _=>True⟩] [u1 [0,4],u0,u1 [3,7]] [⟨(some 9),none,[],[44],fun f=>rB (aM (f 44)) (aD ((i.epoch:Nat):Int) ((i.next:Nat):Int) bs) (aN (f 44))⟩,⟨(some 10),(some 11),[11],[8],fun f=>pt (bI (f 8)) (.cells #[.slice none 0 0] 30)⟩,⟨(some 11),none,[],[8,44],fun f=>pt (bI (f 8)) (.cells #[sB (aM (f 44)) (aD ((i.epoch:Nat):Int) ((i.next:Nat):Int) bs) (aN (f 44))] 30)⟩] [(7,pp b2 0),(1,sB va bs (vc)),(2,pp b1 0)] [1,2,0] ⟨rfl,rfl,rfl,trivial⟩ ⟨?_,?_,?_,?_,?_,?_,?_,?_,?_,?_,?_,?_,trivial⟩ ?_
 ·rintro f M-⟨i0,-⟩
  exact bK (gD 0)
 ·rintro f M ⟨k0,-⟩-
  exact bK eY
 ·rintro f M ⟨k0,-⟩-
  exact bK bM
 ·rintro f M ⟨k0,-⟩-
  exact bK (eU 0)
 ·rintro f M-⟨i0,-⟩
  exact bK (gD 0)
 ·rintro f M ⟨k0,-⟩-
  exact bK eY
 ·rintro f M ⟨k0,-⟩-
  exact bK bM
 ·rintro f M ⟨k0,-⟩-
  exact bK (eU 0)
 ·rintro f M-⟨i0,-⟩
  exact bK cX
 ·rintro f M ⟨k0,k1,k2,-⟩-
  refine fF (aA (d:=43) (aA (d:=42) (aA (d:=38) rfl k0) k1) k2) ?_
  refine jH (cY (vs:=[Nx (i.epoch),Nx (i.next),sB va bs (vc)]) aIl.ok rfl rfl) rfl fun w β1 sb kn hw1 back=>(tE β1 w hw1 ((i.epoch:Nat):Int) ((i.next:Nat):Int) bs _ (by omega) (Sl.mono _ _ _ _ _ sb (⟨⟨_,_,rfl,vl,vm,ve⟩⟩:Sl bE _ _ bs))).mono ?_
  rintro e w' ⟨p6,c7,rfl,hw'⟩
  refine⟨_,rfl,_,back _ _ hw',?_⟩
  refine aG ?_
  exact aI (aA (d:=43) (aA (d:=42) (aA (d:=38) rfl k0) k1) k2) rfl (aB 0 rfl)
 ·rintro f M- -
  refine fF rfl ?_
  refine fZ fun b9=> ?_
  refine aG ?_
  exact aI rfl rfl (aB 0 rfl)
 ·rintro f M ⟨k0,k1,-⟩-
  have hs8:f 8= .pointer (some ⟨(bI (f 8)),0,none⟩):=k0
  have hs44:f 44=sB (aM (f 44)) (aD ((i.epoch:Nat):Int) ((i.next:Nat):Int) bs) (aN (f 44)):=k1
  refine fF (aA (aA rfl hs8) hs44) ?_
  refine lu (mS 0 (#[sB (aM (f 44)) (aD ((i.epoch:Nat):Int) ((i.next:Nat):Int) bs) (aN (f 44))])) ?_
  refine aG ?_
  exact cT (aA (aA rfl hs8) hs44) trivial (aB 0 rfl)
 rintro fa10 ⟨-,-,-,-,-,-,-,-,-,-,k10,-,-⟩ ⟨j0,j1,j2,-⟩
 refine rL ?_
 refine aJ (d:=1) j0 ?_
 refine aJ (d:=2) j1 ?_
 refine aJ (d:=7) j2 ?_
 refine aJ (d:=8) k10 ?_
 refine zT ?_
 refine cC ?_
 refine lE (gD 1) ?_
 refine lv (v:= .func (.func 52) #[] #[pp b1 0,pp b2 0,.pointer (some ⟨(bI (fa10 8)),0,none⟩)]) (pO (u:=[]) (v:=[pp b1 0,pp b2 0,.pointer (some ⟨(bI (fa10 8)),0,none⟩)]) rfl rfl) ?_
 refine bP rfl rfl rfl (cY (vs:=[pp J 0,.func (.func 52) #[] #[pp b1 0,pp b2 0,.pointer (some ⟨(bI (fa10 8)),0,none⟩)]]) aGk.ok rfl rfl) ?_
 intro w hw
 replace hw:=hw.perm (L':=_::_::_::_::_::_::_::_::[]) (by exact((((((((aB 4 rfl).trans (aB 4 rfl)).trans (aB 5 rfl)).trans (aB 6 rfl)).trans (aB 7 rfl)).trans (aB 5 rfl)).trans (aB 6 rfl)).trans (aB 7 rfl)))
 obtain⟨β1,sb,kn,hw1,back⟩:=St.frame (L:=[_,_,_,_,_,_]) (M:=_::_::[]) hw
 refine(vD β1 w J S b1 b2 (bI (fa10 8)) (aN (fa10 44)) (aM (fa10 44)) k i (sB ps i.state cs) (sB pr i.recs cr) (aD ((i.epoch:Nat):Int) ((i.next:Nat):Int) bs) hfit (by rw[aH];omega) (by omega) hc hw1).mono ?_
 rintro e w' ⟨rfl,hw'⟩
 refine⟨_,rfl,_,back _ _ hw',?_⟩
 refine lE bV ?_
 refine eJ ?_
 refine lE bG ?_
 refine lE gO ?_
 refine aW ?_
 refine dU rfl ?_
 refine cC ?_
 refine lE bG ?_
 iterate 2 refine lE bV ?_
 refine aW ?_
 refine bB ?_
 refine aK ?_
 refine vJ (v:= .int .i64 (0)) (v':= .int .i64 (310)) Try.results17 rfl rfl ?_
 intro w hw
 exact⟨rfl,St.closeJour (i:=i) (dn:=true) (M:=[aS S (cJ k i.epoch i.size (aD ((i.epoch:Nat):Int) ((i.next:Nat):Int) bs))]) (aF [true,true,true,true,false,false,false,false] rfl (hw.perm (L':=[pt J (.cells #[pp S 0,Nx (i.epoch),Nx (i.next),sB ps i.state cs,sB pr i.recs cr,Nx (i.size),.bool true] 84),rB ps i.state cs,dP 30 pr cr i.recs,aS S (cJ k i.epoch i.size (aD ((i.epoch:Nat):Int) ((i.next:Nat):Int) bs)),pt b1 (.cells #[pp J 0] 43),pt b2 (.cells #[pp J 1] 94),pt (bI (fa10 8)) (.cells #[sB (aM (fa10 44)) (aD ((i.epoch:Nat):Int) ((i.next:Nat):Int) bs) (aN (fa10 44))] 30),rB (aM (fa10 44)) (aD ((i.epoch:Nat):Int) ((i.next:Nat):Int) bs) (aN (fa10 44))]) (by exact(bN [0,6,7,5,1,2,3,4] 8 rfl (by kernel_rfl) (by kernel_rfl)))))⟩
theorem rC(β:Base)(w:World)(J S:Nat)(k:KS)(i:KI)(bs:Bs)(hlong:bs.length≤65536)(hfit:k.fits 524288)(hnl:i.next≤4611686018427387904)(hsz:i.size≤262144)(hrl:i.recs.length≤1048576)(hful:i.size+24+bs.length≤262144)(hnm:i.next≠4611686018427387904)(hc:aBy k i bs)(v:Value)(hs:Sl bE β.heap v bs)(hw:St β [dC J S i false,aS S k] w):Calls Try.prog 17 #[pp J 0,v] w fun r w'=>r= .returned (.tuple #[Nx i.next,.int .i64 0])∧St β [dC J S (hG i bs) false,aS S (gK k i bs)] w':=by
 obtain⟨va,vc,rfl,vl,vm,ve⟩:=hs.get
 obtain⟨ps,pr,cs,cr,hw⟩:=St.openJour hw
 refine enter (n:=83) Try.func17 rfl Try.ntmps17 rfl ?_ hw
 refine cC ?_
 refine bxp fun b1=> ?_
 iterate 2 refine lE bV ?_
 refine aW ?_
 refine dX ?_
 refine aC ?_
 refine lE (gD 0) ?_
 refine lE cX ?_
 refine gW gU (fun w β1 sb kn hw1=>mX β1 w hw1 J S (Nx (i.epoch)) (Nx (i.next)) (sB ps i.state cs) (sB pr i.recs cr) (Nx (i.size)) false (kn _ (dM 1 rfl rfl)) bs _ (Sl.mono _ _ _ _ _ sb (⟨⟨_,_,rfl,vl,vm,ve⟩⟩:Sl bE _ _ bs)) (0) ((if_neg (by omega)).trans (if_neg (by decide)))) ?_
 refine lE bV ?_
 refine eJ ?_
 refine lE bG ?_
 refine lE gO ?_
 refine aW ?_
 refine dI rfl ?_
 refine eT ?_
 refine cC ?_
 refine lE (gD 0) ?_
 refine lE eY ?_
 refine lE bM ?_
 refine fZ fun b2=> ?_
 refine lu (mS 0 (#[pp J 1])) ?_
 refine aW ?_
 refine dX ?_
 refine aC ?_
 refine lE (gD 0) ?_
 refine lE eY ?_
 refine lE bM ?_
 refine lE (eU 2) ?_
 refine lv (v:=Nx (i.size+24)) (bJ rfl rfl (bU (by omega) (by omega))) ?_
 refine lE cX ?_
 refine lE fC ?_
 refine lv (v:=Nx ((i.size+24)+bs.length)) (bJ rfl rfl (bU (by omega) (by omega))) ?_
 refine lE qZ ?_
 refine lE dQ ?_
 refine cD (s:=28) rfl (fun h=> ?_) (fun h=> ?_)
 exact absurd h (by omega)
 refine gE (gD 0) ?_
 refine gE eY ?_
 refine gE bM ?_
 refine gE (eU 2) ?_
 refine gE dR ?_
 refine lE cR ?_
 refine aW ?_
 refine cK _ rfl (fun hc3=> ?_) (fun hc3=> ?_)
 ·exact absurd hc3 (by omega)
 refine eT ?_
 refine aO ?_
 refine rF [sv 35 (pp J 1) [] [] [0],sv 36 (pp J 1) [0] [0] [],sv 37 (pp J 1) [0,1] [1] [],sv 38 (Nx (i.epoch)) [0,1,2] [2] [],sv 39 (pp J 1) [] [] [0],sv 40 (pp J 1) [4] [4] [],sv 41 (pp J 2) [4,5] [5] [],sv 42 (Nx (i.next)) [4,5,6] [6] [],sv 43 (sB va bs (vc)) [] [] [1],⟨(List.range 9),[3,7,8],[],[44],fun f=>f 44=sB (aM (f 44)) (aD ((i.epoch:Nat):Int) ((i.next:Nat):Int) bs) (aN (f 44))⟩,⟨[],[],[],[8],fun f=>f 8= .pointer (some ⟨(bI (f 8)),0,none⟩)⟩,⟨(List.range 11),[10,9],[],[],fun _=>True⟩] [u1 [0,4],u0,u1 [3,7]] [⟨(some 9),none,[],[44],fun f=>rB (aM (f 44)) (aD ((i.epoch:Nat):Int) ((i.next:Nat):Int) bs) (aN (f 44))⟩,⟨(some 10),(some 11),[11],[8],fun f=>pt (bI (f 8)) (.cells #[.slice none 0 0] 30)⟩,⟨(some 11),none,[],[8,44],fun f=>pt (bI (f 8)) (.cells #[sB (aM (f 44)) (aD ((i.epoch:Nat):Int) ((i.next:Nat):Int) bs) (aN (f 44))] 30)⟩] [(7,pp b2 0),(1,sB va bs (vc)),(2,pp b1 0)] [1,2,0] ⟨rfl,rfl,rfl,trivial⟩ ⟨?_,?_,?_,?_,?_,?_,?_,?_,?_,?_,?_,?_,trivial⟩ ?_
 ·rintro f M-⟨i0,-⟩
  exact bK (gD 0)
 ·rintro f M ⟨k0,-⟩-
  exact bK eY
 ·rintro f M ⟨k0,-⟩-
  exact bK bM
 ·rintro f M ⟨k0,-⟩-
  exact bK (eU 0)
 ·rintro f M-⟨i0,-⟩
  exact bK (gD 0)
 ·rintro f M ⟨k0,-⟩-
  exact bK eY
 ·rintro f M ⟨k0,-⟩-
  exact bK bM
 ·rintro f M ⟨k0,-⟩-
  exact bK (eU 0)
 ·rintro f M-⟨i0,-⟩
  exact bK cX
 ·rintro f M ⟨k0,k1,k2,-⟩-
  refine fF (aA (d:=43) (aA (d:=42) (aA (d:=38) rfl k0) k1) k2) ?_
  refine jH (cY (vs:=[Nx (i.epoch),Nx (i.next),sB va bs (vc)]) aIl.ok rfl rfl) rfl fun w β1 sb kn hw1 back=>(tE β1 w hw1 ((i.epoch:Nat):Int) ((i.next:Nat):Int) bs _ (by omega) (Sl.mono _ _ _ _ _ sb (⟨⟨_,_,rfl,vl,vm,ve⟩⟩:Sl bE _ _ bs))).mono ?_
  rintro e w' ⟨p6,c7,rfl,hw'⟩
  refine⟨_,rfl,_,back _ _ hw',?_⟩
  refine aG ?_
  exact aI (aA (d:=43) (aA (d:=42) (aA (d:=38) rfl k0) k1) k2) rfl (aB 0 rfl)
 ·rintro f M- -
  refine fF rfl ?_
  refine fZ fun b9=> ?_
  refine aG ?_
  exact aI rfl rfl (aB 0 rfl)
 ·rintro f M ⟨k0,k1,-⟩-
  have hs8:f 8= .pointer (some ⟨(bI (f 8)),0,none⟩):=k0
  have hs44:f 44=sB (aM (f 44)) (aD ((i.epoch:Nat):Int) ((i.next:Nat):Int) bs) (aN (f 44)):=k1
  refine fF (aA (aA rfl hs8) hs44) ?_
  refine lu (mS 0 (#[sB (aM (f 44)) (aD ((i.epoch:Nat):Int) ((i.next:Nat):Int) bs) (aN (f 44))])) ?_
  refine aG ?_
  exact cT (aA (aA rfl hs8) hs44) trivial (aB 0 rfl)
 rintro fa10 ⟨-,-,-,-,-,-,-,-,-,-,k10,-,-⟩ ⟨j0,j1,j2,-⟩
 refine rL ?_
 refine aJ (d:=1) j0 ?_
 refine aJ (d:=2) j1 ?_
 refine aJ (d:=7) j2 ?_
 refine aJ (d:=8) k10 ?_
 refine zT ?_
 refine cC ?_
 refine lE (gD 1) ?_
 refine lv (v:= .func (.func 52) #[] #[pp b1 0,pp b2 0,.pointer (some ⟨(bI (fa10 8)),0,none⟩)]) (pO (u:=[]) (v:=[pp b1 0,pp b2 0,.pointer (some ⟨(bI (fa10 8)),0,none⟩)]) rfl rfl) ?_
 refine bP rfl rfl rfl (cY (vs:=[pp J 0,.func (.func 52) #[] #[pp b1 0,pp b2 0,.pointer (some ⟨(bI (fa10 8)),0,none⟩)]]) aGk.ok rfl rfl) ?_
 intro w hw
 replace hw:=hw.perm (L':=_::_::_::_::_::_::_::_::[]) (by exact((((((((aB 4 rfl).trans (aB 4 rfl)).trans (aB 5 rfl)).trans (aB 6 rfl)).trans (aB 7 rfl)).trans (aB 5 rfl)).trans (aB 6 rfl)).trans (aB 7 rfl)))
 obtain⟨β1,sb,kn,hw1,back⟩:=St.frame (L:=[_,_,_,_,_,_]) (M:=_::_::[]) hw
 refine(vE β1 w J S b1 b2 (bI (fa10 8)) (aN (fa10 44)) (aM (fa10 44)) k i (sB ps i.state cs) (sB pr i.recs cr) (aD ((i.epoch:Nat):Int) ((i.next:Nat):Int) bs) hfit (by rw[aH];omega) (by omega) hc hw1).mono ?_
 rintro e w' ⟨rfl,hw'⟩
 refine⟨_,rfl,_,back _ _ hw',?_⟩
 refine lE bV ?_
 refine eJ ?_
 refine lE bG ?_
 refine lE gO ?_
 refine aW ?_
 refine dI rfl ?_
 refine eT ?_
 refine aO ?_
 refine rF [sv 51 (pp J 1) [] [] [0],sv 52 (pp J 1) [] [] [0],sv 53 (pp J 1) [1] [1] [],sv 54 (pp J 4) [1,2] [2] [],sv 55 (sB pr i.recs cr) [1,2,3] [3] [],sv 56 (sB va bs (vc)) [] [] [1],⟨[5],[5],[],[57],fun f=>f 57=sB (aM (f 57)) bs (aN (f 57))⟩,⟨[5,6],[6],[],[58],fun f=>f 58= .slice (some ⟨(bI (f 58)),0,none⟩) 1 1⟩,⟨[1,2,3,4,5,6,7],[4,7],[],[59],fun f=>f 59=sB (aM (f 59)) ((i.recs++[bs])) (aN (f 59))⟩,sv 60 (pp J 1) (List.range 9) [0] [],sv 61 (pp J 4) (List.range 10) [9] [],⟨(List.range 11),[10,8],[],[],fun _=>True⟩] [(some 11,[4,11]),u0,u1 [0,1],u0,u0,u0,u0,(some 8,[8])] [⟨(some 6),(some 8),[8],[57],fun f=>rB (aM (f 57)) bs (aN (f 57))⟩,⟨(some 7),none,[8],[57,58],fun f=>pt (bI (f 58)) (.cells #[sB (aM (f 57)) bs (aN (f 57))] 30)⟩,⟨(some 8),none,[],[59],fun f=>dP 30 (aM (f 59)) (aN (f 59)) (i.recs++[bs])⟩,⟨(some 11),none,[],[59],fun f=>pt J (.cells #[pp S 0,Nx (i.epoch),Nx (i.next),sB ps i.state cs,sB (aM (f 59)) ((i.recs++[bs])) (aN (f 59)),Nx (i.size),.bool false] 84)⟩] [(7,pp b2 0),(1,sB va bs (vc)),(8,.pointer (some ⟨(bI (fa10 8)),0,none⟩))] [0,2] ⟨rfl,rfl,rfl,trivial⟩ ⟨?_,?_,?_,?_,?_,?_,?_,?_,?_,?_,?_,?_,trivial⟩ ?_
 ·rintro f M-⟨i0,-⟩
  exact bK (gD 0)
 ·rintro f M-⟨i0,-⟩
  exact bK (gD 0)
 ·rintro f M ⟨k0,-⟩-
  exact bK eY
 ·rintro f M ⟨k0,-⟩-
  exact bK bM
 ·rintro f M ⟨k0,-⟩-
  exact bK (fA 0)
 ·rintro f M-⟨i0,-⟩
  exact bK cX
 ·rintro f M ⟨k0,-⟩-
  refine fF (aA (d:=56) rfl k0) ?_
  refine jH (cY (vs:=[sB va bs (vc)]) aAo.ok rfl rfl) rfl fun w β1 sb kn hw1 back=>(lA β1 w hw1 bs _ (by omega) (Sl.mono _ _ _ _ _ sb (⟨⟨_,_,rfl,vl,vm,ve⟩⟩:Sl bE _ _ bs))).mono ?_
  rintro e w' ⟨p13,c14,rfl,hw'⟩
  refine⟨_,rfl,_,back _ _ hw',?_⟩
  refine aG ?_
  exact aI (aA (d:=56) rfl k0) rfl (aB 0 rfl)
 ·rintro f M ⟨k0,-⟩-
  have hs57:f 57=sB (aM (f 57)) bs (aN (f 57)):=k0
  refine fF (aA rfl hs57) ?_
  refine cF rfl rfl rfl (cO mY aAp.ok (cells:= #[sB (aM (f 57)) bs (aN (f 57))]) rfl rfl rfl rfl) ?_
  rintro _ _ ⟨b16,rfl,rfl⟩
  refine aG ?_
  exact aI (aA rfl hs57) rfl (aB 0 rfl)
 ·rintro f M ⟨k0,k1,-⟩-
  have hs58:f 58= .slice (some ⟨(bI (f 58)),0,none⟩) 1 1:=k1
  refine fF (aA (aA (d:=55) rfl k0) hs58) ?_
  refine pQ (L':=(dP 30 pr cr i.recs::rB (aM (f 57)) bs (aN (f 57))::pt (bI (f 58)) (.cells #[sB (aM (f 57)) bs (aN (f 57))] 30)::M)) (by exact(((aB 2 rfl).trans (aB 2 rfl)).trans (aB 2 rfl))) ?_
  refine cF rfl rfl rfl (lM (xs:=i.recs) (bs:=bs) (b:=(bI (f 58))) rfl mY zP rfl rfl (by omega) (by omega)) ?_
  rintro _ _ ⟨rp19,rc20,rfl,rfl⟩
  refine aG ?_
  exact aI (aA (aA (d:=55) rfl k0) hs58) rfl ((aB 0 rfl).trans (aB 1 rfl))
 ·rintro f M ⟨k0,-⟩-
  exact bK eY
 ·rintro f M ⟨k0,-⟩-
  exact bK bM
 ·rintro f M ⟨k0,k1,-⟩-
  have hs59:f 59=sB (aM (f 59)) ((i.recs++[bs])) (aN (f 59)):=k1
  refine fF (aA (aA (d:=61) rfl k0) hs59) ?_
  refine lu (mS 0 (#[pp S 0,Nx (i.epoch),Nx (i.next),sB ps i.state cs,sB (aM (f 59)) ((i.recs++[bs])) (aN (f 59)),Nx (i.size),.bool false])) ?_
  refine aG ?_
  exact cT (aA (aA (d:=61) rfl k0) hs59) trivial (aB 0 rfl)
 rintro fa21 ⟨-,-,-,-,-,-,-,-,-,-,-,-,-⟩ ⟨j0,j1,-⟩
 refine rL ?_
 refine aJ (d:=7) j0 ?_
 refine aJ (d:=8) j1 ?_
 refine zT ?_
 have hfl:=aH ((i.epoch:Nat):Int) ((i.next:Nat):Int) bs
 refine rF [sv 62 (pp J 1) [] [] [0],sv 63 (pp J 1) [0] [0] [],sv 64 (pp J 5) [0,1] [1] [],sv 65 (Nx (i.size)) [0,1,2] [2] [],sv 66 (sB (aM (fa10 44)) (aD ((i.epoch:Nat):Int) ((i.next:Nat):Int) bs) (aN (fa10 44))) [] [] [1],sv 67 (Nx ((aD ((i.epoch:Nat):Int) ((i.next:Nat):Int) bs).length)) [4] [4] [],sv 68 (Nx (i.size+((aD ((i.epoch:Nat):Int) ((i.next:Nat):Int) bs).length))) (List.range 6) [3,5] [],sv 69 (pp J 1) (List.range 7) [0] [],sv 70 (pp J 5) (List.range 8) [7] [],⟨(List.range 9),[8,6],[],[],fun _=>True⟩] [u0,u1 [0],u1 [4],u0,u0,u0,u0,u0,(some 9,[3,9])] [⟨(some 9),none,[],[],fun _=>pt J (.cells #[pp S 0,Nx (i.epoch),Nx (i.next),sB ps i.state cs,sB (aM (fa21 59)) ((i.recs++[bs])) (aN (fa21 59)),Nx (i.size+((aD ((i.epoch:Nat):Int) ((i.next:Nat):Int) bs).length)),.bool false] 84)⟩] [(7,pp b2 0),(8,.pointer (some ⟨(bI (fa10 8)),0,none⟩))] [0] ⟨rfl,rfl,trivial⟩ ⟨?_,?_,?_,?_,?_,?_,?_,?_,?_,?_,trivial⟩ ?_
 ·rintro f M-⟨i0,-⟩
  exact bK (gD 0)
 ·rintro f M ⟨k0,-⟩-
  exact bK eY
 ·rintro f M ⟨k0,-⟩-
  exact bK bM
 ·rintro f M ⟨k0,-⟩-
  exact bK (eU 0)
 ·rintro f M-⟨i0,-⟩
  exact bK (fA 0)
 ·rintro f M ⟨k0,-⟩-
  exact bK fC
 ·rintro f M ⟨k0,k1,-⟩-
  exact nA (aA (d:=67) (aA (d:=65) rfl k0) k1) rfl (bJ (a:=((i.size:Nat):Int)) (b:=(((aD ((i.epoch:Nat):Int) ((i.next:Nat):Int) bs).length:Nat):Int)) rfl rfl (bU (by omega) (by omega))) (.refl _)
 ·rintro f M ⟨k0,-⟩-
  exact bK eY
 ·rintro f M ⟨k0,-⟩-
  exact bK bM
 ·rintro f M ⟨k0,k1,-⟩-
  refine fF (aA (d:=68) (aA (d:=70) rfl k0) k1) ?_
  refine lu (mS 0 (#[pp S 0,Nx (i.epoch),Nx (i.next),sB ps i.state cs,sB (aM (fa21 59)) ((i.recs++[bs])) (aN (fa21 59)),Nx (i.size+((aD ((i.epoch:Nat):Int) ((i.next:Nat):Int) bs).length)),.bool false])) ?_
  refine aG ?_
  exact cT (aA (d:=68) (aA (d:=70) rfl k0) k1) trivial (aB 0 rfl)
 rintro fa22 ⟨-,-,-,-,-,-,-,-,-,-,-⟩ ⟨j0,-⟩
 refine rL ?_
 refine aJ (d:=7) j0 ?_
 refine qF ?_
 refine lE (gD 1) ?_
 refine lE eY ?_
 refine lE bM ?_
 refine lE (eU 8) ?_
 refine lv (v:=Nx (i.next+1)) (bJ rfl rfl (bU (by omega) (by omega))) ?_
 refine lE eY ?_
 refine lE bM ?_
 refine lu (mS 8 (#[pp S 0,Nx (i.epoch),Nx (i.next+1),sB ps i.state cs,sB (aM (fa21 59)) ((i.recs++[bs])) (aN (fa21 59)),Nx (i.size+((aD ((i.epoch:Nat):Int) ((i.next:Nat):Int) bs).length)),.bool false])) ?_
 refine eJ ?_
 refine lE (gD 1) ?_
 refine lE eY ?_
 refine lE bM ?_
 refine lE (eU 8) ?_
 refine lE omn ?_
 iterate 2 refine lE bV ?_
 refine aW ?_
 refine bB ?_
 refine vJ (v:=Ix (((i.next+1:Nat):Int)-(1:Int))) (v':= .int .i64 (0)) Try.results17 rfl rfl ?_
 intro w hw
 refine⟨congrArg (fun z:Int=>Ending.returned (.tuple #[Ix z,.int .i64 0])) (by omega),?_⟩
 exact St.closeJour (i:=hG i bs) (dn:=false) (M:=[aS S (cJ k i.epoch i.size (aD ((i.epoch:Nat):Int) ((i.next:Nat):Int) bs))]) (aF [true,true,true,true,false,false,false,false,false] rfl (hw.perm (L':=[pt J (.cells #[pp S 0,Nx (i.epoch),Nx (i.next+1),sB ps i.state cs,sB (aM (fa21 59)) ((i.recs++[bs])) (aN (fa21 59)),Nx (i.size+((aD ((i.epoch:Nat):Int) ((i.next:Nat):Int) bs).length)),.bool false] 84),rB ps i.state cs,dP 30 (aM (fa21 59)) (aN (fa21 59)) (i.recs++[bs]),aS S (cJ k i.epoch i.size (aD ((i.epoch:Nat):Int) ((i.next:Nat):Int) bs)),pt b1 (.cells #[pp J 0] 43),pt b2 (.cells #[pp J 1] 94),pt (bI (fa10 8)) (.cells #[sB (aM (fa10 44)) (aD ((i.epoch:Nat):Int) ((i.next:Nat):Int) bs) (aN (fa10 44))] 30),rB (aM (fa10 44)) (aD ((i.epoch:Nat):Int) ((i.next:Nat):Int) bs) (aN (fa10 44)),pt (bI (fa21 58)) (.cells #[sB (aM (fa21 57)) bs (aN (fa21 57))] 30)]) (by exact(bN [8,5,7,4,0,1,2,3,6] 9 rfl (by kernel_rfl) (by kernel_rfl)))))
theorem append_nil(β:Base)(w:World)(hw:St β [] w)(v:Value):kH Try.prog 17 #[.pointer none,v] β w (.tuple #[.int .i64 0,.int .i64 1]):=by
 refine enter (n:=83) Try.func17 rfl Try.ntmps17 rfl ?_ hw
 refine cC ?_
 refine bxp fun b1=> ?_
 iterate 2 refine lE bV ?_
 refine aW ?_
 refine dX ?_
 refine aC ?_
 refine lE (gD 0) ?_
 refine lv cV ?_
 refine gW gU (fun w β1 sb kn hw1=>aCs β1 w hw1 _) ?_
 refine lE bV ?_
 refine eJ ?_
 refine lE bG ?_
 refine lE gO ?_
 refine aW ?_
 refine dU rfl ?_
 refine cC ?_
 refine lE bG ?_
 iterate 2 refine lE bV ?_
 refine aW ?_
 refine bB ?_
 refine aK ?_
 refine vJ (v:= .int .i64 (0)) (v':= .int .i64 (1)) Try.results17 rfl rfl ?_
 intro w hw
 exact⟨rfl,aF [false] rfl hw⟩
theorem yH(β:Base)(w:World)(J S:Nat)(k:KS)(i:KI)(dn:Bool)(bs:Bs)(hlong:65536<bs.length)(v:Value)(hs:Sl bE β.heap v bs)(hw:St β [dC J S i dn] w):Calls Try.prog 20 #[pp J 0,v] w fun r w'=>r= .returned (.int .i64 3)∧St β [dC J S i dn] w':=by
 obtain⟨va,vc,rfl,vl,vm,ve⟩:=hs.get
 obtain⟨ps,pr,cs,cr,hw⟩:=St.openJour hw
 refine enter (n:=47) Try.func20 rfl Try.ntmps20 rfl ?_ hw
 refine cC ?_
 refine bxp fun b1=> ?_
 refine bxs fun b2=> ?_
 refine lE bV ?_
 refine aW ?_
 refine dX ?_
 refine aC ?_
 refine lE (gD 1) ?_
 refine lE (fA 0) ?_
 refine gW gU (fun w β1 sb kn hw1=>mX β1 w hw1 J S (Nx (i.epoch)) (Nx (i.next)) (sB ps i.state cs) (sB pr i.recs cr) (Nx (i.size)) dn (kn _ (dM 2 rfl rfl)) bs _ (Sl.mono _ _ _ _ _ sb (⟨⟨_,_,rfl,vl,vm,ve⟩⟩:Sl bE _ _ bs)) (3) (if_pos hlong)) ?_
 refine lE bV ?_
 refine eJ ?_
 refine lE bG ?_
 refine lE gO ?_
 refine aW ?_
 refine dU rfl ?_
 refine cC ?_
 refine lE bG ?_
 refine lE bV ?_
 refine aW ?_
 refine bB ?_
 refine aK ?_
 refine dS Try.results20 rfl ?_
 intro w hw
 exact⟨rfl,St.closeJour (i:=i) (dn:=dn) (M:=[]) (aF [true,true,true,false,false] rfl (hw.perm (L':=[pt J (.cells #[pp S 0,Nx (i.epoch),Nx (i.next),sB ps i.state cs,sB pr i.recs cr,Nx (i.size),.bool (dn)] 84),rB ps i.state cs,dP 30 pr cr i.recs,pt b2 (.cells #[sB va bs (vc)] 30),pt b1 (.cells #[pp J 0] 43)]) (by exact(bN [2,3,4,0,1] 5 rfl (by kernel_rfl) (by kernel_rfl)))))⟩
theorem yG(β:Base)(w:World)(J S:Nat)(k:KS)(i:KI)(bs:Bs)(hlong:bs.length≤65536)(hful:i.epoch=4611686018427387903)(v:Value)(hs:Sl bE β.heap v bs)(hw:St β [dC J S i false] w):Calls Try.prog 20 #[pp J 0,v] w fun r w'=>r= .returned (.int .i64 4)∧St β [dC J S i false] w':=by
 obtain⟨va,vc,rfl,vl,vm,ve⟩:=hs.get
 obtain⟨ps,pr,cs,cr,hw⟩:=St.openJour hw
 refine enter (n:=47) Try.func20 rfl Try.ntmps20 rfl ?_ hw
 refine cC ?_
 refine bxp fun b1=> ?_
 refine bxs fun b2=> ?_
 refine lE bV ?_
 refine aW ?_
 refine dX ?_
 refine aC ?_
 refine lE (gD 1) ?_
 refine lE (fA 0) ?_
 refine gW gU (fun w β1 sb kn hw1=>mX β1 w hw1 J S (Nx (i.epoch)) (Nx (i.next)) (sB ps i.state cs) (sB pr i.recs cr) (Nx (i.size)) false (kn _ (dM 2 rfl rfl)) bs _ (Sl.mono _ _ _ _ _ sb (⟨⟨_,_,rfl,vl,vm,ve⟩⟩:Sl bE _ _ bs)) (0) ((if_neg (by omega)).trans (if_neg (by decide)))) ?_
 refine lE bV ?_
 refine eJ ?_
 refine lE bG ?_
 refine lE gO ?_
 refine aW ?_
 refine dI rfl ?_
 refine eT ?_
 refine dX ?_
 refine aC ?_
 refine lE (gD 1) ?_
 refine lE eY ?_
 iterate 2 refine lE bM ?_
 refine lE (eU 2) ?_
 refine lE dR ?_
 refine aW ?_
 refine cK _ rfl (fun hc3=> ?_) (fun hc3=> ?_)
 ·refine cC ?_
  refine lE bV ?_
  refine aW ?_
  refine bB ?_
  refine aK ?_
  refine dS Try.results20 rfl ?_
  intro w hw
  exact⟨rfl,St.closeJour (i:=i) (dn:=false) (M:=[]) (aF [true,true,true,false,false] rfl (hw.perm (L':=[pt J (.cells #[pp S 0,Nx (i.epoch),Nx (i.next),sB ps i.state cs,sB pr i.recs cr,Nx (i.size),.bool false] 84),rB ps i.state cs,dP 30 pr cr i.recs,pt b2 (.cells #[sB va bs (vc)] 30),pt b1 (.cells #[pp J 0] 43)]) (by exact(bN [2,3,4,0,1] 5 rfl (by kernel_rfl) (by kernel_rfl)))))⟩
 exact absurd (by omega) hc3
theorem rD(β:Base)(w:World)(J S:Nat)(k:KS)(i:KI)(bs:Bs)(hlong:bs.length≤65536)(hfit:k.fits 524288)(hful:i.epoch<4611686018427387903)(hc:sU k (i.epoch+1) i.next bs)(v:Value)(hs:Sl bE β.heap v bs)(hw:St β [dC J S i false,aS S k] w):Calls Try.prog 20 #[pp J 0,v] w fun r w'=>r= .returned (.int .i64 0)∧St β [dC J S (nF i bs) false,aS S (iE k (i.epoch+1) i.next bs)] w':=by
 obtain⟨va,vc,rfl,vl,vm,ve⟩:=hs.get
 obtain⟨ps,pr,cs,cr,hw⟩:=St.openJour hw
 refine enter (n:=47) Try.func20 rfl Try.ntmps20 rfl ?_ hw
 refine cC ?_
 refine bxp fun b1=> ?_
 refine bxs fun b2=> ?_
 refine lE bV ?_
 refine aW ?_
 refine dX ?_
 refine aC ?_
 refine lE (gD 1) ?_
 refine lE (fA 0) ?_
 refine gW gU (fun w β1 sb kn hw1=>mX β1 w hw1 J S (Nx (i.epoch)) (Nx (i.next)) (sB ps i.state cs) (sB pr i.recs cr) (Nx (i.size)) false (kn _ (dM 2 rfl rfl)) bs _ (Sl.mono _ _ _ _ _ sb (⟨⟨_,_,rfl,vl,vm,ve⟩⟩:Sl bE _ _ bs)) (0) ((if_neg (by omega)).trans (if_neg (by decide)))) ?_
 refine lE bV ?_
 refine eJ ?_
 refine lE bG ?_
 refine lE gO ?_
 refine aW ?_
 refine dI rfl ?_
 refine eT ?_
 refine dX ?_
 refine aC ?_
 refine lE (gD 1) ?_
 refine lE eY ?_
 iterate 2 refine lE bM ?_
 refine lE (eU 2) ?_
 refine lE dR ?_
 refine aW ?_
 refine cK _ rfl (fun hc3=> ?_) (fun hc3=> ?_)
 ·exact absurd hc3 (by omega)
 refine eT ?_
 refine aO ?_
 refine rF [sv 20 (pp J 0) [] [] [0],sv 21 (pp J 0) [0] [0] [],sv 22 (pp J 1) [0,1] [1] [],sv 23 (pp J 1) [0,1,2] [2] [],sv 24 (Nx (i.epoch)) [0,1,2,3] [3] [],sv 25 (Nx (i.epoch+1)) [0,1,2,3,4] [4] [],sv 26 (pp J 0) [] [] [0],sv 27 (pp J 0) [6] [6] [],sv 28 (pp J 1) [6,7] [7] [],sv 29 (pp J 2) [6,7,8] [8] [],sv 30 (Nx (i.next)) [6,7,8,9] [9] [],sv 31 (sB va bs (vc)) [] [] [1],⟨[11],[11],[],[32],fun f=>f 32=sB (aM (f 32)) bs (aN (f 32))⟩,sv 33 (sB va bs (vc)) [] [] [1],sv 34 (Nx (bs.length)) [13] [13] [],sv 35 (Nx (24+bs.length)) [13,14] [14] [],⟨(List.range 16),[5,10,12,15],[],[32,36],fun f=>f 36= .agg #[Nx (i.epoch+1),Nx (i.next),sB (aM (f 32)) bs (aN (f 32)),.slice none 0 0,Nx (24+bs.length)]⟩,⟨[],[],[],[6],fun f=>f 6= .pointer (some ⟨(bI (f 6)),0,none⟩)⟩,⟨(List.range 18),[17,16],[],[],fun _=>True⟩] [u1 [11,13],u1 [0,6],u1 [4,10]] [⟨(some 12),none,[],[32],fun f=>rB (aM (f 32)) bs (aN (f 32))⟩,⟨(some 17),(some 18),[18],[6],fun f=>pt (bI (f 6)) (.cells #[.int .i64 (0),.int .i64 (0),.slice none 0 0,.slice none 0 0,.int .i64 (0)] 36)⟩,⟨(some 18),none,[],[6,32],fun f=>pt (bI (f 6)) (.cells #[Nx (i.epoch+1),Nx (i.next),sB (aM (f 32)) bs (aN (f 32)),.slice none 0 0,Nx (24+bs.length)] 36)⟩] [(2,pp b1 0),(3,pp b2 0)] [0,1] ⟨rfl,rfl,trivial⟩ ⟨?_,?_,?_,?_,?_,?_,?_,?_,?_,?_,?_,?_,?_,?_,?_,?_,?_,?_,?_,trivial⟩ ?_
 ·rintro f M-⟨i0,-⟩
  exact bK (gD 0)
 ·rintro f M ⟨k0,-⟩-
  exact bK eY
 ·rintro f M ⟨k0,-⟩-
  exact bK bM
 ·rintro f M ⟨k0,-⟩-
  exact bK bM
 ·rintro f M ⟨k0,-⟩-
  exact bK (eU 0)
 ·rintro f M ⟨k0,-⟩-
  exact nA (aA (d:=24) rfl k0) rfl (bJ (a:=((i.epoch:Nat):Int)) (b:=(1:Int)) rfl rfl (bU (by omega) (by omega))) (.refl _)
 ·rintro f M-⟨i0,-⟩
  exact bK (gD 0)
 ·rintro f M ⟨k0,-⟩-
  exact bK eY
 ·rintro f M ⟨k0,-⟩-
  exact bK bM
 ·rintro f M ⟨k0,-⟩-
  exact bK bM
 ·rintro f M ⟨k0,-⟩-
  exact bK (eU 0)
 ·rintro f M-⟨i0,-⟩
  exact bK (fA 0)
 ·rintro f M ⟨k0,-⟩-
  refine fF (aA (d:=31) rfl k0) ?_
  refine jH (cY (vs:=[sB va bs (vc)]) aAo.ok rfl rfl) rfl fun w β1 sb kn hw1 back=>(lA β1 w hw1 bs _ (by omega) (Sl.mono _ _ _ _ _ sb (⟨⟨_,_,rfl,vl,vm,ve⟩⟩:Sl bE _ _ bs))).mono ?_
  rintro e w' ⟨p6,c7,rfl,hw'⟩
  refine⟨_,rfl,_,back _ _ hw',?_⟩
  refine aG ?_
  exact aI (aA (d:=31) rfl k0) rfl (aB 0 rfl)
 ·rintro f M-⟨i0,-⟩
  exact bK (fA 0)
 ·rintro f M ⟨k0,-⟩-
  exact bK fC
 ·rintro f M ⟨k0,-⟩-
  exact nA (aA (d:=34) rfl k0) rfl (bJ (a:=(24:Int)) (b:=((bs.length:Nat):Int)) rfl rfl (bU (by omega) (by omega))) (.refl _)
 ·rintro f M ⟨k0,k1,k2,k3,-⟩-
  have hs32:f 32=sB (aM (f 32)) bs (aN (f 32)):=k2
  exact nA (aA (d:=35) (aA (aA (d:=30) (aA (d:=25) rfl k0) k1) hs32) k3) rfl (dW aGi.ok aGj (vs:=[(0,Nx (i.epoch+1)),(1,Nx (i.next)),(2,sB (aM (f 32)) bs (aN (f 32))),(4,Nx (24+bs.length))]) (cells:= #[Nx (i.epoch+1),Nx (i.next),sB (aM (f 32)) bs (aN (f 32)),.slice none 0 0,Nx (24+bs.length)]) rfl rfl) (.refl _)
 ·rintro f M- -
  refine fF rfl ?_
  refine fZ fun b9=> ?_
  refine aG ?_
  exact aI rfl rfl (aB 0 rfl)
 ·rintro f M ⟨k0,k1,-⟩-
  have hs6:f 6= .pointer (some ⟨(bI (f 6)),0,none⟩):=k0
  have hs36:f 36= .agg #[Nx (i.epoch+1),Nx (i.next),sB (aM (f 32)) bs (aN (f 32)),.slice none 0 0,Nx (24+bs.length)]:=k1
  refine fF (aA (aA rfl hs6) hs36) ?_
  refine lu (mS 0 (#[Nx (i.epoch+1),Nx (i.next),sB (aM (f 32)) bs (aN (f 32)),.slice none 0 0,Nx (24+bs.length)])) ?_
  refine aG ?_
  exact cT (aA (aA rfl hs6) hs36) trivial (aB 0 rfl)
 rintro fa10 ⟨-,-,-,-,-,-,-,-,-,-,-,-,-,-,-,-,-,k17,-,-⟩ ⟨j0,j1,-⟩
 refine rL ?_
 refine aJ (d:=2) j0 ?_
 refine aJ (d:=3) j1 ?_
 refine aJ (d:=6) k17 ?_
 refine qF ?_
 refine lE (gD 1) ?_
 refine lv (v:= .func (.func 55) #[] #[pp b1 0,.pointer (some ⟨(bI (fa10 6)),0,none⟩),pp b2 0]) (pO (u:=[]) (v:=[pp b1 0,.pointer (some ⟨(bI (fa10 6)),0,none⟩),pp b2 0]) rfl rfl) ?_
 refine bP rfl rfl rfl (cY (vs:=[pp J 0,.func (.func 55) #[] #[pp b1 0,.pointer (some ⟨(bI (fa10 6)),0,none⟩),pp b2 0]]) aGk.ok rfl rfl) ?_
 intro w hw
 replace hw:=hw.perm (L':=_::_::_::_::_::_::_::_::[]) (by exact((((((((aB 6 rfl).trans (aB 5 rfl)).trans (aB 5 rfl)).trans (aB 6 rfl)).trans (aB 4 rfl)).trans (aB 7 rfl)).trans (aB 6 rfl)).trans (aB 7 rfl)))
 obtain⟨β1,sb,kn,hw1,back⟩:=St.frame (L:=[_,_,_,_,_]) (M:=_::_::_::[]) hw
 refine(wI β1 w J S b1 (bI (fa10 6)) b2 vc (i.epoch+1) i.next va k i (sB ps i.state cs) (sB pr i.recs cr) (sB (aM (fa10 32)) bs (aN (fa10 32))) (.slice none 0 0) (Nx (24+bs.length)) bs (by omega) (by omega) (bO.mono _ _ _ _ _ sb ve) hfit (by omega) hc hw1).mono ?_
 rintro e w' ⟨rfl,hw'⟩
 refine⟨_,rfl,_,back _ _ hw',?_⟩
 refine lE bV ?_
 refine aW ?_
 refine dX ?_
 refine aC ?_
 refine lE bG ?_
 refine lE dR ?_
 refine aW ?_
 refine dU rfl ?_
 refine aC ?_
 refine lE (gD 1) ?_
 refine lE (dO 2) ?_
 refine lE eY ?_
 refine lE bM ?_
 refine lu (mS 0 (#[pp S 0,Nx (i.epoch+1),Nx (i.next),sB (aM (fa10 32)) bs (aN (fa10 32)),.slice none 0 0,Nx (24+bs.length),.bool false])) ?_
 refine eJ ?_
 refine lE bG ?_
 refine lE bV ?_
 refine aW ?_
 refine bB ?_
 refine dS Try.results20 rfl ?_
 intro w hw
 replace hw:=hw.emp (qQ 30 _)
 exact⟨rfl,St.closeJour (i:=nF i bs) (dn:=false) (M:=[aS S (iE k (i.epoch+1) i.next bs)]) (aF [true,true,true,true,false,false,false,false,false] rfl (hw.perm (L':=[pt J (.cells #[pp S 0,Nx (i.epoch+1),Nx (i.next),sB (aM (fa10 32)) bs (aN (fa10 32)),.slice none 0 0,Nx (24+bs.length),.bool false] 84),rB (aM (fa10 32)) bs (aN (fa10 32)),dP 30 none 0 [],aS S (iE k (i.epoch+1) i.next bs),pt b1 (.cells #[pp J 0] 43),pt (bI (fa10 6)) (.cells #[Nx (i.epoch+1),Nx (i.next),sB (aM (fa10 32)) bs (aN (fa10 32)),.slice none 0 0,Nx (24+bs.length)] 36),pt b2 (.cells #[sB va bs (vc)] 30),rB ps i.state cs,dP 30 pr cr i.recs]) (by exact(bN [1,8,0,5,2,3,4,6,7] 9 rfl (by kernel_rfl) (by kernel_rfl)))))⟩
end Go.Proofs
