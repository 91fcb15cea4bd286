/-
 Open,Append,Checkpoint,walked. Printed by a program of my own.
-/
import Derived.Test.YtmhlglginimmnaaGreatDoorJn5
set_option linter.all false
namespace Go.Proofs
open Go Go.Sl Go.Jn
theorem fits_ok{k:KS}(h:k.okP)(hp:k.power≤9223372036854775807):k.fits 524288:=by
 unfold KS.okP at h
 exact⟨by omega,by omega,by omega,hp⟩
instance tf69:CfC Tryz.prog 58:={}
theorem tf70:stB Tryz.prog 120 [(0,1),(1,5),(6,1)]=true:=by kernel_rfl
instance tf71:ZerC Tryz.prog 120 (.agg #[.pointer none,.int .i64 (0),.int .i64 (0),.slice none 0 0,.slice none 0 0,.int .i64 (0),.bool false]):={}
instance tf72:ZerC Tryz.prog 72 (.pointer none):={}
instance tf73:CfC Tryz.prog 59:={}
instance tf74:CfC Tryz.prog 90:={}
instance tf75:FldC Tryz.prog 120 1 1 5 true:={}
instance tf76:ZerC Tryz.prog 166 (.pointer none):={}
theorem readC_ok(β:Base)(w:World)(hw:St β [] w)(k:KS)(vh va vb:Value)(hH:Sl U8R β.heap vh k.head)(hA:Sl U8R β.heap va k.a)(hB:Sl U8R β.heap vb k.b)(h:k.okP)(i:KI)(h2:readI k=some i):Calls Tryz.prog 58 #[.agg #[vh,va,vb,Ix k.power]] w fun r w'=>∃ps pr cs cr,r= .returned (.tuple #[.agg #[Nx i.epoch,Nx i.next,sB ps i.state cs,sB pr i.recs cr,Nx i.size],.int .i64 0])∧St β [rB ps i.state cs,recsR 22 pr cr i.recs] w':=by
 refine(read_ok β w hw k vh va vb hH hA hB).mono fun r w' hh=> ?_
 rcases hh with⟨_,b,_⟩|⟨_,_,b,_⟩|⟨j,_,b,hh⟩
 ·exact absurd h b
 ·rw[h2]at b;cases b
 rw[h2]at b;injection b with b;subst b;exact hh
theorem att_open_ok(β:Base)(w:World)(J S q6 q1 q4:Nat)(k:KS)(i:KI)(vs vr:Value)(hk:k.fits 524288)(hc:cutOk (k.area i.epoch) k.power i.size)(hw:St β [pt J (.cells #[pp S 0,Nx (i.epoch),Nx (i.next),vs,vr,Nx (i.size),.bool false] 120),pt q6 (.cells #[pp J 0] 72),pt q1 (.cells #[pp S 0] 27),pt q4 (.cells #[Nx (i.epoch),Nx (i.next),vs,vr,Nx (i.size)] 116),storeR S k] w):Calls Tryz.prog 59 #[pp J 0,.func (.func 60) #[] #[pp q6 0,pp q1 0,pp q4 0]] w fun r w'=>r= .returned (.int .i64 0)∧St β [pt J (.cells #[pp S 0,Nx (i.epoch),Nx (i.next),vs,vr,Nx (i.size),.bool false] 120),pt q6 (.cells #[pp J 0] 72),pt q1 (.cells #[pp S 0] 27),pt q4 (.cells #[Nx (i.epoch),Nx (i.next),vs,vr,Nx (i.size)] 116),storeR S (cutS k i.epoch i.size)] w':=by
 refine(attempt_ok β w J 60 [pp q6 0,pp q1 0,pp q4 0] _ _ _ _ _ _ _ [pt q6 (.cells #[pp J 0] 72),pt q1 (.cells #[pp S 0] 27),pt q4 (.cells #[Nx (i.epoch),Nx (i.next),vs,vr,Nx (i.size)] 116),storeR S k] [pt q6 (.cells #[pp J 0] 72),pt q1 (.cells #[pp S 0] 27),pt q4 (.cells #[Nx (i.epoch),Nx (i.next),vs,vr,Nx (i.size)] 116),storeR S (cutS k i.epoch i.size)] [pt q6 (.cells #[pp J 0] 72),pt q1 (.cells #[pp S 0] 27),pt q4 (.cells #[Nx (i.epoch),Nx (i.next),vs,vr,Nx (i.size)] 116),storeR S k] (cutOk (k.area i.epoch) k.power i.size) (¬(cutOk (k.area i.epoch) k.power i.size)) (by kernel_rfl) hw (fun β' sb w hw=>open1_ok β' w J S q6 q1 q4 k i vs vr (.bool false) hk hw)).mono fun r w' hh=> ?_
 rcases hh with⟨a,b,c⟩|⟨a,b,c⟩
 ·exact⟨a,c⟩
 exact absurd hc b
theorem att_open_no(β:Base)(w:World)(J S q6 q1 q4:Nat)(k:KS)(i:KI)(vs vr:Value)(hk:k.fits 524288)(hc:¬(cutOk (k.area i.epoch) k.power i.size))(hw:St β [pt J (.cells #[pp S 0,Nx (i.epoch),Nx (i.next),vs,vr,Nx (i.size),.bool false] 120),pt q6 (.cells #[pp J 0] 72),pt q1 (.cells #[pp S 0] 27),pt q4 (.cells #[Nx (i.epoch),Nx (i.next),vs,vr,Nx (i.size)] 116),storeR S k] w):Calls Tryz.prog 59 #[pp J 0,.func (.func 60) #[] #[pp q6 0,pp q1 0,pp q4 0]] w fun r w'=>r= .returned (.int .i64 310)∧St β [pt J (.cells #[pp S 0,Nx (i.epoch),Nx (i.next),vs,vr,Nx (i.size),.bool true] 120),pt q6 (.cells #[pp J 0] 72),pt q1 (.cells #[pp S 0] 27),pt q4 (.cells #[Nx (i.epoch),Nx (i.next),vs,vr,Nx (i.size)] 116),storeR S k] w':=by
 refine(attempt_ok β w J 60 [pp q6 0,pp q1 0,pp q4 0] _ _ _ _ _ _ _ [pt q6 (.cells #[pp J 0] 72),pt q1 (.cells #[pp S 0] 27),pt q4 (.cells #[Nx (i.epoch),Nx (i.next),vs,vr,Nx (i.size)] 116),storeR S k] [pt q6 (.cells #[pp J 0] 72),pt q1 (.cells #[pp S 0] 27),pt q4 (.cells #[Nx (i.epoch),Nx (i.next),vs,vr,Nx (i.size)] 116),storeR S (cutS k i.epoch i.size)] [pt q6 (.cells #[pp J 0] 72),pt q1 (.cells #[pp S 0] 27),pt q4 (.cells #[Nx (i.epoch),Nx (i.next),vs,vr,Nx (i.size)] 116),storeR S k] (cutOk (k.area i.epoch) k.power i.size) (¬(cutOk (k.area i.epoch) k.power i.size)) (by kernel_rfl) hw (fun β' sb w hw=>open1_ok β' w J S q6 q1 q4 k i vs vr (.bool false) hk hw)).mono fun r w' hh=> ?_
 rcases hh with⟨a,b,c⟩|⟨a,b,c⟩
 ·exact absurd b hc
 exact⟨a,c⟩
theorem att_append_ok(β:Base)(w:World)(J S q2 q7 q8 cb:Nat)(pb:Option Addr)(k:KS)(i:KI)(vs vr:Value)(fb:Bs)(hk:k.fits 524288)(hb:fb.length≤131072)(hsz:i.size≤524288)(hc:wrOk k.power fb)(hw:St β [pt J (.cells #[pp S 0,Nx (i.epoch),Nx (i.next),vs,vr,Nx (i.size),.bool false] 120),pt q2 (.cells #[pp J 0] 72),pt q7 (.cells #[pp J 1] 166),pt q8 (.cells #[sB pb fb cb] 22),rB pb fb cb,storeR S k] w):Calls Tryz.prog 59 #[pp J 0,.func (.func 104) #[] #[pp q2 0,pp q7 0,pp q8 0]] w fun r w'=>r= .returned (.int .i64 0)∧St β [pt J (.cells #[pp S 0,Nx (i.epoch),Nx (i.next),vs,vr,Nx (i.size),.bool false] 120),pt q2 (.cells #[pp J 0] 72),pt q7 (.cells #[pp J 1] 166),pt q8 (.cells #[sB pb fb cb] 22),rB pb fb cb,storeR S (wrS k i.epoch i.size fb)] w':=by
 refine(attempt_ok β w J 104 [pp q2 0,pp q7 0,pp q8 0] _ _ _ _ _ _ _ [pt q2 (.cells #[pp J 0] 72),pt q7 (.cells #[pp J 1] 166),pt q8 (.cells #[sB pb fb cb] 22),rB pb fb cb,storeR S k] [pt q2 (.cells #[pp J 0] 72),pt q7 (.cells #[pp J 1] 166),pt q8 (.cells #[sB pb fb cb] 22),rB pb fb cb,storeR S (wrS k i.epoch i.size fb)] [pt q2 (.cells #[pp J 0] 72),pt q7 (.cells #[pp J 1] 166),pt q8 (.cells #[sB pb fb cb] 22),rB pb fb cb,storeR S (wrS k i.epoch i.size fb)] (wrOk k.power fb) (¬(wrOk k.power fb)) (by kernel_rfl) hw (fun β' sb w hw=>append1_ok β' w J S q2 q7 q8 cb pb k i vs vr (.bool false) fb hk hb hsz hw)).mono fun r w' hh=> ?_
 rcases hh with⟨a,b,c⟩|⟨a,b,c⟩
 ·exact⟨a,c⟩
 exact absurd hc b
theorem att_append_no(β:Base)(w:World)(J S q2 q7 q8 cb:Nat)(pb:Option Addr)(k:KS)(i:KI)(vs vr:Value)(fb:Bs)(hk:k.fits 524288)(hb:fb.length≤131072)(hsz:i.size≤524288)(hc:¬(wrOk k.power fb))(hw:St β [pt J (.cells #[pp S 0,Nx (i.epoch),Nx (i.next),vs,vr,Nx (i.size),.bool false] 120),pt q2 (.cells #[pp J 0] 72),pt q7 (.cells #[pp J 1] 166),pt q8 (.cells #[sB pb fb cb] 22),rB pb fb cb,storeR S k] w):Calls Tryz.prog 59 #[pp J 0,.func (.func 104) #[] #[pp q2 0,pp q7 0,pp q8 0]] w fun r w'=>r= .returned (.int .i64 310)∧St β [pt J (.cells #[pp S 0,Nx (i.epoch),Nx (i.next),vs,vr,Nx (i.size),.bool true] 120),pt q2 (.cells #[pp J 0] 72),pt q7 (.cells #[pp J 1] 166),pt q8 (.cells #[sB pb fb cb] 22),rB pb fb cb,storeR S (wrS k i.epoch i.size fb)] w':=by
 refine(attempt_ok β w J 104 [pp q2 0,pp q7 0,pp q8 0] _ _ _ _ _ _ _ [pt q2 (.cells #[pp J 0] 72),pt q7 (.cells #[pp J 1] 166),pt q8 (.cells #[sB pb fb cb] 22),rB pb fb cb,storeR S k] [pt q2 (.cells #[pp J 0] 72),pt q7 (.cells #[pp J 1] 166),pt q8 (.cells #[sB pb fb cb] 22),rB pb fb cb,storeR S (wrS k i.epoch i.size fb)] [pt q2 (.cells #[pp J 0] 72),pt q7 (.cells #[pp J 1] 166),pt q8 (.cells #[sB pb fb cb] 22),rB pb fb cb,storeR S (wrS k i.epoch i.size fb)] (wrOk k.power fb) (¬(wrOk k.power fb)) (by kernel_rfl) hw (fun β' sb w hw=>append1_ok β' w J S q2 q7 q8 cb pb k i vs vr (.bool false) fb hk hb hsz hw)).mono fun r w' hh=> ?_
 rcases hh with⟨a,b,c⟩|⟨a,b,c⟩
 ·exact absurd b hc
 exact⟨a,c⟩
theorem att_check_ok(β:Base)(w:World)(J S q2 q6 q3 sc e n:Nat)(sa:Option Addr)(k:KS)(i:KI)(vs vr:Value)(ws wr_ wz:Value)(xs:Bs)(hl:xs.length≤sc)(hm:sc≤9223372036854775807)(hx:Elems U8R β.heap sa xs)(hk:k.fits 524288)(hb:xs.length≤65536)(hc:ckOk k e n xs)(hw:St β [pt J (.cells #[pp S 0,Nx (i.epoch),Nx (i.next),vs,vr,Nx (i.size),.bool false] 120),pt q2 (.cells #[pp J 0] 72),pt q6 (.cells #[Nx (e),Nx (n),ws,wr_,wz] 116),pt q3 (.cells #[sB sa xs (sc)] 22),storeR S k] w):Calls Tryz.prog 59 #[pp J 0,.func (.func 91) #[] #[pp q2 0,pp q6 0,pp q3 0]] w fun r w'=>r= .returned (.int .i64 0)∧St β [pt J (.cells #[pp S 0,Nx (i.epoch),Nx (i.next),vs,vr,Nx (i.size),.bool false] 120),pt q2 (.cells #[pp J 0] 72),pt q6 (.cells #[Nx (e),Nx (n),ws,wr_,wz] 116),pt q3 (.cells #[sB sa xs (sc)] 22),storeR S (ckS k e n xs)] w':=by
 refine(attempt_ok β w J 91 [pp q2 0,pp q6 0,pp q3 0] _ _ _ _ _ _ _ [pt q2 (.cells #[pp J 0] 72),pt q6 (.cells #[Nx (e),Nx (n),ws,wr_,wz] 116),pt q3 (.cells #[sB sa xs (sc)] 22),storeR S k] [pt q2 (.cells #[pp J 0] 72),pt q6 (.cells #[Nx (e),Nx (n),ws,wr_,wz] 116),pt q3 (.cells #[sB sa xs (sc)] 22),storeR S (ckS k e n xs)] [pt q2 (.cells #[pp J 0] 72),pt q6 (.cells #[Nx (e),Nx (n),ws,wr_,wz] 116),pt q3 (.cells #[sB sa xs (sc)] 22),storeR S (ckS k e n xs)] (ckOk k e n xs) (¬(ckOk k e n xs)) (by kernel_rfl) hw (fun β' sb w hw=>check2_ok β' w J S q2 q6 q3 sc e n sa k i vs vr (.bool false) ws wr_ wz xs hl hm (Elems.mono _ _ _ _ _ sb hx) hk hb hw)).mono fun r w' hh=> ?_
 rcases hh with⟨a,b,c⟩|⟨a,b,c⟩
 ·exact⟨a,c⟩
 exact absurd hc b
theorem att_check_no(β:Base)(w:World)(J S q2 q6 q3 sc e n:Nat)(sa:Option Addr)(k:KS)(i:KI)(vs vr:Value)(ws wr_ wz:Value)(xs:Bs)(hl:xs.length≤sc)(hm:sc≤9223372036854775807)(hx:Elems U8R β.heap sa xs)(hk:k.fits 524288)(hb:xs.length≤65536)(hc:¬(ckOk k e n xs))(hw:St β [pt J (.cells #[pp S 0,Nx (i.epoch),Nx (i.next),vs,vr,Nx (i.size),.bool false] 120),pt q2 (.cells #[pp J 0] 72),pt q6 (.cells #[Nx (e),Nx (n),ws,wr_,wz] 116),pt q3 (.cells #[sB sa xs (sc)] 22),storeR S k] w):Calls Tryz.prog 59 #[pp J 0,.func (.func 91) #[] #[pp q2 0,pp q6 0,pp q3 0]] w fun r w'=>r= .returned (.int .i64 310)∧St β [pt J (.cells #[pp S 0,Nx (i.epoch),Nx (i.next),vs,vr,Nx (i.size),.bool true] 120),pt q2 (.cells #[pp J 0] 72),pt q6 (.cells #[Nx (e),Nx (n),ws,wr_,wz] 116),pt q3 (.cells #[sB sa xs (sc)] 22),storeR S (ckS k e n xs)] w':=by
 refine(attempt_ok β w J 91 [pp q2 0,pp q6 0,pp q3 0] _ _ _ _ _ _ _ [pt q2 (.cells #[pp J 0] 72),pt q6 (.cells #[Nx (e),Nx (n),ws,wr_,wz] 116),pt q3 (.cells #[sB sa xs (sc)] 22),storeR S k] [pt q2 (.cells #[pp J 0] 72),pt q6 (.cells #[Nx (e),Nx (n),ws,wr_,wz] 116),pt q3 (.cells #[sB sa xs (sc)] 22),storeR S (ckS k e n xs)] [pt q2 (.cells #[pp J 0] 72),pt q6 (.cells #[Nx (e),Nx (n),ws,wr_,wz] 116),pt q3 (.cells #[sB sa xs (sc)] 22),storeR S (ckS k e n xs)] (ckOk k e n xs) (¬(ckOk k e n xs)) (by kernel_rfl) hw (fun β' sb w hw=>check2_ok β' w J S q2 q6 q3 sc e n sa k i vs vr (.bool false) ws wr_ wz xs hl hm (Elems.mono _ _ _ _ _ sb hx) hk hb hw)).mono fun r w' hh=> ?_
 rcases hh with⟨a,b,c⟩|⟨a,b,c⟩
 ·exact absurd b hc
 exact⟨a,c⟩
set_option maxHeartbeats 4000000 in
theorem open_pow(β:Base)(w:World)(S:Nat)(k:KS)(hok:k.okP)(hpw:k.power≤9223372036854775807)(i:KI)(hri:readI k=some i)(hcut:¬cutOk (k.area i.epoch) k.power i.size)(hw:St β [storeR S k] w):Calls Tryz.prog 31 #[pp S 0] w fun r w'=>r= .returned (.tuple #[.pointer none,.int .i64 310])∧St β [storeR S k] w':=by
 have hfit:k.fits 524288:=fits_ok hok hpw
 refine enter (n:=31) Tryz.func31 rfl Tryz.ntmps31 rfl ?_ hw
 refine csr (bxp fun b1=> ?_)
 refine lE oap (lE oai (lnf (cs2 (c_region (lE (olp 0) (lv (v:= .bool false) (e_eql_pnil (p:=some (⟨S,0,none⟩)) rfl rfl tf37) (lnf (c_no rfl ?_))))))))
 refine csk (c_seq (c_pi [1,0] 2 rfl (by kernel_rfl) (c_openStore rfl (fun pH2 pA3 pB4 cH5 cA6 cB7=> ?_))))
 refine c_region (lE (olp 4) (lE onp (lE (olg 0) ?_)))
 refine lcf (cl0 (vs:=[.agg #[sB pH2 k.head cH5,sB pA3 k.a cA6,sB pB4 k.b cB7,Ix (k.power)]]) tf69.ok rfl rfl) rfl fun w β1 sb kn hw1 back=>(readC_ok β1 w hw1 k _ _ _ (kU kn 1 rfl) (kU kn 2 rfl) (kU kn 3 rfl) hok i hri).mono ?_
 rintro e w' ⟨ps8,pr9,cs10,cr11,rfl,hw'⟩
 refine⟨_,rfl,_,back _ _ hw',?_⟩
 clear hw1 hw' back kn sb
 refine lE omt (lE oxa (lE oxi (alE fun b12=>lu (mS 0 (#[Nx (i.epoch),Nx (i.next),sB ps8 i.state cs10,sB pr9 i.recs cr11,Nx (i.size)])) (lE oai ?_))))
 refine lnf (cs2 (c_region (lE omi (lE onq (lnf (c_no rfl (csk (csr (lE (olp 7) (lE (olg 0) ?_))))))))))
 refine lv (v:= .agg #[pp S 0,Nx (i.epoch),Nx (i.next),sB ps8 i.state cs10,sB pr9 i.recs cr11,Nx (i.size),.bool false]) (e_build tf71.ok tf70 (vs:=[(0,pp S 0),(1,.agg #[Nx (i.epoch),Nx (i.next),sB ps8 i.state cs10,sB pr9 i.recs cr11,Nx (i.size)])]) (cells:= #[pp S 0,Nx (i.epoch),Nx (i.next),sB ps8 i.state cs10,sB pr9 i.recs cr11,Nx (i.size),.bool false]) rfl rfl) ?_
 refine bxa fun b13=> ?_
 refine alE fun b14=>lu (mS 0 (#[pp b13 0])) (lnf (cs2 (c_pi [5,6,7,8,0,1,2,3,4,9] 10 rfl (by kernel_rfl) ?_)))
 refine c_closeStore (S:=S) (k:=k) (pH:=pH2) (pA:=pA3) (pB:=pB4) (cH:=cH5) (cA:=cA6) (cB:=cB7) (M:=(pt b14 (.cells #[pp b13 0] 72)::pt b13 (.cells #[pp S 0,Nx (i.epoch),Nx (i.next),sB ps8 i.state cs10,sB pr9 i.recs cr11,Nx (i.size),.bool false] 120)::pt b12 (.cells #[Nx (i.epoch),Nx (i.next),sB ps8 i.state cs10,sB pr9 i.recs cr11,Nx (i.size)] 116)::rB ps8 i.state cs10::recsR 22 pr9 cr11 i.recs::pt b1 (.cells #[pp S 0] 27)::[])) rfl ?_
 refine c_region (lE (olp 1) ?_)
 refine lv (v:= .func (.func 60) #[] #[pp b14 0,pp b1 0,pp b12 0]) (e_func (u:=[]) (v:=[pp b14 0,pp b1 0,pp b12 0]) rfl rfl) ?_
 refine l_call rfl rfl rfl (cl0 (vs:=[pp b13 0,.func (.func 60) #[] #[pp b14 0,pp b1 0,pp b12 0]]) tf73.ok rfl rfl) ?_
 intro w hw
 replace hw:=hw.perm (L':=_::_::_::_::_::_::_::[]) (by exact(((((((perm_front 5 rfl).trans (perm_front 5 rfl)).trans (perm_front 2 rfl)).trans (perm_front 5 rfl)).trans (perm_front 6 rfl)).trans (perm_front 5 rfl)).trans (perm_front 6 rfl)))
 obtain⟨β1,sb,kn,hw1,back⟩:=St.frame (L:=[_,_,_,_,_]) (M:=_::_::[]) hw
 refine(att_open_no β1 w b13 S b14 b1 b12 k i (sB ps8 i.state cs10) (sB pr9 i.recs cr11) hfit hcut hw1).mono ?_
 rintro e w' ⟨rfl,hw'⟩
 refine⟨_,rfl,_,back _ _ hw',?_⟩
 clear hw hw1 hw' back kn sb
 refine lE oai (lnc (lE omi (lE onq (lnf (c_yes rfl (csr (lE omi (lE oap (lE oai (lnf (c_ret (f_then_ret ?_))))))))))))
 refine ret2 (v:= .pointer none) (v':= .int .i64 (310)) Tryz.results31 rfl rfl ?_
 intro w hw
 exact⟨rfl,st_mask [true,false,false,false,false,false,false] rfl (hw.perm (L':=[storeR S k,pt b13 (.cells #[pp S 0,Nx (i.epoch),Nx (i.next),sB ps8 i.state cs10,sB pr9 i.recs cr11,Nx (i.size),.bool true] 120),pt b14 (.cells #[pp b13 0] 72),pt b1 (.cells #[pp S 0] 27),pt b12 (.cells #[Nx (i.epoch),Nx (i.next),sB ps8 i.state cs10,sB pr9 i.recs cr11,Nx (i.size)] 116),rB ps8 i.state cs10,recsR 22 pr9 cr11 i.recs]) (by exact(perm_ix [4,0,1,2,3,5,6] 7 rfl (by kernel_rfl) (by kernel_rfl))))⟩
set_option maxHeartbeats 4000000 in
theorem open_ok(β:Base)(w:World)(S:Nat)(k:KS)(hok:k.okP)(hpw:k.power≤9223372036854775807)(i:KI)(hri:readI k=some i)(hcut:cutOk (k.area i.epoch) k.power i.size)(hw:St β [storeR S k] w):Calls Tryz.prog 31 #[pp S 0] w fun r w'=>∃J,r= .returned (.tuple #[pp J 0,.int .i64 0])∧St β [jourR J S i false,storeR S (cutS k i.epoch i.size)] w':=by
 have hfit:k.fits 524288:=fits_ok hok hpw
 refine enter (n:=31) Tryz.func31 rfl Tryz.ntmps31 rfl ?_ hw
 refine csr (bxp fun b1=> ?_)
 refine lE oap (lE oai (lnf (cs2 (c_region (lE (olp 0) (lv (v:= .bool false) (e_eql_pnil (p:=some (⟨S,0,none⟩)) rfl rfl tf37) (lnf (c_no rfl ?_))))))))
 refine csk (c_seq (c_pi [1,0] 2 rfl (by kernel_rfl) (c_openStore rfl (fun pH2 pA3 pB4 cH5 cA6 cB7=> ?_))))
 refine c_region (lE (olp 4) (lE onp (lE (olg 0) ?_)))
 refine lcf (cl0 (vs:=[.agg #[sB pH2 k.head cH5,sB pA3 k.a cA6,sB pB4 k.b cB7,Ix (k.power)]]) tf69.ok rfl rfl) rfl fun w β1 sb kn hw1 back=>(readC_ok β1 w hw1 k _ _ _ (kU kn 1 rfl) (kU kn 2 rfl) (kU kn 3 rfl) hok i hri).mono ?_
 rintro e w' ⟨ps8,pr9,cs10,cr11,rfl,hw'⟩
 refine⟨_,rfl,_,back _ _ hw',?_⟩
 clear hw1 hw' back kn sb
 refine lE omt (lE oxa (lE oxi (alE fun b12=>lu (mS 0 (#[Nx (i.epoch),Nx (i.next),sB ps8 i.state cs10,sB pr9 i.recs cr11,Nx (i.size)])) (lE oai ?_))))
 refine lnf (cs2 (c_region (lE omi (lE onq (lnf (c_no rfl (csk (csr (lE (olp 7) (lE (olg 0) ?_))))))))))
 refine lv (v:= .agg #[pp S 0,Nx (i.epoch),Nx (i.next),sB ps8 i.state cs10,sB pr9 i.recs cr11,Nx (i.size),.bool false]) (e_build tf71.ok tf70 (vs:=[(0,pp S 0),(1,.agg #[Nx (i.epoch),Nx (i.next),sB ps8 i.state cs10,sB pr9 i.recs cr11,Nx (i.size)])]) (cells:= #[pp S 0,Nx (i.epoch),Nx (i.next),sB ps8 i.state cs10,sB pr9 i.recs cr11,Nx (i.size),.bool false]) rfl rfl) ?_
 refine bxa fun b13=> ?_
 refine alE fun b14=>lu (mS 0 (#[pp b13 0])) (lnf (cs2 (c_pi [5,6,7,8,0,1,2,3,4,9] 10 rfl (by kernel_rfl) ?_)))
 refine c_closeStore (S:=S) (k:=k) (pH:=pH2) (pA:=pA3) (pB:=pB4) (cH:=cH5) (cA:=cA6) (cB:=cB7) (M:=(pt b14 (.cells #[pp b13 0] 72)::pt b13 (.cells #[pp S 0,Nx (i.epoch),Nx (i.next),sB ps8 i.state cs10,sB pr9 i.recs cr11,Nx (i.size),.bool false] 120)::pt b12 (.cells #[Nx (i.epoch),Nx (i.next),sB ps8 i.state cs10,sB pr9 i.recs cr11,Nx (i.size)] 116)::rB ps8 i.state cs10::recsR 22 pr9 cr11 i.recs::pt b1 (.cells #[pp S 0] 27)::[])) rfl ?_
 refine c_region (lE (olp 1) ?_)
 refine lv (v:= .func (.func 60) #[] #[pp b14 0,pp b1 0,pp b12 0]) (e_func (u:=[]) (v:=[pp b14 0,pp b1 0,pp b12 0]) rfl rfl) ?_
 refine l_call rfl rfl rfl (cl0 (vs:=[pp b13 0,.func (.func 60) #[] #[pp b14 0,pp b1 0,pp b12 0]]) tf73.ok rfl rfl) ?_
 intro w hw
 replace hw:=hw.perm (L':=_::_::_::_::_::_::_::[]) (by exact(((((((perm_front 5 rfl).trans (perm_front 5 rfl)).trans (perm_front 2 rfl)).trans (perm_front 5 rfl)).trans (perm_front 6 rfl)).trans (perm_front 5 rfl)).trans (perm_front 6 rfl)))
 obtain⟨β1,sb,kn,hw1,back⟩:=St.frame (L:=[_,_,_,_,_]) (M:=_::_::[]) hw
 refine(att_open_ok β1 w b13 S b14 b1 b12 k i (sB ps8 i.state cs10) (sB pr9 i.recs cr11) hfit hcut hw1).mono ?_
 rintro e w' ⟨rfl,hw'⟩
 refine⟨_,rfl,_,back _ _ hw',?_⟩
 clear hw hw1 hw' back kn sb
 refine lE oai (lnc (lE omi (lE onq (lnf (c_no rfl (csk (csr (lE (olp 1) (lE oap (lE oai (lnf (c_ret ?_))))))))))))
 refine ret2 (v:=pp b13 0) (v':= .int .i64 (0)) Tryz.results31 rfl rfl ?_
 intro w hw
 exact⟨_,rfl,St.closeJour (i:=i) (dn:=false) (M:=[storeR S (cutS k i.epoch i.size)]) (st_mask [true,true,true,true,false,false,false] rfl (hw.perm (L':=[pt b13 (.cells #[pp S 0,Nx (i.epoch),Nx (i.next),sB ps8 i.state cs10,sB pr9 i.recs cr11,Nx (i.size),.bool false] 120),rB ps8 i.state cs10,recsR 22 pr9 cr11 i.recs,storeR S (cutS k i.epoch i.size),pt b14 (.cells #[pp b13 0] 72),pt b1 (.cells #[pp S 0] 27),pt b12 (.cells #[Nx (i.epoch),Nx (i.next),sB ps8 i.state cs10,sB pr9 i.recs cr11,Nx (i.size)] 116)]) (by exact(perm_ix [0,5,6,4,1,2,3] 7 rfl (by kernel_rfl) (by kernel_rfl)))))⟩
theorem ready_c(β:Base)(w:World)(hw:St β [] w)(J S:Nat)(x1 x2 x3 x4 x5:Value)(dn:Bool)(hJ:Cs β.heap ⟨J,0,none⟩ [pp S 0,x1,x2,x3,x4,x5,.bool (dn)])(bs:Bs)(v:Value)(hs:Sl U8R β.heap v bs)(c:Int)(hc:readyE dn bs=c):Ret Tryz.prog 90 #[pp J 0,v] β w (.int .i64 c):=by
 subst hc
 exact ready_ok β w hw J S x1 x2 x3 x4 x5 dn hJ bs v hs
set_option maxHeartbeats 4000000 in
theorem append_full(β:Base)(w:World)(J S:Nat)(k:KS)(i:KI)(bs:Bs)(hlong:bs.length≤65536)(hnl:i.next≤4611686018427387904)(hsz:i.size≤262144)(hful:262144<i.size+24+bs.length∨i.next=4611686018427387904)(v:Value)(hs:Sl U8R β.heap v bs)(hw:St β [jourR J S i false] w):Calls Tryz.prog 85 #[pp J 0,v] w fun r w'=>r= .returned (.tuple #[.int .i64 0,.int .i64 4])∧St β [jourR J S i false] w':=by
 obtain⟨va,vc,rfl,vl,vm,ve⟩:=hs.get
 obtain⟨ps,pr,cs,cr,hw⟩:=St.openJour hw
 refine enter (n:=83) Tryz.func85 rfl Tryz.ntmps85 rfl ?_ hw
 refine csr (bxp fun b1=> ?_)
 refine lE oai (lE oai (lnf (cs2 (c_region (lE (olp 0) (lE oms ?_))))))
 refine lcR clA (fun w β1 sb kn hw1=>ready_c β1 w hw1 J S (Nx (i.epoch)) (Nx (i.next)) (sB ps i.state cs) (sB pr i.recs cr) (Nx (i.size)) false (kn _ (k_pt 1 rfl rfl)) bs _ (Sl.mono _ _ _ _ _ sb (⟨⟨_,_,rfl,vl,vm,ve⟩⟩:Sl U8R _ _ bs)) (0) ((if_neg (by omega)).trans (if_neg (by decide)))) ?_
 refine lE oai (lnc (lE omi (lE onq (lnf (c_no rfl (csk (csr (lE (olp 0) (lE onp (lE ofp (alE fun b2=>lu (mS 0 (#[pp J 1])) (lnf (cs2 (c_region ?_))))))))))))))
 refine lE (olp 0) (lE onp (lE ofp (lE (oli 2) (lv (v:=Nx (i.size+24)) (e_add rfl rfl (i64n (by omega) (by omega))) (lE oms (lE oln ?_))))))
 refine lv (v:=Nx ((i.size+24)+bs.length)) (e_add rfl rfl (i64n (by omega) (by omega))) (lE ogt (lE omb ?_))
 refine l_split (s:=28) rfl (fun hg3=> ?_) (fun hg3=> ?_)
 ·iterate 5 refine skE ?_
  refine lE oktb (lnf (c_yes rfl (csr (lE oai (lE oai (lnf (c_ret (f_then_ret ?_))))))))
  refine ret2 (v:= .int .i64 (0)) (v':= .int .i64 (4)) Tryz.results85 rfl rfl ?_
  intro w hw
  exact⟨rfl,St.closeJour (i:=i) (dn:=false) (M:=[]) (st_mask [true,true,true,false,false] rfl (hw.perm (L':=[pt J (.cells #[pp S 0,Nx (i.epoch),Nx (i.next),sB ps i.state cs,sB pr i.recs cr,Nx (i.size),.bool false] 120),rB ps i.state cs,recsR 22 pr cr i.recs,pt b2 (.cells #[pp J 1] 166),pt b1 (.cells #[pp J 0] 72)]) (by exact(perm_ix [2,3,4,0,1] 5 rfl (by kernel_rfl) (by kernel_rfl)))))⟩
 refine gE (olp 0) (gE onp (gE ofp (gE (oli 2) (gE oeq_ (lE okfb (lnf (c_if _ rfl (fun hc4=> ?_) (fun hc4=> ?_))))))))
 ·refine csr (lE oai (lE oai (lnf (c_ret (f_then_ret (ret2 (v:= .int .i64 (0)) (v':= .int .i64 (4)) Tryz.results85 rfl rfl ?_))))))
  intro w hw
  exact⟨rfl,St.closeJour (i:=i) (dn:=false) (M:=[]) (st_mask [true,true,true,false,false] rfl (hw.perm (L':=[pt J (.cells #[pp S 0,Nx (i.epoch),Nx (i.next),sB ps i.state cs,sB pr i.recs cr,Nx (i.size),.bool false] 120),rB ps i.state cs,recsR 22 pr cr i.recs,pt b2 (.cells #[pp J 1] 166),pt b1 (.cells #[pp J 0] 72)]) (by exact(perm_ix [2,3,4,0,1] 5 rfl (by kernel_rfl) (by kernel_rfl)))))⟩
 exact absurd (by omega) hc4
set_option maxHeartbeats 4000000 in
theorem append_fail(β:Base)(w:World)(J S:Nat)(k:KS)(i:KI)(bs:Bs)(hlong:bs.length≤65536)(hfit:k.fits 524288)(hnl:i.next≤4611686018427387904)(hsz:i.size≤262144)(hrl:i.recs.length≤1048576)(hful:i.size+24+bs.length≤262144)(hnm:i.next≠4611686018427387904)(hc:¬apOk k i bs)(v:Value)(hs:Sl U8R β.heap v bs)(hw:St β [jourR J S i false,storeR S k] w):Calls Tryz.prog 85 #[pp J 0,v] w fun r w'=>r= .returned (.tuple #[.int .i64 0,.int .i64 310])∧St β [jourR J S i true,storeR S (apS k i bs)] w':=by
 obtain⟨va,vc,rfl,vl,vm,ve⟩:=hs.get
 obtain⟨ps,pr,cs,cr,hw⟩:=St.openJour hw
 refine enter (n:=83) Tryz.func85 rfl Tryz.ntmps85 rfl ?_ hw
 refine csr (bxp fun b1=> ?_)
 refine lE oai (lE oai (lnf (cs2 (c_region (lE (olp 0) (lE oms ?_))))))
 refine lcR clA (fun w β1 sb kn hw1=>ready_c β1 w hw1 J S (Nx (i.epoch)) (Nx (i.next)) (sB ps i.state cs) (sB pr i.recs cr) (Nx (i.size)) false (kn _ (k_pt 1 rfl rfl)) bs _ (Sl.mono _ _ _ _ _ sb (⟨⟨_,_,rfl,vl,vm,ve⟩⟩:Sl U8R _ _ bs)) (0) ((if_neg (by omega)).trans (if_neg (by decide)))) ?_
 refine lE oai (lnc (lE omi (lE onq (lnf (c_no rfl (csk (csr (lE (olp 0) (lE onp (lE ofp (alE fun b2=>lu (mS 0 (#[pp J 1])) (lnf (cs2 (c_region ?_))))))))))))))
 refine lE (olp 0) (lE onp (lE ofp (lE (oli 2) (lv (v:=Nx (i.size+24)) (e_add rfl rfl (i64n (by omega) (by omega))) (lE oms (lE oln ?_))))))
 refine lv (v:=Nx ((i.size+24)+bs.length)) (e_add rfl rfl (i64n (by omega) (by omega))) (lE ogt (lE omb ?_))
 refine l_split (s:=28) rfl (fun h=> ?_) (fun h=> ?_)
 exact absurd h (by omega)
 refine gE (olp 0) (gE onp (gE ofp (gE (oli 2) (gE oeq_ (lE okfb (lnf (c_if _ rfl (fun hc3=> ?_) (fun hc3=> ?_))))))))
 ·exact absurd hc3 (by omega)
 refine csk (c_seq ?_)
 refine cnz [sv 35 (pp J 1) [] [] [0],sv 36 (pp J 1) [0] [0] [],sv 37 (pp J 1) [0,1] [1] [],sv 38 (Nx (i.epoch)) [0,1,2] [2] [],sv 39 (pp J 1) [] [] [0],sv 40 (pp J 1) [4] [4] [],sv 41 (pp J 2) [4,5] [5] [],sv 42 (Nx (i.next)) [4,5,6] [6] [],sv 43 (sB va bs (vc)) [] [] [1],⟨(List.range 9),[3,7,8],[],[44],fun f=>f 44=sB (sla (f 44)) (formB ((i.epoch:Nat):Int) ((i.next:Nat):Int) bs) (slc (f 44))⟩,⟨[],[],[],[8],fun f=>f 8= .pointer (some ⟨(blk (f 8)),0,none⟩)⟩,⟨(List.range 11),[10,9],[],[],fun _=>True⟩] [u1 [0,4],u0,u1 [3,7]] [⟨(some 9),none,[],[44],fun f=>rB (sla (f 44)) (formB ((i.epoch:Nat):Int) ((i.next:Nat):Int) bs) (slc (f 44))⟩,⟨(some 10),(some 11),[11],[8],fun f=>pt (blk (f 8)) (.cells #[.slice none 0 0] 22)⟩,⟨(some 11),none,[],[8,44],fun f=>pt (blk (f 8)) (.cells #[sB (sla (f 44)) (formB ((i.epoch:Nat):Int) ((i.next:Nat):Int) bs) (slc (f 44))] 22)⟩] [(7,pp b2 0),(1,sB va bs (vc)),(2,pp b1 0)] [1,2,0] ⟨rfl,rfl,rfl,trivial⟩ ⟨?_,?_,?_,?_,?_,?_,?_,?_,?_,?_,?_,?_,trivial⟩ ?_
 ·rintro f M-⟨i0,-⟩
  exact obE (olp 0)
 ·rintro f M ⟨k0,-⟩-
  exact obE onp
 ·rintro f M ⟨k0,-⟩-
  exact obE ofp
 ·rintro f M ⟨k0,-⟩-
  exact obE (oli 0)
 ·rintro f M-⟨i0,-⟩
  exact obE (olp 0)
 ·rintro f M ⟨k0,-⟩-
  exact obE onp
 ·rintro f M ⟨k0,-⟩-
  exact obE ofp
 ·rintro f M ⟨k0,-⟩-
  exact obE (oli 0)
 ·rintro f M-⟨i0,-⟩
  exact obE oms
 ·rintro f M ⟨k0,k1,k2,-⟩-
  refine obS (up_cons (d:=43) (up_cons (d:=42) (up_cons (d:=38) rfl k0) k1) k2) ?_
  refine lcf (cl0 (vs:=[Nx (i.epoch),Nx (i.next),sB va bs (vc)]) tf54.ok rfl rfl) rfl fun w β1 sb kn hw1 back=>(form_ok β1 w hw1 ((i.epoch:Nat):Int) ((i.next:Nat):Int) bs _ (by omega) (Sl.mono _ _ _ _ _ sb (⟨⟨_,_,rfl,vl,vm,ve⟩⟩:Sl U8R _ _ bs))).mono ?_
  rintro e w' ⟨p6,c7,rfl,hw'⟩
  refine⟨_,rfl,_,back _ _ hw',?_⟩
  clear hw1 hw' back kn sb
  refine l_nil ?_
  exact f_owes_d (up_cons (d:=43) (up_cons (d:=42) (up_cons (d:=38) rfl k0) k1) k2) rfl (perm_front 0 rfl)
 ·rintro f M- -
  refine obS rfl ?_
  refine alE fun b9=>l_nil ?_
  exact f_owes_d rfl rfl (perm_front 0 rfl)
 ·rintro f M ⟨k0,k1,-⟩-
  have hs8:f 8= .pointer (some ⟨(blk (f 8)),0,none⟩):=k0
  have hs44:f 44=sB (sla (f 44)) (formB ((i.epoch:Nat):Int) ((i.next:Nat):Int) bs) (slc (f 44)):=k1
  refine obS (up_cons (up_cons rfl hs8) hs44) ?_
  refine lu (mS 0 (#[sB (sla (f 44)) (formB ((i.epoch:Nat):Int) ((i.next:Nat):Int) bs) (slc (f 44))])) (l_nil ?_)
  exact f_owes_n (up_cons (up_cons rfl hs8) hs44) trivial (perm_front 0 rfl)
 rintro fa10 ⟨-,-,-,-,-,-,-,-,-,-,k10,-,-⟩ ⟨j0,j1,j2,-⟩
 refine fre ?_
 refine f_rebase (d:=1) j0 (f_rebase (d:=2) j1 (f_rebase (d:=7) j2 (f_rebase (d:=8) k10 (fts (csr (lE (olp 1) ?_))))))
 refine lv (v:= .func (.func 104) #[] #[pp b1 0,pp b2 0,.pointer (some ⟨(blk (fa10 8)),0,none⟩)]) (e_func (u:=[]) (v:=[pp b1 0,pp b2 0,.pointer (some ⟨(blk (fa10 8)),0,none⟩)]) rfl rfl) ?_
 refine l_call rfl rfl rfl (cl0 (vs:=[pp J 0,.func (.func 104) #[] #[pp b1 0,pp b2 0,.pointer (some ⟨(blk (fa10 8)),0,none⟩)]]) tf73.ok rfl rfl) ?_
 intro w hw
 replace hw:=hw.perm (L':=_::_::_::_::_::_::_::_::[]) (by exact((((((((perm_front 4 rfl).trans (perm_front 4 rfl)).trans (perm_front 5 rfl)).trans (perm_front 6 rfl)).trans (perm_front 7 rfl)).trans (perm_front 5 rfl)).trans (perm_front 6 rfl)).trans (perm_front 7 rfl)))
 obtain⟨β1,sb,kn,hw1,back⟩:=St.frame (L:=[_,_,_,_,_,_]) (M:=_::_::[]) hw
 refine(att_append_no β1 w J S b1 b2 (blk (fa10 8)) (slc (fa10 44)) (sla (fa10 44)) k i (sB ps i.state cs) (sB pr i.recs cr) (formB ((i.epoch:Nat):Int) ((i.next:Nat):Int) bs) hfit (by rw[formB_length];omega) (by omega) hc hw1).mono ?_
 rintro e w' ⟨rfl,hw'⟩
 refine⟨_,rfl,_,back _ _ hw',?_⟩
 clear hw hw1 hw' back kn sb
 refine lE oai (lnc (lE omi (lE onq (lnf (c_yes rfl (csr (lE omi (lE oai (lE oai (lnf (c_ret (f_then_ret ?_))))))))))))
 refine ret2 (v:= .int .i64 (0)) (v':= .int .i64 (310)) Tryz.results85 rfl rfl ?_
 intro w hw
 exact⟨rfl,St.closeJour (i:=i) (dn:=true) (M:=[storeR S (wrS k i.epoch i.size (formB ((i.epoch:Nat):Int) ((i.next:Nat):Int) bs))]) (st_mask [true,true,true,true,false,false,false,false] rfl (hw.perm (L':=[pt J (.cells #[pp S 0,Nx (i.epoch),Nx (i.next),sB ps i.state cs,sB pr i.recs cr,Nx (i.size),.bool true] 120),rB ps i.state cs,recsR 22 pr cr i.recs,storeR S (wrS k i.epoch i.size (formB ((i.epoch:Nat):Int) ((i.next:Nat):Int) bs)),pt b1 (.cells #[pp J 0] 72),pt b2 (.cells #[pp J 1] 166),pt (blk (fa10 8)) (.cells #[sB (sla (fa10 44)) (formB ((i.epoch:Nat):Int) ((i.next:Nat):Int) bs) (slc (fa10 44))] 22),rB (sla (fa10 44)) (formB ((i.epoch:Nat):Int) ((i.next:Nat):Int) bs) (slc (fa10 44))]) (by exact(perm_ix [0,6,7,5,1,2,3,4] 8 rfl (by kernel_rfl) (by kernel_rfl)))))⟩
set_option maxHeartbeats 4000000 in
theorem append_ok(β:Base)(w:World)(J S:Nat)(k:KS)(i:KI)(bs:Bs)(hlong:bs.length≤65536)(hfit:k.fits 524288)(hnl:i.next≤4611686018427387904)(hsz:i.size≤262144)(hrl:i.recs.length≤1048576)(hful:i.size+24+bs.length≤262144)(hnm:i.next≠4611686018427387904)(hc:apOk k i bs)(v:Value)(hs:Sl U8R β.heap v bs)(hw:St β [jourR J S i false,storeR S k] w):Calls Tryz.prog 85 #[pp J 0,v] w fun r w'=>r= .returned (.tuple #[Nx i.next,.int .i64 0])∧St β [jourR J S (apI i bs) false,storeR S (apS k i bs)] w':=by
 obtain⟨va,vc,rfl,vl,vm,ve⟩:=hs.get
 obtain⟨ps,pr,cs,cr,hw⟩:=St.openJour hw
 refine enter (n:=83) Tryz.func85 rfl Tryz.ntmps85 rfl ?_ hw
 refine csr (bxp fun b1=> ?_)
 refine lE oai (lE oai (lnf (cs2 (c_region (lE (olp 0) (lE oms ?_))))))
 refine lcR clA (fun w β1 sb kn hw1=>ready_c β1 w hw1 J S (Nx (i.epoch)) (Nx (i.next)) (sB ps i.state cs) (sB pr i.recs cr) (Nx (i.size)) false (kn _ (k_pt 1 rfl rfl)) bs _ (Sl.mono _ _ _ _ _ sb (⟨⟨_,_,rfl,vl,vm,ve⟩⟩:Sl U8R _ _ bs)) (0) ((if_neg (by omega)).trans (if_neg (by decide)))) ?_
 refine lE oai (lnc (lE omi (lE onq (lnf (c_no rfl (csk (csr (lE (olp 0) (lE onp (lE ofp (alE fun b2=>lu (mS 0 (#[pp J 1])) (lnf (cs2 (c_region ?_))))))))))))))
 refine lE (olp 0) (lE onp (lE ofp (lE (oli 2) (lv (v:=Nx (i.size+24)) (e_add rfl rfl (i64n (by omega) (by omega))) (lE oms (lE oln ?_))))))
 refine lv (v:=Nx ((i.size+24)+bs.length)) (e_add rfl rfl (i64n (by omega) (by omega))) (lE ogt (lE omb ?_))
 refine l_split (s:=28) rfl (fun h=> ?_) (fun h=> ?_)
 exact absurd h (by omega)
 refine gE (olp 0) (gE onp (gE ofp (gE (oli 2) (gE oeq_ (lE okfb (lnf (c_if _ rfl (fun hc3=> ?_) (fun hc3=> ?_))))))))
 ·exact absurd hc3 (by omega)
 refine csk (c_seq ?_)
 refine cnz [sv 35 (pp J 1) [] [] [0],sv 36 (pp J 1) [0] [0] [],sv 37 (pp J 1) [0,1] [1] [],sv 38 (Nx (i.epoch)) [0,1,2] [2] [],sv 39 (pp J 1) [] [] [0],sv 40 (pp J 1) [4] [4] [],sv 41 (pp J 2) [4,5] [5] [],sv 42 (Nx (i.next)) [4,5,6] [6] [],sv 43 (sB va bs (vc)) [] [] [1],⟨(List.range 9),[3,7,8],[],[44],fun f=>f 44=sB (sla (f 44)) (formB ((i.epoch:Nat):Int) ((i.next:Nat):Int) bs) (slc (f 44))⟩,⟨[],[],[],[8],fun f=>f 8= .pointer (some ⟨(blk (f 8)),0,none⟩)⟩,⟨(List.range 11),[10,9],[],[],fun _=>True⟩] [u1 [0,4],u0,u1 [3,7]] [⟨(some 9),none,[],[44],fun f=>rB (sla (f 44)) (formB ((i.epoch:Nat):Int) ((i.next:Nat):Int) bs) (slc (f 44))⟩,⟨(some 10),(some 11),[11],[8],fun f=>pt (blk (f 8)) (.cells #[.slice none 0 0] 22)⟩,⟨(some 11),none,[],[8,44],fun f=>pt (blk (f 8)) (.cells #[sB (sla (f 44)) (formB ((i.epoch:Nat):Int) ((i.next:Nat):Int) bs) (slc (f 44))] 22)⟩] [(7,pp b2 0),(1,sB va bs (vc)),(2,pp b1 0)] [1,2,0] ⟨rfl,rfl,rfl,trivial⟩ ⟨?_,?_,?_,?_,?_,?_,?_,?_,?_,?_,?_,?_,trivial⟩ ?_
 ·rintro f M-⟨i0,-⟩
  exact obE (olp 0)
 ·rintro f M ⟨k0,-⟩-
  exact obE onp
 ·rintro f M ⟨k0,-⟩-
  exact obE ofp
 ·rintro f M ⟨k0,-⟩-
  exact obE (oli 0)
 ·rintro f M-⟨i0,-⟩
  exact obE (olp 0)
 ·rintro f M ⟨k0,-⟩-
  exact obE onp
 ·rintro f M ⟨k0,-⟩-
  exact obE ofp
 ·rintro f M ⟨k0,-⟩-
  exact obE (oli 0)
 ·rintro f M-⟨i0,-⟩
  exact obE oms
 ·rintro f M ⟨k0,k1,k2,-⟩-
  refine obS (up_cons (d:=43) (up_cons (d:=42) (up_cons (d:=38) rfl k0) k1) k2) ?_
  refine lcf (cl0 (vs:=[Nx (i.epoch),Nx (i.next),sB va bs (vc)]) tf54.ok rfl rfl) rfl fun w β1 sb kn hw1 back=>(form_ok β1 w hw1 ((i.epoch:Nat):Int) ((i.next:Nat):Int) bs _ (by omega) (Sl.mono _ _ _ _ _ sb (⟨⟨_,_,rfl,vl,vm,ve⟩⟩:Sl U8R _ _ bs))).mono ?_
  rintro e w' ⟨p6,c7,rfl,hw'⟩
  refine⟨_,rfl,_,back _ _ hw',?_⟩
  clear hw1 hw' back kn sb
  refine l_nil ?_
  exact f_owes_d (up_cons (d:=43) (up_cons (d:=42) (up_cons (d:=38) rfl k0) k1) k2) rfl (perm_front 0 rfl)
 ·rintro f M- -
  refine obS rfl ?_
  refine alE fun b9=>l_nil ?_
  exact f_owes_d rfl rfl (perm_front 0 rfl)
 ·rintro f M ⟨k0,k1,-⟩-
  have hs8:f 8= .pointer (some ⟨(blk (f 8)),0,none⟩):=k0
  have hs44:f 44=sB (sla (f 44)) (formB ((i.epoch:Nat):Int) ((i.next:Nat):Int) bs) (slc (f 44)):=k1
  refine obS (up_cons (up_cons rfl hs8) hs44) ?_
  refine lu (mS 0 (#[sB (sla (f 44)) (formB ((i.epoch:Nat):Int) ((i.next:Nat):Int) bs) (slc (f 44))])) (l_nil ?_)
  exact f_owes_n (up_cons (up_cons rfl hs8) hs44) trivial (perm_front 0 rfl)
 rintro fa10 ⟨-,-,-,-,-,-,-,-,-,-,k10,-,-⟩ ⟨j0,j1,j2,-⟩
 refine fre ?_
 refine f_rebase (d:=1) j0 (f_rebase (d:=2) j1 (f_rebase (d:=7) j2 (f_rebase (d:=8) k10 (fts (csr (lE (olp 1) ?_))))))
 refine lv (v:= .func (.func 104) #[] #[pp b1 0,pp b2 0,.pointer (some ⟨(blk (fa10 8)),0,none⟩)]) (e_func (u:=[]) (v:=[pp b1 0,pp b2 0,.pointer (some ⟨(blk (fa10 8)),0,none⟩)]) rfl rfl) ?_
 refine l_call rfl rfl rfl (cl0 (vs:=[pp J 0,.func (.func 104) #[] #[pp b1 0,pp b2 0,.pointer (some ⟨(blk (fa10 8)),0,none⟩)]]) tf73.ok rfl rfl) ?_
 intro w hw
 replace hw:=hw.perm (L':=_::_::_::_::_::_::_::_::[]) (by exact((((((((perm_front 4 rfl).trans (perm_front 4 rfl)).trans (perm_front 5 rfl)).trans (perm_front 6 rfl)).trans (perm_front 7 rfl)).trans (perm_front 5 rfl)).trans (perm_front 6 rfl)).trans (perm_front 7 rfl)))
 obtain⟨β1,sb,kn,hw1,back⟩:=St.frame (L:=[_,_,_,_,_,_]) (M:=_::_::[]) hw
 refine(att_append_ok β1 w J S b1 b2 (blk (fa10 8)) (slc (fa10 44)) (sla (fa10 44)) k i (sB ps i.state cs) (sB pr i.recs cr) (formB ((i.epoch:Nat):Int) ((i.next:Nat):Int) bs) hfit (by rw[formB_length];omega) (by omega) hc hw1).mono ?_
 rintro e w' ⟨rfl,hw'⟩
 refine⟨_,rfl,_,back _ _ hw',?_⟩
 clear hw hw1 hw' back kn sb
 refine lE oai (lnc (lE omi (lE onq (lnf (c_no rfl (csk (c_seq ?_)))))))
 refine cnz [sv 51 (pp J 1) [] [] [0],sv 52 (pp J 1) [] [] [0],sv 53 (pp J 1) [1] [1] [],sv 54 (pp J 4) [1,2] [2] [],sv 55 (sB pr i.recs cr) [1,2,3] [3] [],sv 56 (sB va bs (vc)) [] [] [1],⟨[5],[5],[],[57],fun f=>f 57=sB (sla (f 57)) bs (slc (f 57))⟩,⟨[5,6],[6],[],[58],fun f=>f 58= .slice (some ⟨(blk (f 58)),0,none⟩) 1 1⟩,⟨[1,2,3,4,5,6,7],[4,7],[],[59],fun f=>f 59=sB (sla (f 59)) ((i.recs++[bs])) (slc (f 59))⟩,sv 60 (pp J 1) (List.range 9) [0] [],sv 61 (pp J 4) (List.range 10) [9] [],⟨(List.range 11),[10,8],[],[],fun _=>True⟩] [(some 11,[4,11]),u0,u1 [0,1],u0,u0,u0,u0,(some 8,[8])] [⟨(some 6),(some 8),[8],[57],fun f=>rB (sla (f 57)) bs (slc (f 57))⟩,⟨(some 7),none,[8],[57,58],fun f=>pt (blk (f 58)) (.cells #[sB (sla (f 57)) bs (slc (f 57))] 22)⟩,⟨(some 8),none,[],[59],fun f=>recsR 22 (sla (f 59)) (slc (f 59)) (i.recs++[bs])⟩,⟨(some 11),none,[],[59],fun f=>pt J (.cells #[pp S 0,Nx (i.epoch),Nx (i.next),sB ps i.state cs,sB (sla (f 59)) ((i.recs++[bs])) (slc (f 59)),Nx (i.size),.bool false] 120)⟩] [(7,pp b2 0),(1,sB va bs (vc)),(8,.pointer (some ⟨(blk (fa10 8)),0,none⟩))] [0,2] ⟨rfl,rfl,rfl,trivial⟩ ⟨?_,?_,?_,?_,?_,?_,?_,?_,?_,?_,?_,?_,trivial⟩ ?_
 ·rintro f M-⟨i0,-⟩
  exact obE (olp 0)
 ·rintro f M-⟨i0,-⟩
  exact obE (olp 0)
 ·rintro f M ⟨k0,-⟩-
  exact obE onp
 ·rintro f M ⟨k0,-⟩-
  exact obE ofp
 ·rintro f M ⟨k0,-⟩-
  exact obE (ols 0)
 ·rintro f M-⟨i0,-⟩
  exact obE oms
 ·rintro f M ⟨k0,-⟩-
  refine obS (up_cons (d:=56) rfl k0) ?_
  refine lcf (cl0 (vs:=[sB va bs (vc)]) tf62.ok rfl rfl) rfl fun w β1 sb kn hw1 back=>(clone_ok β1 w hw1 bs _ (by omega) (Sl.mono _ _ _ _ _ sb (⟨⟨_,_,rfl,vl,vm,ve⟩⟩:Sl U8R _ _ bs))).mono ?_
  rintro e w' ⟨p13,c14,rfl,hw'⟩
  refine⟨_,rfl,_,back _ _ hw',?_⟩
  clear hw1 hw' back kn sb
  refine l_nil ?_
  exact f_owes_d (up_cons (d:=56) rfl k0) rfl (perm_front 0 rfl)
 ·rintro f M ⟨k0,-⟩-
  have hs57:f 57=sB (sla (f 57)) bs (slc (f 57)):=k0
  refine obS (up_cons rfl hs57) ?_
  refine l_mv rfl rfl rfl (m_slices tf66 tf67.ok (cells:= #[sB (sla (f 57)) bs (slc (f 57))]) rfl rfl rfl rfl) ?_
  rintro _ _ ⟨b16,rfl,rfl⟩
  refine l_nil ?_
  exact f_owes_d (up_cons rfl hs57) rfl (perm_front 0 rfl)
 ·rintro f M ⟨k0,k1,-⟩-
  have hs58:f 58= .slice (some ⟨(blk (f 58)),0,none⟩) 1 1:=k1
  refine obS (up_cons (up_cons (d:=55) rfl k0) hs58) ?_
  refine l_perm (L':=(recsR 22 pr cr i.recs::rB (sla (f 57)) bs (slc (f 57))::pt (blk (f 58)) (.cells #[sB (sla (f 57)) bs (slc (f 57))] 22)::M)) (List.Perm.refl _) ?_
  refine l_mv rfl rfl rfl (m_appendRec (xs:=i.recs) (bs:=bs) (b:=(blk (f 58))) rfl tf66 tf68 rfl rfl (by omega) (by omega)) ?_
  rintro _ _ ⟨rp19,rc20,rfl,rfl⟩
  refine l_nil ?_
  exact f_owes_d (up_cons (up_cons (d:=55) rfl k0) hs58) rfl ((perm_front 0 rfl).trans (perm_front 1 rfl))
 ·rintro f M ⟨k0,-⟩-
  exact obE onp
 ·rintro f M ⟨k0,-⟩-
  exact obE ofp
 ·rintro f M ⟨k0,k1,-⟩-
  have hs59:f 59=sB (sla (f 59)) ((i.recs++[bs])) (slc (f 59)):=k1
  refine obS (up_cons (up_cons (d:=61) rfl k0) hs59) ?_
  refine lu (mS 0 (#[pp S 0,Nx (i.epoch),Nx (i.next),sB ps i.state cs,sB (sla (f 59)) ((i.recs++[bs])) (slc (f 59)),Nx (i.size),.bool false])) ?_
  refine l_nil ?_
  exact f_owes_n (up_cons (up_cons (d:=61) rfl k0) hs59) trivial (perm_front 0 rfl)
 rintro fa21 ⟨-,-,-,-,-,-,-,-,-,-,-,-,-⟩ ⟨j0,j1,-⟩
 refine fre ?_
 refine f_rebase (d:=7) j0 (f_rebase (d:=8) j1 (fts ?_))
 have hfl:=formB_length ((i.epoch:Nat):Int) ((i.next:Nat):Int) bs
 refine cnz [sv 62 (pp J 1) [] [] [0],sv 63 (pp J 1) [0] [0] [],sv 64 (pp J 5) [0,1] [1] [],sv 65 (Nx (i.size)) [0,1,2] [2] [],sv 66 (sB (sla (fa10 44)) (formB ((i.epoch:Nat):Int) ((i.next:Nat):Int) bs) (slc (fa10 44))) [] [] [1],sv 67 (Nx ((formB ((i.epoch:Nat):Int) ((i.next:Nat):Int) bs).length)) [4] [4] [],sv 68 (Nx (i.size+((formB ((i.epoch:Nat):Int) ((i.next:Nat):Int) bs).length))) (List.range 6) [3,5] [],sv 69 (pp J 1) (List.range 7) [0] [],sv 70 (pp J 5) (List.range 8) [7] [],⟨(List.range 9),[8,6],[],[],fun _=>True⟩] [u0,u1 [0],u1 [4],u0,u0,u0,u0,u0,(some 9,[3,9])] [⟨(some 9),none,[],[],fun _=>pt J (.cells #[pp S 0,Nx (i.epoch),Nx (i.next),sB ps i.state cs,sB (sla (fa21 59)) ((i.recs++[bs])) (slc (fa21 59)),Nx (i.size+((formB ((i.epoch:Nat):Int) ((i.next:Nat):Int) bs).length)),.bool false] 120)⟩] [(7,pp b2 0),(8,.pointer (some ⟨(blk (fa10 8)),0,none⟩))] [0] ⟨rfl,rfl,trivial⟩ ⟨?_,?_,?_,?_,?_,?_,?_,?_,?_,?_,trivial⟩ ?_
 ·rintro f M-⟨i0,-⟩
  exact obE (olp 0)
 ·rintro f M ⟨k0,-⟩-
  exact obE onp
 ·rintro f M ⟨k0,-⟩-
  exact obE ofp
 ·rintro f M ⟨k0,-⟩-
  exact obE (oli 0)
 ·rintro f M-⟨i0,-⟩
  exact obE (ols 0)
 ·rintro f M ⟨k0,-⟩-
  exact obE oln
 ·rintro f M ⟨k0,k1,-⟩-
  exact ob0 (up_cons (d:=67) (up_cons (d:=65) rfl k0) k1) rfl (e_add (a:=((i.size:Nat):Int)) (b:=(((formB ((i.epoch:Nat):Int) ((i.next:Nat):Int) bs).length:Nat):Int)) rfl rfl (i64n (by omega) (by omega))) (.refl _)
 ·rintro f M ⟨k0,-⟩-
  exact obE onp
 ·rintro f M ⟨k0,-⟩-
  exact obE ofp
 ·rintro f M ⟨k0,k1,-⟩-
  refine obS (up_cons (d:=68) (up_cons (d:=70) rfl k0) k1) ?_
  refine lu (mS 0 (#[pp S 0,Nx (i.epoch),Nx (i.next),sB ps i.state cs,sB (sla (fa21 59)) ((i.recs++[bs])) (slc (fa21 59)),Nx (i.size+((formB ((i.epoch:Nat):Int) ((i.next:Nat):Int) bs).length)),.bool false])) ?_
  refine l_nil ?_
  exact f_owes_n (up_cons (d:=68) (up_cons (d:=70) rfl k0) k1) trivial (perm_front 0 rfl)
 rintro fa22 ⟨-,-,-,-,-,-,-,-,-,-,-⟩ ⟨j0,-⟩
 refine fre ?_
 refine f_rebase (d:=7) j0 (ftc (lE (olp 1) (lE onp (lE ofp (lE (oli 8) (lv (v:=Nx (i.next+1)) (e_add rfl rfl (i64n (by omega) (by omega))) ?_))))))
 refine lE onp (lE ofp ?_)
 refine lu (mS 8 (#[pp S 0,Nx (i.epoch),Nx (i.next+1),sB ps i.state cs,sB (sla (fa21 59)) ((i.recs++[bs])) (slc (fa21 59)),Nx (i.size+((formB ((i.epoch:Nat):Int) ((i.next:Nat):Int) bs).length)),.bool false])) ?_
 refine lnc (lE (olp 1) (lE onp (lE ofp (lE (oli 8) (lE omn (lE oai (lE oai (lnf (c_ret ?_)))))))))
 refine ret2 (v:=Ix (((i.next+1:Nat):Int)-(1:Int))) (v':= .int .i64 (0)) Tryz.results85 rfl rfl ?_
 intro w hw
 refine⟨congrArg (fun z:Int=>Ending.returned (.tuple #[Ix z,.int .i64 0])) (by omega),?_⟩
 exact St.closeJour (i:=apI i bs) (dn:=false) (M:=[storeR S (wrS k i.epoch i.size (formB ((i.epoch:Nat):Int) ((i.next:Nat):Int) bs))]) (st_mask [true,true,true,true,false,false,false,false,false] rfl (hw.perm (L':=[pt J (.cells #[pp S 0,Nx (i.epoch),Nx (i.next+1),sB ps i.state cs,sB (sla (fa21 59)) ((i.recs++[bs])) (slc (fa21 59)),Nx (i.size+((formB ((i.epoch:Nat):Int) ((i.next:Nat):Int) bs).length)),.bool false] 120),rB ps i.state cs,recsR 22 (sla (fa21 59)) (slc (fa21 59)) (i.recs++[bs]),storeR S (wrS k i.epoch i.size (formB ((i.epoch:Nat):Int) ((i.next:Nat):Int) bs)),pt b1 (.cells #[pp J 0] 72),pt b2 (.cells #[pp J 1] 166),pt (blk (fa10 8)) (.cells #[sB (sla (fa10 44)) (formB ((i.epoch:Nat):Int) ((i.next:Nat):Int) bs) (slc (fa10 44))] 22),rB (sla (fa10 44)) (formB ((i.epoch:Nat):Int) ((i.next:Nat):Int) bs) (slc (fa10 44)),pt (blk (fa21 58)) (.cells #[sB (sla (fa21 57)) bs (slc (fa21 57))] 22)]) (by exact(perm_ix [8,5,7,4,0,1,2,3,6] 9 rfl (by kernel_rfl) (by kernel_rfl)))))
theorem append_nil(β:Base)(w:World)(hw:St β [] w)(v:Value):Ret Tryz.prog 85 #[.pointer none,v] β w (.tuple #[.int .i64 0,.int .i64 1]):=by
 refine enter (n:=83) Tryz.func85 rfl Tryz.ntmps85 rfl ?_ hw
 refine csr (bxp fun b1=> ?_)
 refine lE oai (lE oai (lnf (cs2 (c_region (lE (olp 0) (lv e_move (lcR clA (fun w β1 sb kn hw1=>ready_nil β1 w hw1 _) (lE oai (lnc (lE omi ?_))))))))))
 refine lE onq (lnf (c_yes rfl (csr (lE omi (lE oai (lE oai (lnf (c_ret (f_then_ret ?_)))))))))
 refine ret2 (v:= .int .i64 (0)) (v':= .int .i64 (1)) Tryz.results85 rfl rfl ?_
 intro w hw
 exact⟨rfl,st_mask [false] rfl hw⟩
set_option maxHeartbeats 4000000 in
theorem checkp_fail(β:Base)(w:World)(J S:Nat)(k:KS)(i:KI)(bs:Bs)(hlong:bs.length≤65536)(hfit:k.fits 524288)(hful:i.epoch<4611686018427387903)(hc:¬ckOk k (i.epoch+1) i.next bs)(v:Value)(hs:Sl U8R β.heap v bs)(hw:St β [jourR J S i false,storeR S k] w):Calls Tryz.prog 57 #[pp J 0,v] w fun r w'=>r= .returned (.int .i64 310)∧St β [jourR J S i true,storeR S (ckS k (i.epoch+1) i.next bs)] w':=by
 obtain⟨va,vc,rfl,vl,vm,ve⟩:=hs.get
 obtain⟨ps,pr,cs,cr,hw⟩:=St.openJour hw
 refine enter (n:=47) Tryz.func57 rfl Tryz.ntmps57 rfl ?_ hw
 refine csr (bxp fun b1=> ?_)
 refine bxs fun b2=> ?_
 refine lE oai (lnf (cs2 (c_region (lE (olp 1) (lE (ols 0) ?_)))))
 refine lcR clA (fun w β1 sb kn hw1=>ready_c β1 w hw1 J S (Nx (i.epoch)) (Nx (i.next)) (sB ps i.state cs) (sB pr i.recs cr) (Nx (i.size)) false (kn _ (k_pt 2 rfl rfl)) bs _ (Sl.mono _ _ _ _ _ sb (⟨⟨_,_,rfl,vl,vm,ve⟩⟩:Sl U8R _ _ bs)) (0) ((if_neg (by omega)).trans (if_neg (by decide)))) ?_
 refine lE oai (lnc (lE omi (lE onq (lnf (c_no rfl (csk (cs2 (c_region (lE (olp 1) (lE onp (lE ofp (lE ofp (lE (oli 2) (lE oeq_ (lnf ?_)))))))))))))))
 refine c_if _ rfl (fun hc3=> ?_) (fun hc3=> ?_)
 ·exact absurd hc3 (by omega)
 refine csk (c_seq ?_)
 refine cnz [sv 20 (pp J 0) [] [] [0],sv 21 (pp J 0) [0] [0] [],sv 22 (pp J 1) [0,1] [1] [],sv 23 (pp J 1) [0,1,2] [2] [],sv 24 (Nx (i.epoch)) [0,1,2,3] [3] [],sv 25 (Nx (i.epoch+1)) [0,1,2,3,4] [4] [],sv 26 (pp J 0) [] [] [0],sv 27 (pp J 0) [6] [6] [],sv 28 (pp J 1) [6,7] [7] [],sv 29 (pp J 2) [6,7,8] [8] [],sv 30 (Nx (i.next)) [6,7,8,9] [9] [],sv 31 (sB va bs (vc)) [] [] [1],⟨[11],[11],[],[32],fun f=>f 32=sB (sla (f 32)) bs (slc (f 32))⟩,sv 33 (sB va bs (vc)) [] [] [1],sv 34 (Nx (bs.length)) [13] [13] [],sv 35 (Nx (24+bs.length)) [13,14] [14] [],⟨(List.range 16),[5,10,12,15],[],[32,36],fun f=>f 36= .agg #[Nx (i.epoch+1),Nx (i.next),sB (sla (f 32)) bs (slc (f 32)),.slice none 0 0,Nx (24+bs.length)]⟩,⟨[],[],[],[6],fun f=>f 6= .pointer (some ⟨(blk (f 6)),0,none⟩)⟩,⟨(List.range 18),[17,16],[],[],fun _=>True⟩] [u1 [11,13],u1 [0,6],u1 [4,10]] [⟨(some 12),none,[],[32],fun f=>rB (sla (f 32)) bs (slc (f 32))⟩,⟨(some 17),(some 18),[18],[6],fun f=>pt (blk (f 6)) (.cells #[.int .i64 (0),.int .i64 (0),.slice none 0 0,.slice none 0 0,.int .i64 (0)] 116)⟩,⟨(some 18),none,[],[6,32],fun f=>pt (blk (f 6)) (.cells #[Nx (i.epoch+1),Nx (i.next),sB (sla (f 32)) bs (slc (f 32)),.slice none 0 0,Nx (24+bs.length)] 116)⟩] [(2,pp b1 0),(3,pp b2 0)] [0,1] ⟨rfl,rfl,trivial⟩ ⟨?_,?_,?_,?_,?_,?_,?_,?_,?_,?_,?_,?_,?_,?_,?_,?_,?_,?_,?_,trivial⟩ ?_
 ·rintro f M-⟨i0,-⟩
  exact obE (olp 0)
 ·rintro f M ⟨k0,-⟩-
  exact obE onp
 ·rintro f M ⟨k0,-⟩-
  exact obE ofp
 ·rintro f M ⟨k0,-⟩-
  exact obE ofp
 ·rintro f M ⟨k0,-⟩-
  exact obE (oli 0)
 ·rintro f M ⟨k0,-⟩-
  exact ob0 (up_cons (d:=24) rfl k0) rfl (e_add (a:=((i.epoch:Nat):Int)) (b:=(1:Int)) rfl rfl (i64n (by omega) (by omega))) (.refl _)
 ·rintro f M-⟨i0,-⟩
  exact obE (olp 0)
 ·rintro f M ⟨k0,-⟩-
  exact obE onp
 ·rintro f M ⟨k0,-⟩-
  exact obE ofp
 ·rintro f M ⟨k0,-⟩-
  exact obE ofp
 ·rintro f M ⟨k0,-⟩-
  exact obE (oli 0)
 ·rintro f M-⟨i0,-⟩
  exact obE (ols 0)
 ·rintro f M ⟨k0,-⟩-
  refine obS (up_cons (d:=31) rfl k0) ?_
  refine lcf (cl0 (vs:=[sB va bs (vc)]) tf62.ok rfl rfl) rfl fun w β1 sb kn hw1 back=>(clone_ok β1 w hw1 bs _ (by omega) (Sl.mono _ _ _ _ _ sb (⟨⟨_,_,rfl,vl,vm,ve⟩⟩:Sl U8R _ _ bs))).mono ?_
  rintro e w' ⟨p6,c7,rfl,hw'⟩
  refine⟨_,rfl,_,back _ _ hw',?_⟩
  clear hw1 hw' back kn sb
  refine l_nil ?_
  exact f_owes_d (up_cons (d:=31) rfl k0) rfl (perm_front 0 rfl)
 ·rintro f M-⟨i0,-⟩
  exact obE (ols 0)
 ·rintro f M ⟨k0,-⟩-
  exact obE oln
 ·rintro f M ⟨k0,-⟩-
  exact ob0 (up_cons (d:=34) rfl k0) rfl (e_add (a:=(24:Int)) (b:=((bs.length:Nat):Int)) rfl rfl (i64n (by omega) (by omega))) (.refl _)
 ·rintro f M ⟨k0,k1,k2,k3,-⟩-
  have hs32:f 32=sB (sla (f 32)) bs (slc (f 32)):=k2
  exact ob0 (up_cons (d:=35) (up_cons (up_cons (d:=30) (up_cons (d:=25) rfl k0) k1) hs32) k3) rfl (e_build tf55.ok tf58 (vs:=[(0,Nx (i.epoch+1)),(1,Nx (i.next)),(2,sB (sla (f 32)) bs (slc (f 32))),(4,Nx (24+bs.length))]) (cells:= #[Nx (i.epoch+1),Nx (i.next),sB (sla (f 32)) bs (slc (f 32)),.slice none 0 0,Nx (24+bs.length)]) rfl rfl) (.refl _)
 ·rintro f M- -
  refine obS rfl ?_
  refine alE fun b9=>l_nil ?_
  exact f_owes_d rfl rfl (perm_front 0 rfl)
 ·rintro f M ⟨k0,k1,-⟩-
  have hs6:f 6= .pointer (some ⟨(blk (f 6)),0,none⟩):=k0
  have hs36:f 36= .agg #[Nx (i.epoch+1),Nx (i.next),sB (sla (f 32)) bs (slc (f 32)),.slice none 0 0,Nx (24+bs.length)]:=k1
  refine obS (up_cons (up_cons rfl hs6) hs36) ?_
  refine lu (mS 0 (#[Nx (i.epoch+1),Nx (i.next),sB (sla (f 32)) bs (slc (f 32)),.slice none 0 0,Nx (24+bs.length)])) (l_nil ?_)
  exact f_owes_n (up_cons (up_cons rfl hs6) hs36) trivial (perm_front 0 rfl)
 rintro fa10 ⟨-,-,-,-,-,-,-,-,-,-,-,-,-,-,-,-,-,k17,-,-⟩ ⟨j0,j1,-⟩
 refine fre ?_
 refine f_rebase (d:=2) j0 (f_rebase (d:=3) j1 (f_rebase (d:=6) k17 (ftc (lE (olp 1) ?_))))
 refine lv (v:= .func (.func 91) #[] #[pp b1 0,.pointer (some ⟨(blk (fa10 6)),0,none⟩),pp b2 0]) (e_func (u:=[]) (v:=[pp b1 0,.pointer (some ⟨(blk (fa10 6)),0,none⟩),pp b2 0]) rfl rfl) ?_
 refine l_call rfl rfl rfl (cl0 (vs:=[pp J 0,.func (.func 91) #[] #[pp b1 0,.pointer (some ⟨(blk (fa10 6)),0,none⟩),pp b2 0]]) tf73.ok rfl rfl) ?_
 intro w hw
 replace hw:=hw.perm (L':=_::_::_::_::_::_::_::_::[]) (by exact((((((((perm_front 6 rfl).trans (perm_front 5 rfl)).trans (perm_front 5 rfl)).trans (perm_front 6 rfl)).trans (perm_front 4 rfl)).trans (perm_front 7 rfl)).trans (perm_front 6 rfl)).trans (perm_front 7 rfl)))
 obtain⟨β1,sb,kn,hw1,back⟩:=St.frame (L:=[_,_,_,_,_]) (M:=_::_::_::[]) hw
 refine(att_check_no β1 w J S b1 (blk (fa10 6)) b2 vc (i.epoch+1) i.next va k i (sB ps i.state cs) (sB pr i.recs cr) (sB (sla (fa10 32)) bs (slc (fa10 32))) (.slice none 0 0) (Nx (24+bs.length)) bs (by omega) (by omega) (Elems.mono _ _ _ _ _ sb ve) hfit (by omega) hc hw1).mono ?_
 rintro e w' ⟨rfl,hw'⟩
 refine⟨_,rfl,_,back _ _ hw',?_⟩
 clear hw hw1 hw' back kn sb
 refine lE oai (lnf (cs2 (c_region (lE omi (lE oeq_ (lnf (c_no rfl (csk (csr (lE omi (lE oai (lnf (c_ret (ret1 Tryz.results57 rfl ?_))))))))))))))
 intro w hw
 exact⟨rfl,St.closeJour (i:=i) (dn:=true) (M:=[storeR S (ckS k (i.epoch+1) i.next bs)]) (st_mask [true,true,true,true,false,false,false,false] rfl (hw.perm (L':=[pt J (.cells #[pp S 0,Nx (i.epoch),Nx (i.next),sB ps i.state cs,sB pr i.recs cr,Nx (i.size),.bool true] 120),rB ps i.state cs,recsR 22 pr cr i.recs,storeR S (ckS k (i.epoch+1) i.next bs),pt b1 (.cells #[pp J 0] 72),pt (blk (fa10 6)) (.cells #[Nx (i.epoch+1),Nx (i.next),sB (sla (fa10 32)) bs (slc (fa10 32)),.slice none 0 0,Nx (24+bs.length)] 116),pt b2 (.cells #[sB va bs (vc)] 22),rB (sla (fa10 32)) bs (slc (fa10 32))]) (by exact(perm_ix [0,5,6,4,1,2,3,7] 8 rfl (by kernel_rfl) (by kernel_rfl)))))⟩
set_option maxHeartbeats 4000000 in
theorem checkp_ok(β:Base)(w:World)(J S:Nat)(k:KS)(i:KI)(bs:Bs)(hlong:bs.length≤65536)(hfit:k.fits 524288)(hful:i.epoch<4611686018427387903)(hc:ckOk k (i.epoch+1) i.next bs)(v:Value)(hs:Sl U8R β.heap v bs)(hw:St β [jourR J S i false,storeR S k] w):Calls Tryz.prog 57 #[pp J 0,v] w fun r w'=>r= .returned (.int .i64 0)∧St β [jourR J S (ckI i bs) false,storeR S (ckS k (i.epoch+1) i.next bs)] w':=by
 obtain⟨va,vc,rfl,vl,vm,ve⟩:=hs.get
 obtain⟨ps,pr,cs,cr,hw⟩:=St.openJour hw
 refine enter (n:=47) Tryz.func57 rfl Tryz.ntmps57 rfl ?_ hw
 refine csr (bxp fun b1=> ?_)
 refine bxs fun b2=> ?_
 refine lE oai (lnf (cs2 (c_region (lE (olp 1) (lE (ols 0) ?_)))))
 refine lcR clA (fun w β1 sb kn hw1=>ready_c β1 w hw1 J S (Nx (i.epoch)) (Nx (i.next)) (sB ps i.state cs) (sB pr i.recs cr) (Nx (i.size)) false (kn _ (k_pt 2 rfl rfl)) bs _ (Sl.mono _ _ _ _ _ sb (⟨⟨_,_,rfl,vl,vm,ve⟩⟩:Sl U8R _ _ bs)) (0) ((if_neg (by omega)).trans (if_neg (by decide)))) ?_
 refine lE oai (lnc (lE omi (lE onq (lnf (c_no rfl (csk (cs2 (c_region (lE (olp 1) (lE onp (lE ofp (lE ofp (lE (oli 2) (lE oeq_ (lnf ?_)))))))))))))))
 refine c_if _ rfl (fun hc3=> ?_) (fun hc3=> ?_)
 ·exact absurd hc3 (by omega)
 refine csk (c_seq ?_)
 refine cnz [sv 20 (pp J 0) [] [] [0],sv 21 (pp J 0) [0] [0] [],sv 22 (pp J 1) [0,1] [1] [],sv 23 (pp J 1) [0,1,2] [2] [],sv 24 (Nx (i.epoch)) [0,1,2,3] [3] [],sv 25 (Nx (i.epoch+1)) [0,1,2,3,4] [4] [],sv 26 (pp J 0) [] [] [0],sv 27 (pp J 0) [6] [6] [],sv 28 (pp J 1) [6,7] [7] [],sv 29 (pp J 2) [6,7,8] [8] [],sv 30 (Nx (i.next)) [6,7,8,9] [9] [],sv 31 (sB va bs (vc)) [] [] [1],⟨[11],[11],[],[32],fun f=>f 32=sB (sla (f 32)) bs (slc (f 32))⟩,sv 33 (sB va bs (vc)) [] [] [1],sv 34 (Nx (bs.length)) [13] [13] [],sv 35 (Nx (24+bs.length)) [13,14] [14] [],⟨(List.range 16),[5,10,12,15],[],[32,36],fun f=>f 36= .agg #[Nx (i.epoch+1),Nx (i.next),sB (sla (f 32)) bs (slc (f 32)),.slice none 0 0,Nx (24+bs.length)]⟩,⟨[],[],[],[6],fun f=>f 6= .pointer (some ⟨(blk (f 6)),0,none⟩)⟩,⟨(List.range 18),[17,16],[],[],fun _=>True⟩] [u1 [11,13],u1 [0,6],u1 [4,10]] [⟨(some 12),none,[],[32],fun f=>rB (sla (f 32)) bs (slc (f 32))⟩,⟨(some 17),(some 18),[18],[6],fun f=>pt (blk (f 6)) (.cells #[.int .i64 (0),.int .i64 (0),.slice none 0 0,.slice none 0 0,.int .i64 (0)] 116)⟩,⟨(some 18),none,[],[6,32],fun f=>pt (blk (f 6)) (.cells #[Nx (i.epoch+1),Nx (i.next),sB (sla (f 32)) bs (slc (f 32)),.slice none 0 0,Nx (24+bs.length)] 116)⟩] [(2,pp b1 0),(3,pp b2 0)] [0,1] ⟨rfl,rfl,trivial⟩ ⟨?_,?_,?_,?_,?_,?_,?_,?_,?_,?_,?_,?_,?_,?_,?_,?_,?_,?_,?_,trivial⟩ ?_
 ·rintro f M-⟨i0,-⟩
  exact obE (olp 0)
 ·rintro f M ⟨k0,-⟩-
  exact obE onp
 ·rintro f M ⟨k0,-⟩-
  exact obE ofp
 ·rintro f M ⟨k0,-⟩-
  exact obE ofp
 ·rintro f M ⟨k0,-⟩-
  exact obE (oli 0)
 ·rintro f M ⟨k0,-⟩-
  exact ob0 (up_cons (d:=24) rfl k0) rfl (e_add (a:=((i.epoch:Nat):Int)) (b:=(1:Int)) rfl rfl (i64n (by omega) (by omega))) (.refl _)
 ·rintro f M-⟨i0,-⟩
  exact obE (olp 0)
 ·rintro f M ⟨k0,-⟩-
  exact obE onp
 ·rintro f M ⟨k0,-⟩-
  exact obE ofp
 ·rintro f M ⟨k0,-⟩-
  exact obE ofp
 ·rintro f M ⟨k0,-⟩-
  exact obE (oli 0)
 ·rintro f M-⟨i0,-⟩
  exact obE (ols 0)
 ·rintro f M ⟨k0,-⟩-
  refine obS (up_cons (d:=31) rfl k0) ?_
  refine lcf (cl0 (vs:=[sB va bs (vc)]) tf62.ok rfl rfl) rfl fun w β1 sb kn hw1 back=>(clone_ok β1 w hw1 bs _ (by omega) (Sl.mono _ _ _ _ _ sb (⟨⟨_,_,rfl,vl,vm,ve⟩⟩:Sl U8R _ _ bs))).mono ?_
  rintro e w' ⟨p6,c7,rfl,hw'⟩
  refine⟨_,rfl,_,back _ _ hw',?_⟩
  clear hw1 hw' back kn sb
  refine l_nil ?_
  exact f_owes_d (up_cons (d:=31) rfl k0) rfl (perm_front 0 rfl)
 ·rintro f M-⟨i0,-⟩
  exact obE (ols 0)
 ·rintro f M ⟨k0,-⟩-
  exact obE oln
 ·rintro f M ⟨k0,-⟩-
  exact ob0 (up_cons (d:=34) rfl k0) rfl (e_add (a:=(24:Int)) (b:=((bs.length:Nat):Int)) rfl rfl (i64n (by omega) (by omega))) (.refl _)
 ·rintro f M ⟨k0,k1,k2,k3,-⟩-
  have hs32:f 32=sB (sla (f 32)) bs (slc (f 32)):=k2
  exact ob0 (up_cons (d:=35) (up_cons (up_cons (d:=30) (up_cons (d:=25) rfl k0) k1) hs32) k3) rfl (e_build tf55.ok tf58 (vs:=[(0,Nx (i.epoch+1)),(1,Nx (i.next)),(2,sB (sla (f 32)) bs (slc (f 32))),(4,Nx (24+bs.length))]) (cells:= #[Nx (i.epoch+1),Nx (i.next),sB (sla (f 32)) bs (slc (f 32)),.slice none 0 0,Nx (24+bs.length)]) rfl rfl) (.refl _)
 ·rintro f M- -
  refine obS rfl ?_
  refine alE fun b9=>l_nil ?_
  exact f_owes_d rfl rfl (perm_front 0 rfl)
 ·rintro f M ⟨k0,k1,-⟩-
  have hs6:f 6= .pointer (some ⟨(blk (f 6)),0,none⟩):=k0
  have hs36:f 36= .agg #[Nx (i.epoch+1),Nx (i.next),sB (sla (f 32)) bs (slc (f 32)),.slice none 0 0,Nx (24+bs.length)]:=k1
  refine obS (up_cons (up_cons rfl hs6) hs36) ?_
  refine lu (mS 0 (#[Nx (i.epoch+1),Nx (i.next),sB (sla (f 32)) bs (slc (f 32)),.slice none 0 0,Nx (24+bs.length)])) (l_nil ?_)
  exact f_owes_n (up_cons (up_cons rfl hs6) hs36) trivial (perm_front 0 rfl)
 rintro fa10 ⟨-,-,-,-,-,-,-,-,-,-,-,-,-,-,-,-,-,k17,-,-⟩ ⟨j0,j1,-⟩
 refine fre ?_
 refine f_rebase (d:=2) j0 (f_rebase (d:=3) j1 (f_rebase (d:=6) k17 (ftc (lE (olp 1) ?_))))
 refine lv (v:= .func (.func 91) #[] #[pp b1 0,.pointer (some ⟨(blk (fa10 6)),0,none⟩),pp b2 0]) (e_func (u:=[]) (v:=[pp b1 0,.pointer (some ⟨(blk (fa10 6)),0,none⟩),pp b2 0]) rfl rfl) ?_
 refine l_call rfl rfl rfl (cl0 (vs:=[pp J 0,.func (.func 91) #[] #[pp b1 0,.pointer (some ⟨(blk (fa10 6)),0,none⟩),pp b2 0]]) tf73.ok rfl rfl) ?_
 intro w hw
 replace hw:=hw.perm (L':=_::_::_::_::_::_::_::_::[]) (by exact((((((((perm_front 6 rfl).trans (perm_front 5 rfl)).trans (perm_front 5 rfl)).trans (perm_front 6 rfl)).trans (perm_front 4 rfl)).trans (perm_front 7 rfl)).trans (perm_front 6 rfl)).trans (perm_front 7 rfl)))
 obtain⟨β1,sb,kn,hw1,back⟩:=St.frame (L:=[_,_,_,_,_]) (M:=_::_::_::[]) hw
 refine(att_check_ok β1 w J S b1 (blk (fa10 6)) b2 vc (i.epoch+1) i.next va k i (sB ps i.state cs) (sB pr i.recs cr) (sB (sla (fa10 32)) bs (slc (fa10 32))) (.slice none 0 0) (Nx (24+bs.length)) bs (by omega) (by omega) (Elems.mono _ _ _ _ _ sb ve) hfit (by omega) hc hw1).mono ?_
 rintro e w' ⟨rfl,hw'⟩
 refine⟨_,rfl,_,back _ _ hw',?_⟩
 clear hw hw1 hw' back kn sb
 refine lE oai (lnf (cs2 (c_region (lE omi (lE oeq_ (lnf (c_yes rfl (c_region (lE (olp 1) (lE (olg 2) (lE onp (lE ofp ?_))))))))))))
 refine lu (mS 0 (#[pp S 0,Nx (i.epoch+1),Nx (i.next),sB (sla (fa10 32)) bs (slc (fa10 32)),.slice none 0 0,Nx (24+bs.length),.bool false])) ?_
 refine lnc (lE omi (lE oai (lnf (c_ret (ret1 Tryz.results57 rfl ?_)))))
 intro w hw
 replace hw:=hw.emp (recs_nil 22 _)
 exact⟨rfl,St.closeJour (i:=ckI i bs) (dn:=false) (M:=[storeR S (ckS k (i.epoch+1) i.next bs)]) (st_mask [true,true,true,true,false,false,false,false,false] rfl (hw.perm (L':=[pt J (.cells #[pp S 0,Nx (i.epoch+1),Nx (i.next),sB (sla (fa10 32)) bs (slc (fa10 32)),.slice none 0 0,Nx (24+bs.length),.bool false] 120),rB (sla (fa10 32)) bs (slc (fa10 32)),recsR 22 none 0 [],storeR S (ckS k (i.epoch+1) i.next bs),pt b1 (.cells #[pp J 0] 72),pt (blk (fa10 6)) (.cells #[Nx (i.epoch+1),Nx (i.next),sB (sla (fa10 32)) bs (slc (fa10 32)),.slice none 0 0,Nx (24+bs.length)] 116),pt b2 (.cells #[sB va bs (vc)] 22),rB ps i.state cs,recsR 22 pr cr i.recs]) (by exact(perm_ix [1,8,0,5,2,3,4,6,7] 9 rfl (by kernel_rfl) (by kernel_rfl)))))⟩
end Go.Proofs
