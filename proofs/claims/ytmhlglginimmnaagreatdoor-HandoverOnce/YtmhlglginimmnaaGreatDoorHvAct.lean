/-
  What the methods of a gate answer. Own work; plain Lean.
-/
import Derived.Test.YtmhlglginimmnaaGreatDoorHv22
set_option linter.all false
namespace Go.Hv
open Go Go.Sl Go.Proofs Go.Jn
def putF(X:KG)(e:KEnt):Option Int:=if(!rightE e||hereB X e.id||outB X e.id)=true then some 2 else if(64:Int)≤((X.here.length:Nat):Int)then some 4 else none
def saveF(X:KG)(e:KEnt):Option Int:=if(!rightE e)=true then some 2 else if(!hereB X e.id)=true then some 6 else none
def dropF(X:KG)(id:Int):Option Int:=if(!hereB X id)=true then some 6 else none
def giveF(X:KG)(id to:Int):Option Int:=if(!otherB X.zone to)=true then some 2 else if(!hereB X id)=true then some 6 else if(64:Int)≤((X.out.length:Nat):Int)then some 4 else none
def takeA(X:KG)(m:KMs):Option Int:=if(decide (m.number<0)||decide (X.gv.at m.src.toNat<m.number))=true then some 2 else if(!X.out.any (ackB m.src m.number))=true then some 0 else none
def takeE(X:KG)(m:KMs):Option Int:=if m.number≤X.lv.at m.src.toNat then some 0 else if X.lv.at m.src.toNat+1<m.number then some 320 else if(!rightE m.e||hereB X m.e.id)=true then some 2 else if(64:Int)≤((X.here.length:Nat):Int)then some 4 else none
def takeF(X:KG)(m:KMs):Option Int:=if(decide (¬(m.to=X.zone))|| !otherB X.zone m.src)=true then some 2 else if m.ack=true then takeA X m else takeE X m
def takeO(m:KMs):Hv.KOp:=if m.ack=true then .ack m.src m.number else .take m.src m.e
def actG(q:Option Int)(e:Int)(G S:Nat)(X X1:KG)(N:Nat)(m:Bool):Res:=fun h=>match q with|some c=>e=c∧gateR G S X N m h|none=>endG e G S X X1 (N+300) (N+262500) m h
section
variable {β:Base}{G S N:Nat}{X X1:KG}{m:Bool}{M:List Res}{w:World}{q:Option Int}{e c:Int}
theorem St.actNo(hq:q=some c)(h:St β (gateR G S X N m::M) w):St β (actG q c G S X X1 N m::M) w:=by subst hq;exact h.conseq fun _ h=>⟨rfl,h⟩
theorem St.actGo(hq:q=none)(h:St β (endG e G S X X1 (N+300) (N+262500) m::M) w):St β (actG q e G S X X1 N m::M) w:=by subst hq;exact h
theorem St.ifNo(hq:q=some c)(h:St β (actG q e G S X X1 N m::M) w):e=c∧St β (gateR G S X N m::M) w:=by
 subst hq
 obtain⟨ho,ht,hp,a,hd,hs,hs',q,r,h1,h2,h3,⟨e0,hx⟩,h5⟩:=h
 exact⟨e0,ho,ht,hp,a,hd,hs,hs',q,r,h1,h2,h3,hx,h5⟩
theorem St.ifGo(hq:q=none)(h:St β (actG q e G S X X1 N m::M) w):St β (endG e G S X X1 (N+300) (N+262500) m::M) w:=by subst hq;exact h
end
theorem GOk.anyAck{X:KG}{ks:List (Int×KEh)}{mz:MPool}{zs:EPool}(h:GOk X ks mz zs)(f n:Int):(mz.map Prod.fst).any (fun z=>ackK f n z)=X.out.any (ackB f n):=by
 rw[←h.out,List.any_map,List.any_map]
 refine Bool.eq_iff_iff.2 ?_
 simp only[List.any_eq_true,Function.comp]
 have e:∀z∈mz,ackK f n z.1=ackB f n z.2:=fun z hz=>by
  have:=(h.mhd z hz).1
  unfold ackK ackB
  rw[this.to,this.number]
 constructor
 ·rintro⟨z,hz,q⟩;exact⟨z,hz,by rw[←e z hz];exact q⟩
 ·rintro⟨z,hz,q⟩;exact⟨z,hz,by rw[e z hz];exact q⟩
theorem right_of{e:KEnt}(h:rightE e=true):Right e:=right_iff.1 h
theorem here_of{X:KG}{id:Int}(h:hereB X id=true):∃x∈X.here,x.id=id:=by
 obtain⟨x,hx,hi⟩:=List.any_eq_true.1 h;exact⟨x,hx,of_decide_eq_true hi⟩
theorem OpG.put{X:KG}{e:KEnt}(h1:rightE e=true)(h2:hereB X e.id=true∨X.here.length<64):OpG X (.put e):=
 ⟨⟨right_of h1,h2.imp_left here_of⟩,fun _ h=>(by cases h),fun _ h=>(by cases h),fun _ _ h=>(by cases h),fun _ _ h=>(by cases h)⟩
theorem OpG.drop{X:KG}{id:Int}(h:inI id):OpG X (.drop id):=
 ⟨trivial,fun _ h=>(by cases h),fun _ h2=>(by injection h2 with h2;rw[←h2];exact h),fun _ _ h=>(by cases h),fun _ _ h=>(by cases h)⟩
theorem OpG.give{X:KG}{id to:Int}(h:inI id)(h1:otherB X.zone to=true)(h2:hereB X id=true)(h3:X.out.length<64):OpG X (.give id to):=
 ⟨⟨here_of h2,⟨(other_iff.1 h1).1,(other_iff.1 h1).2.1⟩,h3⟩,fun _ h=>(by cases h),fun _ h=>(by cases h),fun _ _ h2=>(by injection h2 with h2;rw[←h2];exact h),fun _ _ h=>(by cases h)⟩
theorem OpG.take{X:KG}{f:Int}{e:KEnt}(h1:otherB X.zone f=true)(h2:rightE e=true)(h3:X.here.length<64):OpG X (.take f e):=
 ⟨⟨right_of h2,⟨(other_iff.1 h1).1,(other_iff.1 h1).2.1⟩,h3⟩,fun _ h=>(by cases h),fun _ h=>(by cases h),fun _ _ h=>(by cases h),fun _ _ h=>(by cases h)⟩
theorem OpG.ack{X:KG}{f n:Int}(h1:otherB X.zone f=true)(h2:0≤n)(h3:n≤4611686018427387904):OpG X (.ack f n):=by
 obtain⟨h4,h5,_⟩:=other_iff.1 h1
 refine⟨h3,fun _ h=>(by cases h),fun _ h=>(by cases h),fun _ _ h=>(by cases h),fun a b h=> ?_⟩
 injection h with ha hb
 subst ha;subst hb
 exact⟨⟨by omega,by omega⟩,⟨by omega,by omega⟩⟩
end Go.Hv
namespace Go.Proofs
open Go Go.Sl Go.Hv
theorem hasV_ok(β:Base)(w:World)(G J:Nat)(X:KG)(dn:Bool)(hw:St β [gvR G J X dn] w)(id:Int):Calls Tryz.prog 36 #[.pointer (some ⟨G,0,none⟩),Ix id] w fun r w'=>r= .returned (.tuple #[.bool (hereB X id),.bool (outB X id)])∧St β [gvR G J X dn] w':=by
 obtain⟨m,p,c,ks,mz,zs,hk,hw⟩:=St.openGv hw
 obtain⟨β1,sb,kn,hw1,back⟩:=St.frame_all hw
 refine(has_ok β1 w hw1 G J m X.zone p c X.gv X.lv dn ks (mz.map Prod.fst) (kn _ (Knows.of_res 1 rfl (mpR.mono _ _ _) fun _ h=>h)) (kn _ (k_flN 2 (F:=MgF) (m:=(mz.map Prod.fst).length) rfl rfl)) (by rw[List.length_map];exact kn _ (k_pt 0 (o:=0) (vs:=(gC X.zone J m p mz.length c X.gv X.lv dn).toList) rfl rfl)) id).mono ?_
 rintro r w' ⟨h,hw'⟩
 refine⟨?_,St.closeGv hk (back _ _ hw')⟩
 rw[←hk.isSome,←hk.anyOut];exact h
theorem otherV_ok(β:Base)(w:World)(G J:Nat)(X:KG)(dn:Bool)(hw:St β [gvR G J X dn] w)(k:Int):Calls Tryz.prog 43 #[.pointer (some ⟨G,0,none⟩),Ix k] w fun r w'=>r= .returned (.bool (otherB X.zone k))∧St β [gvR G J X dn] w':=by
 obtain⟨m,p,c,ks,mz,zs,hk,hw⟩:=St.openGv hw
 obtain⟨β1,sb,kn,hw1,back⟩:=St.frame_all hw
 refine(other_ok β1 w hw1 G J m X.zone p mz.length c X.gv X.lv dn (kn _ (k_pt 0 (o:=0) (vs:=(gC X.zone J m p mz.length c X.gv X.lv dn).toList) rfl rfl)) k).mono ?_
 rintro r w' ⟨h,hw'⟩
 exact⟨h,St.closeGv hk (back _ _ hw')⟩
end Go.Proofs
