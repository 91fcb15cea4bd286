/-
  Gates in the laws. Own work; plain Lean.
-/
import Derived.Test.YtmhlglginimmnaaGreatDoorHv26
set_option linter.all false
namespace Go.Hv
open Go Go.Sl Go.Proofs Go.Jn
section
variable {β:Base}{G S N N':Nat}{X X1 Y:KG}{m:Bool}{w:World}{q:Option Int}{r:Ending}{c:Int}
theorem act_yes(hq:q=none)(hY:X1=Y)(hN:N+300≤N')(h:∃e,r= .returned (Ix e)∧St β [actG q e G S X X1 N true] w):r= .returned (Ix 0)∧St β [gateR G S Y N' true] w:=by
 obtain⟨e,h1,h2⟩:=h
 subst hY
 rcases St.endIf (St.ifGo hq h2)with⟨h3,h4⟩|⟨_,h3,_⟩
 ·exact⟨by rw[h1,h3],h4.conseq (gate_mono hN)⟩
 ·cases h3
theorem act_no(hq:q=some c)(h:∃e,r= .returned (Ix e)∧St β [actG q e G S X X1 N m] w):r= .returned (Ix c)∧St β [gateR G S X N m] w:=by
 obtain⟨e,h1,h2⟩:=h
 obtain⟨h3,h4⟩:=St.ifNo hq h2
 exact⟨by rw[h1,h3],h4⟩
theorem open_yes(h:∃e p,r= .returned (.tuple #[.pointer p,Ix e])∧St β [openG e p S X N true] w):∃G,r= .returned (.tuple #[.pointer (some ⟨G,0,none⟩),Ix 0])∧St β [gateR G S X N true] w:=by
 obtain⟨e,p,h1,h2⟩:=h
 rcases St.openIf h2 with⟨h3,G,h4,h5⟩|⟨_,_,h3,_⟩
 ·exact⟨G,by rw[h1,h3,h4],h5⟩
 ·cases h3
end
theorem shownE{β:Base}{L L':List KEnt}{R:Res}{w:World}{r:Ending}(e:L=L')(h:∃p c,r= .returned (.slice p L.length c)∧St β [entsR p c L,R] w):∃p c,r= .returned (.slice p L'.length c)∧St β [entsR p c L',R] w:=by subst e;exact h
theorem shownM{β:Base}{L L':List KMs}{R:Res}{w:World}{r:Ending}(e:L=L')(h:∃p c,r= .returned (.slice p L.length c)∧St β [msgsR p c L,R] w):∃p c,r= .returned (.slice p L'.length c)∧St β [msgsR p c L',R] w:=by subst e;exact h
theorem shownL{β:Base}{a b:Int}{R:Res}{w:World}{r:Ending}(e:a=b)(h:r= .returned (Ix a)∧St β [R] w):r= .returned (Ix b)∧St β [R] w:=by subst e;exact h
theorem msg_at{zs:MPool}{ms:List KMs}{k:Nat}{x:KMg}(h1:zs.map Prod.snd=ms)(h2:∀z∈zs,MHd z)(hx:(zs.map Prod.fst)[k]? =some x):∃s,ms[k]? =some s∧MHd (x,s)∧(x.eh,s.e)∈zs.e:=by
 obtain⟨z,hz,rfl⟩:=map_get hx
 have hm:=List.mem_of_getElem? hz
 exact⟨z.2,by rw[←h1,List.getElem?_map,hz];rfl,h2 z hm,MPool.e_mem hm⟩
theorem ent_at{zs:EPool}{es:List KEnt}{k:Nat}{x:KEh}(h1:zs.map Prod.snd=es)(h2:∀z∈zs,EHd z)(hx:(zs.map Prod.fst)[k]? =some x):∃e,es[k]? =some e∧EHd (x,e)∧(x,e)∈zs:=by
 obtain⟨z,hz,rfl⟩:=map_get hx
 have hm:=List.mem_of_getElem? hz
 exact⟨z.2,by rw[←h1,List.getElem?_map,hz];rfl,h2 z hm,hm⟩
abbrev thE(id tag:Int):KEnt:=⟨id,[⟨10,tag,0,0,0⟩]⟩
def awE:KEnt:=⟨7,[⟨10,1,2,3,4⟩]⟩
def awM:KMs:=⟨1,2,1,false,awE⟩
def awK:KMs:=⟨2,1,1,true,⟨0,[]⟩⟩
def awA1:KG:=⟨1,[awE],[],zero7,zero7⟩
def awA2:KG:=⟨1,[],[awM],⟨0,0,1,0,0,0,0⟩,zero7⟩
def awA3:KG:=⟨1,[],[],⟨0,0,1,0,0,0,0⟩,zero7⟩
def awB1:KG:=⟨2,[awE],[],zero7,⟨0,1,0,0,0,0,0⟩⟩
theorem aw_p1:putF (freshG 1) awE=none:=by decide+kernel
theorem aw_y1:playX (freshG 1) (.put awE)=awA1:=by rfl
theorem aw_p2:giveF awA1 7 2=none:=by decide+kernel
theorem aw_y2:playX awA1 (.give 7 2)=awA2:=by rfl
theorem aw_m2:msgsX awA2=[awM]:=by decide+kernel
theorem aw_p3:takeF (freshG 2) awM=none:=by decide+kernel
theorem aw_y3:playX (freshG 2) (takeO awM)=awB1:=by rfl
theorem aw_p4:takeF awB1 awM=some 0:=by decide+kernel
theorem aw_m3:msgsX awB1=[awK]:=by decide+kernel
theorem aw_l3:lastX awB1 1=1:=by decide+kernel
theorem aw_p5:takeF awA2 awK=none:=by decide+kernel
theorem aw_y5:playX awA2 (takeO awK)=awA3:=by rfl
end Go.Hv
namespace Go.Proofs
open Go Go.Sl Go.Hv
theorem gtakeH_ok(β:Base)(w:World)(hG:GRng β)(G S N:Nat)(X:KG)(mq:Bool)(hw:St β [gateR G S X N mq] w)(hN:N≤53000000)(x:KMg)(s:KMs)(hm:MHd (x,s))(hs:Sl CpF.R β.heap (.slice x.p x.n x.c) s.e.comps):
  Calls Tryz.prog 15 #[.pointer (some ⟨G,0,none⟩),.agg #[Ix x.src,Ix x.to,Ix x.number,.bool x.ack,Ix x.id,.slice x.p x.n x.c]] w fun r w'=>∃e,r= .returned (Ix e)∧St β [actG (takeF X s) e G S X (playX X (takeO s)) N mq] w':=by
 have h1:x.src=s.src:=hm.src;have h2:x.to=s.to:=hm.to;have h3:x.number=s.number:=hm.number;have h4:x.ack=s.ack:=hm.ack;have h5:x.id=s.e.id:=hm.id
 rw[h1,h2,h3,h4,h5]
 exact gtake_ok β w hG G S N X mq hw hN s _ hs
end Go.Proofs
