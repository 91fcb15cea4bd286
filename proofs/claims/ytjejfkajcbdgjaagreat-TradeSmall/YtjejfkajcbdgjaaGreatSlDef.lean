/-
  Own work; plain Lean (JnMem, JnOp, JnLaw, SlMpB, SlDef).
-/
import Derived.Test.YtjejfkajcbdgjaaGreatJnDef
set_option linter.all false
namespace Go.Jn
open Go.Sl
abbrev aEh(pH pA pB:Option Addr)(cH cA cB:Nat)(k:KS):Array Value:= #[.slice pH k.head.length cH,.slice pA k.a.length cA,.slice pB k.b.length cB,Ix k.power]
abbrev stL(S:Nat)(pH pA pB:Option Addr)(cH cA cB:Nat)(k:KS):List bU:=
 [pt S (.cells (aEh pH pA pB cH cA cB k) 29),row (.slice pH k.head.length cH) 5 1 k.head.length (BX k.head),row (.slice pA k.a.length cA) 5 1 k.a.length (BX k.a),row (.slice pB k.b.length cB) 5 1 k.b.length (BX k.b)]
def aQ(S:Nat)(k:KS):bU:=fun h=>∃pH pA pB cH cA cB,jE (stL S pH pA pB cH cA cB k) h
theorem St.openStore{β:Base}{S:Nat}{k:KS}{M:List bU}{w:World}(h:St β (aQ S k::M) w):∃pH pA pB cH cA cB,St β (stL S pH pA pB cH cA cB k++M) w:=by
 obtain⟨ho,ht,hp,a,hd,hs,hs',p,q,h1,h2,h3,⟨pH,pA,pB,cH,cA,cB,hx⟩,h5⟩:=h
 exact⟨pH,pA,pB,cH,cA,cB,St.unbun ⟨ho,ht,hp,a,hd,hs,hs',p,q,h1,h2,h3,hx,h5⟩⟩
theorem St.closeStore{β:Base}{S:Nat}{pH pA pB:Option Addr}{cH cA cB:Nat}{k:KS}{M:List bU}{w:World}(h:St β (stL S pH pA pB cH cA cB k++M) w):St β (aQ S k::M) w:=
 h.merge fun _ h=>⟨pH,pA,pB,cH,cA,cB,h⟩
abbrev aRm(S:Nat)(ps pr:Option Addr)(cs cr:Nat)(i:KI)(dn:Bool):Array Value:=
 #[.pointer (some ⟨S,0,none⟩),Nx i.epoch,Nx i.next,.slice ps i.state.length cs,.slice pr i.recs.length cr,Nx i.size,.bool dn]
abbrev jL(J S:Nat)(ps pr:Option Addr)(cs cr:Nat)(i:KI)(dn:Bool):List bU:=
 [pt J (.cells (aRm S ps pr cs cr i dn) 143),row (.slice ps i.state.length cs) 5 1 i.state.length (BX i.state),gQ 27 pr cr i.recs]
def fA(J S:Nat)(i:KI)(dn:Bool):bU:=fun h=>∃ps pr cs cr,jE (jL J S ps pr cs cr i dn) h
theorem St.openJour{β:Base}{J S:Nat}{i:KI}{dn:Bool}{M:List bU}{w:World}(h:St β (fA J S i dn::M) w):∃ps pr cs cr,St β (jL J S ps pr cs cr i dn++M) w:=by
 obtain⟨ho,ht,hp,a,hd,hs,hs',p,q,h1,h2,h3,⟨ps,pr,cs,cr,hx⟩,h5⟩:=h
 exact⟨ps,pr,cs,cr,St.unbun ⟨ho,ht,hp,a,hd,hs,hs',p,q,h1,h2,h3,hx,h5⟩⟩
theorem St.closeJour{β:Base}{J S:Nat}{ps pr:Option Addr}{cs cr:Nat}{i:KI}{dn:Bool}{M:List bU}{w:World}(h:St β (jL J S ps pr cs cr i dn++M) w):St β (fA J S i dn::M) w:=
 h.merge fun _ h=>⟨ps,pr,cs,cr,h⟩
def chP:List PanicEntry:=[{v:= .iface 185 (.agg #[]),recovered:=false}]
def fX(p:Int):Int:=if 0<p then p-1 else p
theorem pT{xs:Bs}:∀{bs:Bs} {at_:Nat},(wr xs at_ bs).length≤xs.length+bs.length
 |[],_=>by simp[wr]
 |b::bs,at_=>by
  unfold wr
  refine Nat.le_trans (pT (bs:=bs)) ?_
  split<;>simp<;>omega
theorem aMc{xs:Bs}{b:UInt8}:∀{bs:Bs} {at_:Nat},wr xs at_ (bs++[b])=(if at_+bs.length<(wr xs at_ bs).length then(wr xs at_ bs).set (at_+bs.length) b else wr xs at_ bs++[b])
 |[],at_=>by simp[wr];rfl
 |c::bs,at_=>by
  show wr _ (at_+1) (bs++[b])=_
  rw[aMc (bs:=bs)]
  simp only[wr,List.length_cons,show at_+1+bs.length=at_+(bs.length+1) by omega]
  rfl
theorem sS{xs bs:Bs}{at_ k:Nat}{b:UInt8}(h:bs[k]? =some b):wr xs at_ (bs.take (k+1))=(if at_+k<(wr xs at_ (bs.take k)).length then(wr xs at_ (bs.take k)).set (at_+k) b else wr xs at_ (bs.take k)++[b]):=by
 have hl:=(List.getElem?_eq_some_iff.1 h).1
 rw[iY h,aMc]
 simp[Nat.min_eq_left (Nat.le_of_lt hl)]
theorem aEa{p:Int}{k m:Nat}(h:k≤pw p m)(hk:k<m)(hp:pl p k≠0):k+1≤pw p m∧fX (pl p k)=pl p (k+1):=by
 unfold pw pl fX at*
 by_cases h0:p<0
 ·rw[if_pos h0]at h hp⊢
  rw[if_pos h0,if_pos h0]
  exact⟨by omega,if_neg (by omega)⟩
 ·rw[if_neg h0]at h hp⊢
  rw[if_neg h0,if_neg h0]
  refine⟨by omega,?_⟩
  split<;>omega
theorem aEb{p:Int}{k m:Nat}(h:k≤pw p m)(hk:k<m)(hp:pl p k=0):pw p m=k∧pl p m=0:=by
 unfold pw pl at*
 by_cases h0:p<0
 ·rw[if_pos h0]at hp;omega
 ·rw[if_neg h0]at h hp
  rw[if_neg h0,if_neg h0]
  omega
theorem aIs{p:Int}{m k:Nat}(h:k≤pw p m)(hk:m≤k):pw p m=m∧k=m:=by
 unfold pw at*
 split at h<;>(constructor<;>(try split)<;>omega)
def tH(xs:Bs)(p:Int)(at_:Nat)(bs:Bs):Bs:=wr xs at_ (bs.take (pw p bs.length))
def kV(p:Int)(bs:Bs):Prop:=pw p bs.length=bs.length
instance (p:Int)(bs:Bs):Decidable (kV p bs):=by unfold kV;infer_instance
def jB(xs:Bs)(p:Int)(size:Nat):Prop:=xs.length≤size∨p≠0
instance (xs:Bs)(p:Int)(size:Nat):Decidable (jB xs p size):=by unfold jB;infer_instance
def oK(xs:Bs)(p:Int)(size:Nat):Bs:=if p=0 then xs else xs.take size
def kW(xs:Bs)(p:Int)(size:Nat):Int:=if size<xs.length then fX p else p
def sR(k:KS)(e at_:Nat)(bs:Bs):KS:={k.setArea e (tH (k.area e) k.power at_ bs)with power:=pl k.power bs.length}
def jV(k:KS)(e size:Nat):KS:={k.setArea e (oK (k.area e) k.power size)with power:=kW (k.area e) k.power size}
def wrH(k:KS)(at_:Nat)(bs:Bs):KS:={k with head:=tH k.head k.power at_ bs,power:=pl k.power bs.length}
def apS(k:KS)(i:KI)(bs:Bs):KS:=sR k i.epoch i.size (bR i.epoch i.next bs)
def yH(k:KS)(i:KI)(bs:Bs):Prop:=kV k.power (bR i.epoch i.next bs)
instance (k:KS)(i:KI)(bs:Bs):Decidable (yH k i bs):=by unfold yH;infer_instance
def uI(i:KI)(bs:Bs):KI:={epoch:=i.epoch+1,next:=i.next,state:=bs,recs:=[],size:=24+bs.length}
def apI(i:KI)(bs:Bs):KI:={i with recs:=i.recs++[bs],size:=i.size+(bR i.epoch i.next bs).length,next:=i.next+1}
def kZ(e:Nat):Bs:=be 8 (U (e:Int))++be 8 (eV (e:Int))
def wB(k:KS)(e:Nat):KS:=jV k e 0
def oI(k:KS)(e n:Nat)(bs:Bs):KS:=sR (wB k e) e 0 (bR e n bs)
def oJ(k:KS)(e n:Nat)(bs:Bs):KS:=let q:=oI k e n bs;if q.head.length=0 then{q with head:=List.replicate 32 0}else q
def ck4(k:KS)(e n:Nat)(bs:Bs):KS:=wrH (oJ k e n bs) (e%2*16) (kZ e)
def mV(k:KS)(e:Nat):Prop:=jB (k.area e) k.power 0
def qU(k:KS)(e n:Nat)(bs:Bs):Prop:=kV (wB k e).power (bR e n bs)
def aFn(k:KS)(e n:Nat)(bs:Bs):Prop:=kV (oJ k e n bs).power (kZ e)
instance (k:KS)(e:Nat):Decidable (mV k e):=by unfold mV;infer_instance
instance (k:KS)(e n:Nat)(bs:Bs):Decidable (qU k e n bs):=by unfold qU;infer_instance
instance (k:KS)(e n:Nat)(bs:Bs):Decidable (aFn k e n bs):=by unfold aFn;infer_instance
def pU(k:KS)(e n:Nat)(bs:Bs):KS:=if mV k e then(if qU k e n bs then ck4 k e n bs else oI k e n bs)else k
def qB(k:KS)(e n:Nat)(bs:Bs):Prop:=mV k e∧qU k e n bs∧aFn k e n bs
instance (k:KS)(e n:Nat)(bs:Bs):Decidable (qB k e n bs):=by unfold qB;infer_instance
open Go.Sl
section
variable {P:Program}{ro:Option Nat}{n:Nat}{ds:List Deferred}{β:Base}{Q:Exit→Act→World→Prop}{f:Fm}{L:List bU}{ops:Array Oper}{rest:List Oper}
variable {d:Option Tmp}{ty:TypeId}{ps:String}{af:Array Edge}{g:Option (Nat×Bool)}
theorem nT{c:Code}{S:Nat}{k:KS}{M:List bU}(hL:L=aQ S k::M)(K:∀pH pA pB cH cA cB,eE P ro n ds β c Q f (stL S pH pA pB cH cA cB k++M)):eE P ro n ds β c Q f L:=fun a w ha hw=>by
 subst hL
 obtain⟨pH,pA,pB,cH,cA,cB,h⟩:=St.openStore hw
 exact K pH pA pB cH cA cB a w ha h
theorem uH{c:Code}{S:Nat}{pH pA pB:Option Addr}{cH cA cB:Nat}{k:KS}{M:List bU}(hL:L=stL S pH pA pB cH cA cB k++M)(K:eE P ro n ds β c Q f (aQ S k::M)):eE P ro n ds β c Q f L:=fun a w ha hw=>by
 subst hL
 exact K a w ha (St.closeStore hw)
theorem mI{e:Exit}{S:Nat}{pH pA pB:Option Addr}{cH cA cB:Nat}{k:KS}{M:List bU}(hL:L=stL S pH pA pB cH cA cB k++M)(K:iZ n ds β Q e f (aQ S k::M)):iZ n ds β Q e f L:=fun a w ha hw=>by
 subst hL
 exact K a w ha (St.closeStore hw)
theorem rL{x y:Operand}{t T bytes b n2 c2 c:Nat}{p q:Option Addr}{xs:List Bs}{bs:Bs}{M:List bU}(hL:L=gQ T p c xs::row (.slice q n2 c2) 5 1 n2 (BX bs)::pt b (.cells #[.slice q n2 c2] T)::M)
 (hsl:lY P t T 1=true)(hel:vR P T 1 bytes=true)(hx:ev f x= .slice p xs.length c)(hy:ev f y= .slice (some ⟨b,0,none⟩) 1 1)(hby:(xs.length+1)*bytes≤140737488355328)(h63:xs.length+1≤140737488355328):
  MV P β L f ⟨d,.call ⟨.builtin .append,#[x,y],#[t,t]⟩,ty,ps,af,g⟩ (fun v' L'=>∃p' c',v'= .slice p' (xs++[bs]).length c'∧L'=gQ T p' c' (xs++[bs])::pt b (.cells #[.slice q n2 c2] T)::M):=fun w hw=>by
 subst hL
 obtain⟨us,hw1⟩:=hw.ex (r:=fun us h=>jE [row (.slice p xs.length c) T 1 xs.length us,ins us xs] h)
 have hw2:=hw1.unbun
 have hk:bH β (row (.slice p xs.length c) T 1 xs.length us::ins us xs::row (.slice q n2 c2) 5 1 n2 (BX bs)::pt b (.cells #[.slice q n2 c2] T)::M) (fun h=>Cs h (ba (some ⟨b,0,none⟩)) [.slice q n2 c2]):=
  cD 3 (cs:= #[.slice q n2 c2]) (vs:=[.slice q n2 c2]) rfl rfl
 obtain⟨v',w',L',g1,g2,p',c',rfl,rfl⟩:=tN (P:=P) (ty:=ty) (ps:=ps) (af:=af) (g:=g) (d:=d) (m:=xs.length) (vs:=us) (n:=1) 0 hsl hel hx rfl hy (by rfl) hk (by rfl) (fun _=>rfl) (by unfold maxLen;omega) hby w hw2
 have e1:(xs++[bs]).length=xs.length+1:=by simp
 refine⟨_,w',_,g1,?_,p',c',by rw[e1],rfl⟩
 have g3:St β ([row (.slice p' (xs.length+1) c') T 1 (xs.length+1) (us++[.slice q n2 c2]),ins us xs,row (.slice q n2 c2) 5 1 n2 (BX bs)]++(pt b (.cells #[.slice q n2 c2] T)::M)) w':=g2
 refine St.merge g3 ?_
 rintro a ⟨a1,b1,hd,h1,h2,hr,a2,b2,hd2,h3,h4,hi,a3,b3,hd3,h5,h6,hr2,_⟩
 refine⟨us++[.slice q n2 c2],a1,b1,hd,h1,h2,by rw[e1];exact hr,b1,fun _=>none,fun _=> .inr rfl,jF.refl _,fun _ _ h=>(by cases h),?_,trivial⟩
 exact aRk (ins.mono _ _ _ _ h3 hi) (Sl.mono _ _ _ _ _ (h5.trans h4) (aTm hr2)) (shp.mono _ _ _ (h5.trans h4) (aXy hr2))
end
def JF(J S:Nat)(i:KI)(dn:Bool):bQ→Prop:=fun h=>∃ps pr cs cr,Cs h ⟨J,0,none⟩ (aRm S ps pr cs cr i dn).toList∧Sl iT h (.slice ps i.state.length cs) i.state∧Sl BsR h (.slice pr i.recs.length cr) i.recs
theorem JF.mono(J S:Nat)(i:KI)(dn:Bool):rH (JF J S i dn):=fun h h' hs ⟨ps,pr,cs,cr,h1,h2,h3⟩=>⟨ps,pr,cs,cr,Cs.mono _ _ _ _ hs h1,Sl.mono _ _ _ _ _ hs h2,Sl.mono _ _ _ _ _ hs h3⟩
theorem aUv{k:KS}{e at_:Nat}{bs:Bs}(h:e%2=0):{k with a:=tH k.a k.power at_ bs,power:=pl k.power bs.length}=sR k e at_ bs:=by simp[sR,KS.setArea,KS.area,h]
theorem aZj{k:KS}{e at_:Nat}{bs:Bs}(h:e%2=1):{k with b:=tH k.b k.power at_ bs,power:=pl k.power bs.length}=sR k e at_ bs:=by simp[sR,KS.setArea,KS.area,h]
theorem aMt{k:KS}{e size:Nat}(h:e%2=0):{k with a:=oK k.a k.power size,power:=kW k.a k.power size}=jV k e size:=by simp[jV,KS.setArea,KS.area,h]
theorem aQd{k:KS}{e size:Nat}(h:e%2=1):{k with b:=oK k.b k.power size,power:=kW k.b k.power size}=jV k e size:=by simp[jV,KS.setArea,KS.area,h]
theorem aBa{k:KS}{e:Nat}(h:e%2=0):k.area e=k.a:=if_pos h
theorem aFb{k:KS}{e:Nat}(h:e%2=1):k.area e=k.b:=if_neg (by omega)
def KS.fits(k:KS)(m:Nat):Prop:=k.head.length≤1048576∧k.a.length≤m∧k.b.length≤m∧k.power≤9223372036854775807
theorem KS.fits.le{k:KS}{m m':Nat}(h:k.fits m)(hm:m≤m'):k.fits m':=⟨h.1,by have:=h.2.1;omega,by have:=h.2.2.1;omega,h.2.2.2⟩
theorem KS.fits.wr{k:KS}{m e at_:Nat}{bs:Bs}(h:k.fits m):(sR k e at_ bs).fits (m+bs.length):=by
 have h1:∀xs:Bs,xs.length≤m→(tH xs k.power at_ bs).length≤m+bs.length:=fun xs hx=>by
  unfold tH
  refine Nat.le_trans pT ?_
  simp;omega
 have hp:pl k.power bs.length≤k.power:=by unfold pl;split<;>omega
 unfold sR KS.setArea KS.area
 obtain⟨a,b,c,d⟩:=h
 split<;>rename_i hh<;>simp only[hh,if_true]<;>exact⟨a,by first|(simp;omega)|(have:=h1 k.a b;omega),by first|(simp;omega)|(have:=h1 k.b c;omega),by show pl _ _≤_;omega⟩
theorem KS.fits.cut{k:KS}{m e size:Nat}(h:k.fits m):(jV k e size).fits m:=by
 have h1:∀xs:Bs,xs.length≤m→(oK xs k.power size).length≤m:=fun xs hx=>by
  unfold oK;split
  ·exact hx
  ·simp;omega
 have hp:∀xs,kW xs k.power size≤k.power:=fun xs=>by unfold kW fX;split<;>(try split)<;>omega
 unfold jV KS.setArea KS.area
 obtain⟨a,b,c,d⟩:=h
 split<;>rename_i hh<;>simp only[hh,if_true]<;>exact⟨a,by first|(have:=h1 k.a b;omega)|exact b,by first|(have:=h1 k.b c;omega)|exact c,by first|(have:=hp k.a;show kW _ _ _≤_;omega)|(have:=hp k.b;show kW _ _ _≤_;omega)⟩
theorem aBk{k:KS}{m:Nat}{x:Bs}(h:k.fits m)(hx:x.length≤1048576):({k with head:=x}:KS).fits m:=⟨hx,h.2.1,h.2.2.1,h.2.2.2⟩
open Go.Sl
structure KOp where
 kind:UInt8
 power:UInt8
 body:Bs
structure KC where
 epoch:Nat
 next:Nat
 state:ByteArray
 recs:List ByteArray
def isP(c:KC)(i:KI):Prop:=i.epoch=c.epoch∧i.next=c.next∧str i.state=c.state∧i.recs.map str=c.recs
instance (c:KC)(i:KI):Decidable (isP c i):=by unfold isP;infer_instance
open Go.Sl
def uW(bs:Bs):Nat:=bs.foldl (fun n x=>n*256+x.toNat) 0
theorem aDt(h:Nat):∀bs:Bs,bs.foldl (fun n x=>n*256+x.toNat) h=h*256^bs.length+uW bs
 |[]=>by simp[uW]
 |x::bs=>by
  have h1:=aDt (h*256+x.toNat) bs
  have h2:=aDt (0*256+x.toNat) bs
  simp only[List.foldl_cons,uW,List.length_cons]at*
  rw[h1,h2,Nat.pow_succ,Nat.add_mul]
  simp only[Nat.zero_mul,Nat.zero_add]
  rw[Nat.mul_assoc h,Nat.mul_comm 256]
  omega
theorem sI(x:UInt8)(bs:Bs):uW (x::bs)=x.toNat*256^bs.length+uW bs:=by
 have:=aDt (0*256+x.toNat) bs
 simpa[uW]using this
theorem aKy:∀bs:Bs,uW bs<256^bs.length
 |[]=>by simp[uW]
 |x::bs=>by
  rw[sI,List.length_cons,Nat.pow_succ]
  have h1:=aKy bs
  have h2:=x.toNat_lt
  have h3:x.toNat*256^bs.length≤255*256^bs.length:=Nat.mul_le_mul_right _ (by omega)
  omega
theorem aOv{h:UInt64}{x:UInt8}(hh:h.toNat<72057594037927936):((h<<<8)|||x.toUInt64).toNat=h.toNat*256+x.toNat:=by
 have h2:=x.toNat_lt
 have e1:(h<<<(8:UInt64)).toNat=h.toNat<<<8:=by
  rw[UInt64.toNat_shiftLeft]
  simp only[UInt64.reduceToNat,Nat.reduceMod,Nat.shiftLeft_eq]
  omega
 rw[UInt64.toNat_or,e1]
 have e2:x.toUInt64.toNat=x.toNat:=by simp
 rw[e2,←Nat.shiftLeft_add_eq_or_of_lt (by omega),Nat.shiftLeft_eq]
theorem aCq:∀(bs:Bs) (h:UInt64),h.toNat*256^bs.length+uW bs<18446744073709551616→(oG h bs).toNat=h.toNat*256^bs.length+uW bs
 |[],h,_=>by simp[oG,uW]
 |x::bs,h,hlt=>by
  rw[sI,List.length_cons,Nat.pow_succ]at hlt
  have hp:0<256^bs.length:=Nat.pow_pos (by decide)
  have h1:h.toNat<72057594037927936:=by
   have:h.toNat*(256^bs.length*256)=h.toNat*256*256^bs.length:=by rw[Nat.mul_comm (256^bs.length),Nat.mul_assoc]
   have h3:h.toNat*256*1≤h.toNat*256*256^bs.length:=Nat.mul_le_mul_left _ hp
   omega
  have e:=aOv (x:=x) h1
  have ih:=aCq bs ((h<<<8)|||x.toUInt64) (by
   rw[e,Nat.add_mul,Nat.mul_assoc,Nat.mul_comm 256];omega)
  show(oG ((h<<<8)|||x.toUInt64) bs).toNat=_
  rw[ih,e,sI,List.length_cons,Nat.pow_succ,Nat.add_mul,Nat.mul_assoc,Nat.mul_comm 256]
  omega
theorem aCr{bs:Bs}(h:bs.length≤8):(bW bs).toNat=uW bs:=by
 have h1:=aKy bs
 have h2:256^bs.length≤256^8:=Nat.pow_le_pow_right (by decide) h
 have:=aCq bs 0 (by simp only[UInt64.reduceToNat,Nat.zero_mul,Nat.zero_add];omega)
 simpa[bW]using this
theorem aDs:∀(k:Nat) (n:UInt64),k≤8→uW (be k n)=n.toNat%256^k
 |0,n,_=>by simp[be,uW,Nat.mod_one]
 |k+1,n,hk=>by
  have ih:=aDs k n (by omega)
  have h8:(UInt64.ofNat (8*k)).toNat%64=8*k:=by simp;omega
  have hs:((n>>>UInt64.ofNat (8*k)).toUInt8).toNat=(n.toNat/256^k)%256:=by
   rw[UInt64.toNat_toUInt8,UInt64.toNat_shiftRight,h8,Nat.shiftRight_eq_div_pow,Nat.pow_mul]
  rw[be,sI,ih,bX,hs,Nat.pow_succ,Nat.mod_mul]
  rw[Nat.mul_comm]
  omega
theorem pS(n:UInt64):bW (be 8 n)=n:=by
 apply UInt64.toNat_inj.1
 rw[aCr (by simp[bX]),aDs 8 n (by omega)]
 exact Nat.mod_eq_of_lt (by have:=n.toNat_lt;simpa using this)
theorem wS(n:UInt64):(bW (be 4 n)).toNat=n.toNat%4294967296:=by
 rw[aCr (by simp[bX]),aDs 4 n (by omega)]
theorem aUw{x:UInt64}(h:x.toNat<4294967296):(x^^^bW (be 4 (~~~x)))=4294967295:=by
 have e1:bW (be 4 (~~~x))= ~~~x%4294967296:=by
  apply UInt64.toNat_inj.1
  rw[wS,UInt64.toNat_mod]
  rfl
 rw[e1]
 have e2: ~~~x%4294967296= ~~~x&&&4294967295:=by
  apply UInt64.toNat_inj.1
  rw[UInt64.toNat_mod,UInt64.toNat_and]
  show _%2^32=_&&&(2^32-1)
  rw[Nat.and_two_pow_sub_one_eq_mod]
 rw[e2]
 have e3:x&&&4294967295=x:=by
  apply UInt64.toNat_inj.1
  rw[UInt64.toNat_and]
  show _&&&(2^32-1)=_
  rw[Nat.and_two_pow_sub_one_eq_mod]
  exact Nat.mod_eq_of_lt h
 conv=>lhs;lhs;rw[←e3]
 apply UInt64.toBitVec_inj.1
 simp only[UInt64.toBitVec_xor,UInt64.toBitVec_and,UInt64.toBitVec_not]
 ext i hi
 simp only[BitVec.getElem_xor,BitVec.getElem_and,BitVec.getElem_not]
 cases x.toBitVec[i]<;>simp
end Go.Jn
namespace Go.Sl
open Go.ChangeMaps (setBlock)
section
variable {P:Program}{κ ν:Type}(K:MapK P κ ν){ro:Option Nat}{n:Nat}{ds:List Deferred}{β:Base}{Q:Exit→Act→World→Prop}{f:Fm}{L:List bU}{ops:Array Oper}{rest:List Oper}
variable {d:Option Tmp}{ty:TypeId}{ps:String}{af:Array Edge}{g:Option (Nat×Bool)}
def itR(β:Base)(b r:Nat)(ks pre:List (κ×ν)):bU:=fun h=>∃(es:Array MapEntry) (clock:Nat) (seen:Array Nat) (zs dz rz:List (MapEntry×(κ×ν))),
 β.heap b=some (.map es clock)∧h r=some (.mapIter (some b) clock seen clock)∧b≠r∧MapC K ks es clock∧es.toList=zs.map (·.1)∧ks=zs.map (·.2)∧(∀z∈zs,z.1.key=K.enc z.2.1∧z.1.val=K.encv z.2.2)∧
 (dz++rz).Perm zs∧seen.toList=dz.map (·.1.born)∧pre=dz.map (·.2)
variable {K}
theorem itR.mono(β:Base)(b r:Nat)(ks pre:List (κ×ν)):rH (itR K β b r ks pre):=fun _ _ hs ⟨es,c,se,zs,dz,rz,h1,h2,h⟩=>⟨es,c,se,zs,dz,rz,h1,hs _ _ h2,h⟩
theorem aDk{b:Nat}{o:Obj}{w:World}(hw:St β L w)(h:β.heap b=some o):w.heap[b]? =some o:=hw.knows (bH.of_base (F:=fun h=>h b=some o) (fun _ _ s h=>s _ _ h) h)
theorem zF{x:Operand}{t b:Nat}{ks:List (κ×ν)}(ht:t=K.t)(hx:ev f x= .map (some b))(hm:bB K b ks β.heap):
  MV P β L f ⟨d,.range t x,ty,ps,af,g⟩ (fun u L'=>∃r,u= .pointer (some ⟨r,0,none⟩)∧L'=itR K β b r ks []::L):=fun w hw=>by
 obtain⟨es,c,hbβ,hc⟩:=hm
 have hb:w.heap[b]? =some (.map es c):=aDk hw hbβ
 have hg:(getObj b).run P w= .ok (.map es c) w:=nG hb
 have hlt:b<w.heap.size:=(Array.getElem?_eq_some_iff.1 hb).1
 subst ht
 refine⟨.pointer (some ⟨w.heap.size,0,none⟩),w.alloc (.mapIter (some b) c #[] c),_,?_,?_,w.heap.size,rfl,rfl⟩
 ·simp[execOp,Instr.range,run_underlying K.ht,hx,hg]
 ·have h3:=hw.new (.mapIter (some b) c #[] c)
  refine St.merge (L:=[pt w.heap.size (.mapIter (some b) c #[] c)]) (M:=L) h3 fun a ha=> ?_
  obtain⟨p,q,_,hp,hq,h4,_⟩:=ha
  obtain⟨zs,z1,z2,z3⟩:=hc.zip
  exact⟨es,c,#[],zs,[],zs,hbβ,hp _ _ h4,by omega,hc,z1,z2,z3,List.Perm.refl _,rfl,rfl⟩
theorem aWq{b r:Nat}{ks pre:List (κ×ν)}{w:World}(i:Nat)(hw:St β L w)(hi:L[i]? =some (itR K β b r ks pre))(ty:Nat):
  (pre.Perm ks∧(Instr.next (.pointer (some ⟨r,0,none⟩)) false ty).run P w= .ok (.tuple #[.bool false]) w)∨
  ∃x:κ×ν,∃w',(Instr.next (.pointer (some ⟨r,0,none⟩)) false ty).run P w= .ok (.tuple #[.bool true,K.enc x.1,K.encv x.2]) w'∧(∃rs,(pre++[x]++rs).Perm ks)∧St β (L.set i (itR K β b r ks (pre++[x]))) w':=by
 obtain⟨es,c,seen,zs,dz,rz,hbβ,hr,hbr,hc,z1,z2,z3,hperm,hseen,hpre⟩:=hw.knows (bH.of_res i hi (itR.mono β b r ks pre) fun _ h=>h)
 have hb:w.heap[b]? =some (.map es c):=aDk hw hbβ
 have hr:w.heap[r]? =some (.mapIter (some b) c seen c):=hr
 have hborn:(zs.map fun z=>z.1.born).Nodup:=by
  have:=hc.births
  rw[z1,List.map_map]at this
  exact this
 have hnd:((dz++rz).map fun z=>z.1.born).Nodup:=(hperm.map _).nodup_iff.2 hborn
 rcases run_next_at (P:=P) w ty r b c c seen es c hr hb hc.old (Nat.le_refl _)with⟨h0,hrun⟩|⟨e,he,w1,hw1,hrun⟩
 ·refine .inl ⟨?_,hrun⟩
  have hrz:rz=[]:=by
   cases rz with
   |nil=>rfl
   |cons z rz=>
    exfalso
    have hz:z∈zs:=hperm.mem_iff.1 (List.mem_append_right _ List.mem_cons_self)
    have hze:z.1∈es.toList:=by rw[z1];exact List.mem_map.2 ⟨z,hz,rfl⟩
    have hns:¬z.1.born∈seen.toList:=by
     rw[hseen]
     intro hm
     rw[List.map_append,List.nodup_append]at hnd
     exact hnd.2.2 _ hm _ (List.mem_map.2 ⟨z,List.mem_cons_self,rfl⟩) rfl
    have:z.1∈(leftOf es seen):=by
     unfold leftOf
     rw[Array.mem_filter]
     exact⟨by simpa using hze,by simpa using hns⟩
    have:=Array.size_pos_of_mem this
    omega
  subst hrz
  rw[List.append_nil]at hperm
  rw[hpre,z2]
  exact hperm.map _
 ·right
  have he2:e∈es.toList∧¬e.born∈seen.toList:=by
   unfold leftOf at he
   simp only[Array.toList_filter,List.mem_filter]at he
   exact⟨he.1,by simpa using he.2⟩
  have hz:∃z∈zs,z.1=e:=by
   rw[z1]at he2
   obtain⟨z,hz,e1⟩:=List.mem_map.1 he2.1
   exact⟨z,hz,e1⟩
  obtain⟨z,hz,rfl⟩:=hz
  have hzr:z∈rz:=by
   rcases List.mem_append.1 (hperm.mem_iff.2 hz)with h|h
   ·exfalso;rw[hseen]at he2;exact he2.2 (List.mem_map.2 ⟨z,h,rfl⟩)
   ·exact h
  obtain⟨A,B,rfl⟩:=List.append_of_mem hzr
  have hperm2:(dz++[z]++(A++B)).Perm zs:=by
   refine List.Perm.trans ?_ hperm
   rw[List.append_assoc]
   refine List.Perm.append_left dz ?_
   exact(List.perm_middle (a:=z) (l₁:=A) (l₂:=B)).symm
  refine⟨z.2,setBlock w1 r (.mapIter (some b) c (seen.push z.1.born) c),?_,⟨(A++B).map (·.2),?_⟩,?_⟩
  ·rw[hrun,(z3 z hz).1,(z3 z hz).2]
  ·rw[hpre,z2]
   have:=hperm2.map (·.2)
   simpa using this
  ·have hw1':St β L w1:=by rcases hw1 with rfl|rfl;exact hw;exact hw.drew
   have hr1:w1.heap[r]? =some (.mapIter (some b) c seen c):=by rcases hw1 with rfl|rfl<;>exact hr
   have hrl:r<w1.heap.size:=(Array.getElem?_eq_some_iff.1 hr1).1
   refine St.back i hi ((hw1'.front i hi).turn rfl rfl rfl fun a ha hra=> ?_)
   obtain⟨es',c',seen',_,_,_,k1,k2,_⟩:=hra
   refine⟨fun k=>if k=r then some (.mapIter (some b) c (seen.push z.1.born) c)else a k,?_,?_,?_⟩
   ·exact⟨es,c,seen.push z.1.born,zs,dz++[z],A++B,hbβ,by simp,hbr,hc,z1,z2,z3,hperm2,by simp[hseen],by simp[hpre]⟩
   ·intro k o hk
    show(setBlock w1 r _).heap[k]? =some o
    unfold setBlock
    by_cases e:k=r
    ·subst e;simp at hk;subst hk;simp[hrl]
    ·simp[e]at hk
     have:=ha _ _ hk
     have h9:w1.heap[k]? =some o:=this
     simp[Ne.symm e,h9]
   ·intro k hk hak
    have hne:k≠r:=by rintro rfl;rw[k2]at hak;cases hak
    refine⟨by simp[hne,hak],?_⟩
    show(setBlock w1 r _).heap[k]? =_
    unfold setBlock
    simp[Ne.symm hne]
theorem aDq{x:Operand}{b r:Nat}{ks pre:List (κ×ν)}(i:Nat)(hx:ev f x= .pointer (some ⟨r,0,none⟩))(hi:L[i]? =some (itR K β b r ks pre)):
  MV P β L f ⟨d,.next x false,ty,ps,af,g⟩ (fun v L'=>(v= .tuple #[.bool false]∧pre.Perm ks∧L'=L)∨(∃x:κ×ν,v= .tuple #[.bool true,K.enc x.1,K.encv x.2]∧(∃rs,(pre++[x]++rs).Perm ks)∧L'=L.set i (itR K β b r ks (pre++[x])))):=fun w hw=>by
 rcases aWq i hw hi ty with⟨hp,hrun⟩|⟨x,w',hrun,hp,hw'⟩
 ·exact⟨_,w,L,by simp[execOp,hx,hrun],hw,.inl ⟨rfl,hp,rfl⟩⟩
 ·exact⟨_,w',_,by simp[execOp,hx,hrun],hw',.inr ⟨x,rfl,hp,rfl⟩⟩
theorem yR{x:Operand}{b r:Nat}{ks pre:List (κ×ν)}{y:κ×ν}(i:Nat)(hx:ev f x= .pointer (some ⟨r,0,none⟩))(hi:L[i]? =some (itR K β b r ks (pre++[y]))):
  EV P β L f ⟨d,.entry x,ty,ps,af,g⟩ (.tuple #[K.enc y.1,K.encv y.2]):=fun w hw=>by
 obtain⟨es,c,seen,zs,dz,rz,hbβ,hr,hbr,hc,z1,z2,z3,hperm,hseen,hpre⟩:=hw.knows (bH.of_res i hi (itR.mono β b r ks (pre++[y])) fun _ h=>h)
 have hb:w.heap[b]? =some (.map es c):=aDk hw hbβ
 have hr:w.heap[r]? =some (.mapIter (some b) c seen c):=hr
 have hne:dz≠[]:=by rintro rfl;simp at hpre
 obtain⟨dz',z,rfl⟩:∃dz' z,dz=dz'++[z]:=⟨dz.dropLast,dz.getLast hne,(List.dropLast_concat_getLast hne).symm⟩
 rw[List.map_append]at hpre hseen
 have hy:y=z.2:=by
  have:=congrArg List.getLast? hpre
  simpa using this
 have hz:z∈zs:=hperm.mem_iff.1 (by simp)
 have hs:seen=(dz'.map (·.1.born)).toArray.push z.1.born:=by
  apply Array.toList_inj.1
  simp[hseen]
 subst hs
 have hze:z.1∈es.toList:=by rw[z1];exact List.mem_map.2 ⟨z,hz,rfl⟩
 have hrun:=run_entry_at (P:=P) w r b c (dz'.map (·.1.born)).toArray es c z.1 hr hb hze hc.births
 rw[hy]
 simp[execOp,hx,hrun,(z3 z hz).1,(z3 z hz).2]
end
section
variable {P:Program}{n:Nat}{ds:List Deferred}{β:Base}{Q:Exit→Act→World→Prop}{f:Fm}{L:List bU}{ops:Array Oper}{rest:List Oper}
variable {d:Option Tmp}{ty:TypeId}{ps:String}{af:Array Edge}{g:Option (Nat×Bool)}
theorem bBn{g:FuncId}{fn:Func}{c:Code}{args:Array Value}{w:World}{R:Ending→World→Prop}(hf:P.funcs[g]? =some fn)(hb:fn.body=some c)(hn:fn.ntmps=n)(hs:Nat.ble args.size n=true)
 (h:eE P none n [] β c (bodyPostD P fn R) (tD args) L)(hw:St β L w):Calls P g args w R:=by
 refine calls_of_wp_defers hf hb (wpIn_wide.1 (h _ w ⟨rfl,?_,fun i=> ?_⟩ hw))
 ·rw[hn]
  have:args.size≤n:=by simpa using hs
  simp;omega
 ·simp only[tD,Array.getD_eq_getD_getElem?]
  by_cases hi:i<args.size
  ·rw[Array.getElem?_append_left hi]
  ·rw[Array.getElem?_append_right (by omega),Array.getElem?_eq_none (by omega:args.size≤i)]
   by_cases hj:i-args.size<fn.ntmps-args.size
   ·simp[hj]
   ·simp[hj]
theorem aWr{o:Oper}{dd:Deferred}(hg:o.guard=none)(hd:o.dst=none)(he:∀w,(execOp (ev f) o).run P w= .ok (.defer dd) w)(k:cE P none n (dd::ds) β ops Q rest f L):cE P none n ds β ops Q (o::rest) f L:=by
 refine qM hg fun a w ha hw=>⟨fun _ _=>trivial,?_⟩
 rw[ha.eval,show(Fe none).round=none from rfl,Oper.semAt_none,he w,Oper.uponIn_defer,hd]
 exact k _ w ⟨by show dd::a.defers=_;rw[ha.defers],ha.size,ha.get⟩ hw
theorem aHo{id:Nat}{o0 o1:Oper}{a:Act}{cs:List Frame}{w:World}{QS:Exit→Act→List Frame→World→Prop}{d0 d1:Nat}{v:Value}{cs':List Frame}(ha:At n ds f a)(h0:o0.guard=none)(h1:o1.guard=none)
 (r0:(execOp (ev f) o0).run P w= .ok .recover w)(hd0:o0.dst=some d0)(b0:Nat.blt d0 n=true)(hv:(execOp (ev (dZ f d0 v)) o1).run P w= .ok (.value v) w)(hd1:o1.dst=some d1)(b1:Nat.blt d1 n=true)
 (hrec:recoverD cs=some (v,cs')∨recoverD cs=none∧v= .nilIface∧cs'=cs)(k:∀a',At n ds (dZ (dZ f d0 v) d1 v) a'→QS .normal a' cs' w):(Code.region id #[o0,o1] false).wpS P QS a cs w:=by
 have ha1:=ha.put b0 v
 have step1:∀cs,wpOpsS P #[o0,o1] QS [1] (a.put (some d0) v) cs w=QS .normal ((a.put (some d0) v).put (some d1) v) cs w:=fun cs=>by
  simp only[wpOpsS]
  have hw1:Region.wanted o1 (yielded #[o0,o1] (a.put (some d0) v).tmps)=true:=by simp[Region.wanted,h1]
  simp only[List.getElem?_toArray,List.getElem?_cons_succ,List.getElem?_cons_zero,hw1,if_true]
  rw[ha1.eval,hv]
  simp only[Oper.upon,hd1]
 refine wpS_region ?_
 show wpOpsS P #[o0,o1] QS [0,1] a cs w
 rw[wpOpsS]
 have hw0:Region.wanted o0 (yielded #[o0,o1] a.tmps)=true:=by simp[Region.wanted,h0]
 simp only[List.getElem?_toArray,List.getElem?_cons_zero,hw0,if_true]
 rw[ha.eval,r0]
 rcases hrec with h|⟨h,rfl,rfl⟩
 ·simp only[h,hd0]
  rw[step1]
  exact k _ (ha1.put b1 v)
 ·simp only[h,hd0]
  rw[step1]
  exact k _ (ha1.put b1 _)
theorem aMa{c:Code}{a:Act}{cs:List Frame}{w:World}{QS:Exit→Act→List Frame→World→Prop}(h:eE P none n ds β c (fun e a w=>QS e a cs w) f L)(ha:At n ds f a)(hw:St β L w):c.wpS P QS a cs w:=wpS_of_wp (wpIn_wide.1 (h a w ha hw))
theorem bEn{fn:Func}{c₀:Frame}{cs:List Frame}{R:Ending→FrameMode→World→Prop}{u':FrameMode}(hr:fn.results= #[])(h:∀w,St β L w→R (.returned (.tuple #[])) u' w):
  iZ n [] β (fun e a w=>bodyPostS P fn c₀ cs R e a ({c₀ with mode:=u'}::cs) w) .normal f L:=fun a w ha hw=>
 ⟨ha.defers,u',rfl,_,results_none hr _ _ _,h w hw⟩
theorem aNa{t u:TypeId}{x:Operand}{v:Value}(hx:ev f x= .iface u v)(hu:aRh P u=true):EV P β L f ⟨d,.typeAssert x t u true,ty,ps,af,g⟩ (.tuple #[v,.bool true]):=fun w _=>by
 unfold aRh at hu
 cases hh:P.underlying u with
 |none=>rw[hh]at hu;cases hu
 |some dd=>
  rw[hh]at hu
  cases dd<;>simp_all [execOp,Instr.typeAssert,run_underlying hh]
def ifB(P:Program)(t:TypeId):Bool:=match P.underlying t with|some (.interface _)=>true|_=>false
theorem aKm{t:TypeId}(h:ifB P t=true):∃ms,P.underlying t=some (.interface ms):=by
 unfold ifB at h
 cases hh:P.underlying t with
 |none=>rw[hh]at h;cases h
 |some dd=>rw[hh]at h;cases dd<;>simp_all
theorem aQl{t t':TypeId}{x:Operand}{u:TypeId}{v:Value}(ht:ifB P t=true)(hx:ev f x= .iface u v):EV P β L f ⟨d,.binOp .neq t x (.const .nilIface) t',ty,ps,af,g⟩ (.bool true):=fun w _=>by
 obtain⟨ms,hu⟩:=aKm ht
 have h1:(binOp .neq t (.iface u v) .nilIface).run P w= .ok (.bool true) w:=by
  have h2:(Op.equal t (.iface u v) .nilIface).run P w= .ok false w:=by
   have h3:∀d,(Op.equalIn (d+1) t (.iface u v) .nilIface).run P w= .ok false w:=fun d=>by simp[Op.equalIn,run_underlying hu]
   exact h3 9999
  simp only[binOp]
  simp[h2]
 have h0:eqGuard .neq t x (.const .nilIface) (.iface u v) .nilIface=pure ():=rfl
 have hy:ev f (.const .nilIface)= .nilIface:=rfl
 simp only[execOp,hx,hy,h0]
 simp[h1]
theorem aMz{t t':TypeId}{x:Operand}(ht:ifB P t=true)(hx:ev f x= .nilIface):EV P β L f ⟨d,.binOp .neq t x (.const .nilIface) t',ty,ps,af,g⟩ (.bool false):=fun w _=>by
 obtain⟨ms,hu⟩:=aKm ht
 have h1:(binOp .neq t .nilIface .nilIface).run P w= .ok (.bool false) w:=by
  have h2:(Op.equal t .nilIface .nilIface).run P w= .ok true w:=by
   have h3:∀d,(Op.equalIn (d+1) t .nilIface .nilIface).run P w= .ok true w:=fun d=>by simp[Op.equalIn,run_underlying hu]
   exact h3 9999
  simp only[binOp]
  simp[h2]
 have h0:eqGuard .neq t x (.const .nilIface) .nilIface .nilIface=pure ():=eqGuard_nil_constR _ _ _ _
 have hy:ev f (.const .nilIface)= .nilIface:=rfl
 simp only[execOp,hx,hy,h0]
 simp[h1]
end
end Go.Sl
