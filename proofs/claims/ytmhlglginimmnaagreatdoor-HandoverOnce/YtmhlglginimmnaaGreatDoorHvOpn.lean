/-
  Own work; plain Lean (SlScope, JnDef, JnMem, JnOp, JnLaw, JnDig, JnLaw2, JnLaw3, HvJl, SlDef, HvRecs, SlOpen, HvOpn).
-/
import Derived.Test.YtmhlglginimmnaaGreatDoorSlSortF
import Derived.Scope
import Derived.ProofKit
import Derived.OpenShut
import Derived.Deep.Slices
import Derived.Test.YtmhlglginimmnaaGreatDoorProg
import Derived.SizedLaws
set_option linter.all false
namespace Go.Sl
section
variable {P:Program}{n:Nat}{ds:List Deferred}{β:Base}{Q:Exit→Act→World→Prop}{f:Fm}{L:List Res}
end
section
variable {P:Program}{β:Base}{f:Fm}{L:List Res}{d:Option Tmp}{ty:TypeId}{ps:String}{af:Array Edge}{g:Option (Nat×Bool)}{κ ν:Type}{K:MapK P κ ν}
theorem m_minsert{x y z:Operand}{t b:Nat}{ks:List (κ×ν)}{k:κ}{v:ν}(i:Nat)(ht:t=K.t)(hx:ev f x= .map (some b))(hy:ev f y=K.enc k)(hv:ev f z=K.encv v)(hi:L[i]? =some (mpR K b ks)):
  MU P β L f ⟨d,.insert t x y z,ty,ps,af,g⟩ (L.set i (mpR K b (K.put ks k v))):=fun w hw=>
 m_mput (d:=d) (ty:=ty) (ps:=ps) (af:=af) (g:=g) i ht hx hy hv hi w hw
end
end Go.Sl
namespace Go.Jn
open Go.Sl
def mixU(z:UInt64):UInt64:=
 let z:=(z^^^z>>>30)*0xbf58476d1ce4e5b9
 let z:=(z^^^z>>>27)*0x94d049bb133111eb
 z^^^z>>>31
def chainU(d w:UInt64):UInt64:=mixU (d*0x9e3779b97f4a7c15+w+1)
def tickU(t:Int):UInt64:=chainU 0 (U t)
def seqF(h:UInt64)(xs:List UInt64):UInt64:=xs.foldl (fun h w=>h*0x9e3779b97f4a7c15+w+1) h
def seqU(xs:List UInt64):UInt64:=mixU (seqF 0 xs)
theorem seqF_snoc(h:UInt64)(xs:List UInt64)(x:UInt64):seqF h (xs++[x])=seqF h xs*0x9e3779b97f4a7c15+x+1:=by simp[seqF]
def wordsB(s:ByteArray):List UInt64:=s.data.toList.map UInt8.toUInt64
def nameU(bs:Bs):UInt64:=seqU (wordsB (str bs))
def wordF(h:UInt64)(bs:Bs):UInt64:=bs.foldl (fun n x=>(n<<<8)|||x.toUInt64) h
def wordU(bs:Bs):UInt64:=wordF 0 bs
theorem wordF_snoc(h:UInt64)(bs:Bs)(x:UInt8):wordF h (bs++[x])=(wordF h bs<<<8)|||x.toUInt64:=by simp[wordF]
def be:Nat→UInt64→Bs
 |0,_=>[]
 |k+1,n=>(n>>>UInt64.ofNat (8*k)).toUInt8::be k n
theorem be_length:∀(k:Nat) (n:UInt64),(be k n).length=k
 |0,_=>rfl
 |k+1,n=>by simp[be,be_length k n]
def chkU(e n:Int)(bs:Bs):UInt64:=chainU (chainU (nameU bs) (U n)) (U e)
def formB(e n:Int)(bs:Bs):Bs:=be 4 (U (bs.length:Int))++be 4 (~~~(U (bs.length:Int)))++be 8 (U n)++bs++be 8 (chkU e n bs)
theorem formB_length(e n:Int)(bs:Bs):(formB e n bs).length=24+bs.length:=by simp[formB,be_length];omega
def rsz(xs:Bs):UInt64:=wordU (xs.take 4)
def rin(xs:Bs):UInt64:=wordU ((xs.take 8).drop 4)
def rno(xs:Bs):UInt64:=wordU ((xs.take 16).drop 8)
def rbad(xs:Bs):Prop:=((xs.length:Nat):Int)<(24:Int)∨(((rsz xs^^^rin xs).toNat:Int)≠(4294967295:Int))∨(65536:Int)<((rsz xs).toNat:Int)∨((xs.length:Nat):Int)-(24:Int)<(((rsz xs).toNat:Nat):Int)∨(4611686018427387904:Int)<((rno xs).toNat:Int)
instance (xs:Bs):Decidable (rbad xs):=by unfold rbad;infer_instance
def rpl(xs:Bs):Bs:=(xs.take (16+(rsz xs).toNat)).drop 16
def rsum(xs:Bs):UInt64:=wordU ((xs.take (24+(rsz xs).toNat)).drop (16+(rsz xs).toNat))
def recN(xs:Bs):Nat:=if rbad xs then 0 else(rno xs).toNat
def recP(xs:Bs):Bs:=if rbad xs then []else rpl xs
def recB(e:Int)(xs:Bs):Bool:=if rbad xs then false else decide (rsum xs=chkU e ((rno xs).toNat:Int) (rpl xs))
def recA(a:Option Addr)(c:Nat)(xs:Bs):Option Addr:=if rbad xs then none else adv a c 16 1
def recC(c:Nat)(xs:Bs):Nat:=if rbad xs then 0 else c-16
theorem recP_len{e:Int}{xs:Bs}(h:recB e xs=true):24+(recP xs).length≤xs.length:=by
 unfold recB recP at*
 by_cases hb:rbad xs
 ·rw[if_pos hb]at h;cases h
 ·rw[if_neg hb]
  unfold rbad at hb
  simp only[not_or,Int.not_lt]at hb
  simp[rpl];omega
theorem recP_small{xs:Bs}:(recP xs).length≤65536:=by
 unfold recP
 by_cases hb:rbad xs
 ·rw[if_pos hb];simp
 ·rw[if_neg hb]
  unfold rbad at hb
  simp only[not_or,Int.not_lt]at hb
  simp[rpl];omega
theorem recN_small{xs:Bs}:recN xs≤4611686018427387904:=by
 unfold recN
 by_cases hb:rbad xs
 ·rw[if_pos hb];omega
 ·rw[if_neg hb]
  unfold rbad at hb
  simp only[not_or,Int.not_lt]at hb
  omega
theorem rec_elems{h:PHeap}{a:Option Addr}{c:Nat}{xs:Bs}(hc:xs.length≤c)(he:Elems U8R h a xs):Elems U8R h (recA a c xs) (recP xs):=by
 unfold recA recP
 by_cases hb:rbad xs
 ·rw[if_pos hb,if_pos hb];intro j x hx;simp at hx
 ·rw[if_neg hb,if_neg hb]
  have hb':=hb
  unfold rbad at hb'
  simp only[not_or,Int.not_lt]at hb'
  exact Elems.drop 16 (by simp;omega) (Elems.take _ he)
theorem rec_cap{c:Nat}{xs:Bs}(hc:xs.length≤c):(recP xs).length≤recC c xs:=by
 unfold recP recC
 by_cases hb:rbad xs
 ·rw[if_pos hb,if_pos hb];simp
 ·rw[if_neg hb,if_neg hb]
  unfold rbad at hb
  simp only[not_or,Int.not_lt]at hb
  simp[rpl];omega
theorem rec_sl{h:PHeap}{a:Option Addr}{c:Nat}{xs:Bs}(hc:xs.length≤c)(hm:c≤9223372036854775807)(he:Elems U8R h a xs):Sl U8R h (.slice (recA a c xs) (recP xs).length (recC c xs)) (recP xs):=
 ⟨_,_,rfl,rec_cap hc,by unfold recC;split<;>omega,rec_elems hc he⟩
def parse(e:Int):Nat→Nat→Bs→List Bs
 |0,_,_=>[]
 |f+1,n,xs=>if recB e xs=true∧recN xs=n∧n≠4611686018427387904 then recP xs::parse e f (n+1) (xs.drop (24+(recP xs).length))else []
structure KS where
 head:Bs
 a:Bs
 b:Bs
 power:Int
 deriving DecidableEq
structure KI where
 epoch:Nat
 next:Nat
 state:Bs
 recs:List Bs
 size:Nat
 deriving DecidableEq
def KS.area(k:KS)(e:Nat):Bs:=if e%2=0 then k.a else k.b
def KS.setArea(k:KS)(e:Nat)(xs:Bs):KS:=if e%2=0 then{k with a:=xs}else{k with b:=xs}
def KS.okP(k:KS):Prop:=(k.head.length=0∨k.head.length=32)∧k.a.length≤262144∧k.b.length≤262144∧-1≤k.power
instance (k:KS):Decidable k.okP:=by unfold KS.okP;infer_instance
def epStep(best:UInt64)(k:Nat)(head:Bs):UInt64:=
 let n:=wordU ((head.take (k*16+8)).drop (k*16))
 let s:=wordU ((head.take (k*16+16)).drop (k*16+8))
 if best<n∧n<4611686018427387904∧n%2=U (((k*16)/16:Nat):Int)∧s=tickU (n.toNat:Int)then n else best
def epLoop(head:Bs):Nat→UInt64
 |0=>0
 |k+1=>epStep (epLoop head k) k head
theorem epLoop_lt(head:Bs):∀j,(epLoop head j).toNat<4611686018427387904
 |0=>by show(0:UInt64).toNat<_;decide
 |j+1=>by
  unfold epLoop epStep
  simp only
  split
  ·rename_i h;exact h.2.1
  ·exact epLoop_lt head j
theorem ep_yes{xs:Bs}{j:Nat}(h1:((epLoop xs j).toNat:Int)<((wordU ((xs.take (j*16+8)).drop (j*16))).toNat:Int))(h2:((wordU ((xs.take (j*16+8)).drop (j*16))).toNat:Int)<(4611686018427387904:Int))
 (h3:((wordU ((xs.take (j*16+8)).drop (j*16))%(2:UInt64)).toNat:Int)=((U ((((j*16)/16:Nat):Int))).toNat:Int))(h4:((wordU ((xs.take (j*16+16)).drop (j*16+8))).toNat:Int)=((tickU (((wordU ((xs.take (j*16+8)).drop (j*16))).toNat:Nat):Int)).toNat:Int)):
  epLoop xs (j+1)=wordU ((xs.take (j*16+8)).drop (j*16)):=by
 have c1:epLoop xs j<wordU ((xs.take (j*16+8)).drop (j*16)):=UInt64.lt_iff_toNat_lt.2 (by omega)
 have c2:wordU ((xs.take (j*16+8)).drop (j*16))<4611686018427387904:=UInt64.lt_iff_toNat_lt.2 (by
  have h3:(4611686018427387904:UInt64).toNat=4611686018427387904:=rfl
  omega)
 have c3:=UInt64.toNat_inj.1 (Int.ofNat_inj.1 h3)
 have c4:=UInt64.toNat_inj.1 (Int.ofNat_inj.1 h4)
 show epStep _ _ _=_
 unfold epStep
 exact if_pos ⟨c1,c2,c3,c4⟩
theorem ep_no0{xs:Bs}{j:Nat}(h1:¬((epLoop xs j).toNat:Int)<((wordU ((xs.take (j*16+8)).drop (j*16))).toNat:Int)):epLoop xs (j+1)=epLoop xs j:=by
 rw[epLoop,epStep,if_neg]
 intro h;have:=UInt64.lt_iff_toNat_lt.1 h.1;omega
theorem ep_no1{xs:Bs}{j:Nat}(h2:¬((wordU ((xs.take (j*16+8)).drop (j*16))).toNat:Int)<(4611686018427387904:Int)):epLoop xs (j+1)=epLoop xs j:=by
 rw[epLoop,epStep,if_neg]
 intro h;have h1:=UInt64.lt_iff_toNat_lt.1 h.2.1
 have h3:(4611686018427387904:UInt64).toNat=4611686018427387904:=rfl
 omega
theorem ep_no2{xs:Bs}{j:Nat}(h3:¬((wordU ((xs.take (j*16+8)).drop (j*16))%(2:UInt64)).toNat:Int)=((U ((((j*16)/16:Nat):Int))).toNat:Int)):epLoop xs (j+1)=epLoop xs j:=by
 rw[epLoop,epStep,if_neg]
 intro h;exact h3 (by rw[h.2.2.1])
theorem ep_no3{xs:Bs}{j:Nat}(h4:¬((wordU ((xs.take (j*16+16)).drop (j*16+8))).toNat:Int)=((tickU (((wordU ((xs.take (j*16+8)).drop (j*16))).toNat:Nat):Int)).toNat:Int)):epLoop xs (j+1)=epLoop xs j:=by
 rw[epLoop,epStep,if_neg]
 intro h;exact h4 (by rw[h.2.2.2])
def epochF(head:Bs):Nat:=(epLoop head (head.length/16)).toNat
def sizes:List Bs→Nat
 |[]=>0
 |r::l=>24+r.length+sizes l
def recsF(e:Nat)(n:Nat)(xs:Bs):List Bs:=parse (e:Int) (xs.length+1) n xs
def readI(k:KS):Option KI:=
 let e:=epochF k.head
 let ar:=k.area e
 if e=0 then some ⟨0,recsF 0 0 ar|>.length,[],recsF 0 0 ar,sizes (recsF 0 0 ar)⟩
 else if recB e ar=true then
  let sz:=24+(recP ar).length
  let rs:=recsF e (recN ar) (ar.drop sz)
  some ⟨e,recN ar+rs.length,recP ar,rs,sz+sizes rs⟩
 else none
def wr(xs:Bs)(at_:Nat):Bs→Bs
 |[]=>xs
 |b::bs=>wr (if at_<xs.length then xs.set at_ b else xs++[b]) (at_+1) bs
def pw(p:Int)(m:Nat):Nat:=if p<0 then m else min p.toNat m
def pl(p:Int)(m:Nat):Int:=if p<0 then p else p-(min p.toNat m:Nat)
end Go.Jn
namespace Go.Jn
open Go.Sl
abbrev stCells(pH pA pB:Option Addr)(cH cA cB:Nat)(k:KS):Array Value:= #[.slice pH k.head.length cH,.slice pA k.a.length cA,.slice pB k.b.length cB,Ix k.power]
abbrev stL(S:Nat)(pH pA pB:Option Addr)(cH cA cB:Nat)(k:KS):List Res:=
 [pt S (.cells (stCells pH pA pB cH cA cB k) 60),row (.slice pH k.head.length cH) 5 1 k.head.length (BX k.head),row (.slice pA k.a.length cA) 5 1 k.a.length (BX k.a),row (.slice pB k.b.length cB) 5 1 k.b.length (BX k.b)]
def storeR(S:Nat)(k:KS):Res:=fun h=>∃pH pA pB cH cA cB,Sat (stL S pH pA pB cH cA cB k) h
theorem St.openStore{β:Base}{S:Nat}{k:KS}{M:List Res}{w:World}(h:St β (storeR S k::M) w):∃pH pA pB cH cA cB,St β (stL S pH pA pB cH cA cB k++M) w:=by
 obtain⟨ho,ht,hp,a,hd,hs,hs',p,q,h1,h2,h3,⟨pH,pA,pB,cH,cA,cB,hx⟩,h5⟩:=h
 exact⟨pH,pA,pB,cH,cA,cB,St.unbun ⟨ho,ht,hp,a,hd,hs,hs',p,q,h1,h2,h3,hx,h5⟩⟩
theorem St.closeStore{β:Base}{S:Nat}{pH pA pB:Option Addr}{cH cA cB:Nat}{k:KS}{M:List Res}{w:World}(h:St β (stL S pH pA pB cH cA cB k++M) w):St β (storeR S k::M) w:=
 h.merge fun _ h=>⟨pH,pA,pB,cH,cA,cB,h⟩
abbrev jCells(S:Nat)(ps pr:Option Addr)(cs cr:Nat)(i:KI)(dn:Bool):Array Value:=
 #[.pointer (some ⟨S,0,none⟩),Nx i.epoch,Nx i.next,.slice ps i.state.length cs,.slice pr i.recs.length cr,Nx i.size,.bool dn]
abbrev jL(J S:Nat)(ps pr:Option Addr)(cs cr:Nat)(i:KI)(dn:Bool):List Res:=
 [pt J (.cells (jCells S ps pr cs cr i dn) 120),row (.slice ps i.state.length cs) 5 1 i.state.length (BX i.state),recsR 22 pr cr i.recs]
def jourR(J S:Nat)(i:KI)(dn:Bool):Res:=fun h=>∃ps pr cs cr,Sat (jL J S ps pr cs cr i dn) h
theorem St.openJour{β:Base}{J S:Nat}{i:KI}{dn:Bool}{M:List Res}{w:World}(h:St β (jourR J S i dn::M) w):∃ps pr cs cr,St β (jL J S ps pr cs cr i dn++M) w:=by
 obtain⟨ho,ht,hp,a,hd,hs,hs',p,q,h1,h2,h3,⟨ps,pr,cs,cr,hx⟩,h5⟩:=h
 exact⟨ps,pr,cs,cr,St.unbun ⟨ho,ht,hp,a,hd,hs,hs',p,q,h1,h2,h3,hx,h5⟩⟩
theorem St.closeJour{β:Base}{J S:Nat}{ps pr:Option Addr}{cs cr:Nat}{i:KI}{dn:Bool}{M:List Res}{w:World}(h:St β (jL J S ps pr cs cr i dn++M) w):St β (jourR J S i dn::M) w:=
 h.merge fun _ h=>⟨ps,pr,cs,cr,h⟩
def chP:List PanicEntry:=[{v:= .iface 157 (.agg #[]),recovered:=false}]
def spendP(p:Int):Int:=if 0<p then p-1 else p
theorem wr_length{xs:Bs}:∀{bs:Bs} {at_:Nat},(wr xs at_ bs).length≤xs.length+bs.length
 |[],_=>by simp[wr]
 |b::bs,at_=>by
  unfold wr
  refine Nat.le_trans (wr_length (bs:=bs)) ?_
  split<;>simp<;>omega
theorem wr_snoc{xs:Bs}{b:UInt8}:∀{bs:Bs} {at_:Nat},wr xs at_ (bs++[b])=(if at_+bs.length<(wr xs at_ bs).length then(wr xs at_ bs).set (at_+bs.length) b else wr xs at_ bs++[b])
 |[],at_=>by simp[wr];rfl
 |c::bs,at_=>by
  show wr _ (at_+1) (bs++[b])=_
  rw[wr_snoc (bs:=bs)]
  simp only[wr,List.length_cons,show at_+1+bs.length=at_+(bs.length+1) by omega]
  rfl
theorem wr_take{xs bs:Bs}{at_ k:Nat}{b:UInt8}(h:bs[k]? =some b):wr xs at_ (bs.take (k+1))=(if at_+k<(wr xs at_ (bs.take k)).length then(wr xs at_ (bs.take k)).set (at_+k) b else wr xs at_ (bs.take k)++[b]):=by
 have hl:=(List.getElem?_eq_some_iff.1 h).1
 rw[take_succ h,wr_snoc]
 simp[Nat.min_eq_left (Nat.le_of_lt hl)]
theorem pw_step{p:Int}{k m:Nat}(h:k≤pw p m)(hk:k<m)(hp:pl p k≠0):k+1≤pw p m∧spendP (pl p k)=pl p (k+1):=by
 unfold pw pl spendP at*
 by_cases h0:p<0
 ·rw[if_pos h0]at h hp⊢
  rw[if_pos h0,if_pos h0]
  exact⟨by omega,if_neg (by omega)⟩
 ·rw[if_neg h0]at h hp⊢
  rw[if_neg h0,if_neg h0]
  refine⟨by omega,?_⟩
  split<;>omega
theorem pw_stop{p:Int}{k m:Nat}(h:k≤pw p m)(hk:k<m)(hp:pl p k=0):pw p m=k∧pl p m=0:=by
 unfold pw pl at*
 by_cases h0:p<0
 ·rw[if_pos h0]at hp;omega
 ·rw[if_neg h0]at h hp
  rw[if_neg h0,if_neg h0]
  omega
theorem pw_all{p:Int}{m k:Nat}(h:k≤pw p m)(hk:m≤k):pw p m=m∧k=m:=by
 unfold pw at*
 split at h<;>(constructor<;>(try split)<;>omega)
def wrA(xs:Bs)(p:Int)(at_:Nat)(bs:Bs):Bs:=wr xs at_ (bs.take (pw p bs.length))
def wrOk(p:Int)(bs:Bs):Prop:=pw p bs.length=bs.length
instance (p:Int)(bs:Bs):Decidable (wrOk p bs):=by unfold wrOk;infer_instance
def cutOk(xs:Bs)(p:Int)(size:Nat):Prop:=xs.length≤size∨p≠0
instance (xs:Bs)(p:Int)(size:Nat):Decidable (cutOk xs p size):=by unfold cutOk;infer_instance
def cutA(xs:Bs)(p:Int)(size:Nat):Bs:=if p=0 then xs else xs.take size
def cutP(xs:Bs)(p:Int)(size:Nat):Int:=if size<xs.length then spendP p else p
def wrS(k:KS)(e at_:Nat)(bs:Bs):KS:={k.setArea e (wrA (k.area e) k.power at_ bs)with power:=pl k.power bs.length}
def cutS(k:KS)(e size:Nat):KS:={k.setArea e (cutA (k.area e) k.power size)with power:=cutP (k.area e) k.power size}
def wrH(k:KS)(at_:Nat)(bs:Bs):KS:={k with head:=wrA k.head k.power at_ bs,power:=pl k.power bs.length}
def apS(k:KS)(i:KI)(bs:Bs):KS:=wrS k i.epoch i.size (formB i.epoch i.next bs)
def apOk(k:KS)(i:KI)(bs:Bs):Prop:=wrOk k.power (formB i.epoch i.next bs)
instance (k:KS)(i:KI)(bs:Bs):Decidable (apOk k i bs):=by unfold apOk;infer_instance
def ckI(i:KI)(bs:Bs):KI:={epoch:=i.epoch+1,next:=i.next,state:=bs,recs:=[],size:=24+bs.length}
def apI(i:KI)(bs:Bs):KI:={i with recs:=i.recs++[bs],size:=i.size+(formB i.epoch i.next bs).length,next:=i.next+1}
def copyB(e:Nat):Bs:=be 8 (U (e:Int))++be 8 (tickU (e:Int))
def ck1(k:KS)(e:Nat):KS:=cutS k e 0
def ck2(k:KS)(e n:Nat)(bs:Bs):KS:=wrS (ck1 k e) e 0 (formB e n bs)
def ck3(k:KS)(e n:Nat)(bs:Bs):KS:=let q:=ck2 k e n bs;if q.head.length=0 then{q with head:=List.replicate 32 0}else q
def ck4(k:KS)(e n:Nat)(bs:Bs):KS:=wrH (ck3 k e n bs) (e%2*16) (copyB e)
def ckOk1(k:KS)(e:Nat):Prop:=cutOk (k.area e) k.power 0
def ckOk2(k:KS)(e n:Nat)(bs:Bs):Prop:=wrOk (ck1 k e).power (formB e n bs)
def ckOk3(k:KS)(e n:Nat)(bs:Bs):Prop:=wrOk (ck3 k e n bs).power (copyB e)
instance (k:KS)(e:Nat):Decidable (ckOk1 k e):=by unfold ckOk1;infer_instance
instance (k:KS)(e n:Nat)(bs:Bs):Decidable (ckOk2 k e n bs):=by unfold ckOk2;infer_instance
instance (k:KS)(e n:Nat)(bs:Bs):Decidable (ckOk3 k e n bs):=by unfold ckOk3;infer_instance
def ckS(k:KS)(e n:Nat)(bs:Bs):KS:=if ckOk1 k e then(if ckOk2 k e n bs then ck4 k e n bs else ck2 k e n bs)else k
def ckOk(k:KS)(e n:Nat)(bs:Bs):Prop:=ckOk1 k e∧ckOk2 k e n bs∧ckOk3 k e n bs
instance (k:KS)(e n:Nat)(bs:Bs):Decidable (ckOk k e n bs):=by unfold ckOk;infer_instance
end Go.Jn
namespace Go.Jn
open Go.Sl
section
variable {P:Program}{ro:Option Nat}{n:Nat}{ds:List Deferred}{β:Base}{Q:Exit→Act→World→Prop}{f:Fm}{L:List Res}{ops:Array Oper}{rest:List Oper}
variable {d:Option Tmp}{ty:TypeId}{ps:String}{af:Array Edge}{g:Option (Nat×Bool)}
theorem c_openStore{c:Code}{S:Nat}{k:KS}{M:List Res}(hL:L=storeR S k::M)(K:∀pH pA pB cH cA cB,RunC P ro n ds β c Q f (stL S pH pA pB cH cA cB k++M)):RunC P ro n ds β c Q f L:=fun a w ha hw=>by
 subst hL
 obtain⟨pH,pA,pB,cH,cA,cB,h⟩:=St.openStore hw
 exact K pH pA pB cH cA cB a w ha h
theorem c_closeStore{c:Code}{S:Nat}{pH pA pB:Option Addr}{cH cA cB:Nat}{k:KS}{M:List Res}(hL:L=stL S pH pA pB cH cA cB k++M)(K:RunC P ro n ds β c Q f (storeR S k::M)):RunC P ro n ds β c Q f L:=fun a w ha hw=>by
 subst hL
 exact K a w ha (St.closeStore hw)
theorem f_closeStore{e:Exit}{S:Nat}{pH pA pB:Option Addr}{cH cA cB:Nat}{k:KS}{M:List Res}(hL:L=stL S pH pA pB cH cA cB k++M)(K:Fin n ds β Q e f (storeR S k::M)):Fin n ds β Q e f L:=fun a w ha hw=>by
 subst hL
 exact K a w ha (St.closeStore hw)
theorem m_appendRec{x y:Operand}{t T bytes b n2 c2 c:Nat}{p q:Option Addr}{xs:List Bs}{bs:Bs}{M:List Res}(hL:L=recsR T p c xs::row (.slice q n2 c2) 5 1 n2 (BX bs)::pt b (.cells #[.slice q n2 c2] T)::M)
 (hsl:slB P t T 1=true)(hel:elB P T 1 bytes=true)(hx:ev f x= .slice p xs.length c)(hy:ev f y= .slice (some ⟨b,0,none⟩) 1 1)(hby:(xs.length+1)*bytes≤140737488355328)(h63:xs.length+1≤140737488355328):
  MV P β L f ⟨d,.call ⟨.builtin .append,#[x,y],#[t,t]⟩,ty,ps,af,g⟩ (fun v' L'=>∃p' c',v'= .slice p' (xs++[bs]).length c'∧L'=recsR T p' c' (xs++[bs])::pt b (.cells #[.slice q n2 c2] T)::M):=fun w hw=>by
 subst hL
 obtain⟨us,hw1⟩:=hw.ex (r:=fun us h=>Sat [row (.slice p xs.length c) T 1 xs.length us,ins us xs] h)
 have hw2:=hw1.unbun
 have hk:Knows β (row (.slice p xs.length c) T 1 xs.length us::ins us xs::row (.slice q n2 c2) 5 1 n2 (BX bs)::pt b (.cells #[.slice q n2 c2] T)::M) (fun h=>Cs h (ba (some ⟨b,0,none⟩)) [.slice q n2 c2]):=
  k_pt 3 (cs:= #[.slice q n2 c2]) (vs:=[.slice q n2 c2]) rfl rfl
 obtain⟨v',w',L',g1,g2,p',c',rfl,rfl⟩:=m_append_w (P:=P) (ty:=ty) (ps:=ps) (af:=af) (g:=g) (d:=d) (m:=xs.length) (vs:=us) (n:=1) 0 hsl hel hx rfl hy (by rfl) hk (by rfl) (fun _=>rfl) (by unfold maxLen;omega) hby w hw2
 have e1:(xs++[bs]).length=xs.length+1:=by simp
 refine⟨_,w',_,g1,?_,p',c',by rw[e1],rfl⟩
 have g3:St β ([row (.slice p' (xs.length+1) c') T 1 (xs.length+1) (us++[.slice q n2 c2]),ins us xs,row (.slice q n2 c2) 5 1 n2 (BX bs)]++(pt b (.cells #[.slice q n2 c2] T)::M)) w':=g2
 refine St.merge g3 ?_
 rintro a ⟨a1,b1,hd,h1,h2,hr,a2,b2,hd2,h3,h4,hi,a3,b3,hd3,h5,h6,hr2,_⟩
 refine⟨us++[.slice q n2 c2],a1,b1,hd,h1,h2,by rw[e1];exact hr,b1,fun _=>none,fun _=> .inr rfl,Sub.refl _,fun _ _ h=>(by cases h),?_,trivial⟩
 exact ins_snoc (ins.mono _ _ _ _ h3 hi) (Sl.mono _ _ _ _ _ (h5.trans h4) (row_u8 hr2)) (shp.mono _ _ _ (h5.trans h4) (row_shp hr2))
end
def JF(J S:Nat)(i:KI)(dn:Bool):PHeap→Prop:=fun h=>∃ps pr cs cr,Cs h ⟨J,0,none⟩ (jCells S ps pr cs cr i dn).toList∧Sl U8R h (.slice ps i.state.length cs) i.state∧Sl BsR h (.slice pr i.recs.length cr) i.recs
theorem JF.mono(J S:Nat)(i:KI)(dn:Bool):Mono (JF J S i dn):=fun h h' hs ⟨ps,pr,cs,cr,h1,h2,h3⟩=>⟨ps,pr,cs,cr,Cs.mono _ _ _ _ hs h1,Sl.mono _ _ _ _ _ hs h2,Sl.mono _ _ _ _ _ hs h3⟩
theorem jour_jf{J S:Nat}{i:KI}{dn:Bool}{h:PHeap}(hr:jourR J S i dn h):JF J S i dn h:=by
 obtain⟨ps,pr,cs,cr,hx⟩:=hr
 have he:=hx.each
 obtain⟨a1,s1,r1⟩:=he _ (by simp[jL]:pt J (.cells (jCells S ps pr cs cr i dn) 120)∈jL J S ps pr cs cr i dn)
 obtain⟨a2,s2,r2⟩:=he _ (by simp[jL]:row (.slice ps i.state.length cs) 5 1 i.state.length (BX i.state)∈jL J S ps pr cs cr i dn)
 obtain⟨a3,s3,r3⟩:=he _ (by simp[jL]:recsR 22 pr cr i.recs∈jL J S ps pr cs cr i dn)
 exact⟨ps,pr,cs,cr,Cs.mono _ _ _ _ s1 (Cs.of_pt (o:=0) r1 rfl),Sl.mono _ _ _ _ _ s2 (row_u8 r2),Sl.mono _ _ _ _ _ s3 (recs_sl r3)⟩
theorem wrS_even{k:KS}{e at_:Nat}{bs:Bs}(h:e%2=0):{k with a:=wrA k.a k.power at_ bs,power:=pl k.power bs.length}=wrS k e at_ bs:=by simp[wrS,KS.setArea,KS.area,h]
theorem wrS_odd{k:KS}{e at_:Nat}{bs:Bs}(h:e%2=1):{k with b:=wrA k.b k.power at_ bs,power:=pl k.power bs.length}=wrS k e at_ bs:=by simp[wrS,KS.setArea,KS.area,h]
theorem cutS_even{k:KS}{e size:Nat}(h:e%2=0):{k with a:=cutA k.a k.power size,power:=cutP k.a k.power size}=cutS k e size:=by simp[cutS,KS.setArea,KS.area,h]
theorem cutS_odd{k:KS}{e size:Nat}(h:e%2=1):{k with b:=cutA k.b k.power size,power:=cutP k.b k.power size}=cutS k e size:=by simp[cutS,KS.setArea,KS.area,h]
theorem area_even{k:KS}{e:Nat}(h:e%2=0):k.area e=k.a:=if_pos h
theorem area_odd{k:KS}{e:Nat}(h:e%2=1):k.area e=k.b:=if_neg (by omega)
def KS.fits(k:KS)(m:Nat):Prop:=k.head.length≤1048576∧k.a.length≤m∧k.b.length≤m∧k.power≤9223372036854775807
theorem KS.fits.le{k:KS}{m m':Nat}(h:k.fits m)(hm:m≤m'):k.fits m':=⟨h.1,by have:=h.2.1;omega,by have:=h.2.2.1;omega,h.2.2.2⟩
theorem KS.fits.wr{k:KS}{m e at_:Nat}{bs:Bs}(h:k.fits m):(wrS k e at_ bs).fits (m+bs.length):=by
 have h1:∀xs:Bs,xs.length≤m→(wrA xs k.power at_ bs).length≤m+bs.length:=fun xs hx=>by
  unfold wrA
  refine Nat.le_trans wr_length ?_
  simp;omega
 have hp:pl k.power bs.length≤k.power:=by unfold pl;split<;>omega
 unfold wrS KS.setArea KS.area
 obtain⟨a,b,c,d⟩:=h
 split<;>rename_i hh<;>simp only[hh,if_true]<;>exact⟨a,by first|(simp;omega)|(have:=h1 k.a b;omega),by first|(simp;omega)|(have:=h1 k.b c;omega),by show pl _ _≤_;omega⟩
theorem KS.fits.cut{k:KS}{m e size:Nat}(h:k.fits m):(cutS k e size).fits m:=by
 have h1:∀xs:Bs,xs.length≤m→(cutA xs k.power size).length≤m:=fun xs hx=>by
  unfold cutA;split
  ·exact hx
  ·simp;omega
 have hp:∀xs,cutP xs k.power size≤k.power:=fun xs=>by unfold cutP spendP;split<;>(try split)<;>omega
 unfold cutS KS.setArea KS.area
 obtain⟨a,b,c,d⟩:=h
 split<;>rename_i hh<;>simp only[hh,if_true]<;>exact⟨a,by first|(have:=h1 k.a b;omega)|exact b,by first|(have:=h1 k.b c;omega)|exact c,by first|(have:=hp k.a;show cutP _ _ _≤_;omega)|(have:=hp k.b;show cutP _ _ _≤_;omega)⟩
theorem fits_head{k:KS}{m:Nat}{x:Bs}(h:k.fits m)(hx:x.length≤1048576):({k with head:=x}:KS).fits m:=⟨hx,h.2.1,h.2.2.1,h.2.2.2⟩
end Go.Jn
namespace Go.Jn
open Go.Sl
structure KOp where
 kind:UInt8
 power:UInt8
 body:Bs
structure KC where
 epoch:Nat
 next:Nat
 state:ByteArray
 recs:List ByteArray
def isP(c:KC)(i:KI):Prop:=i.epoch=c.epoch∧i.next=c.next∧str i.state=c.state∧i.recs.map str=c.recs
instance (c:KC)(i:KI):Decidable (isP c i):=by unfold isP;infer_instance
end Go.Jn
namespace Go.Jn
open Go.Sl
def natB(bs:Bs):Nat:=bs.foldl (fun n x=>n*256+x.toNat) 0
theorem natB_go(h:Nat):∀bs:Bs,bs.foldl (fun n x=>n*256+x.toNat) h=h*256^bs.length+natB bs
 |[]=>by simp[natB]
 |x::bs=>by
  have h1:=natB_go (h*256+x.toNat) bs
  have h2:=natB_go (0*256+x.toNat) bs
  simp only[List.foldl_cons,natB,List.length_cons]at*
  rw[h1,h2,Nat.pow_succ,Nat.add_mul]
  simp only[Nat.zero_mul,Nat.zero_add]
  rw[Nat.mul_assoc h,Nat.mul_comm 256]
  omega
theorem natB_cons(x:UInt8)(bs:Bs):natB (x::bs)=x.toNat*256^bs.length+natB bs:=by
 have:=natB_go (0*256+x.toNat) bs
 simpa[natB]using this
theorem natB_lt:∀bs:Bs,natB bs<256^bs.length
 |[]=>by simp[natB]
 |x::bs=>by
  rw[natB_cons,List.length_cons,Nat.pow_succ]
  have h1:=natB_lt bs
  have h2:=x.toNat_lt
  have h3:x.toNat*256^bs.length≤255*256^bs.length:=Nat.mul_le_mul_right _ (by omega)
  omega
theorem word_step{h:UInt64}{x:UInt8}(hh:h.toNat<72057594037927936):((h<<<8)|||x.toUInt64).toNat=h.toNat*256+x.toNat:=by
 have h2:=x.toNat_lt
 have e1:(h<<<(8:UInt64)).toNat=h.toNat<<<8:=by
  rw[UInt64.toNat_shiftLeft]
  simp only[UInt64.reduceToNat,Nat.reduceMod,Nat.shiftLeft_eq]
  omega
 rw[UInt64.toNat_or,e1]
 have e2:x.toUInt64.toNat=x.toNat:=by simp
 rw[e2,←Nat.shiftLeft_add_eq_or_of_lt (by omega),Nat.shiftLeft_eq]
theorem wordF_nat:∀(bs:Bs) (h:UInt64),h.toNat*256^bs.length+natB bs<18446744073709551616→(wordF h bs).toNat=h.toNat*256^bs.length+natB bs
 |[],h,_=>by simp[wordF,natB]
 |x::bs,h,hlt=>by
  rw[natB_cons,List.length_cons,Nat.pow_succ]at hlt
  have hp:0<256^bs.length:=Nat.pow_pos (by decide)
  have h1:h.toNat<72057594037927936:=by
   have:h.toNat*(256^bs.length*256)=h.toNat*256*256^bs.length:=by rw[Nat.mul_comm (256^bs.length),Nat.mul_assoc]
   have h3:h.toNat*256*1≤h.toNat*256*256^bs.length:=Nat.mul_le_mul_left _ hp
   omega
  have e:=word_step (x:=x) h1
  have ih:=wordF_nat bs ((h<<<8)|||x.toUInt64) (by
   rw[e,Nat.add_mul,Nat.mul_assoc,Nat.mul_comm 256];omega)
  show(wordF ((h<<<8)|||x.toUInt64) bs).toNat=_
  rw[ih,e,natB_cons,List.length_cons,Nat.pow_succ,Nat.add_mul,Nat.mul_assoc,Nat.mul_comm 256]
  omega
theorem wordU_nat{bs:Bs}(h:bs.length≤8):(wordU bs).toNat=natB bs:=by
 have h1:=natB_lt bs
 have h2:256^bs.length≤256^8:=Nat.pow_le_pow_right (by decide) h
 have:=wordF_nat bs 0 (by simp only[UInt64.reduceToNat,Nat.zero_mul,Nat.zero_add];omega)
 simpa[wordU]using this
theorem natB_be:∀(k:Nat) (n:UInt64),k≤8→natB (be k n)=n.toNat%256^k
 |0,n,_=>by simp[be,natB,Nat.mod_one]
 |k+1,n,hk=>by
  have ih:=natB_be k n (by omega)
  have h8:(UInt64.ofNat (8*k)).toNat%64=8*k:=by simp;omega
  have hs:((n>>>UInt64.ofNat (8*k)).toUInt8).toNat=(n.toNat/256^k)%256:=by
   rw[UInt64.toNat_toUInt8,UInt64.toNat_shiftRight,h8,Nat.shiftRight_eq_div_pow,Nat.pow_mul]
  rw[be,natB_cons,ih,be_length,hs,Nat.pow_succ,Nat.mod_mul]
  rw[Nat.mul_comm]
  omega
theorem wordU_be8(n:UInt64):wordU (be 8 n)=n:=by
 apply UInt64.toNat_inj.1
 rw[wordU_nat (by simp[be_length]),natB_be 8 n (by omega)]
 exact Nat.mod_eq_of_lt (by have:=n.toNat_lt;simpa using this)
theorem wordU_be4(n:UInt64):(wordU (be 4 n)).toNat=n.toNat%4294967296:=by
 rw[wordU_nat (by simp[be_length]),natB_be 4 n (by omega)]
theorem xor_comp{x:UInt64}(h:x.toNat<4294967296):(x^^^wordU (be 4 (~~~x)))=4294967295:=by
 have e1:wordU (be 4 (~~~x))= ~~~x%4294967296:=by
  apply UInt64.toNat_inj.1
  rw[wordU_be4,UInt64.toNat_mod]
  rfl
 rw[e1]
 have e2: ~~~x%4294967296= ~~~x&&&4294967295:=by
  apply UInt64.toNat_inj.1
  rw[UInt64.toNat_mod,UInt64.toNat_and]
  show _%2^32=_&&&(2^32-1)
  rw[Nat.and_two_pow_sub_one_eq_mod]
 rw[e2]
 have e3:x&&&4294967295=x:=by
  apply UInt64.toNat_inj.1
  rw[UInt64.toNat_and]
  show _&&&(2^32-1)=_
  rw[Nat.and_two_pow_sub_one_eq_mod]
  exact Nat.mod_eq_of_lt h
 conv=>lhs;lhs;rw[←e3]
 apply UInt64.toBitVec_inj.1
 simp only[UInt64.toBitVec_xor,UInt64.toBitVec_and,UInt64.toBitVec_not]
 ext i hi
 simp only[BitVec.getElem_xor,BitVec.getElem_and,BitVec.getElem_not]
 cases x.toBitVec[i]<;>simp
end Go.Jn
namespace Go.Jn
open Go.Sl
theorem U_toNat{n:Nat}(h:n<18446744073709551616):(U (n:Int)).toNat=n:=by
 have h1:=ux_of (n:Int)
 rw[u64w]at h1
 omega
end Go.Jn
namespace Go.Jn
open Go.Sl
theorem tk{a b:Bs}{k:Nat}(h:a.length=k):(a++b).take k=a:=by rw[←h];simp
theorem dr{a b:Bs}{k:Nat}(h:a.length=k):(a++b).drop k=b:=by rw[←h];simp
theorem rec_parts{A B C p D rest:Bs}(hA:A.length=4)(hB:B.length=4)(hC:C.length=8)(hD:D.length=8):
  rsz (A++B++C++p++D++rest)=wordU A∧rin (A++B++C++p++D++rest)=wordU B∧rno (A++B++C++p++D++rest)=wordU C∧
  ((wordU A).toNat=p.length→rpl (A++B++C++p++D++rest)=p∧rsum (A++B++C++p++D++rest)=wordU D):=by
 have e0:(A++B++C++p++D++rest).take 4=A:=by simp only[List.append_assoc];exact tk hA
 have e1:rsz (A++B++C++p++D++rest)=wordU A:=by rw[rsz,e0]
 refine⟨e1,?_,?_,fun hl=>⟨?_,?_⟩⟩
 ·rw[rin,List.drop_take,show(8:Nat)-4=4 from rfl]
  simp only[List.append_assoc]
  rw[dr hA,tk hB]
 ·rw[rno,List.drop_take,show(16:Nat)-8=8 from rfl]
  rw[show A++B++C++p++D++rest=(A++B)++(C++(p++(D++rest))) by simp,dr (by simp[hA,hB]),tk hC]
 ·rw[rpl,e1,hl,List.drop_take,show 16+p.length-16=p.length by omega]
  rw[show A++B++C++p++D++rest=(A++B++C)++(p++(D++rest)) by simp,dr (by simp[hA,hB,hC]),tk rfl]
 ·rw[rsum,e1,hl,List.drop_take,show 24+p.length-(16+p.length)=8 by omega]
  rw[show A++B++C++p++D++rest=(A++B++C++p)++(D++rest) by simp,dr (by simp[hA,hB,hC];omega),tk hD]
theorem form_eq(e n:Int)(p:Bs):formB e n p=be 4 (U (p.length:Int))++be 4 (~~~(U (p.length:Int)))++be 8 (U n)++p++be 8 (chkU e n p):=rfl
theorem rec_form{e:Int}{n:Nat}{p rest:Bs}(hp:p.length≤65536)(hn:n≤4611686018427387904):recB e (formB e n p++rest)=true∧recN (formB e n p++rest)=n∧recP (formB e n p++rest)=p:=by
 have hU:(U (p.length:Int)).toNat=p.length:=U_toNat (by omega)
 have hs:wordU (be 4 (U (p.length:Int)))=U (p.length:Int):=by
  apply UInt64.toNat_inj.1
  rw[wordU_be4,hU];omega
 have h:=rec_parts (A:=be 4 (U (p.length:Int))) (B:=be 4 (~~~(U (p.length:Int)))) (C:=be 8 (U n)) (p:=p) (D:=be 8 (chkU e n p)) (rest:=rest) (be_length _ _) (be_length _ _) (be_length _ _) (be_length _ _)
 rw[←form_eq]at h
 obtain⟨h1,h2,h3,h4⟩:=h
 obtain⟨h5,h6⟩:=h4 (by rw[hs,hU])
 rw[hs]at h1
 rw[wordU_be8]at h3 h6
 have hno:(U (n:Int)).toNat=n:=U_toNat (by omega)
 have hok:¬rbad (formB e n p++rest):=by
  unfold rbad
  rw[h1,h2,h3,hU,hno,xor_comp (by rw[hU];omega)]
  have hl:(formB e n p++rest).length=24+p.length+rest.length:=by simp[formB_length]
  rw[hl]
  have h7:((4294967295:UInt64).toNat:Int)=4294967295:=rfl
  omega
 refine⟨?_,?_,?_⟩
 ·rw[recB,if_neg hok,h6,h3,h5,hno];simp
 ·rw[recN,if_neg hok,h3,hno]
 ·rw[recP,if_neg hok,h5]
theorem rec_torn{e e':Int}{n m:Nat}{p:Bs}(hp:p.length≤65536)(hm:m<24+p.length):recB e' ((formB e n p).take m)=false:=by
 have hb:rbad ((formB e n p).take m):=by
  unfold rbad
  have hlen:((formB e n p).take m).length=m:=by simp[formB_length];omega
  rw[hlen]
  by_cases h24:m<24
  ·left;omega
  ·have hU:(U (p.length:Int)).toNat=p.length:=U_toNat (by omega)
   have hs:rsz ((formB e n p).take m)=U (p.length:Int):=by
    rw[rsz,List.take_take,Nat.min_eq_left (by omega)]
    have:(formB e n p).take 4=be 4 (U (p.length:Int)):=by
     simp only[formB,List.append_assoc];exact tk (be_length _ _)
    rw[this]
    apply UInt64.toNat_inj.1
    rw[wordU_be4,hU];omega
   rw[hs,hU]
   right;right;right;left;omega
 rw[recB,if_pos hb]
theorem rec_nil(e:Int):recB e []=false:=by
 rw[recB,if_pos (.inl (by simp))]
end Go.Jn
namespace Go.Jn
open Go.Sl
def encR(e:Nat):Nat→List Bs→Bs
 |_,[]=>[]
 |n,r::rs=>formB e n r++encR e (n+1) rs
theorem encR_nil(e n:Nat):encR e n []=[]:=by rw[encR]
theorem encR_cons(e n:Nat)(r:Bs)(rs:List Bs):encR e n (r::rs)=formB e n r++encR e (n+1) rs:=by rw[encR]
theorem encR_length(e:Nat)(rs:List Bs):∀n:Nat,(encR e n rs).length=sizes rs:=by
 induction rs with
 |nil=>intro n;rw[encR_nil,sizes];rfl
 |cons r rs ih=>intro n;rw[encR_cons,List.length_append,formB_length,ih (n+1),sizes]
theorem encR_snoc(e:Nat)(b:Bs)(rs:List Bs):∀n:Nat,encR e n (rs++[b])=encR e n rs++formB e ((n+rs.length:Nat):Int) b:=by
 induction rs with
 |nil=>intro n;rw[List.nil_append,encR_cons,encR_nil,encR_nil,List.append_nil,List.nil_append,List.length_nil,Nat.add_zero]
 |cons r rs ih=>intro n;rw[List.cons_append,encR_cons,ih (n+1),encR_cons,List.append_assoc,List.length_cons,show n+1+rs.length=n+(rs.length+1) by omega]
theorem parse_one{e n f:Nat}{r tail:Bs}(hr:r.length≤65536)(hn:n<4611686018427387904):parse e (f+1) n (formB e n r++tail)=r::parse e f (n+1) tail:=by
 have h1:=rec_form (e:=e) (n:=n) (p:=r) (rest:=tail) hr (by omega)
 have e2:(formB e n r++tail).drop (24+r.length)=tail:=dr (formB_length _ _ _)
 rw[parse,if_pos ⟨h1.1,h1.2.1,by omega⟩,h1.2.2,e2]
theorem parse_enc{e:Nat}(rs:List Bs):∀(n f:Nat) (tail:Bs),(∀b∈rs,b.length≤65536)→n+rs.length≤4611686018427387904→recB e tail=false→rs.length<f→parse e f n (encR e n rs++tail)=rs:=by
 induction rs with
 |nil=>
  intro n f tail _ _ ht hf
  obtain⟨f,rfl⟩:∃g,f=g+1:=⟨f-1,by simp at hf;omega⟩
  rw[encR_nil,List.nil_append,parse,if_neg (by rw[ht];simp)]
 |cons r rs ih=>
  intro n f tail hb hn ht hf
  obtain⟨f,rfl⟩:∃g,f=g+1:=⟨f-1,by simp at hf;omega⟩
  simp only[List.length_cons]at hn hf
  have e1:encR e n (r::rs)++tail=formB e n r++(encR e (n+1) rs++tail):=by rw[encR_cons,List.append_assoc]
  rw[e1,parse_one (hb r (by simp)) (by omega),ih (n+1) f tail (fun b hb'=>hb b (by simp[hb'])) (by omega) ht (by omega)]
def encI(i:KI):Bs:=(if i.epoch=0 then []else formB i.epoch ((i.next-i.recs.length:Nat):Int) i.state)++encR i.epoch (i.next-i.recs.length) i.recs
structure WF(i:KI):Prop where
 size:i.size=(encI i).length
 next:i.recs.length≤i.next
 zero:i.epoch=0→i.state=[]∧i.next=i.recs.length
 big:i.next≤4611686018427387904
 state:i.state.length≤65536
 recs:∀b∈i.recs,b.length≤65536
theorem recsF_enc{e n:Nat}{rs:List Bs}{tail:Bs}(hb:∀b∈rs,b.length≤65536)(hn:n+rs.length≤4611686018427387904)(ht:recB e tail=false):recsF e n (encR e n rs++tail)=rs:=by
 refine parse_enc rs n _ tail hb hn ht ?_
 have h1:rs.length≤(encR e n rs).length:=by
  rw[encR_length]
  clear hb hn ht
  induction rs with
  |nil=>simp
  |cons a l ih=>simp only[List.length_cons,sizes];omega
 simp;omega
theorem read_enc{k:KS}{i:KI}{tail:Bs}(he:epochF k.head=i.epoch)(ha:k.area i.epoch=encI i++tail)(ht:recB i.epoch tail=false)(wf:WF i):readI k=some i:=by
 obtain⟨ep,nx,stt,rs,sz⟩:=i
 obtain⟨w1,w2,w3,w4,w5,w6⟩:=wf
 simp only at*
 unfold readI
 simp only[he,ha]
 by_cases h0:ep=0
 ·subst h0
  obtain⟨z1,z2⟩:=w3 rfl
  subst z1;subst z2
  have e1:encI ⟨0,rs.length,[],rs,sz⟩=encR 0 0 rs:=by simp[encI]
  rw[e1]at w1⊢
  rw[if_pos rfl,recsF_enc w6 (by omega) ht]
  rw[encR_length]at w1
  rw[w1]
 ·have e1:encI ⟨ep,nx,stt,rs,sz⟩=formB ep ((nx-rs.length:Nat):Int) stt++encR ep (nx-rs.length) rs:=by simp[encI,h0]
  rw[e1]at w1⊢
  rw[List.append_assoc]
  have h1:=rec_form (e:=ep) (n:=nx-rs.length) (p:=stt) (rest:=encR ep (nx-rs.length) rs++tail) w5 (by omega)
  have e2:(formB ep ((nx-rs.length:Nat):Int) stt++(encR ep (nx-rs.length) rs++tail)).drop (24+stt.length)=encR ep (nx-rs.length) rs++tail:=dr (formB_length _ _ _)
  rw[if_neg h0,if_pos h1.1,h1.2.1,h1.2.2,e2,recsF_enc w6 (by omega) ht]
  simp only[List.length_append,formB_length,encR_length]at w1
  rw[w1,show nx-rs.length+rs.length=nx by omega]
def hd4(m0:UInt64)(s0:Bs)(m1:UInt64)(s1:Bs):Bs:=be 8 m0++s0++(be 8 m1++s1)
def ok4(j m:UInt64)(s:Bs):Prop:=m<4611686018427387904∧m%2=j∧wordU s=tickU ((m.toNat:Nat):Int)
instance (j m:UInt64)(s:Bs):Decidable (ok4 j m s):=by unfold ok4;infer_instance
def ep4(b j m:UInt64)(s:Bs):UInt64:=if b<m∧ok4 j m s then m else b
theorem hd4_length{m0 m1:UInt64}{s0 s1:Bs}(h0:s0.length=8)(h1:s1.length=8):(hd4 m0 s0 m1 s1).length=32:=by simp[hd4,be_length,h0,h1]
theorem epoch_hd4{m0 m1:UInt64}{s0 s1:Bs}(h0:s0.length=8)(h1:s1.length=8):epochF (hd4 m0 s0 m1 s1)=(ep4 (ep4 0 0 m0 s0) 1 m1 s1).toNat:=by
 have hl:=hd4_length (m0:=m0) (m1:=m1) h0 h1
 have b0:=be_length 8 m0
 have b1:=be_length 8 m1
 have w0:wordU (((hd4 m0 s0 m1 s1).take (0*16+8)).drop (0*16))=m0:=by
  simp only[hd4,List.append_assoc]
  rw[show 0*16+8=8 from rfl,tk b0,show 0*16=0 from rfl,List.drop_zero,wordU_be8]
 have w1:((hd4 m0 s0 m1 s1).take (0*16+16)).drop (0*16+8)=s0:=by
  rw[List.drop_take]
  simp only[hd4,List.append_assoc]
  rw[show 0*16+8=8 from rfl,dr b0,show 0*16+16-8=8 from rfl,tk h0]
 have w2:wordU (((hd4 m0 s0 m1 s1).take (1*16+8)).drop (1*16))=m1:=by
  rw[List.drop_take]
  unfold hd4
  rw[show 1*16=16 from rfl,dr (by simp[b0,h0]),show 16+8-16=8 from rfl,tk b1,wordU_be8]
 have w3:((hd4 m0 s0 m1 s1).take (1*16+16)).drop (1*16+8)=s1:=by
  rw[List.drop_take,show hd4 m0 s0 m1 s1=(be 8 m0++s0++be 8 m1)++s1 by simp[hd4]]
  rw[show 1*16+8=24 from rfl,dr (by simp[b0,h0,b1]),show 1*16+16-24=8 from rfl,List.take_of_length_le (by omega)]
 unfold epochF
 rw[hl]
 show(epLoop _ 2).toNat=_
 rw[epLoop,epLoop,epLoop]
 unfold epStep
 simp only[w0,w1,w2,w3]
 have u0:U ((0*16/16:Nat):Int)=0:=by decide
 have u1:U ((1*16/16:Nat):Int)=1:=by decide
 rw[u0,u1]
 rfl
theorem be8_small:∀m:Fin 256,be 8 (U ((m.val:Nat):Int))=List.replicate 7 0++[UInt8.ofNat m.val]:=by decide+kernel
theorem be8_s{m:Nat}(h:m<256):be 8 (U (m:Int))=List.replicate 7 0++[UInt8.ofNat m]:=be8_small ⟨m,h⟩
theorem slot_part{m e q:Nat}{s t:Bs}(hm:m<256)(he:e<256)(hs:s.length=8)(ht:t.length=8)(hq:q≤16):
  ∃(m':Nat) (s':Bs),m'<256∧s'.length=8∧(be 8 (U (e:Int))++t).take q++(be 8 (U (m:Int))++s).drop q=be 8 (U (m':Int))++s'∧(m'=m∧s'=s∨m'=e)∧(q=16→m'=e∧s'=t):=by
 have b0:=be_length 8 (U (e:Int))
 have b1:=be_length 8 (U (m:Int))
 by_cases h8:q<8
 ·refine⟨m,s,hm,hs,?_,.inl ⟨rfl,rfl⟩,fun h=>by omega⟩
  rw[List.take_append_of_le_length (by omega),List.drop_append_of_le_length (by omega),be8_s hm,be8_s he]
  rw[List.take_append_of_le_length (by simp;omega),List.drop_append_of_le_length (by simp;omega),List.take_replicate,List.drop_replicate,←List.append_assoc,←List.append_assoc,List.replicate_append_replicate,Nat.min_eq_left (by omega),show q+(7-q)=7 by omega]
 ·refine⟨e,t.take (q-8)++s.drop (q-8),he,by simp[hs,ht];omega,?_,.inr rfl,fun h=>⟨rfl,?_⟩⟩
  ·rw[List.take_append,List.drop_append,List.take_of_length_le (by omega:(be 8 (U (e:Int))).length≤q),List.drop_of_length_le (by omega:(be 8 (U (m:Int))).length≤q),b0,b1]
   simp
  ·subst h
   rw[List.take_of_length_le (by omega),List.drop_of_length_le (by omega)];simp
theorem wr_full:∀{bs xs:Bs} {at_:Nat},at_+bs.length≤xs.length→wr xs at_ bs=xs.take at_++bs++xs.drop (at_+bs.length)
 |[],xs,at_,_=>by simp[wr]
 |b::bs,xs,at_,h=>by
  have hl:at_<xs.length:=by simp at h;omega
  rw[wr,if_pos hl,wr_full (by simp at h⊢;omega)]
  simp only[List.length_cons]
  rw[List.drop_set_of_lt (by omega),show at_+1+bs.length=at_+(bs.length+1) by omega]
  congr 1
  rw[List.take_add_one]
  rw[List.getElem?_set_self hl,List.take_set_of_le (by omega)]
  simp
theorem wr_end:∀{bs xs:Bs},wr xs xs.length bs=xs++bs
 |[],xs=>by simp[wr]
 |b::bs,xs=>by
  rw[wr,if_neg (by omega)]
  have:=wr_end (bs:=bs) (xs:=xs++[b])
  simp only[List.length_append,List.length_cons,List.length_nil]at this
  rw[this];simp
def HeadOk(head:Bs)(e:Nat):Prop:=(head=[]∧e=0)∨∃m0 s0 m1 s1,m0<256∧m1<256∧s0.length=8∧s1.length=8∧head=hd4 (U ((m0:Nat):Int)) s0 (U ((m1:Nat):Int)) s1∧epochF head=e
theorem HeadOk.epoch{head:Bs}{e:Nat}(h:HeadOk head e):epochF head=e:=by
 rcases h with⟨rfl,rfl⟩|⟨_,_,_,_,_,_,_,_,_,h⟩
 ·rfl
 ·exact h
theorem HeadOk.len{head:Bs}{e:Nat}(h:HeadOk head e):head.length=0∨head.length=32:=by
 rcases h with⟨rfl,rfl⟩|⟨_,_,_,_,_,_,h0,h1,rfl,_⟩
 ·left;rfl
 ·right;exact hd4_length h0 h1
theorem zero_head:HeadOk (List.replicate 32 0) 0:= .inr ⟨0,List.replicate 8 0,0,List.replicate 8 0,by decide,by decide,by decide,by decide,by decide+kernel,by decide+kernel⟩
theorem ux_lt{a b:UInt64}:a<b↔a.toNat<b.toNat:=UInt64.lt_iff_toNat_lt
theorem ep4_cases(b j m:UInt64)(s:Bs):(ep4 b j m s=m∧b<m∧ok4 j m s)∨(ep4 b j m s=b∧¬(b<m∧ok4 j m s)):=by
 unfold ep4
 split
 ·rename_i h;exact .inl ⟨rfl,h⟩
 ·rename_i h;exact .inr ⟨rfl,h⟩
theorem par_U{e:Nat}(h:e<256):(U (e:Int))%2=U ((e%2:Nat):Int):=by
 apply UInt64.toNat_inj.1
 rw[UInt64.toNat_mod,U_toNat (by omega),U_toNat (by omega)];rfl
theorem head_write{head:Bs}{e q:Nat}(h:HeadOk head e)(hl:head.length=32)(he:e+1<256)(hq:q≤16):
  (HeadOk (wr head ((e+1)%2*16) ((copyB (e+1)).take q)) e∨HeadOk (wr head ((e+1)%2*16) ((copyB (e+1)).take q)) (e+1))∧(q=16→HeadOk (wr head ((e+1)%2*16) ((copyB (e+1)).take q)) (e+1)):=by
 rcases h with⟨rfl,_⟩|⟨m0,s0,m1,s1,hm0,hm1,h0,h1,rfl,hep⟩
 ·simp at hl
 have ht:(be 8 (tickU ((e+1:Nat):Int))).length=8:=be_length _ _
 have hb:=be_length 8 (U ((e+1:Nat):Int))
 have hcl:((copyB (e+1)).take q).length=q:=by simp[copyB,be_length];omega
 rw[epoch_hd4 h0 h1]at hep
 have hUe:(U ((e+1:Nat):Int)).toNat=e+1:=U_toNat (by omega)
 have u62:(4611686018427387904:UInt64).toNat=4611686018427387904:=rfl
 have key0:ok4 0 (U ((m0:Nat):Int)) s0→(U ((m0:Nat):Int)).toNat≤e:=by
  intro ho
  rcases ep4_cases 0 0 (U ((m0:Nat):Int)) s0 with⟨q1,_⟩|⟨q1,q2⟩
  ·rcases ep4_cases (ep4 0 0 (U ((m0:Nat):Int)) s0) 1 (U ((m1:Nat):Int)) s1 with⟨r1,r2,_⟩|⟨r1,_⟩
   ·rw[q1]at r2;rw[r1]at hep;have:=ux_lt.1 r2;omega
   ·rw[r1,q1]at hep;omega
  ·have:¬(0:UInt64)<U ((m0:Nat):Int):=fun hlt=>q2 ⟨hlt,ho⟩
   have:=mt ux_lt.2 this
   simp at this
   omega
 have key1:ok4 1 (U ((m1:Nat):Int)) s1→(U ((m1:Nat):Int)).toNat≤e:=by
  intro ho
  rcases ep4_cases (ep4 0 0 (U ((m0:Nat):Int)) s0) 1 (U ((m1:Nat):Int)) s1 with⟨r1,_⟩|⟨r1,r2⟩
  ·rw[r1]at hep;omega
  ·rw[r1]at hep
   have:¬ep4 0 0 (U ((m0:Nat):Int)) s0<U ((m1:Nat):Int):=fun hlt=>r2 ⟨hlt,ho⟩
   have:=mt ux_lt.2 this
   omega
 rcases Nat.mod_two_eq_zero_or_one (e+1)with hp|hp
 ·
  obtain⟨m',s',hm',hs',hpart,hwhat,hall⟩:=slot_part (q:=q) hm0 he h0 ht hq
  have hw:wr (hd4 (U ((m0:Nat):Int)) s0 (U ((m1:Nat):Int)) s1) ((e+1)%2*16) ((copyB (e+1)).take q)=hd4 (U ((m':Nat):Int)) s' (U ((m1:Nat):Int)) s1:=by
   rw[wr_full (by rw[hcl,hp,hd4_length h0 h1];omega),hp,hcl]
   simp only[Nat.zero_mul,List.take_zero,List.nil_append,Nat.zero_add]
   unfold hd4
   rw[List.drop_append_of_le_length (by simp[be_length,h0];omega),←List.append_assoc,copyB,hpart]
  rw[hw]
  have hq16:q=16→epochF (hd4 (U ((m':Nat):Int)) s' (U ((m1:Nat):Int)) s1)=e+1:=by
   intro h16
   obtain⟨rfl,rfl⟩:=hall h16
   rw[epoch_hd4 ht h1]
   have o0:ok4 0 (U ((e+1:Nat):Int)) (be 8 (tickU ((e+1:Nat):Int))):=⟨ux_lt.2 (by rw[hUe,u62];omega),by rw[par_U he,hp];rfl,by rw[wordU_be8,hUe]⟩
   have e0:ep4 0 0 (U ((e+1:Nat):Int)) (be 8 (tickU ((e+1:Nat):Int)))=U ((e+1:Nat):Int):=if_pos ⟨ux_lt.2 (by rw[hUe];simp),o0⟩
   rw[e0]
   rcases ep4_cases (U ((e+1:Nat):Int)) 1 (U ((m1:Nat):Int)) s1 with⟨_,r2,r3⟩|⟨r1,_⟩
   ·have:=key1 r3;have:=ux_lt.1 r2;omega
   ·rw[r1,hUe]
  refine⟨?_,fun h16=> .inr ⟨m',s',m1,s1,hm',hm1,hs',h1,rfl,hq16 h16⟩⟩
  by_cases ho:ok4 0 (U ((m':Nat):Int)) s'∧m'=e+1
  ·right
   refine .inr ⟨m',s',m1,s1,hm',hm1,hs',h1,rfl,?_⟩
   obtain⟨ho,rfl⟩:=ho
   rw[epoch_hd4 hs' h1]
   have e0:ep4 0 0 (U ((e+1:Nat):Int)) s'=U ((e+1:Nat):Int):=if_pos ⟨ux_lt.2 (by rw[hUe];simp),ho⟩
   rw[e0]
   rcases ep4_cases (U ((e+1:Nat):Int)) 1 (U ((m1:Nat):Int)) s1 with⟨_,r2,r3⟩|⟨r1,_⟩
   ·have:=key1 r3;have:=ux_lt.1 r2;omega
   ·rw[r1,hUe]
  ·left
   refine .inr ⟨m',s',m1,s1,hm',hm1,hs',h1,rfl,?_⟩
   rw[epoch_hd4 hs' h1]
   rcases hwhat with⟨rfl,rfl⟩|rfl
   ·exact hep
   ·have hno:¬ok4 0 (U ((e+1:Nat):Int)) s':=fun h=>ho ⟨h,rfl⟩
    have e0:ep4 0 0 (U ((e+1:Nat):Int)) s'=0:=if_neg fun h=>hno h.2
    rw[e0]
    rcases ep4_cases (ep4 0 0 (U ((m0:Nat):Int)) s0) 1 (U ((m1:Nat):Int)) s1 with⟨r1,r2,r3⟩|⟨r1,r2⟩
    ·rw[r1]at hep
     have:ep4 0 1 (U ((m1:Nat):Int)) s1=U ((m1:Nat):Int):=if_pos ⟨ux_lt.2 (by have:=ux_lt.1 r2;simp;omega),r3⟩
     rw[this];exact hep
    ·rw[r1]at hep
     have h00:ep4 0 0 (U ((m0:Nat):Int)) s0=0:=by
      rcases ep4_cases 0 0 (U ((m0:Nat):Int)) s0 with⟨q1,q2,q3⟩|⟨q1,_⟩
      ·exfalso
       have h2:=q3.2.1
       rw[par_U hm0]at h2
       rw[q1,U_toNat (by omega)]at hep
       have:m0%2=0:=by
        have:=congrArg UInt64.toNat h2
        rw[U_toNat (by omega)]at this
        exact this
       omega
      ·exact q1
     rw[h00]at hep r2
     have:ep4 0 1 (U ((m1:Nat):Int)) s1=0:=if_neg r2
     rw[this];exact hep
 ·
  obtain⟨m',s',hm',hs',hpart,hwhat,hall⟩:=slot_part (q:=q) hm1 he h1 ht hq
  have hw:wr (hd4 (U ((m0:Nat):Int)) s0 (U ((m1:Nat):Int)) s1) ((e+1)%2*16) ((copyB (e+1)).take q)=hd4 (U ((m0:Nat):Int)) s0 (U ((m':Nat):Int)) s':=by
   rw[wr_full (by rw[hcl,hp,hd4_length h0 h1];omega),hp,hcl]
   have hsl:(be 8 (U ((m0:Nat):Int))++s0).length=16:=by simp[be_length,h0]
   unfold hd4
   rw[show 1*16=16 from rfl,tk hsl,List.append_assoc]
   congr 1
   rw[←List.drop_drop,dr hsl,copyB,hpart]
  rw[hw]
  have hq16:q=16→epochF (hd4 (U ((m0:Nat):Int)) s0 (U ((m':Nat):Int)) s')=e+1:=by
   intro h16
   obtain⟨rfl,rfl⟩:=hall h16
   rw[epoch_hd4 h0 ht]
   have o1:ok4 1 (U ((e+1:Nat):Int)) (be 8 (tickU ((e+1:Nat):Int))):=⟨ux_lt.2 (by rw[hUe,u62];omega),by rw[par_U he,hp];rfl,by rw[wordU_be8,hUe]⟩
   have hb0:ep4 0 0 (U ((m0:Nat):Int)) s0<U ((e+1:Nat):Int):=by
    rcases ep4_cases 0 0 (U ((m0:Nat):Int)) s0 with⟨q1,_,q3⟩|⟨q1,_⟩
    ·rw[q1];have:=key0 q3;exact ux_lt.2 (by omega)
    ·rw[q1];exact ux_lt.2 (by rw[hUe];simp)
   rw[show ep4 (ep4 0 0 (U ((m0:Nat):Int)) s0) 1 (U ((e+1:Nat):Int)) (be 8 (tickU ((e+1:Nat):Int)))=U ((e+1:Nat):Int)from if_pos ⟨hb0,o1⟩,hUe]
  refine⟨?_,fun h16=> .inr ⟨m0,s0,m',s',hm0,hm',h0,hs',rfl,hq16 h16⟩⟩
  by_cases ho:ok4 1 (U ((m':Nat):Int)) s'∧m'=e+1
  ·right
   refine .inr ⟨m0,s0,m',s',hm0,hm',h0,hs',rfl,?_⟩
   obtain⟨ho,rfl⟩:=ho
   rw[epoch_hd4 h0 hs']
   have hb0:ep4 0 0 (U ((m0:Nat):Int)) s0<U ((e+1:Nat):Int):=by
    rcases ep4_cases 0 0 (U ((m0:Nat):Int)) s0 with⟨q1,_,q3⟩|⟨q1,_⟩
    ·rw[q1];have:=key0 q3;exact ux_lt.2 (by omega)
    ·rw[q1];exact ux_lt.2 (by rw[hUe];simp)
   rw[show ep4 (ep4 0 0 (U ((m0:Nat):Int)) s0) 1 (U ((e+1:Nat):Int)) s'=U ((e+1:Nat):Int)from if_pos ⟨hb0,ho⟩,hUe]
  ·left
   refine .inr ⟨m0,s0,m',s',hm0,hm',h0,hs',rfl,?_⟩
   rw[epoch_hd4 h0 hs']
   rcases hwhat with⟨rfl,rfl⟩|rfl
   ·exact hep
   ·have hno:¬ok4 1 (U ((e+1:Nat):Int)) s':=fun h=>ho ⟨h,rfl⟩
    rw[show ep4 (ep4 0 0 (U ((m0:Nat):Int)) s0) 1 (U ((e+1:Nat):Int)) s'=ep4 0 0 (U ((m0:Nat):Int)) s0 from if_neg fun h=>hno h.2]
    rcases ep4_cases (ep4 0 0 (U ((m0:Nat):Int)) s0) 1 (U ((m1:Nat):Int)) s1 with⟨r1,r2,r3⟩|⟨r1,_⟩
    ·exfalso
     have h2:=r3.2.1
     rw[par_U hm1]at h2
     rw[r1,U_toNat (by omega)]at hep
     have:m1%2=1:=by
      have:=congrArg UInt64.toNat h2
      rw[U_toNat (by omega)]at this
      exact this
     omega
    ·rw[r1]at hep;exact hep
end Go.Jn
namespace Go.Jn
open Go.Sl
theorem area_set(k:KS)(e:Nat)(xs:Bs):(k.setArea e xs).area e=xs:=by
 unfold KS.setArea KS.area
 split<;>rfl
theorem area_set_ne(k:KS){e e':Nat}(h:e%2≠e'%2)(xs:Bs):(k.setArea e xs).area e'=k.area e':=by
 unfold KS.setArea KS.area
 by_cases h1:e%2=0
 ·rw[if_pos h1,if_neg (by omega),if_neg (by omega)]
 ·rw[if_neg h1,if_pos (by omega),if_pos (by omega)]
theorem area_pow(k:KS)(e:Nat)(p:Int):({k with power:=p}:KS).area e=k.area e:=rfl
theorem set_head(k:KS)(e:Nat)(xs:Bs):(k.setArea e xs).head=k.head:=by unfold KS.setArea;split<;>rfl
theorem area_both{P:Bs→Prop}{k:KS}(ha:P k.a)(hb:P k.b)(e:Nat):P (k.area e):=by unfold KS.area;split<;>assumption
structure Inv(k:KS)(i:KI)(N:Nat)(x:Bool):Prop where
 head:HeadOk k.head i.epoch
 area:∃tail,k.area i.epoch=encI i++tail∧recB i.epoch tail=false∧(x=true→tail=[])
 wf:WF i
 eN:i.epoch≤N
 nN:i.next≤N
 sz:i.size≤43400+494*N
 sm:i.size≤262144
 la:(k.area 0).length≤262144
 lb:(k.area 1).length≤262144
 st:i.state.length≤43300
 rs:∀b∈i.recs,b.length≤470
 pw: -1≤k.power∧k.power≤70000
theorem Inv.mono{k:KS}{i:KI}{N M:Nat}{x:Bool}(h:Inv k i N x)(hM:N≤M):Inv k i M x:=
 ⟨h.head,h.area,h.wf,by have:=h.eN;omega,by have:=h.nN;omega,by have:=h.sz;omega,h.sm,h.la,h.lb,h.st,h.rs,h.pw⟩
theorem Inv.weak{k:KS}{i:KI}{N:Nat}(h:Inv k i N true):Inv k i N false:=
 ⟨h.head,let⟨t,a,b,_⟩:=h.area;⟨t,a,b,fun e=>by cases e⟩,h.wf,h.eN,h.nN,h.sz,h.sm,h.la,h.lb,h.st,h.rs,h.pw⟩
theorem Inv.any{k:KS}{i:KI}{N:Nat}{x:Bool}(h:Inv k i N x):Inv k i N false:=by cases x;exact h;exact h.weak
theorem Inv.pow{k:KS}{i:KI}{N:Nat}{x:Bool}(h:Inv k i N x){p:Int}(h1: -1≤p)(h2:p≤70000):Inv {k with power:=p} i N x:=
 ⟨h.head,h.area,h.wf,h.eN,h.nN,h.sz,h.sm,h.la,h.lb,h.st,h.rs,h1,h2⟩
theorem Inv.exact{k:KS}{i:KI}{N:Nat}(h:Inv k i N true):k.area i.epoch=encI i:=by
 obtain⟨t,a,_,c⟩:=h.area
 rw[a,c rfl,List.append_nil]
theorem Inv.lens{k:KS}{i:KI}{N:Nat}{x:Bool}(h:Inv k i N x):k.a.length≤262144∧k.b.length≤262144:=⟨h.la,h.lb⟩
theorem Inv.fits{k:KS}{i:KI}{N:Nat}{x:Bool}(h:Inv k i N x)(hN:N≤100000000):k.fits 524288:=by
 have h1:=h.lens
 have h2:=h.head.len
 exact⟨by omega,by omega,by omega,by have:=h.pw;omega⟩
theorem Inv.okP{k:KS}{i:KI}{N:Nat}{x:Bool}(h:Inv k i N x)(hN:N≤100000000):k.okP:=by
 have h1:=h.lens
 have h2:=h.head.len
 exact⟨h2,by omega,by omega,h.pw.1⟩
theorem Inv.read{k:KS}{i:KI}{N:Nat}{x:Bool}(h:Inv k i N x):readI k=some i:=by
 obtain⟨t,a,b,_⟩:=h.area
 exact read_enc h.head.epoch a b h.wf
theorem cut_pow{k:KS}{e size:Nat}(hp:k.power≠0):(cutS k e size).area e=(k.area e).take size:=by
 unfold cutS
 rw[area_pow,area_set,cutA,if_neg hp]
theorem Inv.cut{k:KS}{i:KI}{N:Nat}{x:Bool}(h:Inv k i N x)(hp:k.power≠0):Inv (cutS k i.epoch i.size) i N true:=by
 obtain⟨t,a,b,_⟩:=h.area
 have e1:(cutS k i.epoch i.size).area i.epoch=encI i:=by
  rw[cut_pow hp,a,h.wf.size,List.take_left']
  rfl
 have hle:∀e,((cutS k i.epoch i.size).area e).length≤262144:=by
  have h1:∀xs:Bs,xs.length≤262144→(cutA xs k.power i.size).length≤262144:=fun xs hx=>by
   unfold cutA;split
   ·exact hx
   ·simp;omega
  intro e
  by_cases he:i.epoch%2=e%2
  ·have e2:(cutS k i.epoch i.size).area e=(cutS k i.epoch i.size).area i.epoch:=by unfold KS.area;rw[he]
   rw[e2]
   unfold cutS
   rw[area_pow,area_set]
   exact h1 _ (area_both (P:=fun z=>z.length≤_) h.la h.lb _)
  ·unfold cutS
   rw[area_pow,area_set_ne _ he]
   exact area_both (P:=fun z=>z.length≤_) h.la h.lb _
 refine⟨?_,⟨[],by rw[e1,List.append_nil],rec_nil _,fun _=>rfl⟩,h.wf,h.eN,h.nN,h.sz,h.sm,hle 0,hle 1,h.st,h.rs,?_⟩
 ·show HeadOk (k.setArea _ _).head _
  rw[set_head];exact h.head
 ·show-1≤cutP _ _ _∧cutP _ _ _≤70000
  have:=h.pw
  unfold cutP spendP
  split<;>(try split)<;>omega
theorem pl_bounds{p:Int}{m:Nat}(h: -1≤p∧p≤70000): -1≤pl p m∧pl p m≤70000:=by unfold pl;split<;>omega
theorem enc_ap{i:KI}{bs:Bs}(wf:WF i):encI (apI i bs)=encI i++formB i.epoch i.next bs:=by
 have h1:(apI i bs).next-(apI i bs).recs.length=i.next-i.recs.length:=by simp[apI]
 have h2:=encR_snoc i.epoch bs i.recs (i.next-i.recs.length)
 have h3:i.next-i.recs.length+i.recs.length=i.next:=by have:=wf.next;omega
 rw[h3]at h2
 unfold encI
 rw[h1]
 show _++encR i.epoch _ (i.recs++[bs])=_
 rw[h2,List.append_assoc]
 rfl
theorem wf_ap{i:KI}{bs:Bs}(wf:WF i)(hn:i.next<4611686018427387904)(hb:bs.length≤470):WF (apI i bs):=by
 refine⟨?_,?_,fun h=> ?_,?_,wf.state,?_⟩
 ·rw[enc_ap wf,List.length_append,←wf.size];rfl
 ·have:=wf.next;simp[apI];omega
 ·have:=wf.zero h;simp[apI];exact this
 ·show i.next+1≤_;omega
 ·intro b hb'
  rcases List.mem_append.1 hb' with h|h
  ·exact wf.recs b h
  ·simp at h;subst h;omega
theorem ap_area{k:KS}{i:KI}{bs:Bs}(ha:k.area i.epoch=encI i)(wf:WF i):(apS k i bs).area i.epoch=encI i++(formB i.epoch i.next bs).take (Jn.pw k.power (formB i.epoch i.next bs).length):=by
 unfold apS wrS
 rw[area_pow,area_set,wrA,ha,wf.size,wr_end]
theorem Inv.apLen{k:KS}{i:KI}{N:Nat}{bs:Bs}(h:Inv k i N true)(hr:i.size+24+bs.length≤262144)(e:Nat):((apS k i bs).area e).length≤262144:=by
 have hl:=formB_length i.epoch i.next bs
 by_cases he:i.epoch%2=e%2
 ·have e2:(apS k i bs).area e=(apS k i bs).area i.epoch:=by unfold KS.area;rw[he]
  rw[e2,ap_area h.exact h.wf,List.length_append,←h.wf.size]
  have:=h.sz
  simp;omega
 ·unfold apS wrS
  rw[area_pow,area_set_ne _ he]
  have:=area_both (P:=fun z=>z.length≤_) h.la h.lb e
  omega
theorem Inv.ap_ok{k:KS}{i:KI}{N:Nat}{bs:Bs}(h:Inv k i N true)(hN:N≤100000000)(hb:bs.length≤470)(hr:i.size+24+bs.length≤262144)(hok:apOk k i bs):Inv (apS k i bs) (apI i bs) (N+1) true:=by
 have hl:=formB_length i.epoch i.next bs
 refine⟨?_,⟨[],?_,rec_nil _,fun _=>rfl⟩,wf_ap h.wf (by have:=h.nN;omega) hb,by have:=h.eN;show i.epoch≤_;omega,by have:=h.nN;show i.next+1≤_;omega,?_,?_,h.apLen hr 0,h.apLen hr 1,h.st,?_,pl_bounds h.pw⟩
 ·show HeadOk (k.setArea _ _).head _
  rw[set_head];exact h.head
 ·rw[List.append_nil,enc_ap h.wf]
  show(apS k i bs).area i.epoch=_
  rw[ap_area h.exact h.wf]
  have:Jn.pw k.power (formB i.epoch i.next bs).length=(formB i.epoch i.next bs).length:=hok
  rw[this,List.take_length]
 ·have:=h.sz;show i.size+_≤_;omega
 ·show i.size+_≤_;omega
 ·intro b hb'
  rcases List.mem_append.1 hb' with h'|h'
  ·exact h.rs b h'
  ·simp at h';subst h';exact hb
theorem Inv.ap_no{k:KS}{i:KI}{N:Nat}{bs:Bs}(h:Inv k i N true)(hb:bs.length≤65536)(hr:i.size+24+bs.length≤262144)(hok:¬apOk k i bs):Inv (apS k i bs) i (N+1) false:=by
 have hl:=formB_length i.epoch i.next bs
 refine⟨?_,⟨_,ap_area h.exact h.wf,?_,fun e=>by cases e⟩,h.wf,by have:=h.eN;omega,by have:=h.nN;omega,by have:=h.sz;omega,h.sm,h.apLen hr 0,h.apLen hr 1,h.st,h.rs,pl_bounds h.pw⟩
 ·show HeadOk (k.setArea _ _).head _
  rw[set_head];exact h.head
 ·refine rec_torn (by omega) ?_
  have h1:Jn.pw k.power (formB i.epoch i.next bs).length≠(formB i.epoch i.next bs).length:=hok
  have h2:Jn.pw k.power (formB i.epoch i.next bs).length≤(formB i.epoch i.next bs).length:=by unfold Jn.pw;split<;>omega
  omega
theorem ck1_area{k:KS}{e:Nat}(h:ckOk1 k e):(ck1 k e).area e=[]:=by
 unfold ck1 cutS
 rw[area_pow,area_set,cutA]
 split
 ·rename_i hp
  rcases h with h|h
  ·exact List.eq_nil_of_length_eq_zero (by omega)
  ·exact absurd hp h
 ·simp
theorem ck1_other{k:KS}{e e':Nat}(h:e%2≠e'%2):(ck1 k e).area e'=k.area e':=by
 unfold ck1 cutS
 rw[area_pow,area_set_ne _ h]
theorem ck1_head(k:KS)(e:Nat):(ck1 k e).head=k.head:=by
 show(k.setArea _ _).head=_
 rw[set_head]
theorem ck2_area{k:KS}{e n:Nat}{bs:Bs}(h:ckOk1 k e):(ck2 k e n bs).area e=(formB e n bs).take (Jn.pw (ck1 k e).power (formB e n bs).length):=by
 unfold ck2 wrS
 rw[area_pow,area_set,wrA,ck1_area h]
 have:=wr_end (bs:=(formB e n bs).take (Jn.pw (ck1 k e).power (formB e n bs).length)) (xs:=[])
 simpa using this
theorem ck2_other{k:KS}{e e' n:Nat}{bs:Bs}(h:e%2≠e'%2):(ck2 k e n bs).area e'=k.area e':=by
 unfold ck2 wrS
 rw[area_pow,area_set_ne _ h,ck1_other h]
theorem ck2_head(k:KS)(e n:Nat)(bs:Bs):(ck2 k e n bs).head=k.head:=by
 show((ck1 k e).setArea _ _).head=_
 rw[set_head,ck1_head]
theorem ck3_area(k:KS)(e n:Nat)(bs:Bs)(e':Nat):(ck3 k e n bs).area e'=(ck2 k e n bs).area e':=by
 unfold ck3;simp only;split<;>rfl
theorem ck4_area(k:KS)(e n:Nat)(bs:Bs)(e':Nat):(ck4 k e n bs).area e'=(ck2 k e n bs).area e':=by
 rw[←ck3_area];rfl
theorem ck_pows{k:KS}{e n:Nat}{bs:Bs}(h: -1≤k.power∧k.power≤70000):(-1≤(ck1 k e).power∧(ck1 k e).power≤70000)∧(-1≤(ck2 k e n bs).power∧(ck2 k e n bs).power≤70000)∧(-1≤(ck4 k e n bs).power∧(ck4 k e n bs).power≤70000):=by
 have h1: -1≤(ck1 k e).power∧(ck1 k e).power≤70000:=by
  show-1≤cutP _ _ _∧cutP _ _ _≤70000
  unfold cutP spendP
  split<;>(try split)<;>omega
 have h2: -1≤(ck2 k e n bs).power∧(ck2 k e n bs).power≤70000:=pl_bounds h1
 have h3:(ck3 k e n bs).power=(ck2 k e n bs).power:=by unfold ck3;simp only;split<;>rfl
 exact⟨h1,h2,by show-1≤pl (ck3 k e n bs).power _∧pl (ck3 k e n bs).power _≤70000;rw[h3];exact pl_bounds h2⟩
theorem wf_ck{i:KI}{bs:Bs}(wf:WF i)(hb:bs.length≤43300):WF (ckI i bs):=by
 refine⟨?_,by simp[ckI],fun h=>by simp[ckI]at h,wf.big,by show bs.length≤_;omega,fun b h=>by simp[ckI]at h⟩
 unfold encI
 rw[if_neg (by simp[ckI])]
 show 24+bs.length=_
 rw[List.length_append,formB_length,encR_length]
 simp[ckI,sizes]
theorem enc_ck(i:KI)(bs:Bs):encI (ckI i bs)=formB ((i.epoch+1:Nat):Int) i.next bs:=by
 unfold encI
 rw[if_neg (by simp[ckI])]
 show formB ((i.epoch+1:Nat):Int) ((i.next-0:Nat):Int) bs++encR (i.epoch+1) _ []=_
 rw[encR_nil,List.append_nil,Nat.sub_zero]
theorem Inv.ckLen{k:KS}{i:KI}{N:Nat}{bs:Bs}(h:Inv k i N true)(hb:bs.length≤43300)(h1:ckOk1 k (i.epoch+1))(e:Nat):((ck2 k (i.epoch+1) i.next bs).area e).length≤262144:=by
 have hl:=formB_length ((i.epoch+1:Nat):Int) i.next bs
 by_cases he:(i.epoch+1)%2=e%2
 ·have e2:(ck2 k (i.epoch+1) i.next bs).area e=(ck2 k (i.epoch+1) i.next bs).area (i.epoch+1):=by unfold KS.area;rw[he]
  rw[e2,ck2_area h1,List.length_take]
  omega
 ·rw[ck2_other he]
  have:=area_both (P:=fun z=>z.length≤_) h.la h.lb e
  omega
theorem Inv.ck3head{k:KS}{i:KI}{N:Nat}{bs:Bs}(h:Inv k i N true):HeadOk (ck3 k (i.epoch+1) i.next bs).head i.epoch∧(ck3 k (i.epoch+1) i.next bs).head.length=32:=by
 have e1:=ck2_head k (i.epoch+1) i.next bs
 by_cases h0:(ck2 k (i.epoch+1) i.next bs).head.length=0
 ·have e2:(ck3 k (i.epoch+1) i.next bs).head=List.replicate 32 0:=by unfold ck3;simp only;rw[if_pos h0]
  have e3:i.epoch=0:=by
   rcases h.head with⟨_,h2⟩|⟨_,_,_,_,_,_,a,b,c,_⟩
   ·exact h2
   ·rw[e1,c,hd4_length a b]at h0;omega
  rw[e2,e3]
  exact⟨zero_head,by simp⟩
 ·have e2:(ck3 k (i.epoch+1) i.next bs).head=k.head:=by unfold ck3;simp only;rw[if_neg h0,e1]
  rw[e2]
  refine⟨h.head,?_⟩
  rcases h.head.len with h3|h3
  ·rw[e1]at h0;omega
  ·exact h3
theorem Inv.ck_base{k k':KS}{i:KI}{N:Nat}{bs:Bs}(h:Inv k i N true)(hb:bs.length≤43300)(h1:ckOk1 k (i.epoch+1))(hk:∀e,k'.area e=(ck2 k (i.epoch+1) i.next bs).area e)(hh:HeadOk k'.head i.epoch)(hp: -1≤k'.power∧k'.power≤70000):Inv k' i (N+1) false:=
 ⟨hh,⟨[],by rw[hk,ck2_other (by omega),h.exact,List.append_nil],rec_nil _,fun e=>by cases e⟩,h.wf,by have:=h.eN;omega,by have:=h.nN;omega,by have:=h.sz;omega,h.sm,by rw[hk];exact h.ckLen hb h1 0,by rw[hk];exact h.ckLen hb h1 1,h.st,h.rs,hp⟩
theorem Inv.ck_new{k k':KS}{i:KI}{N:Nat}{bs:Bs}(h:Inv k i N true)(hN:N≤100000000)(hb:bs.length≤43300)(h1:ckOk1 k (i.epoch+1))(h2:ckOk2 k (i.epoch+1) i.next bs)(hk:∀e,k'.area e=(ck2 k (i.epoch+1) i.next bs).area e)(hh:HeadOk k'.head (i.epoch+1))(hp: -1≤k'.power∧k'.power≤70000):Inv k' (ckI i bs) (N+1) true:=by
 have e1:k'.area (i.epoch+1)=encI (ckI i bs):=by
  rw[hk,ck2_area h1,enc_ck]
  have:Jn.pw (ck1 k (i.epoch+1)).power (formB ((i.epoch+1:Nat):Int) i.next bs).length=(formB ((i.epoch+1:Nat):Int) i.next bs).length:=h2
  rw[this,List.take_length]
 refine⟨hh,⟨[],by rw[List.append_nil];exact e1,rec_nil _,fun _=>rfl⟩,wf_ck h.wf hb,?_,?_,?_,?_,by rw[hk];exact h.ckLen hb h1 0,by rw[hk];exact h.ckLen hb h1 1,hb,fun b h=>by simp[ckI]at h,hp⟩
 ·have:=h.eN;show i.epoch+1≤_;omega
 ·have:=h.nN;show i.next≤_;omega
 ·show 24+bs.length≤_;omega
 ·show 24+bs.length≤_;omega
theorem copy_len(e:Nat):(copyB e).length=16:=by simp[copyB,be_length]
theorem Inv.ck_ok{k:KS}{i:KI}{N:Nat}{bs:Bs}(h:Inv k i N true)(hN:N≤100000000)(he:i.epoch<250)(hb:bs.length≤43300)(hok:ckOk k (i.epoch+1) i.next bs):Inv (ckS k (i.epoch+1) i.next bs) (ckI i bs) (N+1) true:=by
 obtain⟨h1,h2,h3⟩:=hok
 rw[ckS,if_pos h1,if_pos h2]
 obtain⟨g1,g2⟩:=h.ck3head (bs:=bs)
 have hw:=head_write (q:=Jn.pw (ck3 k (i.epoch+1) i.next bs).power (copyB (i.epoch+1)).length) g1 g2 (by omega) (by rw[copy_len];unfold Jn.pw;split<;>omega)
 have h16:Jn.pw (ck3 k (i.epoch+1) i.next bs).power (copyB (i.epoch+1)).length=16:=by
  have:Jn.pw (ck3 k (i.epoch+1) i.next bs).power (copyB (i.epoch+1)).length=(copyB (i.epoch+1)).length:=h3
  rw[this,copy_len]
 exact h.ck_new hN hb h1 h2 (ck4_area k _ _ _) (hw.2 h16) (ck_pows h.pw).2.2
theorem Inv.ck_no{k:KS}{i:KI}{N:Nat}{bs:Bs}(h:Inv k i N true)(hN:N≤100000000)(he:i.epoch<250)(hb:bs.length≤43300)(hok:¬ckOk k (i.epoch+1) i.next bs):Inv (ckS k (i.epoch+1) i.next bs) i (N+1) false∨Inv (ckS k (i.epoch+1) i.next bs) (ckI i bs) (N+1) false:=by
 by_cases h1:ckOk1 k (i.epoch+1)
 ·by_cases h2:ckOk2 k (i.epoch+1) i.next bs
  ·rw[ckS,if_pos h1,if_pos h2]
   obtain⟨g1,g2⟩:=h.ck3head (bs:=bs)
   have hw:=head_write (q:=Jn.pw (ck3 k (i.epoch+1) i.next bs).power (copyB (i.epoch+1)).length) g1 g2 (by omega) (by rw[copy_len];unfold Jn.pw;split<;>omega)
   rcases hw.1 with hh|hh
   ·exact .inl (h.ck_base hb h1 (ck4_area k _ _ _) hh (ck_pows h.pw).2.2)
   ·exact .inr (h.ck_new hN hb h1 h2 (ck4_area k _ _ _) hh (ck_pows h.pw).2.2).weak
  ·rw[ckS,if_pos h1,if_neg h2]
   exact .inl (h.ck_base hb h1 (fun _=>rfl) (by rw[ck2_head];exact h.head) (ck_pows h.pw).2.1)
 ·rw[ckS,if_neg h1]
  exact .inl (h.weak.mono (by omega))
theorem inv_empty{p:Int}(h: -1≤p∧p≤70000):Inv ⟨[],[],[],p⟩ ⟨0,0,[],[],0⟩ 0 true:=
 ⟨.inl ⟨rfl,rfl⟩,⟨[],by simp[KS.area,encI,encR_nil],by decide+kernel,fun _=>rfl⟩,⟨by decide,by decide,fun _=>⟨rfl,rfl⟩,by decide,by decide,by simp⟩,by decide,by decide,by decide,by decide,by simp[KS.area],by simp[KS.area],by decide,by simp,h⟩
end Go.Jn
namespace Go.Sl
section
variable {P:Program}{n:Nat}{ds:List Deferred}{β:Base}{Q:Exit→Act→World→Prop}{f:Fm}{L:List Res}{ops:Array Oper}{rest:List Oper}
variable {d:Option Tmp}{ty:TypeId}{ps:String}{af:Array Edge}{g:Option (Nat×Bool)}
theorem enterD{g:FuncId}{fn:Func}{c:Code}{args:Array Value}{w:World}{R:Ending→World→Prop}(hf:P.funcs[g]? =some fn)(hb:fn.body=some c)(hn:fn.ntmps=n)(hs:Nat.ble args.size n=true)
 (h:RunC P none n [] β c (bodyPostD P fn R) (initF args) L)(hw:St β L w):Calls P g args w R:=by
 refine calls_of_wp_defers hf hb (wpIn_wide.1 (h _ w ⟨rfl,?_,fun i=> ?_⟩ hw))
 ·rw[hn]
  have:args.size≤n:=by simpa using hs
  simp;omega
 ·simp only[initF,Array.getD_eq_getD_getElem?]
  by_cases hi:i<args.size
  ·rw[Array.getElem?_append_left hi]
  ·rw[Array.getElem?_append_right (by omega),Array.getElem?_eq_none (by omega:args.size≤i)]
   by_cases hj:i-args.size<fn.ntmps-args.size
   ·simp[hj]
   ·simp[hj]
theorem l_defer{o:Oper}{dd:Deferred}(hg:o.guard=none)(hd:o.dst=none)(he:∀w,(execOp (ev f) o).run P w= .ok (.defer dd) w)(k:RunL P none n (dd::ds) β ops Q rest f L):RunL P none n ds β ops Q (o::rest) f L:=by
 refine l_step hg fun a w ha hw=>⟨fun _ _=>trivial,?_⟩
 rw[ha.eval,show(Fe none).round=none from rfl,Oper.semAt_none,he w,Oper.uponIn_defer,hd]
 exact k _ w ⟨by show dd::a.defers=_;rw[ha.defers],ha.size,ha.get⟩ hw
theorem wpS_rec2{id:Nat}{o0 o1:Oper}{a:Act}{cs:List Frame}{w:World}{QS:Exit→Act→List Frame→World→Prop}{d0 d1:Nat}{v:Value}{cs':List Frame}(ha:At n ds f a)(h0:o0.guard=none)(h1:o1.guard=none)
 (r0:(execOp (ev f) o0).run P w= .ok .recover w)(hd0:o0.dst=some d0)(b0:Nat.blt d0 n=true)(hv:(execOp (ev (upd f d0 v)) o1).run P w= .ok (.value v) w)(hd1:o1.dst=some d1)(b1:Nat.blt d1 n=true)
 (hrec:recoverD cs=some (v,cs')∨recoverD cs=none∧v= .nilIface∧cs'=cs)(k:∀a',At n ds (upd (upd f d0 v) d1 v) a'→QS .normal a' cs' w):(Code.region id #[o0,o1] false).wpS P QS a cs w:=by
 have ha1:=ha.put b0 v
 have step1:∀cs,wpOpsS P #[o0,o1] QS [1] (a.put (some d0) v) cs w=QS .normal ((a.put (some d0) v).put (some d1) v) cs w:=fun cs=>by
  simp only[wpOpsS]
  have hw1:Region.wanted o1 (yielded #[o0,o1] (a.put (some d0) v).tmps)=true:=by simp[Region.wanted,h1]
  simp only[List.getElem?_toArray,List.getElem?_cons_succ,List.getElem?_cons_zero,hw1,if_true]
  rw[ha1.eval,hv]
  simp only[Oper.upon,hd1]
 refine wpS_region ?_
 show wpOpsS P #[o0,o1] QS [0,1] a cs w
 rw[wpOpsS]
 have hw0:Region.wanted o0 (yielded #[o0,o1] a.tmps)=true:=by simp[Region.wanted,h0]
 simp only[List.getElem?_toArray,List.getElem?_cons_zero,hw0,if_true]
 rw[ha.eval,r0]
 rcases hrec with h|⟨h,rfl,rfl⟩
 ·simp only[h,hd0]
  rw[step1]
  exact k _ (ha1.put b1 v)
 ·simp only[h,hd0]
  rw[step1]
  exact k _ (ha1.put b1 _)
theorem wpS_run{c:Code}{a:Act}{cs:List Frame}{w:World}{QS:Exit→Act→List Frame→World→Prop}(h:RunC P none n ds β c (fun e a w=>QS e a cs w) f L)(ha:At n ds f a)(hw:St β L w):c.wpS P QS a cs w:=wpS_of_wp (wpIn_wide.1 (h a w ha hw))
theorem finS{fn:Func}{c₀:Frame}{cs:List Frame}{R:Ending→FrameMode→World→Prop}{u':FrameMode}(hr:fn.results= #[])(h:∀w,St β L w→R (.returned (.tuple #[])) u' w):
  Fin n [] β (fun e a w=>bodyPostS P fn c₀ cs R e a ({c₀ with mode:=u'}::cs) w) .normal f L:=fun a w ha hw=>
 ⟨ha.defers,u',rfl,_,results_none hr _ _ _,h w hw⟩
theorem e_tassert{t u:TypeId}{x:Operand}{v:Value}(hx:ev f x= .iface u v)(hu:ifcB P u=true):EV P β L f ⟨d,.typeAssert x t u true,ty,ps,af,g⟩ (.tuple #[v,.bool true]):=fun w _=>by
 unfold ifcB at hu
 cases hh:P.underlying u with
 |none=>rw[hh]at hu;cases hu
 |some dd=>
  rw[hh]at hu
  cases dd<;>simp_all [execOp,Instr.typeAssert,run_underlying hh]
def ifB(P:Program)(t:TypeId):Bool:=match P.underlying t with|some (.interface _)=>true|_=>false
theorem ifB_und{t:TypeId}(h:ifB P t=true):∃ms,P.underlying t=some (.interface ms):=by
 unfold ifB at h
 cases hh:P.underlying t with
 |none=>rw[hh]at h;cases h
 |some dd=>rw[hh]at h;cases dd<;>simp_all
theorem e_neq_if{t t':TypeId}{x:Operand}{u:TypeId}{v:Value}(ht:ifB P t=true)(hx:ev f x= .iface u v):EV P β L f ⟨d,.binOp .neq t x (.const .nilIface) t',ty,ps,af,g⟩ (.bool true):=fun w _=>by
 obtain⟨ms,hu⟩:=ifB_und ht
 have h1:(binOp .neq t (.iface u v) .nilIface).run P w= .ok (.bool true) w:=by
  have h2:(Op.equal t (.iface u v) .nilIface).run P w= .ok false w:=by
   have h3:∀d,(Op.equalIn (d+1) t (.iface u v) .nilIface).run P w= .ok false w:=fun d=>by simp[Op.equalIn,run_underlying hu]
   exact h3 9999
  simp only[binOp]
  simp[h2]
 have h0:eqGuard .neq t x (.const .nilIface) (.iface u v) .nilIface=pure ():=rfl
 have hy:ev f (.const .nilIface)= .nilIface:=rfl
 simp only[execOp,hx,hy,h0]
 simp[h1]
theorem e_neq_if0{t t':TypeId}{x:Operand}(ht:ifB P t=true)(hx:ev f x= .nilIface):EV P β L f ⟨d,.binOp .neq t x (.const .nilIface) t',ty,ps,af,g⟩ (.bool false):=fun w _=>by
 obtain⟨ms,hu⟩:=ifB_und ht
 have h1:(binOp .neq t .nilIface .nilIface).run P w= .ok (.bool false) w:=by
  have h2:(Op.equal t .nilIface .nilIface).run P w= .ok true w:=by
   have h3:∀d,(Op.equalIn (d+1) t .nilIface .nilIface).run P w= .ok true w:=fun d=>by simp[Op.equalIn,run_underlying hu]
   exact h3 9999
  simp only[binOp]
  simp[h2]
 have h0:eqGuard .neq t x (.const .nilIface) .nilIface .nilIface=pure ():=eqGuard_nil_constR _ _ _ _
 have hy:ev f (.const .nilIface)= .nilIface:=rfl
 simp only[execOp,hx,hy,h0]
 simp[h1]
end
end Go.Sl
namespace Go.Jn
open Go.Sl
theorem one_recs{T b n2 c2:Nat}{q:Option Addr}{bs:Bs}(a:PHeap)(ha:Sat [pt b (.cells #[.slice q n2 c2] T),row (.slice q n2 c2) 5 1 n2 (BX bs)] a):recsR T (some ⟨b,0,none⟩) 1 [bs] a:=by
 obtain⟨a1,b1,hd,h1,h2,hp,a2,b2,hd2,h3,h4,hr,ht⟩:=ha
 exact⟨[.slice q n2 c2],a1,b1,hd,h1,h2,pt_row (T:=T) (n:=1) (m:=1) (by unfold maxLen;omega) rfl _ hp,a2,b2,hd2,h3,h4,ins_snoc (us:=[]) (xs:=[]) (ins_nil _) (row_u8 hr) (row_shp hr),ht⟩
theorem inn_app{us vs:List Value}{xs ys:List Bs}{h:PHeap}(hi:inn us xs h)(hj:inn vs ys h):inn (us++vs) (xs++ys) h:=by
 refine⟨by rw[List.length_append,List.length_append,hi.1,hj.1],fun i x u hx hu=> ?_⟩
 by_cases hl:i<xs.length
 ·rw[List.getElem?_append_left hl]at hx
  rw[List.getElem?_append_left (by rw[hi.1];exact hl)]at hu
  exact hi.2 i x u hx hu
 ·rw[List.getElem?_append_right (by omega)]at hx
  rw[List.getElem?_append_right (by rw[hi.1];omega),hi.1]at hu
  exact hj.2 _ x u hx hu
theorem ins_app{us vs:List Value}{xs ys:List Bs}{h:PHeap}(hi:ins us xs h)(hj:ins vs ys h):ins (us++vs) (xs++ys) h:=
 ⟨inn_app hi.1 hj.1,fun u hu=>(List.mem_append.1 hu).elim (hi.2 u) (hj.2 u)⟩
section
variable {P:Program}{ro:Option Nat}{n:Nat}{ds:List Deferred}{β:Base}{Q:Exit→Act→World→Prop}{f:Fm}{L:List Res}{ops:Array Oper}{rest:List Oper}
variable {d:Option Tmp}{ty:TypeId}{ps:String}{af:Array Edge}{g:Option (Nat×Bool)}
theorem m_appendRecs{x y:Operand}{t T bytes c c2:Nat}{p q:Option Addr}{xs ys:List Bs}{M:List Res}(hL:L=recsR T p c xs::recsR T q c2 ys::M)(hsl:slB P t T 1=true)(hel:elB P T 1 bytes=true)(hx:ev f x= .slice p xs.length c)(hy:ev f y= .slice q ys.length c2)
 (hby:(xs.length+ys.length)*bytes≤140737488355328)(h63:xs.length+ys.length≤140737488355328):
  MV P β L f ⟨d,.call ⟨.builtin .append,#[x,y],#[t,t]⟩,ty,ps,af,g⟩ (fun v' L'=>∃p' c',v'= .slice p' (xs++ys).length c'∧L'=recsR T p' c' (xs++ys)::M):=fun w hw=>by
 subst hL
 obtain⟨us,hw1⟩:=hw.ex (r:=fun us h=>Sat [row (.slice p xs.length c) T 1 xs.length us,ins us xs] h)
 have hw2:=hw1.unbun
 have hw3:St β (recsR T q c2 ys::[row (.slice p xs.length c) T 1 xs.length us,ins us xs]++M) w:=hw2.perm (List.Perm.append_right M (perm_ix (L:=[row (.slice p xs.length c) T 1 xs.length us,ins us xs,recsR T q c2 ys]) (L':=[recsR T q c2 ys,row (.slice p xs.length c) T 1 xs.length us,ins us xs]) [2,0,1] 3 rfl (by kernel_rfl) (by kernel_rfl)))
 obtain⟨vs,hw4⟩:=hw3.ex (r:=fun us h=>Sat [row (.slice q ys.length c2) T 1 ys.length us,ins us ys] h)
 have hw5:St β (row (.slice q ys.length c2) T 1 ys.length vs::ins vs ys::row (.slice p xs.length c) T 1 xs.length us::ins us xs::M) w:=hw4.unbun
 have hk:Knows β (row (.slice q ys.length c2) T 1 ys.length vs::ins vs ys::row (.slice p xs.length c) T 1 xs.length us::ins us xs::M) (fun h=>Cs h (ba q) vs):=Knows.of_res 0 rfl (Cs.mono _ _) fun h hr=>by
  have hl:=row_len hr
  by_cases h0:0<vs.length
  ·have:=row_cs (o:=0) hr (us:=vs) (by rw[List.drop_zero,List.take_length]) h0
   rwa [Addr.add_zero']at this
  ·intro j v hj;have:=(List.getElem?_eq_some_iff.1 hj).1;omega
 obtain⟨hlen,h1,hq⟩:vs.length=ys.length∧vs.all (·.oneCell')=true∧(0<ys.length→q=some (ba q)):=by
  refine hw5.knows (F:=fun _=>vs.length=ys.length∧vs.all (·.oneCell')=true∧(0<ys.length→q=some (ba q))) ?_
  have k1:Knows β (row (.slice q ys.length c2) T 1 ys.length vs::ins vs ys::row (.slice p xs.length c) T 1 xs.length us::ins us xs::M) (fun _=>vs.length=ys.length∧(0<ys.length→q=some (ba q))):=Knows.of_res 0 rfl (fun _ _ _ h=>h) fun h hr=>⟨(row_len hr).1,fun h0=>by obtain⟨b,cur,rfl,_⟩:=row_open hr h0;rfl⟩
  have k2:Knows β (row (.slice q ys.length c2) T 1 ys.length vs::ins vs ys::row (.slice p xs.length c) T 1 xs.length us::ins us xs::M) (fun _=>vs.all (·.oneCell')=true):=Knows.of_res 1 rfl (fun _ _ _ h=>h) fun h hi=>List.all_eq_true.2 fun u hu=>by
   rcases hi.2 u hu with rfl|⟨g,m,c,cur,rfl,_⟩<;>rfl
  exact fun h h0 hs=>⟨(k1 h h0 hs).1,k2 h h0 hs,(k1 h h0 hs).2⟩
 obtain⟨v',w',L',g1,g2,p',c',rfl,rfl⟩:=m_append_w (P:=P) (ty:=ty) (ps:=ps) (af:=af) (g:=g) (d:=d) (m:=xs.length) (vs:=us) (n:=1) 2 hsl hel hx rfl hy (by rw[hlen,Nat.mul_one]) hk h1 hq (by unfold maxLen;omega) hby w hw5
 have e1:(xs++ys).length=xs.length+ys.length:=List.length_append
 refine⟨_,w',_,g1,?_,p',c',by rw[e1],rfl⟩
 have g3:St β (row (.slice p' (xs.length+ys.length) c') T 1 (xs.length+ys.length) (us++vs)::ins us xs::ins vs ys::row (.slice q ys.length c2) T 1 ys.length vs::M) w':=
  St.perm g2 (L':=[row (.slice p' (xs.length+ys.length) c') T 1 (xs.length+ys.length) (us++vs),ins us xs,ins vs ys,row (.slice q ys.length c2) T 1 ys.length vs]++M) (List.Perm.append_right M (perm_ix (L:=[row (.slice q ys.length c2) T 1 ys.length vs,ins vs ys,row (.slice p' (xs.length+ys.length) c') T 1 (xs.length+ys.length) (us++vs),ins us xs]) [2,3,1,0] 4 rfl (by kernel_rfl) (by kernel_rfl)))
 have g4:St β ([row (.slice p' (xs.length+ys.length) c') T 1 (xs.length+ys.length) (us++vs),ins us xs,ins vs ys]++M) w':=g3.drop (.cons_cons _ (.cons_cons _ (.cons_cons _ (.cons _ (List.Sublist.refl _)))))
 refine St.merge g4 ?_
 rintro a ⟨a1,b1,hd,h1,h2,hr,a2,b2,hd2,h3,h4,hi,a3,b3,hd3,h5,h6,hj,_⟩
 exact⟨us++vs,a1,b1,hd,h1,h2,by rw[e1];exact hr,b1,fun _=>none,fun _=> .inr rfl,Sub.refl _,fun _ _ h=>(by cases h),ins_app (ins.mono _ _ _ _ h3 hi) (ins.mono _ _ _ _ (h5.trans h4) hj),trivial⟩
end
end Go.Jn
namespace Go.Sl
section
variable {H:Type}{enc:TypeId×Value→H}{P:Program}{w:World}{base:Nat}{spare:Nat→Bool}{held:Bool}
def Reads{α:Type}(P:Program)(R:Rp α)(Q:(H:Type)→DataW H→α→Prop)(t:TypeId):Prop:=
 ∀(H:Type) (enc:TypeId×Value→H) (w:World) (base:Nat) (spare:Nat→Bool) (held:Bool) (fuel:Nat) (cs:List Value) (x:DataW H×List MemPlace),
  DataW.trod enc P w base spare held fuel t cs=some x→∃y,R.rep (ph w) cs y∧Q H x.1 y
def QAny{α:Type}(H:Type)(_:DataW H)(_:α):Prop:=True
def QSl{α:Type}(Q:(H:Type)→DataW H→α→Prop)(H:Type)(d:DataW H)(ys:List α):Prop:=
 match d with
 | .slice elems _=>elems.length=ys.length∧∀(i:Nat) di yi,elems[i]? =some di→ys[i]? =some yi→Q H di yi
 | .nil=>ys=[]
 |_=>False
theorem cs_of_cells{a:Addr}{k:Nat}{cs:List Value}(h:w.cells? base a k=some cs):Cs (ph w) a cs:=by
 intro j v hj
 obtain⟨_,hl,hc⟩:=World.cells?_some h
 have hlt:=(List.getElem?_eq_some_iff.1 hj).1
 have:=hc j (by omega)
 rw[hj]at this
 exact this
theorem reads_slice{α:Type}{R:Rp α}{Q:(H:Type)→DataW H→α→Prop}{t e:Nat}(ht:P.underlying t=some (.slice e))(hc:P.cellsOf e=R.n)(hr:Reads P R Q e):Reads P R.slice (QSl Q) t:=by
 intro H enc w base spare held fuel cs x h
 rcases Go.Deep.open_slice ht h with⟨rfl,rfl⟩|⟨a,len,cap,m,n,D,Pl,rfl,_,hl,hm,hmm,rfl,hel⟩
 ·exact⟨[],⟨_,rfl,Sl.nil _ _⟩,rfl⟩
 ·have hle:len≤m:=by subst hmm;split<;>omega
  have hy:∀i,i<len→∃y cs',Cs (ph w) (a.add (i*R.n)) cs'∧R.rep (ph w) cs' y∧Q H (D i) y:=by
   intro i hi
   obtain⟨cs',h1,h2⟩:=hel i (by omega)
   obtain⟨y,hy⟩:=hr H enc w base spare held n cs' _ h2
   rw[hc]at h1
   exact⟨y,cs',cs_of_cells h1,hy.1,hy.2⟩
  have hlist:∀k,k≤len→∃ys:List α,ys.length=k∧∀i y,ys[i]? =some y→∃cs',Cs (ph w) (a.add (i*R.n)) cs'∧R.rep (ph w) cs' y∧Q H (D i) y:=by
   intro k
   induction k with
   |zero=>exact fun _=>⟨[],rfl,fun i y h=>by simp at h⟩
   |succ k ih=>
    intro hk
    obtain⟨ys,hyl,hys⟩:=ih (by omega)
    obtain⟨y,cs',h1,h2⟩:=hy k (by omega)
    refine⟨ys++[y],by simp[hyl],fun i z hz=> ?_⟩
    by_cases hi:i<ys.length
    ·rw[List.getElem?_append_left hi]at hz
     exact hys i z hz
    ·have hlt:=(List.getElem?_eq_some_iff.1 hz).1
     have:i=ys.length:=by simp at hlt;omega
     subst this
     simp at hz
     subst hz
     rw[hyl];exact⟨cs',h1,h2⟩
  obtain⟨ys,hyl,hys⟩:=hlist len (Nat.le_refl _)
  subst hyl
  refine⟨ys,⟨_,rfl,some a,cap,rfl,hl,by unfold maxLen at hm;omega,fun j y hj=>⟨rfl,let⟨cs',h1,h2,_⟩:=hys j y hj;⟨cs',h1,h2⟩⟩⟩,?_⟩
  refine⟨by simp,fun i di yi hd hy=> ?_⟩
  obtain⟨_,_,_,hq⟩:=hys i yi hy
  have hlt:=(List.getElem?_eq_some_iff.1 hy).1
  simp[hlt]at hd
  subst hd
  exact hq
end
end Go.Sl
namespace Go.Proofs
open Go Go.Sl
open Go.ChangeShapes Go.ChangeAt Go.RowKit
theorem u8_any(n:Int)(h:(Lit.int .u8 n).wf=true):∃y:UInt8,Value.int .u8 n=Bx y:=by
 have hb:IntKind.u8.min≤n∧n≤IntKind.u8.max:=by simpa only[Lit.wf,Bool.and_eq_true,decide_eq_true_eq]using h
 have h1:(0:Int)≤n:=hb.1
 have h2:n≤255:=hb.2
 refine⟨UInt8.ofNat n.toNat,?_⟩
 have h3:(UInt8.ofNat n.toNat).toNat=n.toNat:=by simp;omega
 show _=Value.int .u8 ((UInt8.ofNat n.toNat).toNat:Int)
 rw[h3,Int.toNat_of_nonneg h1]
theorem c5:Tryz.prog.cellsOf 5=1:=by kernel_rfl
end Go.Proofs
