/-
 Own work; plain Lean (JnRf, JnRd, JnRef).
-/
import Derived.Test.YtkpdcajddpiknaaJn5
set_option linter.all false
namespace Go.Jn
open Go Go.Sl
def jJ(xs:Bs):Prop:=((xs.length:Nat):Int)<(24:Int)∨(65536:Int)<((qS xs).toNat:Int)∨((U ((xs.length:Nat):Int)).toNat:Int)<((qS xs+(24:UInt64)).toNat:Int)∨(4611686018427387904:Int)<((xF xs).toNat:Int)
instance (xs:Bs):Decidable (jJ xs):=by unfold jJ;infer_instance
theorem aIh{s:UInt64}(h:s.toNat≤65536):(s+(24:UInt64)).toNat=s.toNat+24:=by
 have e:(24:UInt64).toNat=24:=rfl
 rw[UInt64.toNat_add,e];omega
theorem aMa{s:UInt64}(h:s.toNat≤65536):((16:UInt64)+s).toNat=16+s.toNat:=by
 have e:(16:UInt64).toNat=16:=rfl
 rw[UInt64.toNat_add,e];omega
theorem vU{xs:Bs}(hl:xs.length<4611686018427387904)(h:jJ xs):jS xs:=by
 have hU:(U ((xs.length:Nat):Int)).toNat=xs.length:=fY (by omega)
 unfold jJ at h
 unfold jS
 rw[hU]at h
 by_cases h6:(65536:Int)<((qS xs).toNat:Int)
 ·exact .inr (.inr (.inl h6))
 ·rw[aIh (by omega)]at h
  rcases h with h|h|h|h
  ·exact .inl h
  ·exact absurd h h6
  ·exact .inr (.inr (.inr (.inl (by omega))))
  ·exact .inr (.inr (.inr (.inr h)))
theorem aKf(xs:Bs)(s:Nat):xs.take (24+s)=xs.take 4++(xs.take 8).drop 4++(xs.take 16).drop 8++(xs.take (16+s)).drop 16++(xs.take (24+s)).drop (16+s):=by
 have e:∀a b,a≤b→xs.take b=xs.take a++(xs.take b).drop a:=fun a b h=>by
  conv=>lhs;rw[←List.take_append_drop a (xs.take b)]
  rw[List.take_take,Nat.min_eq_left h]
 rw[←e 4 8 (by omega),←e 8 16 (by omega),←e 16 (16+s) (by omega),←e (16+s) (24+s) (by omega)]
theorem aIb{e:Int}{xs:Bs}(hl:xs.length<4611686018427387904)(hb:¬jJ xs):decide (xs.take ((qS xs).toNat+24)=aD e ((xF xs).toNat:Int) (vK xs))=fK e xs:=by
 have hU:(U ((xs.length:Nat):Int)).toNat=xs.length:=fY (by omega)
 unfold jJ at hb
 simp only[not_or,Int.not_lt]at hb
 obtain⟨b1,b2,b3,b4⟩:=hb
 rw[hU,aIh (by omega)]at b3
 have hpl:(vK xs).length=(qS xs).toNat:=by simp[vK];omega
 rw[Nat.add_comm]
 by_cases h:xs.take (24+(qS xs).toNat)=aD e ((xF xs).toNat:Int) (vK xs)
 ·rw[decide_eq_true h]
  obtain⟨n,hn⟩:∃n,n=(xF xs).toNat:=⟨_,rfl⟩
  obtain⟨p,hp⟩:∃p,p=vK xs:=⟨_,rfl⟩
  obtain⟨s,hs⟩:∃s,s=(qS xs).toNat:=⟨_,rfl⟩
  rw[←hn,←hp,←hs]at h
  rw[←hp,←hs]at hpl
  have hx:xs=aD e n p++xs.drop (24+s):=by rw[←h,List.take_append_drop]
  rw[hx]
  exact((qP (by omega) (by omega)).1).symm
 ·rw[decide_eq_false h]
  symm
  cases hr:fK e xs with
  |false=>rfl
  |true=>
   exfalso
   apply h
   have hnb:¬jS xs:=fun q=>by rw[fK,if_pos q]at hr;cases hr
   have hsum:aCz xs=vF e ((xF xs).toNat:Int) (vK xs):=by
    rw[fK,if_neg hnb]at hr;exact of_decide_eq_true hr
   have hxor:qS xs^^^rin xs=4294967295:=by
    unfold jS at hnb
    simp only[not_or]at hnb
    have:=Decidable.not_not.1 hnb.2.1
    apply UInt64.toNat_inj.1
    have h7:((4294967295:UInt64).toNat:Int)=4294967295:=rfl
    omega
   rw[aKf,aAy]
   have hs:U (((vK xs).length:Nat):Int)=qS xs:=UInt64.toNat_inj.1 (by rw[fY (by omega),hpl])
   have hn:U (((xF xs).toNat:Nat):Int)=xF xs:=UInt64.toNat_inj.1 (fY (xF xs).toNat_lt)
   have l1:(xs.take 4).length=4:=by simp;omega
   have l2:((xs.take 8).drop 4).length=4:=by simp;omega
   have l3:((xs.take 16).drop 8).length=8:=by simp;omega
   have l5:((xs.take (24+(qS xs).toNat)).drop (16+(qS xs).toNat)).length=8:=by simp;omega
   have e1:xs.take 4=be 4 (qS xs):=oW (by omega) (by rw[l1,aL]) (by
    apply UInt64.toNat_inj.1
    rw[rY]
    have:aP (xs.take 4)=qS xs:=rfl
    rw[this];omega)
   have e2:(xs.take 8).drop 4=be 4 (~~~ (qS xs)):=oW (by omega) (by rw[l2,aL]) (by
    have h1:qS xs^^^aP ((xs.take 8).drop 4)=4294967295:=hxor
    have h2:=zR (x:=qS xs) (by omega)
    have h3:=congrArg (fun z=>qS xs^^^z) (h1.trans h2.symm)
    simpa only[←UInt64.xor_assoc,UInt64.xor_self,UInt64.zero_xor]using h3)
   have e3:(xs.take 16).drop 8=be 8 (xF xs):=(tA l3).symm
   have e5:(xs.take (24+(qS xs).toNat)).drop (16+(qS xs).toNat)=be 8 (aCz xs):=(tA l5).symm
   rw[hs,hn,e1,e2,e3,e5,hsum]
   rfl
def rNr(xs:Bs):Nat:=if jJ xs then 0 else(xF xs).toNat
def pL(xs:Bs):Bs:=if jJ xs then []else vK xs
def pU(a:Option Addr)(c:Nat)(xs:Bs):Option Addr:=if jJ xs then none else gL a c 16 1
def pK(c:Nat)(xs:Bs):Nat:=if jJ xs then 0 else c-16
theorem lF{e:Int}{xs:Bs}(hl:xs.length<4611686018427387904)(h:fK e xs=true):rNr xs=eD xs∧pL xs=aZ xs:=by
 have hnb:¬jS xs:=fun q=>by rw[fK,if_pos q]at h;cases h
 have hnR:¬jJ xs:=fun q=>hnb (vU hl q)
 rw[rNr,pL,eD,aZ,if_neg hnb,if_neg hnb,if_neg hnR,if_neg hnR]
 exact⟨rfl,rfl⟩
theorem vT{xs:Bs}:(pL xs).length≤65536:=by
 unfold pL
 split
 ·simp
 ·rename_i hb
  unfold jJ at hb
  simp only[not_or,Int.not_lt]at hb
  simp[vK];omega
theorem vQ{xs:Bs}:rNr xs≤4611686018427387904:=by
 unfold rNr
 split
 ·omega
 ·rename_i hb
  unfold jJ at hb
  simp only[not_or,Int.not_lt]at hb
  omega
theorem tI{h:bR}{a:Option Addr}{c:Nat}{xs:Bs}(hc:xs.length≤c)(hm:c≤9223372036854775807)(he:bO bE h a xs):Sl bE h (.slice (pU a c xs) (pL xs).length (pK c xs)) (pL xs):=by
 refine⟨_,_,rfl,?_,by unfold pK;split<;>omega,?_⟩
 ·unfold pL pK
  split
  ·simp
  ·rename_i hb
   unfold jJ at hb
   simp only[not_or,Int.not_lt]at hb
   simp[vK];omega
 ·unfold pU pL
  split
  ·intro j x hx;simp at hx
  ·rename_i hb
   unfold jJ at hb
   simp only[not_or,Int.not_lt]at hb
   exact bO.drop 16 (by simp;omega) (bO.take _ he)
theorem aBc{us:List Value}{rs:List Bs}{AD:Option Addr}{c s:Nat}{ar:Bs}(hin:∀h,bO bE h AD ar→tX us rs h)(hc:ar.length≤c)(hm:c≤9223372036854775807):
  ∀h,bO bE h AD ar→tX (us++[.slice (pU (gL AD c s 1) (c-s) (ar.drop s)) (pL (ar.drop s)).length (pK (c-s) (ar.drop s))]) (rs++[pL (ar.drop s)]) h:=fun h he=>
 tY (hin h he) (tI (by simp;omega) (by omega) (bO.drop s hc he))
theorem qO{e:Int}{xs:Bs}{a:Option Addr}{c:Nat}(hl:xs.length<4611686018427387904)(h:jJ xs):Ending.returned (.tuple #[.int .i64 0,.slice none 0 0,.bool false])= .returned (.tuple #[Nx (rNr xs),.slice (pU a c xs) (pL xs).length (pK c xs),.bool (fK e xs)]):=by
 have hb:=vU hl h
 unfold rNr pU pL pK fK
 simp[h,hb]
theorem aCu{e:Int}{xs:Bs}{a:Option Addr}{c:Nat}(hl:xs.length<4611686018427387904)(h:¬jJ xs):
  Ending.returned (.tuple #[Nx (xF xs).toNat,.slice (gL a c 16 1) (vK xs).length (c-16),.bool (decide (xs.take ((qS xs).toNat+24)=aD e ((xF xs).toNat:Int) (vK xs)))])=
  .returned (.tuple #[Nx (rNr xs),.slice (pU a c xs) (pL xs).length (pK c xs),.bool (fK e xs)]):=by
 rw[aIb hl h]
 unfold rNr pU pL pK
 simp only[if_neg h]
theorem aHe{xs:Bs}{j:Nat}(hl:xs.length=32)(hj:j<2)(h2:((aP ((xs.take (16*j+8)).drop (16*j))).toNat:Int)<(4611686018427387904:Int))
 (h3:((aP ((xs.take (16*j+8)).drop (16*j))%(2:UInt64)).toNat:Int)=(j:Int))(h4:(xs.take (16*j+16)).drop (16*j)=be 8 (U ((aP ((xs.take (16*j+8)).drop (16*j))).toNat:Int))++be 8 (bF ((aP ((xs.take (16*j+8)).drop (16*j))).toNat:Int)))
 (h1:((bX xs j).toNat:Int)<((aP ((xs.take (16*j+8)).drop (16*j))).toNat:Int)):
  (bX xs (j+1)).toNat=(aP ((xs.take (16*j+8)).drop (16*j))).toNat:=by
 rw[Nat.mul_comm]at*
 have e1:U ((((j*16)/16:Nat)):Int)=U (j:Int):=by rw[Nat.mul_div_cancel _ (by decide)]
 rw[aEd h1 h2 (by rw[e1,fY (by omega)];exact h3) ?_]
 have h5:=congrArg (List.drop 8) h4
 rw[List.drop_left' (aL _ _),List.drop_drop]at h5
 rw[show j*16+8=j*16+8 from rfl]at h5
 rw[h5,jU]
theorem pZ{xs:Bs}{j:Nat}(hl:xs.length=32)(hj:j<2)(h:¬(((aP ((xs.take (16*j+8)).drop (16*j))).toNat:Int)<(4611686018427387904:Int)∧((aP ((xs.take (16*j+8)).drop (16*j))%(2:UInt64)).toNat:Int)=(j:Int)∧
  (xs.take (16*j+16)).drop (16*j)=be 8 (U ((aP ((xs.take (16*j+8)).drop (16*j))).toNat:Int))++be 8 (bF ((aP ((xs.take (16*j+8)).drop (16*j))).toNat:Int))∧((bX xs j).toNat:Int)<((aP ((xs.take (16*j+8)).drop (16*j))).toNat:Int))):
  bX xs (j+1)=bX xs j:=by
 rw[Nat.mul_comm]at h
 rw[bX,lS,if_neg]
 rintro⟨c1,c2,c3,c4⟩
 apply h
 have q1:=UInt64.lt_iff_toNat_lt.1 c1
 have q2:=UInt64.lt_iff_toNat_lt.1 c2
 have e0:(4611686018427387904:UInt64).toNat=4611686018427387904:=rfl
 have l8:((xs.take (j*16+8)).drop (j*16)).length=8:=by simp;omega
 have l8':((xs.take (j*16+16)).drop (j*16+8)).length=8:=by simp;omega
 refine⟨by omega,?_,?_,by omega⟩
 ·rw[c3,Nat.mul_div_cancel _ (by decide),fY (by omega)]
 ·rw[show U (((aP ((xs.take (j*16+8)).drop (j*16))).toNat:Nat):Int)=aP ((xs.take (j*16+8)).drop (j*16))from UInt64.toNat_inj.1 (fY (UInt64.toNat_lt _)),tA l8,←c4,tA l8']
  have e:xs.take (j*16+16)=xs.take (j*16+8)++(xs.take (j*16+16)).drop (j*16+8):=by
   conv=>lhs;rw[←List.take_append_drop (j*16+8) (xs.take (j*16+16))]
   rw[List.take_take,Nat.min_eq_left (by omega)]
  conv=>lhs;rw[e]
  rw[List.drop_append_of_le_length (by simp;omega)]
open Go Go.Sl
theorem pT{e:Int}:∀(f n:Nat) (xs:Bs),aR (gI e f n xs)≤xs.length
 |0,_,_=>Nat.zero_le _
 |f+1,n,xs=>by
  unfold gI
  split
  ·rename_i h
   have h1:=kF h.1
   have h2:=pT (e:=e) f (n+1) (xs.drop (24+(aZ xs).length))
   simp only[aR,List.length_drop]at h2⊢
   omega
  ·exact Nat.zero_le _
theorem pS{e:Int}:∀(f n:Nat) (xs:Bs),n≤4611686018427387904→n+(gI e f n xs).length≤4611686018427387904
 |0,n,_,h=>by simpa[gI]using h
 |f+1,n,xs,h=>by
  unfold gI
  split
  ·rename_i h1
   have h2:=pS (e:=e) f (n+1) (xs.drop (24+(aZ xs).length)) (by omega)
   simp only[List.length_cons]
   omega
  ·simpa using h
theorem nX{e:Int}:∀(f n:Nat) (xs:Bs),∀b∈gI e f n xs,b.length≤65536
 |0,_,_,b,h=>by simp[gI]at h
 |f+1,n,xs,b,h=>by
  unfold gI at h
  split at h
  ·rcases List.mem_cons.1 h with h1|h1
   ·rw[h1];exact jT
   ·exact nX f _ _ b h1
  ·cases h
theorem wB(l:List Bs):24*l.length≤aR l:=by
 induction l with
 |nil=>simp[aR]
 |cons a l ih=>simp only[List.length_cons,aR];omega
structure RdB(k:KS)(i:KI):Prop where
 size:i.size≤(k.area i.epoch).length
 epoch:i.epoch<4611686018427387904
 next:i.next≤4611686018427387904
 len:24*i.recs.length≤(k.area i.epoch).length
 state:i.state.length≤65536
 recs:∀b∈i.recs,b.length≤65536
theorem aAi{k:KS}{i:KI}(h:eW k=some i):RdB k i:=by
 unfold eW at h
 simp only at h
 have he:aT k.head<4611686018427387904:=kQ _ _
 split at h
 ·rename_i h0
  injection h with h
  subst h
  rw[h0]
  have h1:=pT (e:=((0:Nat):Int)) ((k.area 0).length+1) 0 (k.area 0)
  have h2:=pS (e:=((0:Nat):Int)) ((k.area 0).length+1) 0 (k.area 0) (by omega)
  have h3:=wB (fG 0 0 (k.area 0))
  exact⟨h1,by show(0:Nat)<_;omega,by simpa[fG]using h2,Nat.le_trans h3 h1,by simp,nX _ _ _⟩
 ·split at h
  ·rename_i h0 hb
   injection h with h
   subst h
   have hl:=kF hb
   obtain⟨ar,har⟩:∃z,z=k.area (aT k.head):=⟨_,rfl⟩
   obtain⟨e,hee⟩:∃z,z=aT k.head:=⟨_,rfl⟩
   rw[←har]at hl
   have h1:=pT (e:=(e:Int)) ((ar.drop (24+(aZ ar).length)).length+1) (eD ar) (ar.drop (24+(aZ ar).length))
   have h2:=pS (e:=(e:Int)) ((ar.drop (24+(aZ ar).length)).length+1) (eD ar) (ar.drop (24+(aZ ar).length)) lD
   have h3:=wB (fG e (eD ar) (ar.drop (24+(aZ ar).length)))
   have h4:aR (fG e (eD ar) (ar.drop (24+(aZ ar).length)))≤(ar.drop (24+(aZ ar).length)).length:=h1
   rw[←hee]at har he⊢
   rw[←har]
   simp only[List.length_drop]at h4
   refine⟨?_,he,h2,?_,jT,nX _ _ _⟩
   ·show _≤(k.area e).length;rw[←har];show 24+_+aR _≤_;omega
   ·show _≤(k.area e).length;rw[←har];show 24*(fG _ _ _).length≤_;omega
  ·cases h
theorem Sl.us{h:bR}{pr:Option Addr}{n cr:Nat}{xs:List Bs}(hs:Sl rA h (.slice pr n cr) xs):∃us,us.length=xs.length∧Cs h (ba pr) us∧(us.all (·.oneCell')=true)∧tX us xs h∧(0<xs.length→pr=some (ba pr)):=by
 obtain⟨_,_,_,he⟩:=hs.parts
 have key:∀(ys:List Bs) (o:Nat),(∀j x,ys[j]? =some x→∃cs,Cs h ((ba pr).add (o+j)) cs∧∃v,cs=[v]∧Sl bE h v x)→∃us:List Value,us.length=ys.length∧(∀j v,us[j]? =some v→tQ h ((ba pr).add (o+j))=some v)∧(us.all (·.oneCell')=true)∧∀(j:Nat) x u,ys[j]? =some x→us[j]? =some u→Sl bE h u x:=by
  intro ys
  induction ys with
  |nil=>intro o _;exact⟨[],rfl,fun j v hj=>by simp at hj,rfl,fun j x u hx _=>by simp at hx⟩
  |cons y ys ih=>
   intro o hy
   obtain⟨us,h1,h2,h3,h4⟩:=ih (o+1) (fun j x hj=>by
    have:=hy (j+1) x (by simpa using hj)
    rwa [show o+(j+1)=o+1+j by omega]at this)
   obtain⟨cs,hc,v,rfl,hv⟩:=hy 0 y rfl
   refine⟨v::us,by simp[h1],fun j u hj=> ?_,?_,fun j x u hx hu=> ?_⟩
   ·cases j with
    |zero=>
     simp at hj;subst hj
     have:=hc 0 v rfl
     rwa [Addr.add_zero']at this
    |succ j=>
     have:=h2 j u (by simpa using hj)
     rwa [show o+1+j=o+(j+1) by omega]at this
   ·rw[List.all_cons,h3,Bool.and_true]
    obtain⟨a,c,rfl,_⟩:=hv.get
    rfl
   ·cases j with
    |zero=>simp at hx hu;subst hx;subst hu;exact hv
    |succ j=>exact h4 j x u (by simpa using hx) (by simpa using hu)
 obtain⟨us,h1,h2,h3,h4⟩:=key xs 0 (fun j x hj=>by
  obtain⟨_,cs,hc,v,hv⟩:=he j x hj
  have hc:Cs h ((ba pr).add (j*1)) cs:=hc
  rw[Nat.mul_one]at hc
  rw[Nat.zero_add]
  exact⟨cs,hc,v,hv⟩)
 refine⟨us,h1,fun j v hj=> ?_,h3,⟨h1,h4⟩,fun h0=>lC he h0⟩
 have:=h2 j v hj
 rwa [Nat.zero_add]at this
def iT(vH vA vB vS vR:Value)(k:KS)(i:KI):cE:=fun h=>Sl bE h vH k.head∧Sl bE h vA k.a∧Sl bE h vB k.b∧Sl bE h vS i.state∧Sl rA h vR i.recs
theorem iT.mono(vH vA vB vS vR:Value)(k:KS)(i:KI):oZ (iT vH vA vB vS vR k i):=fun _ _ hs ⟨a,b,c,d,e⟩=>⟨Sl.mono _ _ _ _ _ hs a,Sl.mono _ _ _ _ _ hs b,Sl.mono _ _ _ _ _ hs c,Sl.mono _ _ _ _ _ hs d,Sl.mono _ _ _ _ _ hs e⟩
theorem aDy{k:KS}{e size:Nat}(h:¬cutOk (k.area e) k.power size):aV k e size=k:=by
 unfold cutOk at h
 have h1:k.power=0:=by omega
 have e1:gV (k.area e) k.power size=k.area e:=by rw[gV,if_pos h1]
 have e2:fP (k.area e) k.power size=k.power:=by
  unfold fP dN;split
  ·rw[if_neg (by omega)]
  ·rfl
 unfold aV
 rw[e1,e2]
 unfold KS.setArea KS.area
 split<;>rfl
open Go Go.Sl
theorem uW{xs:Bs}{k:Nat}{x:UInt8}(hx:xs[k]? =some x)(hl:xs.length≤8):gP 0 (xs.take (k+1))=gP 0 (xs.take k)*(256:UInt64)+x.toUInt64:=by
 have hk:=(List.getElem?_eq_some_iff.1 hx).1
 have e1:xs.take (k+1)=xs.take k++[x]:=by rw[List.take_add_one,hx];rfl
 rw[e1,uV]
 have hlen:(xs.take k).length=k:=by rw[List.length_take];omega
 have hn:(gP 0 (xs.take k)).toNat=mE (xs.take k):=mO (by omega)
 have hb:mE (xs.take k)<256^k:=by have:=qK (xs.take k);rwa [hlen]at this
 have hp:256^k≤256^7:=Nat.pow_le_pow_right (by decide) (by omega)
 have h56:(256:Nat)^7=72057594037927936:=by decide
 have hsm:(gP 0 (xs.take k)).toNat<72057594037927936:=by omega
 apply UInt64.toNat_inj.1
 rw[wF hsm,UInt64.toNat_add,UInt64.toNat_mul]
 have h2:=x.toNat_lt
 have h3:(256:UInt64).toNat=256:=rfl
 have h4:x.toUInt64.toNat=x.toNat:=by simp
 rw[h3,h4]
 omega
end Go.Jn
namespace Go.Proofs
open Go Go.Sl Go.Jn
theorem aIo(x:UInt64):(Ux x).oneCell'=true:=rfl
theorem aDb{xs:List UInt64}{k:Nat}{a:UInt64}(h:xs[k]? =some a):mI 0 (xs.take (k+1))=mI 0 (xs.take k)*0x9e3779b97f4a7c15+a+1:=by
 rw[iB h,wA]
theorem aFo{v:Value}{T:Nat}{xs:List UInt64}{a:bR}(h:row v T 1 xs.length (xs.map fun z=>Ux z) a):Sl zW a v xs:=by
 obtain⟨_,⟨rfl,h0⟩|⟨g,cap,cur,rfl,hg,h1,h2,h3,h4⟩⟩:=h
 ·have:xs=[]:=List.eq_nil_of_length_eq_zero h0
  subst this
  exact⟨none,0,rfl,Nat.le_refl _,by omega,fun j x hj=>by simp at hj⟩
 ·refine⟨some ⟨g,0,none⟩,cap,rfl,h1,by unfold maxLen at h2;omega,fun j x hj=>⟨rfl,[Ux x],?_,rfl⟩⟩
  have hlt:=(List.getElem?_eq_some_iff.1 hj).1
  have hc:Cs a ⟨g,0,none⟩ (xs.map fun z=>Ux z):=Cs.of_pt (o:=0) hg (by simpa using h4)
  have:=Cs.sub (vs:=[Ux x]) j hc (by
   have hx:=(List.getElem?_eq_some_iff.1 hj).2
   rw[List.drop_eq_getElem_cons (by simpa using hlt)]
   simp[hx])
  show Cs a ((⟨g,0,none⟩:Addr).add (j*1)) [Ux x]
  rw[Nat.mul_one];exact this
theorem aHy{b n T:Nat}{xs:List UInt64}{cs:Array Value}{a:bR}(h:pt b (.cells cs T) a)(hx:cs.toList=xs.map fun z=>Ux z)(hn:(Nat.beq xs.length n&&Nat.ble n 9223372036854775807)=true):Sl zW a (.slice (some ⟨b,0,none⟩) n n) xs:=by
 simp only[Bool.and_eq_true,Nat.ble_eq]at hn
 have h1:=Nat.eq_of_beq_eq_true hn.1
 subst h1
 refine⟨some ⟨b,0,none⟩,xs.length,rfl,Nat.le_refl _,hn.2,fun j x hj=>⟨rfl,[Ux x],?_,rfl⟩⟩
 have hlt:=(List.getElem?_eq_some_iff.1 hj).1
 have hc:Cs a ⟨b,0,none⟩ (xs.map fun z=>Ux z):=Cs.of_pt (o:=0) h (by rw[hx];simp[List.take_of_length_le])
 have:=Cs.sub (vs:=[Ux x]) j hc (by
  have hx:=(List.getElem?_eq_some_iff.1 hj).2
  rw[List.drop_eq_getElem_cons (by simpa using hlt)]
  simp[hx])
 show Cs a ((⟨b,0,none⟩:Addr).add (j*1)) [Ux x]
 rw[Nat.mul_one];exact this
end Go.Proofs
namespace Go.Jn
open Go Go.Sl
theorem yA{n m:UInt64}{j:Nat}(hj:j<8)(hm:m.toNat=n.toNat/256^j):(m%(256:UInt64)).toUInt8=(n>>>UInt64.ofNat (8*j)).toUInt8:=by
 apply UInt8.toNat_inj.1
 have e1:(UInt64.ofNat (8*j)).toNat=8*j:=by simp;omega
 have e2:(256:UInt64).toNat=256:=rfl
 have e3:(256:Nat)^j=2^(8*j):=by rw[Nat.pow_mul]
 rw[UInt64.toNat_toUInt8,UInt64.toNat_toUInt8,UInt64.toNat_mod,UInt64.toNat_shiftRight,e1,e2,hm,e3,Nat.shiftRight_eq_div_pow]
 rw[show 8*j%64=8*j from Nat.mod_eq_of_lt (by omega)]
 omega
theorem yB{n m:UInt64}{j:Nat}(hm:m.toNat=n.toNat/256^j):(m/(256:UInt64)).toNat=n.toNat/256^(j+1):=by
 have e2:(256:UInt64).toNat=256:=rfl
 rw[UInt64.toNat_div,e2,hm,Nat.div_div_eq_div_mul,Nat.pow_succ]
theorem aJi{ys:Bs}{q j:Nat}{n:UInt64}{b:UInt8}(hl:q<ys.length)(h:ys.drop (q+1)=be j n)(hb:b=(n>>>UInt64.ofNat (8*j)).toUInt8):(ys.set q b).drop q=be (j+1) n:=by
 rw[List.drop_eq_getElem_cons (by simpa using hl),be,List.getElem_set_self,hb,←h]
 congr 1
 rw[List.drop_set_of_lt (by omega)]
theorem aDn{x:UInt64}(hx:x.toNat<4294967296):be 4 ((4294967295:UInt64)-x)=be 4 (~~~x):=by
 refine uA (by rw[aL,aL]) ?_
 rw[qJ 4 _ (by omega),qJ 4 _ (by omega)]
 have e1:(4294967295:UInt64).toNat=4294967295:=rfl
 rw[UInt64.toNat_sub,UInt64.toNat_not,e1]
 have e2:(256:Nat)^4=4294967296:=by decide
 have e3:UInt64.size=18446744073709551616:=rfl
 rw[e2]
 omega
end Go.Jn
namespace Go.Sl
open Go
theorem aKi(x y:UInt64):IntKind.u64.wrap (((x.toNat:Nat):Int).tdiv ((y.toNat:Nat):Int))=(((x/y).toNat:Nat):Int):=by
 have e1:((x.toNat:Nat):Int).tdiv ((y.toNat:Nat):Int)=((x.toNat/y.toNat:Nat):Int):=by rw[Int.tdiv_eq_ediv_of_nonneg (by omega)];rfl
 have h1:=x.toNat_lt
 have h2:=Nat.div_le_self x.toNat y.toNat
 rw[e1,UInt64.toNat_div,vL]
 generalize x.toNat/y.toNat=q at h2⊢
 omega
end Go.Sl
