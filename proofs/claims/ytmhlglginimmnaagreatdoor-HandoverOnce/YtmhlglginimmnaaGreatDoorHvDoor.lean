/-
  Own work; plain Lean (HvEnt, HvGate, HvSt, HvMap, HvOp, HvPl, HvAll, HvGt, HvDoor).
-/
import Derived.Test.YtmhlglginimmnaaGreatDoorHv2
import Derived.Test.YtmhlglginimmnaaGreatDoorProg
import Derived.Test.YtmhlglginimmnaaGreatDoorHvOpn
import Derived.Test.YtmhlglginimmnaaGreatDoorRows
import Derived.ProofKit
import Derived.LaidMore
import Derived.LaidSub
import Derived.OpenShut
import Derived.Stop.Joined
set_option linter.all false
namespace Go.Hv
open Go Go.Sl Go.Proofs
abbrev inI(n:Int):Prop:= -9223372036854775808≤n∧n≤9223372036854775807
structure CpI(x:KComp):Prop where
 v0:inI x.v0
 v1:inI x.v1
 v2:inI x.v2
 v3:inI x.v3
abbrev kiB(k:UInt8):List UInt8:=vint ((k.toNat:Nat):Int)
def cpB(c:KComp):List UInt8:=kiB c.kind++(vint c.v0++(vint c.v1++(vint c.v2++vint c.v3)))
def cpsB(l:List KComp):List UInt8:=l.flatMap cpB
def entB(e:KEnt):List UInt8:=vint e.id++(vint ((e.comps.length:Nat):Int)++cpsB e.comps)
theorem kind_in(k:UInt8):inI ((k.toNat:Nat):Int):=by have:=k.toNat_lt;constructor<;>omega
theorem len_in{n:Nat}(h:n≤1048576):inI ((n:Nat):Int):=by constructor<;>omega
theorem cpsB_cons(x:KComp)(l:List KComp):cpsB (x::l)=cpB x++cpsB l:=rfl
theorem cpsB_snoc{l:List KComp}{k:Nat}{x:KComp}(h:l[k]? =some x):cpsB (l.take (k+1))=cpsB (l.take k)++cpB x:=by
 unfold cpsB;rw[take_succ h,List.flatMap_append];simp
theorem cpsB_drop{l:List KComp}{k:Nat}{x:KComp}(h:l[k]? =some x):cpsB (l.drop k)=cpB x++cpsB (l.drop (k+1)):=by rw[drop_cons h,cpsB_cons]
theorem conv8(k:UInt8):IntKind.u8.wrap ((k.toNat:Nat):Int)=(k.toNat:Int):=by have:=k.toNat_lt;rw[u8w];omega
theorem fill_at{l:List KComp}{k:Nat}(h:k<l.length):(l.take k++List.replicate (l.length-k) zeroC)[k]? =some zeroC:=by
 rw[List.getElem?_append_right (by rw[List.length_take];omega),List.length_take,Nat.min_eq_left (by omega),Nat.sub_self,List.getElem?_replicate,if_pos (by omega)]
theorem fill_set{l:List KComp}{k:Nat}{x:KComp}(h:l[k]? =some x):(l.take k++List.replicate (l.length-k) zeroC).set k x=l.take (k+1)++List.replicate (l.length-(k+1)) zeroC:=by
 obtain⟨hk,rfl⟩:=List.getElem?_eq_some_iff.1 h
 rw[List.set_append,if_neg (by rw[List.length_take];omega),List.length_take,Nat.min_eq_left (by omega),Nat.sub_self,take_succ (List.getElem?_eq_getElem hk),show l.length-k=(l.length-(k+1))+1 by omega,List.replicate_succ,List.set_cons_zero,List.append_assoc];rfl
theorem fill_len{l:List KComp}{k:Nat}(h:k≤l.length):(l.take k++List.replicate (l.length-k) zeroC).length=l.length:=by
 rw[List.length_append,List.length_take,List.length_replicate];omega
theorem repl_next(k:Nat):List.replicate k zeroC++[zeroC]=List.replicate (k+1) zeroC:=List.replicate_succ'.symm
theorem set_set'{l:List KComp}{k:Nat}(x y:KComp):(l.set k x).set k y=l.set k y:=List.set_set ..
end Go.Hv
namespace Go.Hv
open Go Go.Sl Go.Proofs
structure KRg where
 l0:Int
 h0:Int
 l1:Int
 h1:Int
 l2:Int
 h2:Int
 l3:Int
 h3:Int
abbrev rgE(x:KRg):List Value:=[Ix x.l0,Ix x.h0,Ix x.l1,Ix x.h1,Ix x.l2,Ix x.h2,Ix x.l3,Ix x.h3]
abbrev RgF:Fl KRg:=⟨8,rgE,fun _=>rfl,fun _=>rfl,by decide⟩
abbrev rg4(l h:Int):KRg:=⟨l,h,l,h,l,h,l,h⟩
def rngL:List KRg:=[rg4 0 0,⟨-1048576,1048576,-1048576,1048576,0,0,0,0⟩,⟨-4096,4096,-4096,4096,0,0,0,0⟩,⟨1,16384,1,16384,0,1,0,1⟩,⟨1,8,0,0,0,0,0,0⟩,⟨0,510,0,0,0,0,0,0⟩,⟨0,15,0,0,0,0,0,0⟩,rg4 (-2147483648) 2147483647,⟨0,1048576,0,1048576,0,0,0,0⟩,rg4 0 2147483647,rg4 (-2147483648) 2147483647]
abbrev GRng(β:Base):Prop:=Cs β.heap ⟨0,0,none⟩ (rngL.flatMap RgF.enc)
abbrev outR(v l h:Int):Bool:=decide (v<l)||decide (h<v)
def fitK(z:KRg)(c:KComp):Bool:=
 !(outR c.v0 z.l0 z.h0)&& !(outR c.v1 z.l1 z.h1)&& !(outR c.v2 z.l2 z.h2)&& !(outR c.v3 z.l3 z.h3)&&
  (if(c.kind.toNat:Int)=3 then decide (c.v2=0)||decide (c.v0=c.v1)else if(c.kind.toNat:Int)=5 then decide (c.v0.tmod 2=0)else true)
def fitC(c:KComp):Bool:=if c.kind.toNat<1∨10<c.kind.toNat then false else match rngL[c.kind.toNat]? with|some z=>fitK z c|none=>false
def risB:List KComp→Bool
 |a::b::l=>decide (a.kind.toNat<b.kind.toNat)&&risB (b::l)
 |_=>true
def rightE(e:KEnt):Bool:=decide (1≤e.id)&&decide (e.id≤65536)&&risB e.comps&& !e.comps.any (fun c=> !fitC c)
theorem risB_iff:∀{l:List KComp},risB l=true↔∀i x y,l[i]? =some x→l[i+1]? =some y→x.kind.toNat<y.kind.toNat
 |[]=>⟨fun _ i x y h=>by simp at h,fun _=>rfl⟩
 |[a]=>⟨fun _ i x y _ h=>by simp at h,fun _=>rfl⟩
 |a::b::l=>by
  rw[risB,Bool.and_eq_true,decide_eq_true_eq,risB_iff]
  constructor
  ·rintro⟨h1,h2⟩ i x y hx hy
   cases i with
   |zero=>simp at hx hy;subst hx;subst hy;exact h1
   |succ i=>exact h2 i x y hx hy
  ·intro h
   exact⟨h 0 a b rfl rfl,fun i x y hx hy=>h (i+1) x y hx hy⟩
theorem rng_get{k:Nat}(h:k≤10):∃z,rngL[k]? =some z:=⟨_,List.getElem?_eq_getElem (by show k<11;omega)⟩
theorem rng_bd:∀z∈rngL,(-2147483648≤z.l0∧z.h0≤2147483647)∧(-2147483648≤z.l1∧z.h1≤2147483647)∧(-2147483648≤z.l2∧z.h2≤2147483647)∧(-2147483648≤z.l3∧z.h3≤2147483647):=by decide
theorem outR_no{v l h:Int}(hh:outR v l h=false):l≤v∧v≤h:=by
 unfold outR at hh
 simp only[Bool.or_eq_false_iff,decide_eq_false_iff_not]at hh
 omega
abbrev in31(n:Int):Prop:= -2147483648≤n∧n≤2147483647
structure Cp31(c:KComp):Prop where
 k:1≤c.kind.toNat∧c.kind.toNat≤10
 v0:in31 c.v0
 v1:in31 c.v1
 v2:in31 c.v2
 v3:in31 c.v3
theorem Cp31.i{c:KComp}(h:Cp31 c):CpI c:=by
 have h0:=h.v0;have h1:=h.v1;have h2:=h.v2;have h3:=h.v3
 constructor<;>constructor<;>omega
theorem fit_31{c:KComp}(h:fitC c=true):Cp31 c:=by
 unfold fitC at h
 split at h
 ·cases h
 ·rename_i hk
  split at h
  ·rename_i z hz
   obtain⟨b0,b1,b2,b3⟩:=rng_bd z (List.mem_of_getElem? hz)
   unfold fitK at h
   simp only[Bool.and_eq_true,Bool.not_eq_true']at h
   obtain⟨⟨⟨⟨h0,h1⟩,h2⟩,h3⟩,_⟩:=h
   have h0:=outR_no h0;have h1:=outR_no h1;have h2:=outR_no h2;have h3:=outR_no h3
   refine⟨by omega,?_,?_,?_,?_⟩<;>constructor<;>omega
  ·cases h
structure Right(e:KEnt):Prop where
 id:1≤e.id∧e.id≤65536
 ris:risB e.comps=true
 fit:∀c∈e.comps,fitC c=true
theorem right_iff{e:KEnt}:rightE e=true↔Right e:=by
 unfold rightE
 simp only[Bool.and_eq_true,decide_eq_true_eq,Bool.not_eq_true',List.any_eq_false]
 constructor
 ·rintro⟨⟨⟨a,b⟩,c⟩,d⟩;exact⟨⟨a,b⟩,c,fun x hx=>by simpa using d x hx⟩
 ·intro h;exact⟨⟨h.id,h.ris⟩,fun x hx=>by simp[h.fit x hx]⟩
theorem ris_at:∀{l:List KComp},(∀c∈l,1≤c.kind.toNat)→risB l=true→∀{i:Nat} {x:KComp},l[i]? =some x→i<x.kind.toNat
 |l,h1,h,0,x,hx=>h1 x (List.mem_of_getElem? hx)
 |l,h1,h,i+1,x,hx=>by
  have hl:=(List.getElem?_eq_some_iff.1 hx).1
  have h2:=ris_at h1 h (i:=i) (x:=l[i]) (List.getElem?_eq_getElem (by omega))
  have:=risB_iff.1 h i _ _ (List.getElem?_eq_getElem (by omega)) hx
  omega
theorem Right.len{e:KEnt}(h:Right e):e.comps.length≤10:=by
 refine Decidable.byContradiction fun hn=> ?_
 have h1:e.comps[10]? =some e.comps[10]:=List.getElem?_eq_getElem (by omega)
 have h2:=ris_at (fun c hc=>(fit_31 (h.fit c hc)).k.1) h.ris h1
 have:=(fit_31 (h.fit _ (List.mem_of_getElem? h1))).k.2
 omega
theorem Right.cp{e:KEnt}(h:Right e):∀c∈e.comps,CpI c:=fun c hc=>(fit_31 (h.fit c hc)).i
theorem Right.idI{e:KEnt}(h:Right e):inI e.id:=by have:=h.id;constructor<;>omega
theorem cp31_len{c:KComp}(h:Cp31 c):(cpB c).length≤21:=by
 unfold cpB
 have hk:=h.k
 have h0:(kiB c.kind).length≤1:=vint_len1 (by omega)
 have v:∀{n:Int},in31 n→(vint n).length≤5:=fun hn=>vint_len5 (by have:=hn;omega)
 have h1:=v h.v0;have h2:=v h.v1;have h3:=v h.v2;have h4:=v h.v3
 simp only[List.length_append];omega
theorem cps31_len:∀{l:List KComp},(∀c∈l,Cp31 c)→(cpsB l).length≤21*l.length
 |[],_=>Nat.zero_le _
 |c::l,h=>by
  rw[cpsB_cons,List.length_append,List.length_cons]
  have:=cp31_len (h c (by simp));have:=cps31_len (l:=l) fun x hx=>h x (List.mem_cons_of_mem _ hx)
  omega
theorem Right.entB{e:KEnt}(h:Right e):(entB e).length≤214:=by
 have h1:=h.len
 have h2:=cps31_len (l:=e.comps) fun c hc=>fit_31 (h.fit c hc)
 have h3:(vint e.id).length≤3:=vint_len3 (by have:=h.id;omega)
 have h4:(vint ((e.comps.length:Nat):Int)).length≤1:=vint_len1 (by omega)
 unfold Go.Hv.entB
 simp only[List.length_append];omega
end Go.Hv
namespace Go.Hv
open Go Go.Sl
structure KN7 where
 n0:Int
 n1:Int
 n2:Int
 n3:Int
 n4:Int
 n5:Int
 n6:Int
deriving DecidableEq
def KN7.toL(z:KN7):List Int:=[z.n0,z.n1,z.n2,z.n3,z.n4,z.n5,z.n6]
def KN7.at(z:KN7):Nat→Int|0=>z.n0|1=>z.n1|2=>z.n2|3=>z.n3|4=>z.n4|5=>z.n5|_=>z.n6
def KN7.upd(z:KN7)(i:Nat)(v:Int):KN7:=match i with|0=>{z with n0:=v}|1=>{z with n1:=v}|2=>{z with n2:=v}|3=>{z with n3:=v}|4=>{z with n4:=v}|5=>{z with n5:=v}|_=>{z with n6:=v}
def zero7:KN7:=⟨0,0,0,0,0,0,0⟩
theorem seven{i:Nat}(h:i<7):i=0∨i=1∨i=2∨i=3∨i=4∨i=5∨i=6:=by omega
theorem KN7.get{z:KN7}{i:Nat}(h:i<7):z.toL[i]? =some (z.at i):=by
 rcases seven h with rfl|rfl|rfl|rfl|rfl|rfl|rfl<;>rfl
theorem KN7.at_upd{z:KN7}{i j:Nat}{v:Int}(hi:i<7)(hj:j<7):(z.upd i v).at j=if j=i then v else z.at j:=by
 rcases seven hi with rfl|rfl|rfl|rfl|rfl|rfl|rfl<;>rcases seven hj with rfl|rfl|rfl|rfl|rfl|rfl|rfl<;>rfl
structure KG where
 zone:Int
 here:List KEnt
 out:List KMs
 gv:KN7
 lv:KN7
abbrev KMg.eh(m:KMg):KEh:=⟨m.id,m.p,m.n,m.c⟩
structure EHd(z:KEh×KEnt):Prop where
 id:z.1.id=z.2.id
 n:z.1.n=z.2.comps.length
abbrev EPool:=List (KEh×KEnt)
def poolR(zs:EPool):Res:=fun h=>∀z∈zs,Has (rowF CpF 100 z.1.p z.1.c z.2.comps) h
theorem poolR.mono(zs:EPool):Mono (poolR zs):=fun _ _ s h z hz=>Has.mono _ _ _ s (h z hz)
theorem poolR_nil:poolR [] fun _=>none:=fun z hz=>by cases hz
theorem poolR_add{T c:Nat}{p:Option Addr}{zs:EPool}{id:Int}{cs:List KComp}(hT:T=100):∀a,Sat [rowF CpF T p c cs,poolR zs] a→poolR (zs++[(⟨id,p,cs.length,c⟩,⟨id,cs⟩)]) a:=fun a ha=>by
 subst hT
 obtain⟨a1,b1,d1,s1,s2,h1,a2,b2,d2,s3,s4,h2,_⟩:=ha
 intro z hz
 rcases List.mem_append.1 hz with hz|hz
 ·exact Has.mono _ _ _ (s3.trans s2) (h2 z hz)
 ·rw[List.mem_singleton.1 hz]
  exact⟨a1,s1,h1⟩
theorem poolR.sub{zs ys:EPool}(h:∀z∈ys,z∈zs):∀a,poolR zs a→poolR ys a:=fun _ hp z hz=>hp z (h z hz)
theorem EHd.sl{z:KEh×KEnt}(h:EHd z){a:PHeap}(hr:Has (rowF CpF 100 z.1.p z.1.c z.2.comps) a):Sl CpF.R a (.slice z.1.p z.1.n z.1.c) z.2.comps:=by rw[h.n];exact hr.sl
section
variable {β:Base}{L:List Res}{zs:EPool}{z:KEh×KEnt}
theorem k_poolH(i:Nat)(hi:L[i]? =some (poolR zs))(hz:z∈zs):Knows β L (Has (rowF CpF 100 z.1.p z.1.c z.2.comps)):=Knows.of_res i hi (Has.mono _) fun _ h=>h z hz
theorem k_poolS(i:Nat)(hi:L[i]? =some (poolR zs))(hz:z∈zs)(hh:EHd z):Knows β L (fun h=>Sl CpF.R h (.slice z.1.p z.1.n z.1.c) z.2.comps):=Knows.of_res i hi (Sl.mono _ _ _) fun _ h=>hh.sl (h z hz)
end
def entsR(p:Option Addr)(c:Nat)(es:List KEnt):Res:=fun h=>∃zs:EPool,zs.map Prod.snd=es∧(∀z∈zs,EHd z)∧Sat [rowF EhF 32 p c (zs.map Prod.fst),poolR zs] h
structure MHd(z:KMg×KMs):Prop where
 src:z.1.src=z.2.src
 to:z.1.to=z.2.to
 number:z.1.number=z.2.number
 ack:z.1.ack=z.2.ack
 id:z.1.id=z.2.e.id
 n:z.1.n=z.2.e.comps.length
abbrev MPool:=List (KMg×KMs)
def MPool.e(zs:MPool):EPool:=zs.map fun z=>(z.1.eh,z.2.e)
def msgsR(p:Option Addr)(c:Nat)(ms:List KMs):Res:=fun h=>∃zs:MPool,zs.map Prod.snd=ms∧(∀z∈zs,MHd z)∧Sat [rowF MgF 38 p c (zs.map Prod.fst),poolR zs.e] h
theorem MHd.eh{z:KMg×KMs}(h:MHd z):EHd (z.1.eh,z.2.e):=⟨h.id,h.n⟩
theorem MPool.e_mem{zs:MPool}{z:KMg×KMs}(h:z∈zs):(z.1.eh,z.2.e)∈zs.e:=List.mem_map.2 ⟨z,h,rfl⟩
theorem St.openEnts{β:Base}{p:Option Addr}{c:Nat}{es:List KEnt}{M:List Res}{w:World}(h:St β (entsR p c es::M) w):∃zs:EPool,zs.map Prod.snd=es∧(∀z∈zs,EHd z)∧St β (rowF EhF 32 p c (zs.map Prod.fst)::poolR zs::M) w:=by
 obtain⟨ho,ht,hp,a,hd,hs,hs',q,r,h1,h2,h3,⟨zs,e1,e2,hx⟩,h5⟩:=h
 exact⟨zs,e1,e2,St.unbun (L:=[rowF EhF 32 p c (zs.map Prod.fst),poolR zs]) ⟨ho,ht,hp,a,hd,hs,hs',q,r,h1,h2,h3,hx,h5⟩⟩
theorem St.openMsgs{β:Base}{p:Option Addr}{c:Nat}{ms:List KMs}{M:List Res}{w:World}(h:St β (msgsR p c ms::M) w):∃zs:MPool,zs.map Prod.snd=ms∧(∀z∈zs,MHd z)∧St β (rowF MgF 38 p c (zs.map Prod.fst)::poolR zs.e::M) w:=by
 obtain⟨ho,ht,hp,a,hd,hs,hs',q,r,h1,h2,h3,⟨zs,e1,e2,hx⟩,h5⟩:=h
 exact⟨zs,e1,e2,St.unbun (L:=[rowF MgF 38 p c (zs.map Prod.fst),poolR zs.e]) ⟨ho,ht,hp,a,hd,hs,hs',q,r,h1,h2,h3,hx,h5⟩⟩
theorem ents_close{p:Option Addr}{c:Nat}{es:List KEnt}{zs:EPool}(h1:zs.map Prod.snd=es)(h2:∀z∈zs,EHd z):∀a,Sat [rowF EhF 32 p c (zs.map Prod.fst),poolR zs] a→entsR p c es a:=fun _ h=>⟨zs,h1,h2,h⟩
theorem msgs_close{p:Option Addr}{c:Nat}{ms:List KMs}{zs:MPool}(h1:zs.map Prod.snd=ms)(h2:∀z∈zs,MHd z):∀a,Sat [rowF MgF 38 p c (zs.map Prod.fst),poolR zs.e] a→msgsR p c ms a:=fun _ h=>⟨zs,h1,h2,h⟩
structure XOk(X:KG)(N:Int):Prop where
 zone:1≤X.zone∧X.zone≤6
 sort:X.here.Pairwise fun a b=>a.id<b.id
 right:∀e∈X.here,Right e
 few:X.here.length≤64
 osort:X.out.Pairwise fun a b=>a.to<b.to∨(a.to=b.to∧a.number<b.number)
 oright:∀m∈X.out,Right m.e
 ohd:∀m∈X.out,m.src=X.zone∧m.ack=false∧(1≤m.to∧m.to≤6)∧1≤m.number∧m.number≤X.gv.at m.to.toNat
 ofew:X.out.length≤64
 gv:∀i,i<7→0≤X.gv.at i∧X.gv.at i≤N
 lv:∀i,i<7→0≤X.lv.at i∧X.lv.at i≤N
theorem take_snd{α γ:Type}{zs:List (α×γ)}{es:List γ}{k:Nat}{a:α}{e:γ}(h:zs.map Prod.snd=es.take k)(he:es[k]? =some e):(zs++[(a,e)]).map Prod.snd=es.take (k+1):=by
 rw[List.map_append,h,List.take_add_one,he];rfl
theorem map_get{α γ:Type}{f:α→γ}{l:List α}{k:Nat}{y:γ}(h:(l.map f)[k]? =some y):∃x,l[k]? =some x∧f x=y:=by
 rw[List.getElem?_map]at h
 cases hx:l[k]? with
 |none=>rw[hx]at h;cases h
 |some x=>rw[hx]at h;injection h with h;exact⟨x,rfl,h⟩
theorem all_snoc{α:Type}{Q:α→Prop}{zs:List α}{a:α}(h:∀z∈zs,Q z)(ha:Q a):∀z∈zs++[a],Q z:=fun z hz=>by
 rcases List.mem_append.1 hz with hz|hz
 ·exact h z hz
 ·rw[List.mem_singleton.1 hz];exact ha
end Go.Hv
namespace Go.Proofs
open Go Go.Sl Go.Hv
noncomputable def EnM:MapK Tryz.prog Int KEh where
 t:=73
 kt:=3
 et:=32
 dec:=inferInstance
 enc:=fun x=>Ix x
 encv:=fun a=> .agg (ehE a).toArray
 zv:=zeroEh
 ht:=by kernel_rfl
 hz:=by kernel_rfl
 chk:=fun e a w=>by
  unfold Instr.checkKey
  simp only[Sem.run_bind,run_underlying (show Tryz.prog.underlying 3=some (.int .i64) by kernel_rfl),Result.andThen_ok]
  rfl
 find:=find_plain (d:= .int .i64) (by kernel_rfl) fun a b=>congrArg some (show(a==b)=decide (a=b) by by_cases h:a=b<;>simp[h])
 bits:=fun a=>by unfold Instr.sameBits;simp
end Go.Proofs
namespace Go.Hv
open Go Go.Sl Go.Proofs
abbrev gC(zone:Int)(J m:Nat)(p:Option Addr)(n c:Nat)(gv lv:KN7)(dn:Bool):Array Value:= #[Ix zone,.pointer (some ⟨J,0,none⟩),.map (some m),.slice p n c,Ix gv.n0,Ix gv.n1,Ix gv.n2,Ix gv.n3,Ix gv.n4,Ix gv.n5,Ix gv.n6,Ix lv.n0,Ix lv.n1,Ix lv.n2,Ix lv.n3,Ix lv.n4,Ix lv.n5,Ix lv.n6,.bool dn]
structure GOk(X:KG)(ks:List (Int×KEh))(mz:MPool)(zs:EPool):Prop where
 keys:(ks.map Prod.fst).Perm (X.here.map (·.id))
 some_:∀e∈X.here,∃h,EnM.look ks e.id=some h∧(h,e)∈zs
 none_:∀a,(∀e∈X.here,e.id≠a)→EnM.look ks a=none
 hdr:∀z∈zs,EHd z
 out:mz.map Prod.snd=X.out
 mhd:∀z∈mz,MHd z∧(z.1.eh,z.2.e)∈zs
abbrev gL(G J m:Nat)(p:Option Addr)(c:Nat)(X:KG)(ks:List (Int×KEh))(mz:MPool)(zs:EPool)(dn:Bool):List Res:=[pt G (.cells (gC X.zone J m p mz.length c X.gv X.lv dn) 77),mpR EnM m ks,rowF MgF 38 p c (mz.map Prod.fst),poolR zs]
def gvR(G J:Nat)(X:KG)(dn:Bool):Res:=fun h=>∃m p c ks mz zs,GOk X ks mz zs∧Sat (gL G J m p c X ks mz zs dn) h
theorem St.openGv{β:Base}{G J:Nat}{X:KG}{dn:Bool}{M:List Res}{w:World}(h:St β (gvR G J X dn::M) w):∃m p c ks mz zs,GOk X ks mz zs∧St β (gL G J m p c X ks mz zs dn++M) w:=by
 obtain⟨ho,ht,hp,a,hd,hs,hs',q,r,h1,h2,h3,⟨m,p,c,ks,mz,zs,hk,hx⟩,h5⟩:=h
 exact⟨m,p,c,ks,mz,zs,hk,St.unbun ⟨ho,ht,hp,a,hd,hs,hs',q,r,h1,h2,h3,hx,h5⟩⟩
theorem gv_close{G J m c:Nat}{p:Option Addr}{X:KG}{ks:List (Int×KEh)}{mz:MPool}{zs:EPool}{dn:Bool}(hk:GOk X ks mz zs):∀a,Sat (gL G J m p c X ks mz zs dn) a→gvR G J X dn a:=fun _ h=>⟨m,p,c,ks,mz,zs,hk,h⟩
theorem St.closeGv{β:Base}{G J m c:Nat}{p:Option Addr}{X:KG}{ks:List (Int×KEh)}{mz:MPool}{zs:EPool}{dn:Bool}{M:List Res}{w:World}(hk:GOk X ks mz zs)(h:St β (gL G J m p c X ks mz zs dn++M) w):St β (gvR G J X dn::M) w:=h.merge (gv_close hk)
def hereB(X:KG)(id:Int):Bool:=X.here.any fun e=>decide (e.id=id)
def outB(X:KG)(id:Int):Bool:=X.out.any fun m=>decide (m.e.id=id)
theorem GOk.isSome{X:KG}{ks:List (Int×KEh)}{mz:MPool}{zs:EPool}(h:GOk X ks mz zs)(id:Int):(EnM.look ks id).isSome=hereB X id:=by
 unfold hereB
 cases e:X.here.any (fun e=>decide (e.id=id))with
 |true=>
  obtain⟨x,hx,hi⟩:=List.any_eq_true.1 e
  obtain⟨y,hy,_⟩:=h.some_ x hx
  rw[←of_decide_eq_true hi,hy];rfl
 |false=>
  rw[h.none_ id fun x hx=>by have:=List.any_eq_false.1 e x hx;simpa using this];rfl
theorem GOk.mlen{X:KG}{ks:List (Int×KEh)}{mz:MPool}{zs:EPool}(h:GOk X ks mz zs):mz.length=X.out.length:=by rw[←h.out,List.length_map]
theorem GOk.klen{X:KG}{ks:List (Int×KEh)}{mz:MPool}{zs:EPool}(h:GOk X ks mz zs):ks.length=X.here.length:=by have:=h.keys.length_eq;simpa using this
theorem GOk.anyOut{X:KG}{ks:List (Int×KEh)}{mz:MPool}{zs:EPool}(h:GOk X ks mz zs)(id:Int):(mz.map Prod.fst).any (fun m=>decide (m.id=id))=outB X id:=by
 unfold outB
 rw[←h.out,List.any_map,List.any_map]
 refine Bool.eq_iff_iff.2 ?_
 simp only[List.any_eq_true,Function.comp,decide_eq_true_eq]
 constructor
 ·rintro⟨z,hz,e⟩;exact⟨z,hz,by rw[←(h.mhd z hz).1.id];exact e⟩
 ·rintro⟨z,hz,e⟩;exact⟨z,hz,by rw[(h.mhd z hz).1.id];exact e⟩
open Go.Td (sortI sortI_eq)in
theorem GOk.sorted{X:KG}{ks:List (Int×KEh)}{mz:MPool}{zs:EPool}{N:Int}(h:GOk X ks mz zs)(hX:XOk X N):sortI (ks.map fun z=>z.1)=X.here.map KEnt.id:=
 sortI_eq h.keys (by rw[List.pairwise_map];exact hX.sort.imp fun h=>Int.le_of_lt h)
theorem GOk.here{X:KG}{ks:List (Int×KEh)}{mz:MPool}{zs:EPool}(h:GOk X ks mz zs){k:Nat}{x:Int}(hx:(X.here.map KEnt.id)[k]? =some x):∃e hd,X.here[k]? =some e∧e∈X.here∧e.id=x∧(EnM.look ks x).getD zeroEh=hd∧(hd,e)∈zs∧EHd (hd,e):=by
 obtain⟨e,he,rfl⟩:=map_get hx
 have hm:=List.mem_of_getElem? he
 obtain⟨hd,h1,h2⟩:=h.some_ e hm
 exact⟨e,hd,he,hm,rfl,by rw[h1];rfl,h2,h.hdr _ h2⟩
theorem GOk.outAt{X:KG}{ks:List (Int×KEh)}{mz:MPool}{zs:EPool}(h:GOk X ks mz zs){k:Nat}{z:KMg×KMs}(hz:mz[k]? =some z):X.out[k]? =some z.2∧MHd z∧(z.1.eh,z.2.e)∈zs∧EHd (z.1.eh,z.2.e):=by
 obtain⟨h1,h2⟩:=h.mhd z (List.mem_of_getElem? hz)
 exact⟨by rw[←h.out,List.getElem?_map,hz];rfl,h1,h2,h.hdr _ h2⟩
theorem fill_get{nz mz:MPool}{k:Nat}{x:KMg}(hn:nz.length=k)(hx:((nz.map Prod.fst)++(mz.map Prod.fst).drop k)[k]? =some x):∃z,mz[k]? =some z∧z.1=x:=by
 rw[List.getElem?_append_right (by rw[List.length_map];omega),List.length_map,hn,Nat.sub_self,List.getElem?_drop,Nat.add_zero]at hx
 exact map_get hx
theorem fill_step{nz mz:MPool}{k:Nat}{z:KMg×KMs}{m:KMg}{s:KMs}(hn:nz.length=k)(hz:mz[k]? =some z):((nz.map Prod.fst)++(mz.map Prod.fst).drop k).set k m=((nz++[(m,s)]).map Prod.fst)++(mz.map Prod.fst).drop (k+1):=by
 have hx:(mz.map Prod.fst)[k]? =some z.1:=by rw[List.getElem?_map,hz];rfl
 rw[List.set_append,if_neg (by rw[List.length_map];omega),List.length_map,hn,Nat.sub_self,drop_cons hx,List.set_cons_zero,List.map_append,List.append_assoc]
 rfl
theorem poolM_put{T c:Nat}{p:Option Addr}{nz:MPool}{m:KMg}{s:KMs}(hT:T=100)(hp:m.p=p)(hc:m.c=c):∀a,Sat [rowF CpF T p c s.e.comps,poolR nz.e] a→poolR (MPool.e (nz++[(m,s)])) a:=fun a ha=>by
 subst hT;subst hp;subst hc
 obtain⟨a1,b1,d1,s1,s2,h1,a2,b2,d2,s3,s4,h2,_⟩:=ha
 intro z hz
 unfold MPool.e at hz
 rw[List.map_append]at hz
 rcases List.mem_append.1 hz with hz|hz
 ·exact Has.mono _ _ _ (s3.trans s2) (h2 z hz)
 ·rw[List.mem_singleton.1 hz]
  exact⟨a1,s1,h1⟩
section
variable {P:Program}{ro:Option Nat}{n:Nat}{ds:List Deferred}{β:Base}{Q:Exit→Act→World→Prop}{f:Fm}{L M:List Res}
theorem c_openGv{c:Code}{G J:Nat}{X:KG}{dn:Bool}(hL:L=gvR G J X dn::M)(K:∀m p k ks mz zs,GOk X ks mz zs→RunC P ro n ds β c Q f (gL G J m p k X ks mz zs dn++M)):RunC P ro n ds β c Q f L:=fun a w ha hw=>by
 subst hL
 obtain⟨m,p,k,ks,mz,zs,hk,h⟩:=St.openGv hw
 exact K m p k ks mz zs hk a w ha h
theorem c_openMsgs{c:Code}{p:Option Addr}{k:Nat}{ms:List KMs}(hL:L=msgsR p k ms::M)(K:∀zs:MPool,zs.map Prod.snd=ms→(∀z∈zs,MHd z)→RunC P ro n ds β c Q f (rowF MgF 38 p k (zs.map Prod.fst)::poolR zs.e::M)):RunC P ro n ds β c Q f L:=fun a w ha hw=>by
 subst hL
 obtain⟨zs,h1,h2,h⟩:=St.openMsgs hw
 exact K zs h1 h2 a w ha h
theorem c_openEnts{c:Code}{p:Option Addr}{k:Nat}{es:List KEnt}(hL:L=entsR p k es::M)(K:∀zs:EPool,zs.map Prod.snd=es→(∀z∈zs,EHd z)→RunC P ro n ds β c Q f (rowF EhF 32 p k (zs.map Prod.fst)::poolR zs::M)):RunC P ro n ds β c Q f L:=fun a w ha hw=>by
 subst hL
 obtain⟨zs,h1,h2,h⟩:=St.openEnts hw
 exact K zs h1 h2 a w ha h
end
def otherB(zone k:Int):Bool:=decide (1≤k)&&decide (k≤6)&&decide (k≠zone)
theorem other_iff{zone k:Int}:otherB zone k=true↔1≤k∧k≤6∧k≠zone:=by unfold otherB;simp[and_assoc]
def lastX(X:KG)(k:Int):Int:=if otherB X.zone k=true then X.lv.at k.toNat else 0
def acksTo(X:KG)(k:Nat):List KMs:=((List.range k).filter fun(z:Nat)=>decide (0<X.lv.at z)).map fun(z:Nat)=>⟨X.zone,((z:Nat):Int),X.lv.at z,true,⟨0,[]⟩⟩
def msgsX(X:KG):List KMs:=X.out++acksTo X 7
theorem acks_yes{X:KG}{k:Nat}(h:0<X.lv.at k):acksTo X (k+1)=acksTo X k++[⟨X.zone,(k:Int),X.lv.at k,true,⟨0,[]⟩⟩]:=by
 unfold acksTo
 rw[List.range_succ,List.filter_append,List.map_append]
 simp[h]
theorem acks_no{X:KG}{k:Nat}(h:¬0<X.lv.at k):acksTo X (k+1)=acksTo X k:=by
 unfold acksTo
 rw[List.range_succ,List.filter_append,List.map_append]
 simp[h]
theorem acks_len(X:KG)(k:Nat):(acksTo X k).length≤k:=by
 unfold acksTo
 rw[List.length_map]
 refine Nat.le_trans (List.length_filter_le ..) ?_
 rw[List.length_range];exact Nat.le_refl _
theorem poolM_nil{nz:MPool}{m:KMg}{s:KMs}(hp:m.p=none)(hc:m.c=0)(hs:s.e.comps=[]):∀a,poolR nz.e a→poolR (MPool.e (nz++[(m,s)])) a:=fun a ha=>by
 intro z hz
 unfold MPool.e at hz
 rw[List.map_append]at hz
 rcases List.mem_append.1 hz with hz|hz
 ·exact ha z hz
 ·rw[List.mem_singleton.1 hz]
  show Has (rowF CpF 100 m.p m.c s.e.comps) a
  rw[hp,hc,hs]
  exact⟨fun _=>none,fun _ _ h=>(by cases h),row_nil _ _ _⟩
end Go.Hv
namespace Go.Hv
open Go Go.Sl Go.Proofs
def insB{α:Type}(lt:α→α→Bool)(a:α):List α→List α
 |[]=>[a]
 |b::l=>if lt a b=true then a::b::l else b::insB lt a l
theorem insB_perm{α:Type}(lt:α→α→Bool)(a:α):∀l:List α,(insB lt a l).Perm (l++[a])
 |[]=> .refl _
 |b::l=>by
  unfold insB;split
  ·exact(List.perm_append_comm (l₁:=[a]) (l₂:=b::l))
  ·exact(insB_perm lt a l).cons b
theorem insB_map{α γ:Type}{lt:α→α→Bool}{lt2:γ→γ→Bool}{f:α→γ}(h:∀x y,lt x y=lt2 (f x) (f y))(a:α):∀l:List α,(insB lt a l).map f=insB lt2 (f a) (l.map f)
 |[]=>rfl
 |b::l=>by
  unfold insB
  rw[List.map_cons]
  show _=if lt2 (f a) (f b)=true then _ else _
  rw[←h]
  split
  ·rfl
  ·rw[List.map_cons,insB_map h a l]
theorem insB_mem{α:Type}{lt:α→α→Bool}{a x:α}{l:List α}:x∈insB lt a l↔x=a∨x∈l:=by
 rw[(insB_perm lt a l).mem_iff,List.mem_append,List.mem_singleton];exact Or.comm
theorem insB_len{α:Type}{lt:α→α→Bool}{a:α}{l:List α}:(insB lt a l).length=l.length+1:=by rw[(insB_perm lt a l).length_eq,List.length_append];rfl
theorem insB_sort{α:Type}{lt:α→α→Bool}{R:α→α→Prop}(hlt:∀x y,lt x y=true→R x y)(tr:∀x y z,R x y→R y z→R x z){a:α}:∀{l:List α},l.Pairwise R→(∀y∈l,lt a y=false→R y a)→(insB lt a l).Pairwise R
 |[],_,_=>by unfold insB;simp
 |b::l,hs,hd=>by
  rw[List.pairwise_cons]at hs
  unfold insB;split
  ·rename_i h
   rw[List.pairwise_cons,List.pairwise_cons]
   refine⟨fun y hy=> ?_,hs⟩
   rcases List.mem_cons.1 hy with rfl|hy
   ·exact hlt _ _ h
   ·exact tr _ _ _ (hlt _ _ h) (hs.1 y hy)
  ·rename_i h
   rw[List.pairwise_cons]
   refine⟨fun y hy=> ?_,insB_sort hlt tr hs.2 fun y hy=>hd y (List.mem_cons_of_mem _ hy)⟩
   rcases insB_mem.1 hy with rfl|hy
   ·exact hd b (List.mem_cons_self) (by simpa using h)
   ·exact hs.1 y hy
def insE(e:KEnt):List KEnt→List KEnt
 |[]=>[e]
 |a::l=>if e.id<a.id then e::a::l else if e.id=a.id then e::l else a::insE e l
def delE(id:Int)(l:List KEnt):List KEnt:=l.filter fun e=>decide (e.id≠id)
abbrev SortE(l:List KEnt):Prop:=l.Pairwise fun a b=>a.id<b.id
theorem insE_mem{e x:KEnt}:∀{l:List KEnt},SortE l→(x∈insE e l↔x=e∨(x∈l∧x.id≠e.id))
 |[],_=>by unfold insE;simp
 |a::l,hs=>by
  rw[SortE,List.pairwise_cons]at hs
  unfold insE;split
  ·rename_i h
   rw[List.mem_cons]
   refine or_congr Iff.rfl ⟨fun hx=>⟨hx,?_⟩,fun h=>h.1⟩
   rcases List.mem_cons.1 hx with rfl|hx
   ·omega
   ·have:=hs.1 x hx;omega
  ·split
   ·rename_i h1 h2
    rw[List.mem_cons,List.mem_cons]
    refine or_congr Iff.rfl ⟨fun hx=>⟨.inr hx,?_⟩,fun⟨h,h3⟩=> ?_⟩
    ·have:=hs.1 x hx;omega
    ·rcases h with rfl|h
     ·exact absurd h2.symm h3
     ·exact h
   ·rename_i h1 h2
    rw[List.mem_cons,List.mem_cons,insE_mem hs.2]
    constructor
    ·rintro(rfl|rfl|⟨h,h3⟩)
     ·exact .inr ⟨.inl rfl,fun q=>h2 q.symm⟩
     ·exact .inl rfl
     ·exact .inr ⟨.inr h,h3⟩
    ·rintro(rfl|⟨rfl|h,h3⟩)
     ·exact .inr (.inl rfl)
     ·exact .inl rfl
     ·exact .inr (.inr ⟨h,h3⟩)
theorem insE_sort{e:KEnt}:∀{l:List KEnt},SortE l→SortE (insE e l)
 |[],_=>by unfold insE SortE;simp
 |a::l,hs=>by
  have hs':=hs
  rw[SortE,List.pairwise_cons]at hs
  unfold insE;split
  ·rename_i h
   rw[SortE,List.pairwise_cons]
   refine⟨fun y hy=> ?_,hs'⟩
   rcases List.mem_cons.1 hy with rfl|hy
   ·exact h
   ·have:=hs.1 y hy;omega
  ·split
   ·rename_i h1 h2
    rw[SortE,List.pairwise_cons]
    exact⟨fun y hy=>by have:=hs.1 y hy;omega,hs.2⟩
   ·rename_i h1 h2
    rw[SortE,List.pairwise_cons]
    refine⟨fun y hy=> ?_,insE_sort hs.2⟩
    rcases(insE_mem hs.2).1 hy with rfl|⟨hy,_⟩
    ·omega
    ·exact hs.1 y hy
theorem insE_len{e:KEnt}:∀{l:List KEnt},(insE e l).length≤l.length+1
 |[]=>by unfold insE;simp
 |a::l=>by
  unfold insE;split
  ·simp
  ·split
   ·simp
   ·simpa using insE_len
theorem insE_keys_in{e:KEnt}:∀{l:List KEnt},SortE l→(∃x∈l,x.id=e.id)→(insE e l).map (·.id)=l.map (·.id)
 |[],_,h=>by obtain⟨x,hx,_⟩:=h;cases hx
 |a::l,hs,h=>by
  rw[SortE,List.pairwise_cons]at hs
  obtain⟨x,hx,hi⟩:=h
  unfold insE;split
  ·rename_i h1
   rcases List.mem_cons.1 hx with rfl|hx
   ·omega
   ·have:=hs.1 x hx;omega
  ·split
   ·rename_i h2;rw[List.map_cons,List.map_cons,h2]
   ·rename_i h1 h2
    rcases List.mem_cons.1 hx with rfl|hx
    ·exact absurd hi.symm h2
    ·rw[List.map_cons,List.map_cons,insE_keys_in hs.2 ⟨x,hx,hi⟩]
theorem insE_keys_new{e:KEnt}:∀{l:List KEnt},(∀x∈l,x.id≠e.id)→((insE e l).map (·.id)).Perm (l.map (·.id)++[e.id])
 |[],_=> .refl _
 |a::l,h=>by
  unfold insE;split
  ·exact(List.perm_append_comm (l₁:=[e.id]) (l₂:=(a::l).map (·.id)))
  ·split
   ·rename_i h2;exact absurd h2.symm (h a List.mem_cons_self)
   ·exact(insE_keys_new fun x hx=>h x (List.mem_cons_of_mem _ hx)).cons a.id
theorem delE_mem{id:Int}{l:List KEnt}{x:KEnt}:x∈delE id l↔x∈l∧x.id≠id:=by unfold delE;rw[List.mem_filter,decide_eq_true_eq]
theorem delE_sort{id:Int}{l:List KEnt}(h:SortE l):SortE (delE id l):=h.filter _
theorem delE_len{id:Int}{l:List KEnt}:(delE id l).length≤l.length:=List.length_filter_le ..
def ltM(a b:KMs):Bool:=decide (a.to<b.to)||(decide (a.to=b.to)&&decide (a.number<b.number))
def ltK(a b:KMg):Bool:=decide (a.to<b.to)||(decide (a.to=b.to)&&decide (a.number<b.number))
abbrev Mlt(a b:KMs):Prop:=a.to<b.to∨(a.to=b.to∧a.number<b.number)
theorem ltM_iff{a b:KMs}:ltM a b=true↔Mlt a b:=by unfold ltM Mlt;simp
theorem Mlt.trans{a b c:KMs}(h:Mlt a b)(g:Mlt b c):Mlt a c:=by unfold Mlt at*;omega
inductive KOp where
 |put (e:KEnt)
 |drop (id:Int)
 |give (id to:Int)
 |take (frm:Int) (e:KEnt)
 |ack (frm n:Int)
 |all (Y:KG)
def findE(X:KG)(id:Int):KEnt:=(X.here.find? fun e=>decide (e.id=id)).getD ⟨0,[]⟩
def gMsg(X:KG)(id to:Int):KMs:=⟨X.zone,to,X.gv.at to.toNat+1,false,findE X id⟩
def ackB(frm n:Int)(m:KMs):Bool:=decide (m.to=frm)&&decide (m.number≤n)
def ackK(frm n:Int)(m:KMg):Bool:=decide (m.to=frm)&&decide (m.number≤n)
def playX(X:KG):KOp→KG
 | .put e=>{X with here:=insE e X.here}
 | .drop id=>{X with here:=delE id X.here}
 | .give id to=>{X with gv:=X.gv.upd to.toNat (X.gv.at to.toNat+1),out:=insB ltM (gMsg X id to) X.out,here:=delE id X.here}
 | .take frm e=>{X with here:=insE e X.here,lv:=X.lv.upd frm.toNat (X.lv.at frm.toNat+1)}
 | .ack frm n=>{X with out:=X.out.filter fun m=> !ackB frm n m}
 | .all Y=>Y
def opK:KOp→Int| .put _=>1| .drop _=>2| .give _ _=>3| .take _ _=>4| .ack _ _=>5| .all _=>6
def outMB(m:KMs):List UInt8:=vint m.to++(vint m.number++entB m.e)
def n7B(gv lv:KN7):List UInt8:=(List.range 7).flatMap fun z=>vint (gv.at z)++vint (lv.at z)
def allB(X:KG):List UInt8:=vint ((X.here.length:Nat):Int)++(vint ((X.out.length:Nat):Int)++(X.here.flatMap entB++(X.out.flatMap outMB++n7B X.gv X.lv)))
def opT:KOp→List UInt8
 | .put e=>entB e
 | .drop id=>vint id
 | .give id to=>vint id++vint to
 | .take frm e=>vint frm++entB e
 | .ack frm n=>vint frm++vint n
 | .all Y=>allB Y
def opB(o:KOp):List UInt8:=vint (opK o)++opT o
def freshG(zone:Int):KG:=⟨zone,[],[],zero7,zero7⟩
def OpOk(X:KG):KOp→Prop
 | .put e=>Right e∧((∃x∈X.here,x.id=e.id)∨X.here.length<64)
 | .drop _=>True
 | .give id to=>(∃e∈X.here,e.id=id)∧(1≤to∧to≤6)∧X.out.length<64
 | .take frm e=>Right e∧(1≤frm∧frm≤6)∧X.here.length<64
 | .ack _ n=>n≤4611686018427387904
 | .all _=>True
theorem find_spec{X:KG}{id:Int}(h:∃e∈X.here,e.id=id):findE X id∈X.here∧(findE X id).id=id:=by
 unfold findE
 cases hf:X.here.find? (fun e=>decide (e.id=id))with
 |none=>
  obtain⟨e,he,hi⟩:=h
  have:=List.find?_eq_none.1 hf e he
  simp[hi]at this
 |some e=>exact⟨List.mem_of_find?_eq_some hf,by have:=List.find?_some hf;simpa using this⟩
theorem XOk.mono{X:KG}{N M:Int}(h:XOk X N)(hm:N≤M):XOk X M:=
 ⟨h.zone,h.sort,h.right,h.few,h.osort,h.oright,h.ohd,h.ofew,fun i hi=>⟨(h.gv i hi).1,Int.le_trans (h.gv i hi).2 hm⟩,fun i hi=>⟨(h.lv i hi).1,Int.le_trans (h.lv i hi).2 hm⟩⟩
theorem freshG_ok{zone N:Int}(hz:1≤zone∧zone≤6)(hN:0≤N):XOk (freshG zone) N:=by
 refine⟨hz,.nil,fun e h=>(by cases h),Nat.zero_le _,.nil,fun m h=>(by cases h),fun m h=>(by cases h),Nat.zero_le _,fun i hi=> ?_,fun i hi=> ?_⟩<;>
  (rcases seven hi with rfl|rfl|rfl|rfl|rfl|rfl|rfl<;>exact⟨Int.le_refl _,hN⟩)
theorem upd_in{z:KN7}{N:Int}(h:∀i,i<7→0≤z.at i∧z.at i≤N){k:Nat}(hk:k<7):∀i,i<7→0≤(z.upd k (z.at k+1)).at i∧(z.upd k (z.at k+1)).at i≤N+1:=fun i hi=>by
 rw[KN7.at_upd hk hi]
 have h1:=h i hi;have h2:=h k hk
 split<;>omega
theorem insE_few{X:KG}{e:KEnt}{N:Int}(h:XOk X N)(hh:(∃x∈X.here,x.id=e.id)∨X.here.length<64):(insE e X.here).length≤64:=by
 rcases hh with hh|hh
 ·have:=congrArg List.length (insE_keys_in h.sort hh)
  rw[List.length_map,List.length_map]at this
  have:=h.few;omega
 ·have:=insE_len (e:=e) (l:=X.here);omega
theorem XOk.play{X:KG}{N:Int}(h:XOk X N){o:KOp}(ho:OpOk X o)(ha:∀Y,o≠ .all Y):XOk (playX X o) (N+1):=by
 have hup:∀(z:KN7),(∀i,i<7→0≤z.at i∧z.at i≤N)→∀i,i<7→0≤z.at i∧z.at i≤N+1:=fun z hz i hi=>by have:=hz i hi;omega
 cases o with
 |put e=>
  obtain⟨hr,hh⟩:=ho
  refine⟨h.zone,insE_sort h.sort,fun x hx=> ?_,insE_few h hh,h.osort,h.oright,h.ohd,h.ofew,hup _ h.gv,hup _ h.lv⟩
  rcases(insE_mem h.sort).1 hx with rfl|⟨hx,_⟩
  ·exact hr
  ·exact h.right x hx
 |drop id=>exact⟨h.zone,delE_sort h.sort,fun x hx=>h.right x (delE_mem.1 hx).1,Nat.le_trans delE_len h.few,h.osort,h.oright,h.ohd,h.ofew,hup _ h.gv,hup _ h.lv⟩
 |give id to=>
  obtain⟨hh,ht,hf⟩:=ho
  have ht7:to.toNat<7:=by omega
  have hg:=h.gv to.toNat ht7
  refine⟨h.zone,delE_sort h.sort,fun x hx=>h.right x (delE_mem.1 hx).1,Nat.le_trans delE_len h.few,insB_sort (lt:=ltM) (R:=Mlt) (fun _ _=>ltM_iff.1) (fun _ _ _=>Mlt.trans) h.osort fun y hy hn=> ?_,fun m hm=> ?_,fun m hm=> ?_,by show(insB _ _ _).length≤_;rw[insB_len];omega,upd_in h.gv ht7,hup _ h.lv⟩
  ·obtain⟨_,_,h1,h2,h3⟩:=h.ohd y hy
   have hn':¬Mlt (gMsg X id to) y:=fun q=>by rw[ltM_iff.2 q]at hn;cases hn
   unfold Mlt gMsg at*
   simp only at*
   by_cases e:y.to=to
   ·refine .inr ⟨e,?_⟩
    rw[e]at h3;omega
   ·exact .inl (by omega)
  ·rcases insB_mem.1 hm with rfl|hm
   ·exact h.right _ (find_spec hh).1
   ·exact h.oright m hm
  ·rcases insB_mem.1 hm with rfl|hm
   ·refine⟨rfl,rfl,ht,by show 1≤X.gv.at to.toNat+1;omega,?_⟩
    show X.gv.at to.toNat+1≤(X.gv.upd to.toNat _).at to.toNat
    rw[KN7.at_upd ht7 ht7,if_pos rfl];exact Int.le_refl _
   ·obtain⟨h1,h2,h3,h4,h5⟩:=h.ohd m hm
    refine⟨h1,h2,h3,h4,?_⟩
    show m.number≤(X.gv.upd to.toNat _).at m.to.toNat
    rw[KN7.at_upd ht7 (by omega)]
    split
    ·rename_i e;rw[e]at h5;omega
    ·exact h5
 |take frm e=>
  obtain⟨hr,hf,hl⟩:=ho
  refine⟨h.zone,insE_sort h.sort,fun x hx=> ?_,insE_few h (.inr hl),h.osort,h.oright,h.ohd,h.ofew,hup _ h.gv,upd_in h.lv (by omega)⟩
  rcases(insE_mem h.sort).1 hx with rfl|⟨hx,_⟩
  ·exact hr
  ·exact h.right x hx
 |ack frm n=>exact⟨h.zone,h.sort,h.right,h.few,h.osort.filter _,fun m hm=>h.oright m (List.mem_filter.1 hm).1,fun m hm=>h.ohd m (List.mem_filter.1 hm).1,Nat.le_trans (List.length_filter_le ..) h.ofew,hup _ h.gv,hup _ h.lv⟩
 |all Y=>exact absurd rfl (ha Y)
section
variable {X:KG}{ks:List (Int×KEh)}{mz:MPool}{zs:EPool}
theorem GOk.nodup(h:GOk X ks mz zs)(hs:SortE X.here):(ks.map (·.1)).Nodup:=by
 refine(h.keys.nodup_iff).2 ?_
 rw[List.nodup_iff_pairwise_ne,List.pairwise_map]
 exact hs.imp fun h=>Int.ne_of_lt h
theorem GOk.put(h:GOk X ks mz zs)(hs:SortE X.here){hd:KEh}{e:KEnt}(he:EHd (hd,e)):GOk {X with here:=insE e X.here} (EnM.put ks e.id hd) mz (zs++[(hd,e)]):=by
 have hn:=h.nodup hs
 refine⟨?_,fun x hx=> ?_,fun a ha=> ?_,all_snoc h.hdr he,h.out,fun z hz=>⟨(h.mhd z hz).1,List.mem_append_left _ (h.mhd z hz).2⟩⟩
 ·show((EnM.put ks e.id hd).map Prod.fst).Perm ((insE e X.here).map (·.id))
  by_cases hi:∃x∈X.here,x.id=e.id
  ·rw[insE_keys_in hs hi]
   refine(List.Perm.of_eq ?_).trans h.keys
   refine put_keys _ _ ?_
   obtain⟨x,hx,hxi⟩:=hi
   obtain⟨y,hy,_⟩:=h.some_ x hx
   rw[←hxi,hy];rfl
  ·have hi':∀x∈X.here,x.id≠e.id:=fun x hx q=>hi ⟨x,hx,q⟩
   rw[put_new (h.none_ _ hi'),List.map_append]
   exact(h.keys.append_right _).trans (insE_keys_new hi').symm
 ·rcases(insE_mem hs).1 hx with rfl|⟨hx,hne⟩
  ·exact⟨hd,put_same _ _,List.mem_append_right _ (List.mem_singleton.2 rfl)⟩
  ·obtain⟨y,hy,hz⟩:=h.some_ x hx
   exact⟨y,by rw[put_ne hne];exact hy,List.mem_append_left _ hz⟩
 ·have hae:a≠e.id:=fun q=>ha e ((insE_mem hs).2 (.inl rfl)) q.symm
  rw[put_ne hae]
  exact h.none_ a fun x hx q=>ha x ((insE_mem hs).2 (.inr ⟨hx,fun q2=>hae (q.symm.trans q2)⟩)) q
theorem GOk.del(h:GOk X ks mz zs)(hs:SortE X.here)(id:Int):GOk {X with here:=delE id X.here} (EnM.del ks id) mz zs:=by
 have hn:=h.nodup hs
 refine⟨?_,fun x hx=> ?_,fun a ha=> ?_,h.hdr,h.out,h.mhd⟩
 ·have h1:=h.keys.filter (fun a=>decide (a≠id))
  rw[List.filter_map,List.filter_map]at h1
  refine(List.Perm.of_eq ?_).trans h1
  unfold MapK.del
  refine congrArg _ (List.filter_congr fun p _=> ?_)
  letI:=EnM.dec
  show(!decide (p.1=id))=decide (p.1≠id)
  by_cases q:p.1=id<;>simp[q]
 ·obtain⟨h1,h2⟩:=delE_mem.1 hx
  obtain⟨y,hy,hz⟩:=h.some_ x h1
  exact⟨y,by rw[del_ne h2 hn];exact hy,hz⟩
 ·by_cases q:a=id
  ·rw[q];exact del_same _
  ·rw[del_ne q hn]
   exact h.none_ a fun x hx q2=>ha x (delE_mem.2 ⟨hx,fun q3=>q (q2.symm.trans q3)⟩) q2
theorem GOk.setOut(h:GOk X ks mz zs){nz:MPool}{out:List KMs}(h1:nz.map Prod.snd=out)(h2:∀z∈nz,MHd z∧(z.1.eh,z.2.e)∈zs)(gv lv:KN7):GOk {X with out:=out,gv:=gv,lv:=lv} ks nz zs:=
 ⟨h.keys,h.some_,h.none_,h.hdr,h1,h2⟩
theorem GOk.give(h:GOk X ks mz zs){m:KMg}{s:KMs}(hm:MHd (m,s))(hz:(m.eh,s.e)∈zs)(gv:KN7):∃nz:MPool,nz.map Prod.fst=insB ltK m (mz.map Prod.fst)∧GOk {X with out:=insB ltM s X.out,gv:=gv} ks nz zs:=by
 let ltZ:KMg×KMs→KMg×KMs→Bool:=fun a b=>ltK a.1 b.1
 have hall:∀z∈mz++[(m,s)],MHd z:=fun z hz=>by
  rcases List.mem_append.1 hz with hz|hz
  ·exact(h.mhd z hz).1
  ·rw[List.mem_singleton.1 hz];exact hm
 have e2:∀l:MPool,(∀z∈l,MHd z)→(insB ltZ (m,s) l).map Prod.snd=insB ltM s (l.map Prod.snd):=fun l hl=>by
  induction l with
  |nil=>rfl
  |cons a l ih=>
   have ha:=hl a List.mem_cons_self
   have hc:ltZ (m,s) a=ltM s a.2:=by show ltK m a.1=_;unfold ltK ltM;rw[hm.to,hm.number,ha.to,ha.number]
   unfold insB
   rw[List.map_cons]
   show _=if ltM s a.2=true then _ else _
   rw[←hc]
   split
   ·rfl
   ·rw[List.map_cons,ih fun z hz=>hl z (List.mem_cons_of_mem _ hz)]
 refine⟨insB ltZ (m,s) mz,insB_map (lt:=ltZ) (lt2:=ltK) (f:=Prod.fst) (fun _ _=>rfl) _ _,h.setOut ?_ (fun z hz'=> ?_) gv X.lv⟩
 ·rw[e2 mz fun z hz=>(h.mhd z hz).1,h.out]
 ·rcases insB_mem.1 hz' with rfl|hz'
  ·exact⟨hm,hz⟩
  ·exact h.mhd z hz'
theorem GOk.ack(h:GOk X ks mz zs)(frm n:Int):∃nz:MPool,nz.map Prod.fst=(mz.map Prod.fst).filter (fun z=> !ackK frm n z)∧GOk {X with out:=X.out.filter fun m=> !ackB frm n m} ks nz zs:=by
 refine⟨mz.filter fun z=> !ackK frm n z.1,?_,h.setOut ?_ (fun z hz=>h.mhd z (List.mem_filter.1 hz).1) X.gv X.lv⟩
 ·rw[List.filter_map];rfl
 ·rw[←h.out,List.filter_map]
  refine congrArg _ (List.filter_congr fun z hz=> ?_)
  have:=(h.mhd z hz).1
  unfold ackK ackB
  rw[this.to,this.number];rfl
end
end Go.Hv
namespace Go.Hv
open Go Go.Sl Go.Proofs
theorem over_gv{k:Nat}(h:k<7){zone v:Int}{J m n c:Nat}{p:Option Addr}{gv lv:KN7}{dn:Bool}:over (gC zone J m p n c gv lv dn) (4+k) [Ix v]=gC zone J m p n c (gv.upd k v) lv dn:=by
 rcases seven h with rfl|rfl|rfl|rfl|rfl|rfl|rfl<;>rfl
theorem over_lv{k:Nat}(h:k<7){zone v:Int}{J m n c:Nat}{p:Option Addr}{gv lv:KN7}{dn:Bool}:over (gC zone J m p n c gv lv dn) (11+k) [Ix v]=gC zone J m p n c gv (lv.upd k v) dn:=by
 rcases seven h with rfl|rfl|rfl|rfl|rfl|rfl|rfl<;>rfl
section
variable {P:Program}{β:Base}{L:List Res}{f:Fm}{d:Option Tmp}{ty:TypeId}{ps:String}{af:Array Edge}{g:Option (Nat×Bool)}
theorem m_storeN{x y:Operand}{t T b off k:Nat}{cs cs':Array Value}{v:Int}(i:Nat)(ht:tyB P t false 1=true)(hx:ev f x= .pointer (some ((⟨b,off,none⟩:Addr).add (k*1))))(hy:ev f y=Ix v)(hi:L[i]? =some (pt b (.cells cs T)))(hfit:off+k+1≤cs.size)
 (hc:over cs (off+k) [Ix v]=cs'):MU P β L f ⟨d,.store t x y,ty,ps,af,g⟩ (L.set i (pt b (.cells cs' T))):=
 m_store (o:=off+k) i ht (by rw[hx,addr0,Nat.mul_one]) hi hy rfl (by rw[Nat.ble_eq];exact hfit) rfl hc
end
end Go.Hv
namespace Go.Hv
open Go Go.Sl Go.Proofs
theorem insE_same{e:KEnt}:∀{l:List KEnt},SortE l→e∈l→insE e l=l
 |[],_,h=>by cases h
 |a::l,hs,h=>by
  rw[SortE,List.pairwise_cons]at hs
  unfold insE
  rcases List.mem_cons.1 h with rfl|h
  ·rw[if_neg (by omega),if_pos rfl]
  ·have:=hs.1 e h
   rw[if_neg (by omega),if_neg (by omega),insE_same hs.2 h]
theorem insE_last{e:KEnt}:∀{l:List KEnt},(∀x∈l,x.id<e.id)→insE e l=l++[e]
 |[],_=>rfl
 |a::l,h=>by
  have:=h a List.mem_cons_self
  unfold insE
  rw[if_neg (by omega),if_neg (by omega),insE_last fun x hx=>h x (List.mem_cons_of_mem _ hx)];rfl
theorem insE_take{l:List KEnt}{k:Nat}{e:KEnt}(hs:SortE l)(he:l[k]? =some e):insE e (l.take k)=l.take (k+1):=by
 rw[List.take_add_one,he]
 refine insE_last fun x hx=> ?_
 obtain⟨i,hi,rfl⟩:=List.mem_take_iff_getElem.1 hx
 obtain⟨hk,rfl⟩:=List.getElem?_eq_some_iff.1 he
 exact(List.pairwise_iff_getElem.1 hs) i k (by omega) hk (by omega)
theorem GOk.again{X:KG}{ks:List (Int×KEh)}{mz:MPool}{zs:EPool}(h:GOk X ks mz zs)(hs:SortE X.here){hd:KEh}{e:KEnt}(he:EHd (hd,e))(hm:e∈X.here):GOk X (EnM.put ks e.id hd) mz (zs++[(hd,e)]):=by
 have:=h.put hs he
 rw[insE_same hs hm]at this;exact this
theorem ents_snoc{l:List KEnt}{k:Nat}{e:KEnt}(h:l[k]? =some e):(l.take (k+1)).flatMap entB=(l.take k).flatMap entB++entB e:=by
 rw[take_succ h,List.flatMap_append];simp
theorem outs_snoc{l:List KMs}{k:Nat}{e:KMs}(h:l[k]? =some e):(l.take (k+1)).flatMap outMB=(l.take k).flatMap outMB++outMB e:=by
 rw[take_succ h,List.flatMap_append];simp
theorem ents_drop{l:List KEnt}{k:Nat}{e:KEnt}(h:l[k]? =some e):(l.drop k).flatMap entB=entB e++(l.drop (k+1)).flatMap entB:=by rw[drop_cons h,List.flatMap_cons]
theorem outs_drop{l:List KMs}{k:Nat}{e:KMs}(h:l[k]? =some e):(l.drop k).flatMap outMB=outMB e++(l.drop (k+1)).flatMap outMB:=by rw[drop_cons h,List.flatMap_cons]
def n7T(gv lv:KN7)(k:Nat):List UInt8:=(List.range k).flatMap fun z=>vint (gv.at z)++vint (lv.at z)
theorem n7T_succ(gv lv:KN7)(k:Nat):n7T gv lv (k+1)=n7T gv lv k++(vint (gv.at k)++vint (lv.at k)):=by
 unfold n7T;rw[List.range_succ,List.flatMap_append];simp
def n7D(gv lv:KN7)(k:Nat):List UInt8:=((List.range 7).drop k).flatMap fun z=>vint (gv.at z)++vint (lv.at z)
theorem n7D_cons(gv lv:KN7){k:Nat}(h:k<7):n7D gv lv k=vint (gv.at k)++(vint (lv.at k)++n7D gv lv (k+1)):=by
 unfold n7D
 rw[drop_cons (x:=k) (by rw[List.getElem?_range h]),List.flatMap_cons,List.append_assoc]
def n7F(y:KN7)(k:Nat):KN7:=⟨if 0<k then y.n0 else 0,if 1<k then y.n1 else 0,if 2<k then y.n2 else 0,if 3<k then y.n3 else 0,if 4<k then y.n4 else 0,if 5<k then y.n5 else 0,if 6<k then y.n6 else 0⟩
theorem n7F_step(y:KN7){k:Nat}(h:k<7):(n7F y k).upd k (y.at k)=n7F y (k+1):=by
 rcases seven h with rfl|rfl|rfl|rfl|rfl|rfl|rfl<;>rfl
theorem allB_len{X:KG}{N:Int}(h:XOk X N)(hN:N≤4611686018427387904):(allB X).length≤30000:=by
 have l1:∀l:List KEnt,(∀e∈l,Right e)→(l.flatMap entB).length≤214*l.length:=fun l hl=>by
  induction l with
  |nil=>simp
  |cons a l ih=>
   rw[List.flatMap_cons,List.length_append,List.length_cons]
   have:=(hl a List.mem_cons_self).entB;have:=ih fun e he=>hl e (List.mem_cons_of_mem _ he);omega
 have l2:∀l:List KMs,(∀m∈l,Right m.e∧inI m.to∧inI m.number)→(l.flatMap outMB).length≤234*l.length:=fun l hl=>by
  induction l with
  |nil=>simp
  |cons a l ih=>
   rw[List.flatMap_cons,List.length_append,List.length_cons]
   obtain⟨h1,h2,h3⟩:=hl a List.mem_cons_self
   have:=h1.entB;have:=vint_len10 h2;have:=vint_len10 h3;have:=ih fun e he=>hl e (List.mem_cons_of_mem _ he)
   have:(outMB a).length≤234:=by unfold outMB;simp only[List.length_append];omega
   omega
 have l3:(n7B X.gv X.lv).length≤140:=by
  have:∀k,k≤7→(n7T X.gv X.lv k).length≤20*k:=fun k=>by
   induction k with
   |zero=>intro _;exact Nat.le_refl _
   |succ k ih=>
    intro hk
    rw[n7T_succ,List.length_append,List.length_append]
    have:=ih (by omega);have h1:=h.gv k (by omega);have h2:=h.lv k (by omega)
    have:=vint_len10 (n:=X.gv.at k) ⟨by omega,by omega⟩;have:=vint_len10 (n:=X.lv.at k) ⟨by omega,by omega⟩
    omega
  exact this 7 (Nat.le_refl _)
 have h1:=l1 X.here h.right
 have h2:=l2 X.out fun m hm=>by
  obtain⟨_,_,h3,h4,h5⟩:=h.ohd m hm
  have h6:=h.gv m.to.toNat (by omega)
  exact⟨h.oright m hm,⟨by omega,by omega⟩,⟨by omega,by omega⟩⟩
 have h4:=h.few;have h5:=h.ofew
 have h6:=vint_len10 (len_in (n:=X.here.length) (by omega));have h7:=vint_len10 (len_in (n:=X.out.length) (by omega))
 unfold allB
 simp only[List.length_append];omega
theorem opT_len{X:KG}{o:KOp}(h:OpOk X o)(ha:∀Y,o≠ .all Y)(hi:∀id,o= .drop id→inI id)(hi2:∀id to,o= .give id to→inI id)(hi3:∀f n,o= .ack f n→inI f∧inI n):(opB o).length≤230:=by
 unfold opB
 rw[List.length_append]
 have hk:(vint (opK o)).length≤1:=vint_len1 (by cases o<;>simp[opK])
 have:(opT o).length≤224:=by
  cases o with
  |put e=>have:=h.1.entB;show(entB e).length≤_;omega
  |drop id=>have:=vint_len10 (hi id rfl);show(vint id).length≤_;omega
  |give id to=>have:=vint_len10 (hi2 id to rfl);have:=vint_len10 (n:=to) ⟨by have:=h.2.1;omega,by have:=h.2.1;omega⟩;show(vint id++vint to).length≤_;rw[List.length_append];omega
  |take f e=>have:=h.1.entB;have:=vint_len10 (n:=f) ⟨by have:=h.2.1;omega,by have:=h.2.1;omega⟩;show(vint f++entB e).length≤_;rw[List.length_append];omega
  |ack f n=>obtain⟨a,b⟩:=hi3 f n rfl;have:=vint_len10 a;have:=vint_len10 b;show(vint f++vint n).length≤_;rw[List.length_append];omega
  |all Y=>exact absurd rfl (ha Y)
 omega
theorem n7F_at(y:KN7){k:Nat}(h:k<7):(n7F y k).upd k 0=n7F y k:=by
 rcases seven h with rfl|rfl|rfl|rfl|rfl|rfl|rfl<;>rfl
theorem upd_upd(y:KN7){k:Nat}(h:k<7)(a b:Int):(y.upd k a).upd k b=y.upd k b:=by
 rcases seven h with rfl|rfl|rfl|rfl|rfl|rfl|rfl<;>rfl
theorem cel_gv{b k:Nat}(h:k<7){zone:Int}{J m n c:Nat}{p:Option Addr}{gv lv:KN7}{dn:Bool}:Cel ((⟨b,4,none⟩:Addr).add (k*1)) fun v=>pt b (.cells (gC zone J m p n c (gv.upd k v) lv dn) 77):=
 cel_pt (cs:=fun v=>gC zone J m p n c (gv.upd k v) lv dn) (fun _=>by show _≤19;omega) fun v w=>by rw[over_gv h,upd_upd _ h]
theorem cel_lv{b k:Nat}(h:k<7){zone:Int}{J m n c:Nat}{p:Option Addr}{gv lv:KN7}{dn:Bool}:Cel ((⟨b,11,none⟩:Addr).add (k*1)) fun v=>pt b (.cells (gC zone J m p n c gv (lv.upd k v) dn) 77):=
 cel_pt (cs:=fun v=>gC zone J m p n c gv (lv.upd k v) dn) (fun _=>by show _≤19;omega) fun v w=>by rw[over_lv h,upd_upd _ h]
abbrev zeroMg:KMg:=⟨0,0,0,false,0,none,0,0⟩
theorem cel_to{T C k:Nat}{P0:Option Addr}{xs:List KMg}{x:KMg}(hk:k<xs.length):Cel ((ba P0).add (k*6+1)) fun v=>rowF MgF T P0 C (xs.set k {x with to:=v}):=cel_fl (F:=MgF) (o:=1) (u:=fun v=>{x with to:=v}) hk (by decide) fun _ _=>rfl
theorem cel_num{T C k:Nat}{P0:Option Addr}{xs:List KMg}{x:KMg}(hk:k<xs.length):Cel ((ba P0).add (k*6+2)) fun v=>rowF MgF T P0 C (xs.set k {x with number:=v}):=cel_fl (F:=MgF) (o:=2) (u:=fun v=>{x with number:=v}) hk (by decide) fun _ _=>rfl
theorem plc_msg{T C k:Nat}{P0:Option Addr}{xs:List KMg}{x:KMg}(hk:k<xs.length):Plc ((ba P0).add (k*6+4)) fun id p n c=>rowF MgF T P0 C (xs.set k {x with id:=id,p:=p,n:=n,c:=c}):=
 plc_fl (F:=MgF) (o:=4) (u:=fun id p n c=>{x with id:=id,p:=p,n:=n,c:=c}) hk (by decide) (fun _ _ _ _=>rfl) (fun _ _ _ _ _=>rfl) fun _ _ _ _ _ _ _=>rfl
abbrev fillM(nz:MPool)(r:Nat):List KMg:=(nz.map Prod.fst)++List.replicate r zeroMg
theorem fillM_len{nz:MPool}{r:Nat}:(fillM nz r).length=nz.length+r:=by rw[List.length_append,List.length_map,List.length_replicate]
theorem fillM_same{nz:MPool}{k r:Nat}(hn:nz.length=k)(hr:0<r):(fillM nz r).set k zeroMg=fillM nz r:=by
 rw[List.set_append,if_neg (by rw[List.length_map];omega),List.length_map,hn,Nat.sub_self]
 obtain⟨r',rfl⟩:∃r',r=r'+1:=⟨r-1,by omega⟩
 rw[List.replicate_succ,List.set_cons_zero,fillM,List.replicate_succ]
theorem fillM_step{nz:MPool}{k r:Nat}(hn:nz.length=k)(m:KMg)(s:KMs):(fillM nz (r+1)).set k m=fillM (nz++[(m,s)]) r:=by
 rw[List.set_append,if_neg (by rw[List.length_map];omega),List.length_map,hn,Nat.sub_self,List.replicate_succ,List.set_cons_zero,fillM,List.map_append,List.append_assoc]
 rfl
def src0(m:KMs):KMs:={m with src:=0}
def src0G(Y:KG):KG:={Y with out:=Y.out.map src0}
open Go.Td (sortI)in
theorem sortI_nil:sortI []=[]:=by simp[sortI]
abbrev hereG(Y:KG)(k:Nat):KG:={freshG Y.zone with here:=Y.here.take k}
theorem GOk.next{Y:KG}{k:Nat}{ks:List (Int×KEh)}{mz:MPool}{zs:EPool}(h:GOk (hereG Y k) ks mz zs)(hs:SortE Y.here){e:KEnt}(he:Y.here[k]? =some e){p:Option Addr}{c:Nat}:GOk (hereG Y (k+1)) (EnM.put ks e.id ⟨e.id,p,e.comps.length,c⟩) mz (zs++[(⟨e.id,p,e.comps.length,c⟩,⟨e.id,e.comps⟩)]):=by
 have:=h.put (hd:=⟨e.id,p,e.comps.length,c⟩) (e:=e) (List.Pairwise.sublist (List.take_sublist _ _) hs) ⟨rfl,rfl⟩
 rw[insE_take hs he]at this;exact this
theorem fresh_open{zone:Int}{ks:List (Int×KEh)}{mz:MPool}{zs:EPool}(h:GOk (freshG zone) ks mz zs):ks=[]∧mz=[]:=
 ⟨List.eq_nil_of_length_eq_zero (by rw[h.klen];rfl),List.eq_nil_of_length_eq_zero (by rw[h.mlen];rfl)⟩
end Go.Hv
namespace Go.Hv
open Go Go.Sl Go.Proofs Go.Jn
structure OpG(X:KG)(o:KOp):Prop where
 ok:OpOk X o
 na:∀Y,o≠ .all Y
 i1:∀id,o= .drop id→inI id
 i2:∀id to,o= .give id to→inI id
 i3:∀f n,o= .ack f n→inI f∧inI n
def OpIn(X:KG):KOp→Prop
 | .put e=>inI e.id∧e.comps.length≤10∧∀x∈e.comps,CpI x
 | .drop id=>inI id
 | .give id to=>inI id∧(∃e∈X.here,e.id=id)∧(1≤to∧to≤6)∧X.out.length<64
 | .take frm e=>(1≤frm∧frm≤6)∧inI e.id∧e.comps.length≤10∧∀x∈e.comps,CpI x
 | .ack frm n=>inI frm∧inI n
 | .all Y=>X=freshG Y.zone∧∃N:Int,XOk Y N∧N≤4611686018427387904
theorem OpG.opIn{X:KG}{o:KOp}(h:OpG X o):OpIn X o:=by
 cases o with
 |put e=>exact⟨h.ok.1.idI,h.ok.1.len,h.ok.1.cp⟩
 |drop id=>exact h.i1 id rfl
 |give id to=>exact⟨h.i2 id to rfl,h.ok.1,h.ok.2.1,h.ok.2.2⟩
 |take frm e=>exact⟨h.ok.2.1,h.ok.1.idI,h.ok.1.len,h.ok.1.cp⟩
 |ack frm n=>exact h.i3 frm n rfl
 |all Y=>exact absurd rfl (h.na Y)
theorem OpG.len{X:KG}{o:KOp}(h:OpG X o):(opB o).length≤230:=opT_len h.ok h.na h.i1 h.i2 h.i3
theorem play_zone{X:KG}{o:KOp}(h:∀Y,o≠ .all Y):(playX X o).zone=X.zone:=by
 cases o with
 |all Y=>exact absurd rfl (h Y)
 |_=>rfl
def replayG(X:KG)(ops:List KOp):KG:=ops.foldl playX X
theorem replayG_snoc(X:KG)(ops:List KOp)(o:KOp):replayG X (ops++[o])=playX (replayG X ops) o:=by unfold replayG;rw[List.foldl_append];rfl
theorem replayG_take{X:KG}{ops:List KOp}{k:Nat}{o:KOp}(h:ops[k]? =some o):replayG X (ops.take (k+1))=playX (replayG X (ops.take k)) o:=by
 rw[List.take_add_one,h];exact replayG_snoc ..
structure Img(i:KI)(X X0:KG)(ops:List KOp)(N:Nat):Prop where
 st:(i.state=[]∧X0=freshG X.zone)∨i.state=opB (.all X0)
 x0:XOk X0 N∧X0.zone=X.zone
 recs:i.recs=ops.map opB
 ok:∀k o,ops[k]? =some o→OpIn (replayG X0 (ops.take k)) o∧XOk (replayG X0 (ops.take k)) N∧(replayG X0 (ops.take k)).zone=X.zone
 x:X=replayG X0 ops
theorem Img.mono{i:KI}{X X0:KG}{ops:List KOp}{N M:Nat}(h:Img i X X0 ops N)(hM:N≤M):Img i X X0 ops M:=
 ⟨h.st,⟨h.x0.1.mono (by omega),h.x0.2⟩,h.recs,fun k o hk=>⟨(h.ok k o hk).1,(h.ok k o hk).2.1.mono (by omega),(h.ok k o hk).2.2⟩,h.x⟩
theorem Img.ap{i:KI}{X X0:KG}{ops:List KOp}{N:Nat}(h:Img i X X0 ops N){o:KOp}(ho:OpG X o)(hX:XOk X N):Img (apI i (opB o)) (playX X o) X0 (ops++[o]) N:=by
 have hz:=play_zone (X:=X) ho.na
 refine⟨by rw[hz];exact h.st,⟨h.x0.1,h.x0.2.trans hz.symm⟩,by show i.recs++_=_;rw[h.recs,List.map_append];rfl,fun k o' hk=> ?_,by rw[replayG_snoc,←h.x]⟩
 rw[hz]
 by_cases hl:k<ops.length
 ·rw[List.getElem?_append_left hl]at hk
  rw[List.take_append_of_le_length (Nat.le_of_lt hl)]
  exact h.ok k o' hk
 ·have hk':k=ops.length:=by have:=(List.getElem?_eq_some_iff.1 hk).1;rw[List.length_append,List.length_singleton]at this;omega
  subst hk'
  rw[List.getElem?_append_right (Nat.le_refl _),Nat.sub_self]at hk
  injection hk with hk;subst hk
  rw[List.take_left,←h.x]
  exact⟨ho.opIn,hX,rfl⟩
structure SOk(X:KG)(i:KI)(k:KS)(N:Nat)(x:Bool):Prop where
 inv:Inv k i N x
 ep:i.epoch*218000+i.size≤N
 img:∃X0 ops,Img i X X0 ops N
 ok:XOk X N
theorem SOk.mono{X:KG}{i:KI}{k:KS}{N M:Nat}{x:Bool}(h:SOk X i k N x)(hM:N≤M):SOk X i k M x:=
 ⟨h.inv.mono hM,Nat.le_trans h.ep hM,let⟨X0,ops,hi⟩:=h.img;⟨X0,ops,hi.mono hM⟩,h.ok.mono (by omega)⟩
theorem SOk.weak{X:KG}{i:KI}{k:KS}{N:Nat}{x:Bool}(h:SOk X i k N x):SOk X i k N false:=⟨h.inv.any,h.ep,h.img,h.ok⟩
theorem SOk.pow{X:KG}{i:KI}{k:KS}{N:Nat}{x:Bool}(h:SOk X i k N x){p:Int}(h1: -1≤p)(h2:p≤70000):SOk X i {k with power:=p} N x:=⟨h.inv.pow h1 h2,h.ep,h.img,h.ok⟩
theorem SOk.cut{X:KG}{i:KI}{k:KS}{N:Nat}{x:Bool}(h:SOk X i k N x)(hp:k.power≠0):SOk X i (cutS k i.epoch i.size) N true:=⟨h.inv.cut hp,h.ep,h.img,h.ok⟩
theorem SOk.epoch{X:KG}{i:KI}{k:KS}{N:Nat}{x:Bool}(h:SOk X i k N x)(hN:N≤54000000):i.epoch<250:=by have:=h.ep;omega
theorem sizes_len:∀l:List Bs,l.length≤sizes l
 |[]=>Nat.zero_le _
 |b::l=>by rw[sizes];have:=sizes_len l;rw[List.length_cons];omega
theorem SOk.recs{X:KG}{i:KI}{k:KS}{N:Nat}{x:Bool}(h:SOk X i k N x):i.recs.length≤262144:=by
 have h1:=h.inv.wf.size
 have h2:=h.inv.sm
 have h3:(encR i.epoch (i.next-i.recs.length) i.recs).length≤(Jn.encI i).length:=by unfold Jn.encI;rw[List.length_append];omega
 rw[encR_length]at h3
 have:=sizes_len i.recs
 omega
theorem SOk.room{X:KG}{i:KI}{k:KS}{N:Nat}{x:Bool}(h:SOk X i k N x)(hN:N≤54000000){bs:Bs}(hb:bs.length≤230)(hr:i.size+24+bs.length≤262144):
  bs.length≤65536∧k.fits 524288∧i.next≤4611686018427387904∧i.size≤262144∧i.recs.length≤1048576∧i.size+24+bs.length≤262144∧i.next≠4611686018427387904:=by
 have h1:=h.inv.nN;have h2:=h.inv.sm;have h3:=h.recs
 exact⟨by omega,h.inv.fits (Nat.le_trans hN (by decide)),by omega,by omega,by omega,by omega,by omega⟩
theorem ap_size{i:KI}{bs:Bs}:(apI i bs).size=i.size+(24+bs.length):=congrArg (i.size+ ·) (formB_length i.epoch i.next bs)
theorem SOk.ap{X:KG}{i:KI}{k:KS}{N:Nat}(h:SOk X i k N true)(hN:N≤54000000){o:KOp}(ho:OpG X o)(hr:i.size+24+(opB o).length≤262144)(ha:apOk k i (opB o)):
  SOk (playX X o) (apI i (opB o)) (apS k i (opB o)) (N+254) true:=by
 obtain⟨X0,ops,hi⟩:=h.img
 have hl:=ho.len
 have e1:=h.inv.ap_ok (Nat.le_trans hN (by decide)) (Nat.le_trans hl (by decide)) hr ha
 refine⟨e1.mono (by omega),?_,⟨X0,_,(hi.ap ho h.ok).mono (by omega)⟩,(h.ok.play ho.ok ho.na).mono (by omega)⟩
 rw[ap_size,show(apI i (opB o)).epoch=i.epoch from rfl]
 have h2:=h.ep
 generalize i.epoch*218000=z at h2⊢
 omega
theorem SOk.ap_no{X:KG}{i:KI}{k:KS}{N:Nat}(h:SOk X i k N true){bs:Bs}(hr:i.size+24+bs.length≤262144)(hb:bs.length≤65536)(ha:¬apOk k i bs):SOk X i (apS k i bs) (N+1) false:=
 ⟨h.inv.ap_no hb hr ha,Nat.le_trans h.ep (by omega),let⟨X0,ops,hi⟩:=h.img;⟨X0,ops,hi.mono (by omega)⟩,h.ok.mono (by omega)⟩
theorem Img.ck{i:KI}{X X0:KG}{ops:List KOp}{N:Nat}(_:Img i X X0 ops N)(hX:XOk X N):Img (ckI i (opB (.all X))) X X [] N:=
 ⟨.inr rfl,⟨hX,rfl⟩,rfl,fun k o hk=>(by rw[List.getElem?_nil]at hk;cases hk),rfl⟩
theorem allBytes{X:KG}{N:Nat}(h:XOk X N)(hN:N≤54000000):(opB (.all X)).length≤30001:=by
 unfold opB
 rw[List.length_append]
 have h1:(vint (opK (.all X))).length≤1:=vint_len1 (by simp[opK])
 have h2:=allB_len h (by omega)
 show _+(allB X).length≤_
 omega
theorem ck_ep{e l N M:Nat}(h:e*218000+l≤N)(hM:N+248025≤M+l){bs:Bs}(hb:bs.length≤30001){i:KI}(hi:i.epoch=e):(ckI i bs).epoch*218000+(ckI i bs).size≤M:=by
 have q:(ckI i bs).size=24+bs.length:=rfl
 have q2:(ckI i bs).epoch=i.epoch+1:=rfl
 rw[q,q2,hi,Nat.succ_mul]
 generalize e*218000=z at h⊢
 omega
theorem SOk.ck{X:KG}{i:KI}{k:KS}{N:Nat}(h:SOk X i k N true)(hN:N≤54000000)(hc:ckOk k (i.epoch+1) i.next (opB (.all X))):
  SOk X (ckI i (opB (.all X))) (ckS k (i.epoch+1) i.next (opB (.all X))) (N+262144) true:=by
 obtain⟨X0,ops,hi⟩:=h.img
 have hb:=allBytes h.ok hN
 have e1:=h.inv.ck_ok (Nat.le_trans hN (by decide)) (h.epoch hN) (Nat.le_trans hb (by decide)) hc
 exact⟨e1.mono (by omega),ck_ep h.ep (by omega) hb rfl,⟨X,[],(hi.ck h.ok).mono (by omega)⟩,h.ok.mono (by omega)⟩
theorem SOk.ckFull{X:KG}{i:KI}{k:KS}{N:Nat}(h:SOk X i k N true)(hN:N≤54000000)(hf:261880<i.size)(hc:ckOk k (i.epoch+1) i.next (opB (.all X))):
  SOk X (ckI i (opB (.all X))) (ckS k (i.epoch+1) i.next (opB (.all X))) (N+1) true:=by
 obtain⟨X0,ops,hi⟩:=h.img
 have hb:=allBytes h.ok hN
 have e1:=h.inv.ck_ok (Nat.le_trans hN (by decide)) (h.epoch hN) (Nat.le_trans hb (by decide)) hc
 exact⟨e1,ck_ep h.ep (by omega) hb rfl,⟨X,[],(hi.ck h.ok).mono (by omega)⟩,h.ok.mono (by omega)⟩
theorem SOk.ck_no{X:KG}{i:KI}{k:KS}{N:Nat}(h:SOk X i k N true)(hN:N≤54000000)(hc:¬ckOk k (i.epoch+1) i.next (opB (.all X))):
  ∃j,SOk X j (ckS k (i.epoch+1) i.next (opB (.all X))) (N+262144) false:=by
 obtain⟨X0,ops,hi⟩:=h.img
 have hb:=allBytes h.ok hN
 have hx:XOk X ((N+262144:Nat):Int):=h.ok.mono (by omega)
 rcases h.inv.ck_no (Nat.le_trans hN (by decide)) (h.epoch hN) (Nat.le_trans hb (by decide)) hc with hv|hv
 ·exact⟨i,hv.mono (by omega),Nat.le_trans h.ep (by omega),⟨X0,ops,hi.mono (by omega)⟩,hx⟩
 ·exact⟨ckI i (opB (.all X)),hv.mono (by omega),ck_ep h.ep (by omega) hb rfl,⟨X,[],(hi.ck h.ok).mono (by omega)⟩,hx⟩
theorem ap_neg1{k:KS}{i:KI}{bs:Bs}(h:k.power= -1):apOk k i bs:=by unfold apOk wrOk Jn.pw;rw[h];rfl
theorem apS_neg1{k:KS}{i:KI}{bs:Bs}(h:k.power= -1):(apS k i bs).power= -1:=by
 show pl k.power _= -1
 unfold pl;rw[h];rfl
theorem cut_neg1{k:KS}{e n:Nat}(h:k.power= -1):(cutS k e n).power= -1:=by
 show cutP _ k.power _= -1
 unfold cutP spendP
 rw[h];split<;>rfl
theorem ck_neg1{k:KS}{e n:Nat}{bs:Bs}(h:k.power= -1):ckOk k e n bs∧(ckS k e n bs).power= -1:=by
 have h1:ckOk1 k e:= .inr (by rw[h];decide)
 have p1:(ck1 k e).power= -1:=by
  show cutP _ k.power _= -1
  unfold cutP spendP;rw[h];split<;>rfl
 have h2:ckOk2 k e n bs:=by unfold ckOk2 wrOk Jn.pw;rw[p1];rfl
 have p2:(ck2 k e n bs).power= -1:=by show pl (ck1 k e).power _= -1;unfold pl;rw[p1];rfl
 have p3:(ck3 k e n bs).power= -1:=by unfold ck3;simp only;split<;>exact p2
 have h3:ckOk3 k e n bs:=by unfold ckOk3 wrOk Jn.pw;rw[p3];rfl
 refine⟨⟨h1,h2,h3⟩,?_⟩
 unfold ckS
 rw[if_pos h1,if_pos h2]
 show pl (ck3 k e n bs).power _= -1
 unfold pl;rw[p3];rfl
theorem sok_fresh{p:Int}(h: -1≤p∧p≤70000){z:Int}(hz:1≤z∧z≤6):SOk (freshG z) ⟨0,0,[],[],0⟩ ⟨[],[],[],p⟩ 0 false:=
 have h0:=freshG_ok (N:=0) hz (Int.le_refl _)
 ⟨(inv_empty h).any,by decide,⟨freshG z,[],.inl ⟨rfl,rfl⟩,⟨h0,rfl⟩,rfl,fun k o hk=>(by rw[List.getElem?_nil]at hk;cases hk),rfl⟩,h0⟩
abbrev Pow(m:Bool)(k:KS):Prop:=m=true→k.power= -1
def gateR(G S:Nat)(X:KG)(N:Nat)(m:Bool):Res:=fun h=>∃J i k,SOk X i k N true∧Pow m k∧Sat [gvR G J X false,jourR J S i false,storeR S k] h
def shelfR(S:Nat)(X:KG)(N:Nat)(m:Bool):Res:=fun h=>∃i k,SOk X i k N false∧Pow m k∧storeR S k h
def downR(G:Nat)(X:KG):Res:=fun h=>∃J,gvR G J X true h
section
variable {β:Base}{G S N:Nat}{X:KG}{m:Bool}{M:List Res}{w:World}
theorem St.openGate(h:St β (gateR G S X N m::M) w):∃J i k,SOk X i k N true∧Pow m k∧St β (gvR G J X false::jourR J S i false::storeR S k::M) w:=by
 obtain⟨ho,ht,hp,a,hd,hs,hs',q,r,h1,h2,h3,⟨J,i,k,hk,hw,hx⟩,h5⟩:=h
 exact⟨J,i,k,hk,hw,St.unbun (L:=[gvR G J X false,jourR J S i false,storeR S k]) ⟨ho,ht,hp,a,hd,hs,hs',q,r,h1,h2,h3,hx,h5⟩⟩
theorem St.closeGate{J:Nat}{i:KI}{k:KS}(hk:SOk X i k N true)(hp:Pow m k)(h:St β (gvR G J X false::jourR J S i false::storeR S k::M) w):St β (gateR G S X N m::M) w:=
 St.merge (L:=[gvR G J X false,jourR J S i false,storeR S k]) h fun _ h=>⟨J,i,k,hk,hp,h⟩
theorem St.openShelf(h:St β (shelfR S X N m::M) w):∃i k,SOk X i k N false∧Pow m k∧St β (storeR S k::M) w:=by
 obtain⟨ho,ht,hp,a,hd,hs,hs',q,r,h1,h2,h3,⟨i,k,hk,hw,hx⟩,h5⟩:=h
 exact⟨i,k,hk,hw,ho,ht,hp,a,hd,hs,hs',q,r,h1,h2,h3,hx,h5⟩
theorem St.closeShelf{i:KI}{k:KS}(hk:SOk X i k N false)(hp:Pow m k)(h:St β (storeR S k::M) w):St β (shelfR S X N m::M) w:=
 h.conseq fun _ h=>⟨i,k,hk,hp,h⟩
theorem St.openDown(h:St β (downR G X::M) w):∃J,St β (gvR G J X true::M) w:=by
 obtain⟨ho,ht,hp,a,hd,hs,hs',q,r,h1,h2,h3,⟨J,hx⟩,h5⟩:=h
 exact⟨J,ho,ht,hp,a,hd,hs,hs',q,r,h1,h2,h3,hx,h5⟩
theorem St.closeDown{J:Nat}(h:St β (gvR G J X true::M) w):St β (downR G X::M) w:=h.conseq fun _ h=>⟨J,h⟩
theorem gate_mono{N':Nat}(hN:N≤N')(a:PHeap)(h:gateR G S X N m a):gateR G S X N' m a:=by
 obtain⟨J,i,k,h1,h2,h3⟩:=h;exact⟨J,i,k,h1.mono hN,h2,h3⟩
theorem shelf_mono{N':Nat}(hN:N≤N')(a:PHeap)(h:shelfR S X N m a):shelfR S X N' m a:=by
 obtain⟨i,k,h1,h2,h3⟩:=h;exact⟨i,k,h1.mono hN,h2,h3⟩
theorem gate_weak(a:PHeap)(h:gateR G S X N m a):gateR G S X N false a:=by
 obtain⟨J,i,k,h1,h2,h3⟩:=h;exact⟨J,i,k,h1,fun q=>(by cases q),h3⟩
theorem St.leave(h:St β (gateR G S X N m::M) w):St β (shelfR S X N m::M) w:=by
 obtain⟨J,i,k,h1,h2,h3⟩:=St.openGate h
 have h4:=h3.perm (L':=storeR S k::gvR G J X false::jourR J S i false::M) (List.Perm.append_right M (perm_ix (L:=[gvR G J X false,jourR J S i false,storeR S k]) (L':=[storeR S k,gvR G J X false,jourR J S i false]) [2,0,1] 3 rfl (by kernel_rfl) (by kernel_rfl)))
 exact St.closeShelf h1.weak h2 (h4.drop (.cons_cons _ (.cons _ (.cons _ (List.Sublist.refl _)))))
end
section
variable {P:Program}{ro:Option Nat}{n:Nat}{ds:List Deferred}{β:Base}{Q:Exit→Act→World→Prop}{f:Fm}{L:List Res}
theorem c_closeGate{c:Code}{G S N J:Nat}{X:KG}{m:Bool}{i:KI}{k:KS}{M:List Res}(hL:L=gvR G J X false::jourR J S i false::storeR S k::M)(hk:SOk X i k N true)(hp:Pow m k)(K:RunC P ro n ds β c Q f (gateR G S X N m::M)):RunC P ro n ds β c Q f L:=fun a w ha hw=>by
 subst hL;exact K a w ha (St.closeGate hk hp hw)
theorem c_openShelf{c:Code}{S N:Nat}{X:KG}{m:Bool}{M:List Res}(hL:L=shelfR S X N m::M)(K:∀i k,SOk X i k N false→Pow m k→RunC P ro n ds β c Q f (storeR S k::M)):RunC P ro n ds β c Q f L:=fun a w ha hw=>by
 subst hL
 obtain⟨i,k,h1,h2,h⟩:=St.openShelf hw
 exact K i k h1 h2 a w ha h
theorem c_closeShelf{c:Code}{S N:Nat}{X:KG}{m:Bool}{i:KI}{k:KS}{M:List Res}(hL:L=storeR S k::M)(h1:SOk X i k N false)(h2:Pow m k)(K:RunC P ro n ds β c Q f (shelfR S X N m::M)):RunC P ro n ds β c Q f L:=fun a w ha hw=>by
 subst hL
 exact K a w ha (St.closeShelf h1 h2 hw)
end
def endG(e:Int)(G S:Nat)(X X1:KG)(N1 N2:Nat)(m:Bool):Res:=fun h=>(e=0∧gateR G S X1 N1 m h)∨(e=310∧m=false∧Sat [downR G X,shelfR S X N2 m] h)
section
variable {β:Base}{G S N N1 N2:Nat}{X X1:KG}{m:Bool}{M:List Res}{w:World}
theorem St.endOk(hN:N≤N1)(h:St β (gateR G S X1 N m::M) w):St β (endG 0 G S X X1 N1 N2 m::M) w:=h.conseq fun a h=> .inl ⟨rfl,gate_mono hN a h⟩
theorem St.endNo{J:Nat}{i:KI}{k:KS}(hm:m=false)(hk:SOk X i k N2 false)(h:St β (gvR G J X true::storeR S k::M) w):St β (endG 310 G S X X1 N1 N2 m::M) w:=
 St.merge (L:=[downR G X,shelfR S X N2 m]) ((St.closeDown h).conseq_at 1 rfl fun a h=>⟨i,k,hk,fun q=>(by rw[hm]at q;cases q),h⟩) fun _ h=> .inr ⟨rfl,hm,h⟩
theorem St.endIf{e:Int}(h:St β (endG e G S X X1 N1 N2 m::M) w):(e=0∧St β (gateR G S X1 N1 m::M) w)∨(e=310∧m=false∧St β (downR G X::shelfR S X N2 m::M) w):=by
 obtain⟨ho,ht,hp,a,hd,hs,hs',q,r,h1,h2,h3,(⟨e0,hx⟩|⟨e1,hm,hx⟩),h5⟩:=h
 ·exact .inl ⟨e0,ho,ht,hp,a,hd,hs,hs',q,r,h1,h2,h3,hx,h5⟩
 ·exact .inr ⟨e1,hm,St.unbun (L:=[downR G X,shelfR S X N2 m]) ⟨ho,ht,hp,a,hd,hs,hs',q,r,h1,h2,h3,hx,h5⟩⟩
end
section
variable {P:Program}{ro:Option Nat}{n:Nat}{ds:List Deferred}{β:Base}{Q:Exit→Act→World→Prop}{f:Fm}{L:List Res}
end
theorem gv_zone{G J:Nat}{X:KG}{dn:Bool}(a:PHeap)(h:gvR G J X dn a):Cs a ⟨G,0,none⟩ [Ix X.zone]:=by
 obtain⟨m,p,c,ks,mz,zs,_,b,d,_,s,_,hx,_⟩:=h
 exact Cs.mono _ _ _ _ s (Cs.of_pt (o:=0) (vs:=[Ix X.zone]) hx rfl)
theorem gv_J{G J:Nat}{X:KG}{dn:Bool}(a:PHeap)(h:gvR G J X dn a):Cs a ⟨G,1,none⟩ [.pointer (some ⟨J,0,none⟩)]:=by
 obtain⟨m,p,c,ks,mz,zs,_,b,d,_,s,_,hx,_⟩:=h
 exact Cs.mono _ _ _ _ s (Cs.of_pt (o:=1) (vs:=[.pointer (some ⟨J,0,none⟩)]) hx rfl)
section
variable {β:Base}{L:List Res}{G J:Nat}{X:KG}{dn:Bool}
theorem k_gvz(i:Nat)(hi:L[i]? =some (gvR G J X dn)):Knows β L (fun a=>Cs a ⟨G,0,none⟩ [Ix X.zone]):=Knows.of_res i hi (Cs.mono _ _) gv_zone
theorem k_gvJ(i:Nat)(hi:L[i]? =some (gvR G J X dn)):Knows β L (fun a=>Cs a ⟨G,1,none⟩ [.pointer (some ⟨J,0,none⟩)]):=Knows.of_res i hi (Cs.mono _ _) gv_J
end
end Go.Hv
namespace Go.Proofs.YtmhlglginimmnaaGreatDoor
open Go Go.Sl Go.Hv
theorem gRng:Tryz.prog.globalNamed "marches/store.ranges"=some 0:=by kernel_rfl
theorem tRng:(Tryz.prog.globals[0]?).map (·.type)=some 165:=by kernel_rfl
theorem cl163:Tryz.prog.cellsOf 163=2:=by kernel_rfl
theorem cl164:Tryz.prog.cellsOf 164=8:=by kernel_rfl
theorem cl165:Tryz.prog.cellsOf 165=88:=by kernel_rfl
theorem cl3:Tryz.prog.cellsOf 3=1:=by kernel_rfl
theorem door_met(os:Os)(args:Array Value):laidMetH Tryz.prog [("marches/store.ranges",Rows.laid_marches_store_ranges)] ((World.doorLaid Tryz.prog 600 os).forCall (fun _ _=>0) ⟨#[],args,[]⟩).memory:=
 laidMetH_of_parts3 (fuel:=8) (laidMet_of_run' 8 (by kernel_rfl) (by kernel_rfl)) (by kernel_rfl) (by kernel_rfl)
mutual
def litD{H:Type}:DataW H→List Value
 | .lit (.int k n)=>[.int k n]
 | .agg xs=>litDs xs
 |_=>[]
def litDs{H:Type}:List (DataW H)→List Value
 |[]=>[]
 |x::xs=>litD x++litDs xs
end
theorem litDs_eq{H:Type}:∀xs:List (DataW H),litDs xs=xs.flatMap litD
 |[]=>by rw[litDs];rfl
 |x::xs=>by rw[litDs,litDs_eq xs];rfl
theorem litD_agg{H:Type}(xs:List (DataW H)):litD (.agg xs)=xs.flatMap litD:=by rw[litD,litDs_eq]
theorem litD_int{H:Type}(k:IntKind)(n:Int):litD (.lit (.int k n):DataW H)=[.int k n]:=by rw[litD]
section
variable {H:Type}{enc:TypeId×Value→H}{w:World}{base:Nat}{spare:Nat→Bool}{held:Bool}
def Told(t:TypeId):Prop:=∀{H:Type} (enc:TypeId×Value→H) (w:World) (base:Nat) (spare:Nat→Bool) (held:Bool) (fuel:Nat) (cs:List Value) (x:DataW H×List MemPlace),DataW.trod enc Tryz.prog w base spare held fuel t cs=some x→cs=litD x.1
theorem told3:Told 3:=fun enc w base spare held fuel cs x h=>by
 obtain⟨n,rfl,rfl,_⟩:=DataW.trod_int Tryz.underlying3 h
 exact(litD_int _ _).symm
theorem two_of{α:Type _}:∀{cs:List α},cs.length=2→∃a b,cs=[a,b]
 |[a,b],_=>⟨a,b,rfl⟩
theorem told163:Told 163:=fun enc w base spare held fuel cs x h=>by
 obtain⟨xs,m,rfl,rfl,hl,hn,he⟩:=DataW.trod_struct Tryz.underlying163 h
 rw[cl163]at hl
 match xs,hn,he with
 |[x0,x1],_,he=>
  have h0:=told3 _ _ _ _ _ _ _ _ (he 0 _ rfl)
  have h1:=told3 _ _ _ _ _ _ _ _ (he 1 _ rfl)
  obtain⟨a,b,rfl⟩:=two_of hl
  have h0:([a,b].drop 0).take (Tryz.prog.cellsOf 3)=litD x0.1:=h0
  have h1:([a,b].drop 1).take (Tryz.prog.cellsOf 3)=litD x1.1:=h1
  rw[cl3]at h0 h1
  have h0:[a]=litD x0.1:=h0
  have h1:[b]=litD x1.1:=h1
  rw[litD_agg]
  show [a,b]=litD x0.1++(litD x1.1++[])
  rw[←h0,←h1];rfl
theorem pieces{α:Type}(k:Nat):∀(n:Nat) (cs:List α),cs.length=n*k→(List.range n).flatMap (fun i=>(cs.drop (i*k)).take k)=cs
 |0,cs,h=>by
  rw[Nat.zero_mul]at h
  rw[List.eq_nil_of_length_eq_zero h];rfl
 |n+1,cs,h=>by
  rw[List.range_succ_eq_map,List.flatMap_cons,List.flatMap_map]
  have h1:cs.length=n*k+k:=by rw[h,Nat.succ_mul]
  have:=pieces k n (cs.drop k) (by rw[List.length_drop];omega)
  rw[Nat.zero_mul,List.drop_zero]
  refine Eq.trans (congrArg (cs.take k++ ·) ?_) (List.take_append_drop k cs)
  rw[←this]
  refine congrArg (fun f=>(List.range n).flatMap f) (funext fun i=> ?_)
  rw[List.drop_drop,Nat.succ_mul,Nat.add_comm]
theorem toldArr{t e:TypeId}{n k:Nat}(ht:Tryz.prog.underlying t=some (.array n e))(hk:Tryz.prog.cellsOf e=k)(hc:Tryz.prog.cellsOf t=n*k)(he:Told e):Told t:=fun enc w base spare held fuel cs x h=>by
 obtain⟨xs,m,rfl,rfl,hl,hn,hel⟩:=DataW.trod_array ht h
 rw[hk]at hel
 rw[hc]at hl
 rw[litD_agg,List.flatMap_map]
 conv=>lhs;rw[←pieces k n cs hl]
 have h1:(List.range n).map (fun i=>(cs.drop (i*k)).take k)=xs.map fun x=>litD x.1:=by
  refine List.ext_getElem (by simp[hn]) fun i h1 h2=> ?_
  have hi:i<n:=by simpa using h1
  have h3:=hel i hi
  rw[List.getElem?_eq_getElem (by omega)]at h3
  rw[List.getElem_map,List.getElem_map,List.getElem_range]
  exact he _ _ _ _ _ _ _ _ h3
 rw[List.flatMap_def,h1,←List.flatMap_def]
end
theorem of_laid {W:World} (h:laidMetH Tryz.prog [("marches/store.ranges",Rows.laid_marches_store_ranges)] W):GRng (World.base W):=by
 obtain⟨ps,⟨g,t,cs,fuel,p,q,hg,ht,hv,hd,_⟩,_⟩:=(laidMetH_iff.1 h).1
 obtain rfl:=Option.some.inj (gRng.symm.trans hg)
 obtain rfl:=Option.some.inj (tRng.symm.trans ht)
 have hc:=World.var?_cell hg hv
 have h1:cs.toList=rngL.flatMap RgF.enc:=toldArr Tryz.underlying165 cl164 cl165 (toldArr Tryz.underlying164 cl163 cl164 told163) _ _ _ _ _ _ _ _ hd
 intro j v hj
 have e:(⟨0,0,none⟩:Addr).add j=⟨0,j,none⟩:=by unfold Addr.add;split<;>simp_all
 rw[e]
 rw[←h1]at hj
 have:=hc j
 rw[show cs[j]? =some v by simpa using hj]at this
 exact this
end Go.Proofs.YtmhlglginimmnaaGreatDoor
