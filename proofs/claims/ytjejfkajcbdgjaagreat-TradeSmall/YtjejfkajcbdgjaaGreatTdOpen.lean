/-
  Own work; plain Lean (TdRd, TdRef3, TdKept, TdRef4, TdRef5, TdHouE, TdWrt, TdWh, TdOpen).
-/
import Derived.Test.YtjejfkajcbdgjaaGreatTd6
import Derived.Shelf.Small.Bits
import Derived.Shelf.Small.Wraps
import Derived.Shelf.Strconv.Itoa0
import Derived.Shelf.Sort.Plain
import Derived.Ground.Names2Prog
import Derived.Shelf.Slices.SearchI
import Derived.Shelf.Slices.In.SortNone
import Derived.Test.YtjejfkajcbdgjaaGreatProg
import Derived.ProofKit
import Derived.OpenShut
import Derived.Deep.Slices
import Derived.Laws.IdiomArrays
import Derived.SizedLaws
set_option linter.all false
namespace Go.Sl
theorem bBd(x:UInt8)(s:Nat)(hs:s<8):((x.toNat:Int)).fdiv (2^(min ((s:Int)).toNat IntKind.u8.bits))=((x>>>UInt8.ofNat s).toNat:Int):=by
 have e:(UInt8.ofNat s).toNat%8=s:=by simp;omega
 have hm:min ((s:Int)).toNat IntKind.u8.bits=s:=by simp[IntKind.bits];omega
 rw[hm,UInt8.toNat_shiftRight,e,Nat.shiftRight_eq_div_pow,Int.fdiv_eq_ediv_of_nonneg _ (by exact_mod_cast Nat.zero_le _)]
 push_cast;rfl
theorem bBb(x y:UInt8):IntKind.u8.wrap ((BitVec.ofInt IntKind.u8.bits (x.toNat:Int)&&&BitVec.ofInt IntKind.u8.bits (y.toNat:Int)).toNat:Int)=((x&&&y).toNat:Int):=by
 rw[aJq,aJq,u8w]
 have h:=(x&&&y).toNat_lt
 show(((x&&&y).toNat:Nat):Int)%256=_
 omega
end Go.Sl
namespace Go.Td
open Go Go.Sl Go.Proofs Go.Jn
theorem aXo{xs:List UInt8}{n j:Nat}{x:UInt8}(h:xs[(n+j)/8]? =some x):(zR xs n j<<<(1:UInt64))|||(x>>>UInt8.ofNat (7-(n+j)%8)&&&(1:UInt8)).toUInt64=zR xs n (j+1):=by
 show _=(zR xs n j<<<(1:UInt64))|||aBb xs (n+j)
 unfold aBb
 rw[List.getD_eq_getElem?_getD,h];rfl
structure Fits(v:Int)(k:Nat):Prop where
 f:k=64∨(0≤v∧v<2^k∧k<64)
 w:0≤v∧v≤9223372036854775807
theorem Fits.k64{v:Int}{k:Nat}(h:Fits v k):k≤64:=by rcases h.f with h|h<;>omega
theorem fO{v:Int}{k:Nat}(hk:k<64)(h0:0≤v)(h:v<2^k):Fits v k:=by
 refine⟨.inr ⟨h0,h,hk⟩,?_⟩
 have:(2:Int)^k≤2^63:=by exact_mod_cast Nat.pow_le_pow_right (by decide) (by omega:k≤63)
 omega
theorem bEs{v:Int}(h:0≤v∧v≤9223372036854775807):IntKind.i64.wrap ((U v).toNat:Int)=v:=by
 have hu:((U v).toNat:Int)=v:=by
  unfold U
  rw[UInt64.toNat_ofNat_of_lt' (by show(v%18446744073709551616).toNat<2^64;omega)]
  omega
 rw[hu]
 exact rD (by omega)
def amK(a:KAm)(k:Nat)(r:List Bool):List Bool:=aM (U a.a0) k++(aM (U a.a1) k++(aM (U a.a2) k++(aM (U a.a3) k++r)))
def aUy(x:KAct)(r:List Bool):List Bool:=aM (U ((x.kind.toNat:Nat):Int)) 3++(aM (U x.owner) 17++(aM (U x.other) 17++(aM (U x.hold) 64++amK x.a 31 r)))
def kO:List KAct→List Bool→List Bool
 |[],r=>r
 |x::l,r=>aUy x (kO l r)
def aBh(au nu:Int)(al:List KAct)(r:List Bool):List Bool:=aM (U au) 7++(aM (U nu) 41++(aM (U ((al.length:Nat):Int)) 9++kO al r))
def psK:List (Int×KAm)→List Bool→List Bool
 |[],r=>r
 |p::l,r=>aM (U p.1) 17++amK p.2 31 (psK l r)
def hsK:List (Int×KHo)→List Bool→List Bool
 |[],r=>r
 |p::l,r=>aM (U p.1) 48++(aM (U p.2.owner) 17++amK p.2.a 31 (hsK l r))
def nsK:List Int→List Bool→List Bool
 |[],r=>r
 |n::l,r=>aM (U n) 48++nsK l r
def aRv(m:KMem)(r:List Bool):List Bool:=aBh m.d.author m.d.number m.d.acts (aM (U ((m.r.holds.length:Nat):Int)) 9++nsK m.r.holds (aM (U m.r.at_) 9++(aM (U m.r.e) 16++r)))
def uB:List (Int×KMem)→List Bool→List Bool
 |[],r=>r
 |p::l,r=>aRv p.2 (uB l r)
def stK(su:KAm)(last:Int)(ps:List (Int×KAm))(hs:List (Int×KHo))(ms:List (Int×KMem)):List Bool:=
 amK su 63 (aM (U last) 48++(aM (U ((ps.length:Nat):Int)) 9++psK ps (aM (U ((hs.length:Nat):Int)) 9++hsK hs (aM (U ((ms.length:Nat):Int)) 9++uB ms []))))
theorem aCx(a:KAm)(k:Nat)(r:List Bool):lZ a k++r=amK a k r:=by simp[lZ,amK]
theorem aUz(x:KAct)(r:List Bool):aCv x++r=aUy x r:=by simp[aCv,aUy,←aCx]
theorem aEy:∀(l:List KAct) (r:List Bool),uF l++r=kO l r
 |[],r=>rfl
 |x::l,r=>by show aCv x++uF l++r=aUy x (kO l r);rw[List.append_assoc,aEy l r,aUz]
theorem aFt(au nu:Int)(al:List KAct)(r:List Bool):kR au nu al++r=aBh au nu al r:=by simp[kR,aBh,←aEy]
theorem aSr:∀(l:List (Int×KAm)) (r:List Bool),qX l++r=psK l r
 |[],r=>rfl
 |p::l,r=>by show(aM (U p.1) 17++(lZ p.2 31++qX l))++r=aM (U p.1) 17++amK p.2 31 (psK l r);rw[←aSr l r,←aCx];simp
theorem aRd:∀(l:List (Int×KHo)) (r:List Bool),sV l++r=hsK l r
 |[],r=>rfl
 |p::l,r=>by show(aM (U p.1) 48++(aM (U p.2.owner) 17++(lZ p.2.a 31++sV l)))++r=aM (U p.1) 48++(aM (U p.2.owner) 17++amK p.2.a 31 (hsK l r));rw[←aRd l r,←aCx];simp
theorem aSi:∀(l:List Int) (r:List Bool),nsL l++r=nsK l r
 |[],r=>rfl
 |n::l,r=>by show(aM (U n) 48++nsL l)++r=aM (U n) 48++nsK l r;rw[←aSi l r,List.append_assoc]
theorem aWy(m:KMem)(r:List Bool):xK m++r=aRv m r:=by
 unfold xK aRv
 rw[←aFt,←aSi];simp
theorem aSf:∀(l:List (Int×KMem)) (r:List Bool),tF l++r=uB l r
 |[],r=>rfl
 |p::l,r=>by show(xK p.2++tF l)++r=aRv p.2 (uB l r);rw[←aSf l r,←aWy,List.append_assoc]
theorem bCs(su:KAm)(last:Int)(ps:List (Int×KAm))(hs:List (Int×KHo))(ms:List (Int×KMem)):gR su last ps hs ms=stK su last ps hs ms:=by
 unfold gR stK
 rw[←aSf,←aRd,←aSr,←aCx,List.append_nil]
theorem aSs{l:List (Int×KAm)}{k:Nat}{p:Int×KAm}{r:List Bool}(h:l[k]? =some p):psK (l.drop k) r=aM (U p.1) 17++amK p.2 31 (psK (l.drop (k+1)) r):=by
 obtain⟨hk,rfl⟩:=List.getElem?_eq_some_iff.1 h;rw[List.drop_eq_getElem_cons hk];rfl
theorem aRe{l:List (Int×KHo)}{k:Nat}{p:Int×KHo}{r:List Bool}(h:l[k]? =some p):hsK (l.drop k) r=aM (U p.1) 48++(aM (U p.2.owner) 17++amK p.2.a 31 (hsK (l.drop (k+1)) r)):=by
 obtain⟨hk,rfl⟩:=List.getElem?_eq_some_iff.1 h;rw[List.drop_eq_getElem_cons hk];rfl
theorem aSj{l:List Int}{k:Nat}{n:Int}{r:List Bool}(h:l[k]? =some n):nsK (l.drop k) r=aM (U n) 48++nsK (l.drop (k+1)) r:=by
 obtain⟨hk,rfl⟩:=List.getElem?_eq_some_iff.1 h;rw[List.drop_eq_getElem_cons hk];rfl
theorem aSg{l:List (Int×KMem)}{k:Nat}{p:Int×KMem}{r:List Bool}(h:l[k]? =some p):uB (l.drop k) r=aRv p.2 (uB (l.drop (k+1)) r):=by
 obtain⟨hk,rfl⟩:=List.getElem?_eq_some_iff.1 h;rw[List.drop_eq_getElem_cons hk];rfl
theorem aHr{l:List KAct}{k:Nat}{x:KAct}{r:List Bool}(h:l[k]? =some x):kO (l.drop k) r=aM (U ((x.kind.toNat:Nat):Int)) 3++(aM (U x.owner) 17++(aM (U x.other) 17++(aM (U x.hold) 64++amK x.a 31 (kO (l.drop (k+1)) r)))):=by
 obtain⟨hk,rfl⟩:=List.getElem?_eq_some_iff.1 h;rw[List.drop_eq_getElem_cons hk];rfl
abbrev rdL(rb:Nat)(p:Option Addr)(c:Nat)(xs:List UInt8)(n:Nat):List bU:=[pt rb (.cells #[.bool true,.slice p xs.length c,Nx n,Ix 0] 198),aK hG 5 p c xs]
def fW(rb:Nat)(l:List Bool):bU:=fun h=>∃p c xs n,Rd xs n l∧xs.length≤65536∧jE (rdL rb p c xs n) h
theorem St.openRd{β:Base}{rb:Nat}{l:List Bool}{M:List bU}{w:World}(h:St β (fW rb l::M) w):∃p c xs n,Rd xs n l∧xs.length≤65536∧St β (rdL rb p c xs n++M) w:=by
 obtain⟨ho,ht,hp,a,hd,hs,hs',q,r,h1,h2,h3,⟨p,c,xs,n,hk,hl,hx⟩,h5⟩:=h
 exact⟨p,c,xs,n,hk,hl,St.unbun ⟨ho,ht,hp,a,hd,hs,hs',q,r,h1,h2,h3,hx,h5⟩⟩
theorem St.closeRd{β:Base}{rb:Nat}{p:Option Addr}{c:Nat}{xs:List UInt8}{n:Nat}{l:List Bool}{M:List bU}{w:World}(hr:Rd xs n l)(hl:xs.length≤65536)(h:St β (rdL rb p c xs n++M) w):St β (fW rb l::M) w:=
 h.merge fun _ h=>⟨p,c,xs,n,hr,hl,h⟩
theorem aXx(p:Option Addr)(c:Nat)(xs:List UInt8):row (.slice p xs.length c) 5 1 xs.length (BX xs)=aK hG 5 p c xs:=by
 have:BX xs=xs.flatMap hG.enc:=by
  induction xs with
  |nil=>rfl
  |cons x xs ih=>show Bx x::BX xs=Bx x::_;rw[ih];rfl
 rw[this]
end Go.Td
namespace Go.Proofs
open Go.Shelf
open Go.RowKit in
open Go.RowKit in
def Tryz.lays189_ren:Go.Shelf.Ren:=⟨fun|189=>78|125=>113|257=>112|128=>135|129=>136|294=>126|295=>127|296=>128|297=>129|298=>130|299=>131|216=>132|300=>133|301=>134|328=>143|329=>144|330=>145|331=>146|332=>147|215=>148|343=>152|n=>n,fun|28=>35|3=>3|46=>194|0=>0|51=>217|53=>172|4=>4|183=>209|182=>208|131=>214|5=>5|9=>9|218=>228|222=>232|228=>236|229=>237|n=>n,fun|n=>n⟩
theorem Tryz.lays189:Go.Proofs.Lays.n189 Tryz.prog Tryz.lays189_ren:={
 mixed:=by kernel_rfl
 f125:=Tryz.func113.trans (congrArg some (by kernel_rfl))
 f128:=Tryz.func135.trans (congrArg some (by kernel_rfl))
 f129:=Tryz.func136.trans (congrArg some (by kernel_rfl))
 f189:=Tryz.func78.trans (congrArg some (by kernel_rfl))
 f215:=Tryz.func148.trans (congrArg some (by kernel_rfl))
 f216:=Tryz.func132.trans (congrArg some (by kernel_rfl))
 f257:=Tryz.func112.trans (congrArg some (by kernel_rfl))
 f294:=Tryz.func126.trans (congrArg some (by kernel_rfl))
 f295:=Tryz.func127.trans (congrArg some (by kernel_rfl))
 f296:=Tryz.func128.trans (congrArg some (by kernel_rfl))
 f297:=Tryz.func129.trans (congrArg some (by kernel_rfl))
 f298:=Tryz.func130.trans (congrArg some (by kernel_rfl))
 f299:=Tryz.func131.trans (congrArg some (by kernel_rfl))
 f300:=Tryz.func133.trans (congrArg some (by kernel_rfl))
 f301:=Tryz.func134.trans (congrArg some (by kernel_rfl))
 f328:=Tryz.func143.trans (congrArg some (by kernel_rfl))
 f329:=Tryz.func144.trans (congrArg some (by kernel_rfl))
 f330:=Tryz.func145.trans (congrArg some (by kernel_rfl))
 f331:=Tryz.func146.trans (congrArg some (by kernel_rfl))
 f332:=Tryz.func147.trans (congrArg some (by kernel_rfl))
 f343:=Tryz.func152.trans (congrArg some (by kernel_rfl))
 t0:=Tryz.underlying0
 a0:=Tryz.isAgg0
 z0:=Tryz.sizeOf0
 v0:=Tryz.zeroValue0
 t3:=Tryz.underlying3
 a3:=Tryz.isAgg3
 z3:=Tryz.sizeOf3
 v3:=Tryz.zeroValue3
 t4:=Tryz.underlying4
 a4:=Tryz.isAgg4
 z4:=Tryz.sizeOf4
 v4:=Tryz.zeroValue4
 t5:=Tryz.underlying5
 a5:=Tryz.isAgg5
 z5:=Tryz.sizeOf5
 v5:=Tryz.zeroValue5
 t9:=Tryz.underlying9
 a9:=Tryz.isAgg9
 z9:=Tryz.sizeOf9
 v9:=Tryz.zeroValue9
 t28:=Tryz.underlying35
 a28:=Tryz.isAgg35
 z28:=Tryz.sizeOf35
 v28:=Tryz.zeroValue35
 t46:=Tryz.underlying194
 a46:=Tryz.isAgg194
 z46:=Tryz.sizeOf194
 v46:=Tryz.zeroValue194
 t51:=Tryz.underlying217
 a51:=Tryz.isAgg217
 z51:=Tryz.sizeOf217
 v51:=Tryz.zeroValue217
 t53:=Tryz.underlying172
 a53:=Tryz.isAgg172
 z53:=Tryz.sizeOf172
 v53:=Tryz.zeroValue172
 t131:=Tryz.underlying214
 a131:=Tryz.isAgg214
 z131:=Tryz.sizeOf214
 v131:=Tryz.zeroValue214
 t182:=Tryz.underlying208
 a182:=Tryz.isAgg208
 z182:=Tryz.sizeOf208
 v182:=Tryz.zeroValue208
 t183:=Tryz.underlying209
 a183:=Tryz.isAgg209
 z183:=Tryz.sizeOf209
 v183:=Tryz.zeroValue209
 t218:=Tryz.underlying228
 a218:=Tryz.isAgg228
 z218:=Tryz.sizeOf228
 v218:=Tryz.zeroValue228
 t222:=Tryz.underlying232
 a222:=Tryz.isAgg232
 z222:=Tryz.sizeOf232
 v222:=Tryz.zeroValue232
 t228:=Tryz.underlying236
 a228:=Tryz.isAgg236
 z228:=Tryz.sizeOf236
 v228:=Tryz.zeroValue236
 t229:=Tryz.underlying237
 a229:=Tryz.isAgg237
 z229:=Tryz.sizeOf237
 v229:=Tryz.zeroValue237}
open Go.Sort Go.RowKit in
theorem Tryz.slices_Sort_int(bY off cap:Nat)(zs:List Int)(w:World)(hH:Holds (Value.int .i64) w bY off zs.toArray)(hblk:bY<w.heap.size)(hsz:zs.length<4611686018427387904):
  Calls Tryz.prog 78 #[.slice (some ⟨bY,off,none⟩) zs.length cap] w fun e w'=>
   e= .returned (.tuple #[])∧∃n os,w'=grow (putRow (Value.int .i64) (Sort.ahead w n) bY off (zs.mergeSort fun x y=>decide (x≤y)).toArray) os:=Any.slices_Sort_int Tryz.lays189 bY off cap zs w hH hblk hsz
open Go.RowKit Go.Lib in
open Go.RowKit Go.Lib in
open Go.RowKit Go.Sort in
theorem Tryz.slices_Sort_int_none(p:Option Addr)(cap:Nat)(w:World):
 Calls Tryz.prog 78 #[.slice p 0 cap] w fun e w'=>e= .returned (.tuple #[])∧w'=w:=Any.slices_Sort_int_none Tryz.lays189 p cap w
end Go.Proofs
namespace Go.Sl
open Go.Sort
section
variable {α:Type}[Inhabited α]{β:Base}{L:List bU}{w:World}
theorem aCb{enc:α→Value}{T g m cap:Nat}{xs:List α}(h:St β (row (.slice (some ⟨g,0,none⟩) m cap) T 1 m (xs.map enc)::L) w):Holds enc w g 0 xs.toArray∧g<w.heap.size∧xs.length=m∧m≤cap∧cap≤maxLen:=by
 obtain⟨_,_,_,a,_,_,hs',hL⟩:=h
 obtain⟨a1,hs1,hl,hr⟩:=hL.each _ (List.mem_cons_self)
 rcases hr with⟨hr,_⟩|⟨g',cap',cur,e,hg,h1,h2,h3,h4⟩
 ·cases hr
 ·injection e with e1 e2 e3
  injection e1 with e1
  injection e1 with e1
  subst e1;subst e3
  have hb:w.heap[g]? =some (.cells cur T (0,0)):=hs' _ _ (hs1 _ _ hg)
  have hlen:xs.length=m:=by simpa using hl
  refine⟨fun j hj=> ?_,(Array.getElem?_eq_some_iff.1 hb).1,hlen,h1,h2⟩
  have hj':j<xs.length:=by simpa using hj
  have hc:cur[j]? =some (enc xs[j]):=by
   have h5:(cur.toList.take (m*1))[j]? =(xs.map enc)[j]? :=by rw[h4]
   rw[List.getElem?_take_of_lt (by omega)]at h5
   simpa[hj']using h5
  constructor
  ·show(match w.heap[g]? with|some (.cells c _ _)=>if(none:Option _).isSome then none else c[0+j]? |_=>none)=_
   rw[hb]
   simp[hc,hj']
  ·show(match w.heap[g]? with|some (.cells _ _ (lo,hi))=>decide (lo≤0+j)&&decide (0+j<hi)|_=>false)=_
   rw[hb]
   simp
theorem St.putRow{enc:α→Value}{T g m cap k:Nat}{xs ys:List α}{os:Array Obj}{q:Nat}(h:St β (row (.slice (some ⟨g,0,none⟩) m cap) T 1 m (xs.map enc)::L) w)(hys:ys.length=m)(hk:k≤m):
  St β (row (.slice (some ⟨g,0,none⟩) k cap) T 1 k ((ys.take k).map enc)::L) (Go.Sort.grow (Go.Sort.putRow enc (Go.Sort.ahead w q) g 0 ys.toArray) os):=by
 have hh:=aCb h
 refine h.turn rfl rfl rfl fun a ha hr=> ?_
 obtain⟨hl,hr⟩:=hr
 rcases hr with⟨hr,_⟩|⟨g',cap',cur,e,hg,h1,h2,h3,h4⟩
 ·cases hr
 ·injection e with e1 e2 e3
  injection e1 with e1
  injection e1 with e1
  subst e1;subst e3
  have hb:w.heap[g]? =some (.cells cur T (0,0)):=ha _ _ hg
  have hgs:=(Array.getElem?_eq_some_iff.1 hb).1
  have hw':∀k',k'<w.heap.size→(Go.Sort.grow (Go.Sort.putRow enc (Go.Sort.ahead w q) g 0 ys.toArray) os).heap[k']? =if k'=g then some (.cells (putCells enc 0 ys.toArray cur) T (0,0))else w.heap[k']? :=by
   intro k' hk'
   unfold Go.Sort.grow Go.Sort.putRow mapBlock Go.Sort.ahead
   simp only
   rw[Array.getElem?_append_left (by simpa using hk'),Array.getElem?_modify]
   by_cases e:g=k'
   ·subst e;simp[hb,onCells]
   ·simp[e,Ne.symm e]
  refine⟨fun k'=>if k'=g then some (.cells (putCells enc 0 ys.toArray cur) T (0,0))else none,?_,?_,?_⟩
  ·refine⟨by simp;omega,.inr ⟨g,cap,putCells enc 0 ys.toArray cur,rfl,by simp,by omega,h2,by simp[putCells,h3],?_⟩⟩
   apply List.ext_getElem?
   intro j
   by_cases hj:j<k
   ·rw[List.getElem?_take_of_lt (by omega)]
    have hjy:j<ys.length:=by omega
    have hjc:j<cur.size:=by omega
    simp[putCells,hjc,hjy,hj]
   ·rw[List.getElem?_eq_none (by simp;omega),List.getElem?_eq_none (by simp;omega)]
  ·intro k' x hx
   by_cases e:k'=g
   ·subst e;simp at hx;subst hx
    show(Go.Sort.grow _ os).heap[k']? =_
    rw[hw' k' hgs];simp
   ·simp[e]at hx
  ·intro k' hlt hak
   have hne:k'≠g:=by rintro rfl;rw[hg]at hak;cases hak
   exact⟨by simp[hne],by rw[hw' k' hlt];simp[hne]⟩
end
end Go.Sl
namespace Go.Proofs
open Go Go.Sl Go.Sort
theorem aYg(β:Base)(w:World)(v:Value)(zs:List Int)(hw:St β [row v 3 1 zs.length (zs.map fun z=>Ix z)] w)(hsz:zs.length<4611686018427387904):
  Calls Tryz.prog 78 #[v] w fun e w'=>e= .returned (.tuple #[])∧St β [row v 3 1 zs.length ((zs.mergeSort fun x y=>decide (x≤y)).map fun z=>Ix z)] w':=by
 obtain⟨hl,hr⟩:∃a,row v 3 1 zs.length (zs.map fun z=>Ix z) a:=by
  obtain⟨_,_,_,a,_,_,_,hL⟩:=hw
  obtain⟨a1,_,h⟩:=hL.each _ (List.mem_cons_self)
  exact⟨a1,h⟩
 rcases hr.2 with⟨rfl,h0⟩|⟨g,cap,cur,rfl,_⟩
 ·have hz:zs=[]:=List.eq_nil_of_length_eq_zero h0
  subst hz
  exact(Tryz.slices_Sort_int_none none 0 w).mono fun e w' ⟨h1,h2⟩=>⟨h1,by subst h2;rw[List.mergeSort_nil];exact hw⟩
 ·have hh:=aCb (enc:=fun z=>Ix z) hw
  refine(Tryz.slices_Sort_int g 0 cap zs w hh.1 hh.2.1 hsz).mono fun e w' ⟨h1,n,os,h2⟩=>⟨h1,?_⟩
  subst h2
  have h:=hw.putRow (enc:=fun z=>Ix z) (q:=n) (os:=os) (ys:=zs.mergeSort fun x y=>decide (x≤y)) (k:=zs.length) (by simp) (Nat.le_refl _)
  rw[List.take_of_length_le (by simp)]at h
  exact h
end Go.Proofs
namespace Go.Td
def sortI(l:List Int):List Int:=l.mergeSort fun x y=>decide (x≤y)
theorem sortI_perm(l:List Int):(sortI l).Perm l:=List.mergeSort_perm l _
theorem vN(l:List Int):(sortI l).Pairwise fun x y=>x≤y:=by
 have:=List.pairwise_mergeSort (le:=fun x y:Int=>decide (x≤y)) (fun a b c h1 h2=>by simp at*;omega) (fun a b=>by simp;omega) l
 exact this.imp fun h=>by simpa using h
theorem aOi{l m:List Int}(h:l.Perm m)(hl:l.Pairwise fun x y=>x≤y)(hm:m.Pairwise fun x y=>x≤y):l=m:=
 h.eq_of_pairwise (le:=(· ≤ ·)) (fun _ _ _ _ h1 h2=>Int.le_antisymm h1 h2) hl hm
theorem vM{l m:List Int}(h:l.Perm m)(hm:m.Pairwise fun x y=>x≤y):sortI l=m:=aOi ((sortI_perm l).trans h) (vN _) hm
end Go.Td
namespace Go.Proofs
open Go Go.Sl Go.Sort Go.Td
theorem aKh(xs:List Int):xs.flatMap aZ.enc=xs.map fun z=>Ix z:=by
 induction xs with
 |nil=>rfl
 |cons x xs ih=>show Ix x::_=Ix x::_;rw[←ih];rfl
theorem aTy(β:Base)(w:World)(p:Option Addr)(c:Nat)(xs:List Int)(hw:St β [aK aZ 3 p c xs] w)(hn:xs.length≤1048576):Calls Tryz.prog 78 #[.slice p xs.length c] w fun r w'=>r= .returned (.tuple #[])∧St β [aK aZ 3 p c (Go.Td.sortI xs)] w':=by
 have hw1:St β [row (.slice p xs.length c) 3 1 xs.length (xs.map fun z=>Ix z)] w:=by rw[←aKh];exact hw
 refine(aYg β w _ xs hw1 (by omega)).mono ?_
 rintro r w' ⟨rfl,hw'⟩
 refine⟨rfl,?_⟩
 have hl:(Go.Td.sortI xs).length=xs.length:=(Go.Td.sortI_perm xs).length_eq
 show St β [row (.slice p (Go.Td.sortI xs).length c) 3 1 (Go.Td.sortI xs).length ((Go.Td.sortI xs).flatMap aZ.enc)] w'
 rw[aKh,hl]
 exact hw'
end Go.Proofs
namespace Go.Td
open Go Go.Sl Go.Proofs Go.Jn
theorem tV{l m:List Int}(h:l.Perm m):sortI l=sortI m:=vM (h.trans (sortI_perm m).symm) (vN m)
noncomputable def sJ (X:KHs):List Int:=sortI (X.s.ps.map (·.1))
noncomputable def gW (X:KHs):List KHo:=(sortI (X.s.hs.map (·.1))).map (mM X.s.hs)
def uS(X:KHs)(au:Int):Int×KRes×Bool:=match X.done au with|none=>(0,dR,false)|some m=>(m.d.number,m.r,true)
structure VOk(X:KHs)(s:KSt)(ms:List (Int×KMh))(zs:List (KMh×KMem)):Prop where
 eq:EqS s X.s
 mm:MmOk X ms zs
 ok:XOk X
theorem HOk.v{X:KHs}{s:KSt}{ms:List (Int×KMh)}{zs:List (KMh×KMem)}{i:KI}{k:KS}{N W:Nat}(h:HOk X s ms zs i k N W):VOk X s ms zs:=⟨h.eq,h.mm,h.so.ok⟩
section
variable {X:KHs}{s:KSt}{ms:List (Int×KMh)}{zs:List (KMh×KMem)}(h:VOk X s ms zs)
include h
theorem VOk.purse(n:Int):iS s.ps n=iS X.s.ps n:=rQ h.eq.p h.eq.np n
theorem VOk.supply:s.su=X.s.su:=h.eq.u
theorem VOk.owners:sortI (s.ps.map (·.1))=sJ X:=tV (h.eq.p.map _)
theorem VOk.holds:(sortI (s.hs.map (·.1))).map (mM s.hs)=gW X:=by
 unfold gW
 rw[tV (h.eq.h.map _)]
 exact List.map_congr_left fun n _=>yX h.eq.h h.eq.nh n
theorem VOk.pfew:(s.ps.map (·.1)).length≤256:=by rw[List.length_map,h.eq.p.length_eq];exact h.ok.g.p.pn
theorem VOk.hfew:(s.hs.map (·.1)).length≤128:=by rw[List.length_map,h.eq.h.length_eq];exact h.ok.g.h.hn
end
abbrev vL(H J mp mh mm:Nat)(s:KSt)(ms:List (Int×KMh))(zs:List (KMh×KMem))(dn:Bool):List bU:=[pt H (.cells (aQy J mp mh mm s dn) 91),bB cC mp s.ps,bB bL mh s.hs,bB dW mm ms,dG zs]
def fY(H J:Nat)(X:KHs)(dn:Bool):bU:=fun h=>∃mp mh mm s ms zs,VOk X s ms zs∧jE (vL H J mp mh mm s ms zs dn) h
theorem St.openView{β:Base}{H J:Nat}{X:KHs}{dn:Bool}{M:List bU}{w:World}(h:St β (fY H J X dn::M) w):∃mp mh mm s ms zs,VOk X s ms zs∧St β (vL H J mp mh mm s ms zs dn++M) w:=by
 obtain⟨ho,ht,hp,a,hd,hs,hs',q,r,h1,h2,h3,⟨mp,mh,mm,s,ms,zs,hk,hx⟩,h5⟩:=h
 exact⟨mp,mh,mm,s,ms,zs,hk,St.unbun ⟨ho,ht,hp,a,hd,hs,hs',q,r,h1,h2,h3,hx,h5⟩⟩
theorem St.closeView{β:Base}{H J mp mh mm:Nat}{X:KHs}{s:KSt}{ms:List (Int×KMh)}{zs:List (KMh×KMem)}{dn:Bool}{M:List bU}{w:World}(hk:VOk X s ms zs)(h:St β (vL H J mp mh mm s ms zs dn++M) w):St β (fY H J X dn::M) w:=
 h.merge fun _ h=>⟨mp,mh,mm,s,ms,zs,hk,h⟩
theorem St.splitHouse{β:Base}{H S N W:Nat}{p:Int}{X:KHs}{M:List bU}{w:World}(h:St β (cV H S X N W p::M) w):∃J i k,SOk X i k N W true∧k.power=p∧St β (fY H J X false::fA J S i false::aQ S k::M) w:=by
 obtain⟨J,mp,mh,mm,s,ms,zs,i,k,h1,h2,h3⟩:=St.openHouse h
 exact⟨J,i,k,h1.so,h2,St.closeView (mp:=mp) (mh:=mh) (mm:=mm) (M:=fA J S i false::aQ S k::M) h1.v (h3.perm (List.Perm.append_right M (aW (L':=vL H J mp mh mm s ms zs false++[fA J S i false,aQ S k]) [0,3,4,5,6,1,2] 7 rfl (by kernel_rfl) (by kernel_rfl))))⟩
theorem St.joinHouse{β:Base}{H S J N W:Nat}{p:Int}{X:KHs}{i:KI}{k:KS}{M:List bU}{w:World}(hs:SOk X i k N W true)(hp:k.power=p)(h:St β (fY H J X false::fA J S i false::aQ S k::M) w):St β (cV H S X N W p::M) w:=by
 obtain⟨mp,mh,mm,s,ms,zs,h1,h2⟩:=St.openView h
 exact St.closeHouse (J:=J) (mp:=mp) (mh:=mh) (mm:=mm) (M:=M) (i:=i) (k:=k) ⟨h1.eq,hs,h1.mm⟩ hp (h2.perm (List.Perm.append_right M (aW (L:=vL H J mp mh mm s ms zs false++[fA J S i false,aQ S k]) (L':=hL H S J mp mh mm s ms zs i k false false) [0,5,6,1,2,3,4] 7 rfl (by kernel_rfl) (by kernel_rfl))))
section
variable {P:Program}{ro:Option Nat}{n:Nat}{ds:List Deferred}{β:Base}{Q:Exit→Act→World→Prop}{f:Fm}{L:List bU}
theorem aDd{c:Code}{H S N W:Nat}{p:Int}{X:KHs}{M:List bU}(hL':L=cV H S X N W p::M)(K:∀J i k,SOk X i k N W true→k.power=p→eE P ro n ds β c Q f (fY H J X false::fA J S i false::aQ S k::M)):eE P ro n ds β c Q f L:=fun a w ha hw=>by
 subst hL'
 obtain⟨J,i,k,h1,h2,h⟩:=St.splitHouse hw
 exact K J i k h1 h2 a w ha h
end
theorem wG{P:Program}{fn:Nat}{args:Array Value}{β:Base}{H S N W:Nat}{p:Int}{X:KHs}{w:World}{Φ:Ending→List bU→Prop}(hw:St β [cV H S X N W p] w)
 (hv:∀β w J,St β [fY H J X false] w→Calls P fn args w fun r w'=>∃L,Φ r L∧St β (L++[fY H J X false]) w'):Calls P fn args w fun r w'=>∃L,Φ r L∧St β (L++[cV H S X N W p]) w':=by
 obtain⟨J,i,k,h1,h2,h3⟩:=St.splitHouse hw
 obtain⟨β1,sb,kn,hw1,back⟩:=St.frame (L:=[fY H J X false]) (M:=[fA J S i false,aQ S k]) h3
 refine(hv β1 w J hw1).mono ?_
 rintro r w' ⟨L,hΦ,hw'⟩
 refine⟨L,hΦ,?_⟩
 have h4:=back _ _ hw'
 have h5:St β (fY H J X false::fA J S i false::aQ S k::L) w':=h4.perm (by
  rw[List.append_assoc]
  exact List.perm_append_comm)
 exact(St.joinHouse h1 h2 h5).perm (List.perm_append_comm (l₁:=[cV H S X N W p]) (l₂:=L))
theorem LkOk.last{X:KHs}{ms:List (Int×KMh)}{zs:List (KMh×KMem)}{au:Int}{hd:KMh}{mal:List KAct}{mhl:List Int}(h:LkOk X ms zs au hd mal mhl):uS X au=(hd.number,⟨hd.done,hd.at_,hd.e,mhl⟩,(dW.look ms au).isSome):=by
 unfold uS
 cases e:(dW.look ms au).isSome with
 |true=>
  obtain⟨m,h2,_,h4,h5,h6⟩:=h.yes e
  rw[h2]
  show(m.d.number,m.r,true)=_
  have a:=h4.dn;have b:=h4.at_;have c:=h4.e
  have d:hd.number=m.d.number:=h4.nu
  cases hr:m.r
  rw[hr]at a b c h6
  simp only at a b c h6
  rw[a,b,c,d,←h6]
 |false=>
  obtain⟨h1,rfl,_,rfl⟩:=h.no e
  rw[h1];rfl
open Go Go.Sl Go.Proofs Go.Jn
section
variable {P:Program}{ro:Option Nat}{n:Nat}{ds:List Deferred}{β:Base}{Q:Exit→Act→World→Prop}{f:Fm}
theorem aKf{e:Exit}{L M:List bU}{r:bU}(hr:∀a,jE L a→r a)(k:iZ n ds β Q e f (r::M)):iZ n ds β Q e f (L++M):=fun a w ha hw=>k a w ha (St.merge hw hr)
theorem mH{c:Code}{L M:List bU}{r:bU}(hr:∀a,jE L a→r a)(k:eE P ro n ds β c Q f (r::M)):eE P ro n ds β c Q f (L++M):=fun a w ha hw=>k a w ha (St.merge hw hr)
end
theorem jR{α:Type}{l:List α}{k:Nat}{x:α}(h:l[k]? =some x):l.take k++[x]=l.take (k+1):=(iY h).symm
section
variable {P:Program}{ν:Type}{K:MapK P Int ν}
theorem aGr{ks:List (Int×ν)}(hn:(ks.map (·.1)).Nodup){k:Nat}{p:Int×ν}{v:ν}(h:ks[k]? =some p)(hv:v=p.2):K.put (ks.take k) p.1 v=ks.take (k+1):=by
 subst hv
 have hnone:K.look (ks.take k) p.1=none:=by
  rw[iM]
  intro hm
  have h1:(ks.take k++[p]).map (·.1)=(ks.map (·.1)).take (k+1):=by rw[jR h,List.map_take]
  have h2:((ks.take k++[p]).map (·.1)).Nodup:=by rw[h1];exact hn.sublist (List.take_sublist _ _)
  rw[List.map_append,List.nodup_append]at h2
  exact h2.2.2 _ hm _ (by simp) rfl
 rw[oC hnone,←jR h]
end
theorem wJ:∀(n:Nat) (l:List Int),l.Nodup→(∀x∈l,1≤x∧x≤(n:Int))→l.length≤n
 |0,l,_,h=>by
  cases l with
  |nil=>exact Nat.le_refl _
  |cons x l=>have:=h x (by simp);omega
 |n+1,l,hd,h=>by
  by_cases hm:((n+1:Nat):Int)∈l
  ·have hp:=List.perm_cons_erase hm
   have hd2:=hp.nodup_iff.1 hd
   rw[List.nodup_cons]at hd2
   have:=wJ n (l.erase ((n+1:Nat):Int)) hd2.2 fun x hx=>by
    have h1:=h x (List.mem_of_mem_erase hx)
    have h2:x≠((n+1:Nat):Int):=fun e=>hd2.1 (e▸hx)
    omega
   rw[hp.length_eq,List.length_cons];omega
  ·have:=wJ n l hd fun x hx=>by
    have h1:=h x hx
    have h2:x≠((n+1:Nat):Int):=fun e=>hm (e▸hx)
    omega
   omega
theorem aAj{a:KAm}(h:a.within=true):Fits a.a0 31∧Fits a.a1 31∧Fits a.a2 31∧Fits a.a3 31:=by
 have:=oE.1 h
 exact⟨fO (by decide) (by omega) (by omega),fO (by decide) (by omega) (by omega),fO (by decide) (by omega) (by omega),fO (by decide) (by omega) (by omega)⟩
theorem aLb{n:Int}:fE n=true↔1≤n∧n≤65536:=by unfold fE;simp
structure ActFit(x:KAct):Prop where
 k:Fits ((x.kind.toNat:Nat):Int) 3
 o:Fits x.owner 17
 p:Fits x.other 17
 h:Fits x.hold 64
 a:Fits x.a.a0 31∧Fits x.a.a1 31∧Fits x.a.a2 31∧Fits x.a.a3 31
theorem aGc{x:KAct}(h:x.formed=true):0≤x.hold:=by
 unfold KAct.formed at h
 split at h
 ·simp only[Bool.and_eq_true,decide_eq_true_eq]at h;omega
 ·split at h
  ·simp only[Bool.and_eq_true,decide_eq_true_eq]at h;omega
  ·split at h
   ·simp only[Bool.and_eq_true,decide_eq_true_eq]at h;omega
   ·split at h
    ·simp only[Bool.and_eq_true,decide_eq_true_eq]at h;omega
    ·cases h
theorem aIe{x:KAct}(h:x.formed=true)(hh:x.hold≤9223372036854775807):ActFit x:=by
 obtain⟨h1,h2,h3,_⟩:=wY h
 have h4:=aGc h
 have f:∀{v:Int} {k:Nat},k<64→(k=64∨(0≤v∧v<2^k∧k<64))→Fits v k:=fun hk h=>by
  rcases h with h|h
  ·omega
  ·exact fO h.2.2 h.1 h.2.1
 exact⟨f (by decide) h1,f (by decide) h2,f (by decide) h3,⟨.inl rfl,h4,hh⟩,aAj (cX h)⟩
structure DealFit(au nu:Int)(al:List KAct):Prop where
 a:Fits au 7
 n:Fits nu 41
 l:Fits ((al.length:Nat):Int) 9
 x:∀x∈al,ActFit x
 few:al.length≤16
theorem aFu{au nu:Int}{al:List KAct}(hf:cO au nu al=true)(hh:wF al):DealFit au nu al:=by
 obtain⟨h1,h2,h3,h4⟩:=fJ.1 hf
 exact⟨fO (by decide) (by omega) (by omega),fO (by decide) (by omega) (by omega),fO (by decide) (by omega) (by omega),fun x hx=>aIe (h4 x hx) (hh x hx),h3.2⟩
def uA(L:List (KMh×KMem)):List (Int×KMh):=L.map fun z=>(z.2.d.author,z.1)
def mml(L:List (KMh×KMem)):List (Int×KMem):=L.map fun z=>(z.2.d.author,z.2)
theorem aGe(L:List (KMh×KMem)):(uA L).map (·.1)=(mml L).map (·.1):=by simp[uA,mml]
theorem aRa{L:List (KMh×KMem)}{z:KMh×KMem}(h:¬z.2.d.author∈(mml L).map (·.1)):dW.put (uA L) z.2.d.author z.1=uA (L++[z]):=by
 rw[oC (iM.2 (by rw[aGe];exact h))]
 unfold uA;rw[List.map_append];rfl
theorem aSe(L:List (KMh×KMem))(z:KMh×KMem):mml (L++[z])=mml L++[(z.2.d.author,z.2)]:=by unfold mml;rw[List.map_append];rfl
theorem bEy{X:KHs}{ms:List (Int×KMem)}{L:List (KMh×KMem)}(h:MsOf X ms)(he:mml L=ms)(hh:∀z∈L,HdOf z):MmOk X (uA L) L where
 none_:=fun a ha=>by
  cases e:X.done a with
  |none=>rfl
  |some m=>
   exfalso
   have:=(h.mem a m).1 e
   rw[iM,aGe,he]at ha
   exact ha (List.mem_map.2 ⟨_,this,rfl⟩)
 some_:=fun a hd ha=>by
  have hm:=kS ha
  unfold uA at hm
  obtain⟨z,hz,e⟩:=List.mem_map.1 hm
  injection e with e1 e2
  subst e2
  refine⟨z.2,hz,(h.mem a z.2).2 ?_⟩
  rw[←he]
  exact List.mem_map.2 ⟨z,hz,by rw[e1]⟩
 hdr:=hh
structure StFit(X:KHs)(ps:List (Int×KAm))(hs:List (Int×KHo))(ms:List (Int×KMem)):Prop where
 su:Fits X.s.su.a0 63∧Fits X.s.su.a1 63∧Fits X.s.su.a2 63∧Fits X.s.su.a3 63
 la:Fits X.s.last 48
 pl:Fits ((ps.length:Nat):Int) 9
 pp:∀p∈ps,Fits p.1 17∧Fits p.2.a0 31∧Fits p.2.a1 31∧Fits p.2.a2 31∧Fits p.2.a3 31
 pd:(ps.map (·.1)).Nodup
 pn:ps.length≤256
 hl:Fits ((hs.length:Nat):Int) 9
 hh:∀p∈hs,Fits p.1 48∧Fits p.2.owner 17∧(Fits p.2.a.a0 31∧Fits p.2.a.a1 31∧Fits p.2.a.a2 31∧Fits p.2.a.a3 31)∧p.2.number=p.1
 hd:(hs.map (·.1)).Nodup
 hn:hs.length≤128
 ml:Fits ((ms.length:Nat):Int) 9
 mn:ms.length≤64
 mm:∀p∈ms,MemOk p.1 p.2 X.s.last
 md:(ms.map (·.1)).Nodup
theorem aJc{X:KHs}{ps:List (Int×KAm)}{hs:List (Int×KHo)}{ms:List (Int×KMem)}(hx:XOk X)(hl:X.s.last≤16000000)(hp:X.s.ps.Perm ps)(hh:X.s.hs.Perm hs)(hm:MsOf X ms):StFit X ps hs ms:=by
 have hg:=hx.g
 have hsu:=hg.sup
 have pn:ps.length≤256:=by rw[←hp.length_eq];exact hg.p.pn
 have hn:hs.length≤128:=by rw[←hh.length_eq];exact hg.h.hn
 have hmm:∀p∈ms,MemOk p.1 p.2 X.s.last:=fun p hp=>hx.m _ _ ((hm.mem p.1 p.2).2 hp)
 have mn:ms.length≤64:=by
  have:=wJ 64 (ms.map (·.1)) hm.nd fun a ha=>by
   obtain⟨p,hp,rfl⟩:=List.mem_map.1 ha
   exact(fJ.1 (hmm p hp).fm).1
  rwa [List.length_map]at this
 have l0:=hg.l0
 refine⟨⟨fO (by decide) (by omega) (by omega),fO (by decide) (by omega) (by omega),fO (by decide) (by omega) (by omega),fO (by decide) (by omega) (by omega)⟩,fO (by decide) (by omega) (by omega),fO (by decide) (by omega) (by omega),fun p h=> ?_,nD hp hg.p.np,pn,fO (by decide) (by omega) (by omega),fun p h=> ?_,nD hh hg.h.nh,hn,fO (by decide) (by omega) (by omega),mn,hmm,hm.nd⟩
 ·obtain⟨h1,h2,_⟩:=hg.p.pk p (hp.mem_iff.2 h)
  have:=aLb.1 h1
  exact⟨fO (by decide) (by omega) (by omega),aAj h2⟩
 ·obtain⟨h0,h1,h2,h3,h4⟩:=hg.h.hk p (hh.mem_iff.2 h)
  have:=aLb.1 h3
  exact⟨fO (by decide) (by omega) (by omega),fO (by decide) (by omega) (by omega),aAj h4,h0⟩
structure MemFit(m:KMem):Prop where
 d:DealFit m.d.author m.d.number m.d.acts
 l:Fits ((m.r.holds.length:Nat):Int) 9
 h:∀n∈m.r.holds,Fits n 48
 at_:Fits m.r.at_ 9
 e:Fits m.r.e 16
 fm:cO m.d.author m.d.number m.d.acts=true
 dn:m.r.done=decide (m.r.e=0)
 few:m.r.holds.length≤16
theorem xZ{a:Int}{m:KMem}{last:Int}(h:MemOk a m last)(hl:last≤16000000):MemFit m:=by
 have hf:cO m.d.author m.d.number m.d.acts=true:=by rw[h.au];exact h.fm
 have h1:=h.r.hn;have h2:=h.r.at0;have h3:=h.r.e
 exact⟨aFu hf h.hb,fO (by decide) (by omega) (by omega),fun n hn=>by have:=h.r.hk n hn;exact fO (by decide) (by omega) (by omega),fO (by decide) (by omega) (by omega),fO (by decide) (by omega) (by omega),hf,h.r.dn,h1⟩
theorem xB{X:KHs}{ds:List KDeal}{k:Nat}{d:KDeal}(h:ds[k]? =some d):iH X (ds.take (k+1))=eJ (iH X (ds.take k)) d.author d.number d.acts:=by rw[←jR h,xA]
theorem pM{X:KHs}(h:XOk X):∀{ds:List KDeal},okD ds→XOk (iH X ds)∧X.s.last≤(iH X ds).s.last
 |[],_=>⟨h,Int.le_refl _⟩
 |d::ds,hd=>by
  obtain⟨h1,_,h3,_⟩:=wA h (hd d (by simp)).1 (hd d (by simp)).2
  obtain⟨g1,g2⟩:=pM h1 (ds:=ds) fun e he=>hd e (by simp[he])
  exact⟨g1,Int.le_trans h3 g2⟩
theorem aGy{X:KHs}(h:XOk X){ds:List KDeal}(hd:okD ds)(k:Nat):(iH X (ds.take k)).s.last≤(iH X ds).s.last:=by
 have h1:=pM h (ds:=ds.take k) fun e he=>hd e (List.mem_of_mem_take he)
 have h2:=pM h1.1 (ds:=ds.drop k) fun e he=>hd e (List.mem_of_mem_drop he)
 have:iH (iH X (ds.take k)) (ds.drop k)=iH X ds:=by
  unfold iH;rw[←List.foldl_append,List.take_append_drop]
 rw[this]at h2
 exact h2.2
theorem aPt{X:KHs}{s:KSt}{ms:List (Int×KMh)}{zs:List (KMh×KMem)}(he:EqS s X.s)(hm:MmOk X ms zs)(au nu:Int)(al:List KAct){hd:KMh}(hh:HdOf (hd,⟨⟨au,nu,al⟩,(aE s al).2⟩)):
  EqS (aE s al).1 (eJ X au nu al).s∧MmOk (eJ X au nu al) (dW.put ms au hd) (zs++[(hd,⟨⟨au,nu,al⟩,(aE s al).2⟩)]):=by
 obtain⟨h1,h2⟩:=yK he al
 refine⟨h1,?_⟩
 rw[h2]at hh⊢
 exact hm.add hh
open Go Go.Sl Go.Proofs Go.Jn
theorem aXh{α:Type}{ks:List (Int×α)}(hn:(ks.map (·.1)).Nodup){k:Nat}{p:Int×α}(h:ks[k]? =some p):¬p.1∈(ks.take k).map (·.1):=by
 intro hm
 have h1:(ks.take k++[p]).map (·.1)=(ks.map (·.1)).take (k+1):=by rw[jR h,List.map_take]
 have h2:((ks.take k++[p]).map (·.1)).Nodup:=by rw[h1];exact hn.sublist (List.take_sublist _ _)
 rw[List.map_append,List.nodup_append]at h2
 exact h2.2.2 _ hm _ (by simp) rfl
theorem bBy{x:Int×KHo}(h:x.2.number=x.1):(⟨x.1,x.2.owner,x.2.a⟩:KHo)=x.2:=by rw[←h]
theorem aWz{m:KMem}{hl:List Int}(hd:m.r.done=decide (m.r.e=0))(hh:hl=m.r.holds):(⟨⟨m.d.author,m.d.number,m.d.acts⟩,⟨decide (m.r.e=(0:Int)),m.r.at_,m.r.e,hl⟩⟩:KMem)=m:=by
 subst hh;rw[←hd]
theorem aSd{ms:List (Int×KMem)}{k:Nat}{x:Int×KMem}{L:List (KMh×KMem)}{H:KMh}{last:Int}(hx:ms[k]? =some x)(h:mml L=ms.take k)(hm:MemOk x.1 x.2 last):mml (L++[(H,x.2)])=ms.take (k+1):=by
 rw[aSe,h,←jR hx]
 show ms.take k++[(x.2.d.author,x.2)]=_
 rw[hm.au]
theorem aQz{ms:List (Int×KMem)}{k:Nat}{x:Int×KMem}{L:List (KMh×KMem)}{H:KMh}{last:Int}(hd:(ms.map (·.1)).Nodup)(hx:ms[k]? =some x)(h:mml L=ms.take k)(hm:MemOk x.1 x.2 last):dW.put (uA L) x.2.d.author H=uA (L++[(H,x.2)]):=by
 have:=aRa (L:=L) (z:=(H,x.2)) (by show ¬x.2.d.author∈_;rw[h,hm.au];exact aXh hd hx)
 exact this
theorem bBw{L:List (KMh×KMem)}{z:KMh×KMem}(h:∀z∈L,HdOf z)(hz:HdOf z):∀y∈L++[z],HdOf y:=fun y hy=>by
 rcases List.mem_append.1 hy with hy|hy
 ·exact h y hy
 ·rw[List.mem_singleton.1 hy];exact hz
open Go Go.Sl Go.Proofs Go.Jn
def aQu:KSt:=⟨[],[],0,zeroA⟩
theorem aQw:MmOk gV [] []:=⟨fun _ _=>rfl,fun a h q=>(by simp[MapK.look]at q),fun z hz=>by cases hz⟩
theorem aQv:EqS aQu gV.s:=pC.g.refl
theorem aXs{recs:List Bs}{ds:List KDeal}(h:recs=ds.map aNu){k:Nat}{x:Bs}(hx:recs[k]? =some x):∃d,ds[k]? =some d∧x=aNu d:=by
 rw[h,List.getElem?_map]at hx
 cases e:ds[k]? with
 |none=>rw[e]at hx;cases hx
 |some d=>rw[e]at hx;injection hx with hx;exact⟨d,rfl,hx.symm⟩
theorem bCo(d:KDeal):Wr (aNu d) (0+(57+225*d.acts.length)) (aBh d.author d.number d.acts []):=by
 have:=aFs (au:=d.author) (nu:=d.number) (al:=d.acts) aJn
 rwa [List.nil_append,←List.append_nil (kR _ _ _),aFt]at this
theorem aXr{d:KDeal}(h:cO d.author d.number d.acts=true):(aNu d).length≤65536:=Nat.le_trans (rS h) (by decide)
theorem MmOk.eqX{X Y:KHs}{ms:List (Int×KMh)}{zs:List (KMh×KMem)}(h:MmOk Y ms zs)(e:X.done=Y.done):MmOk X ms zs:=⟨fun a ha=>by rw[e];exact h.none_ a ha,fun a g ha=>by rw[e];exact h.some_ a g ha,h.hdr⟩
structure RsOk(X0:KHs)(ds:List KDeal)(k:Nat)(s:KSt)(ms:List (Int×KMh))(zs:List (KMh×KMem)):Prop where
 e:EqS s (iH X0 (ds.take k)).s
 m:MmOk (iH X0 (ds.take k)) ms zs
theorem RsOk.zero{X0:KHs}{ds:List KDeal}{s:KSt}{ms:List (Int×KMh)}{zs:List (KMh×KMem)}(h:EqS s X0.s)(g:MmOk X0 ms zs):RsOk X0 ds 0 s ms zs:=⟨h,g⟩
theorem RsOk.good{X0:KHs}{ds:List KDeal}{k:Nat}{s:KSt}{ms:List (Int×KMh)}{zs:List (KMh×KMem)}(h:RsOk X0 ds k s ms zs)(hx:XOk X0)(hd:okD ds)(hl:(iH X0 ds).s.last≤16000000):GoodS s 1152921504606846976:=by
 have h1:=pM hx (ds:=ds.take k) fun e he=>hd e (List.mem_of_mem_take he)
 have h2:=aGy hx hd k
 have h3:=h.e.l
 exact(h.e.good2 h1.1.g).good (by omega) (by decide)
theorem RsOk.next{X0:KHs}{ds:List KDeal}{k:Nat}{s:KSt}{ms:List (Int×KMh)}{zs:List (KMh×KMem)}(h:RsOk X0 ds k s ms zs){d:KDeal}(hd:ds[k]? =some d){H:KMh}(hh:HdOf (H,⟨⟨d.author,d.number,d.acts⟩,(aE s d.acts).2⟩)):
  RsOk X0 ds (k+1) (aE s d.acts).1 (dW.put ms d.author H) (zs++[(H,⟨⟨d.author,d.number,d.acts⟩,(aE s d.acts).2⟩)]):=by
 obtain⟨h1,h2⟩:=aPt h.e h.m d.author d.number d.acts hh
 exact⟨by rw[xB hd];exact h1,by rw[xB hd];exact h2⟩
theorem RsOk.all{X0 X:KHs}{ds:List KDeal}{k:Nat}{s:KSt}{ms:List (Int×KMh)}{zs:List (KMh×KMem)}(h:RsOk X0 ds k s ms zs)(hk:ds.length≤k)(hx:EqX X (iH X0 ds)):EqS s X.s∧MmOk X ms zs:=by
 obtain⟨h1,h2⟩:=h
 rw[List.take_of_length_le hk]at h1 h2
 exact⟨h1.trans hx.s.symm,h2.eqX hx.d⟩
open Go Go.Sl Go.Proofs Go.Jn
theorem aQe{k:KS}{e n:Nat}(h:k.power= -1):(jV k e n).power= -1:=by
 show kW _ k.power _= -1
 unfold kW fX
 rw[h];split<;>rfl
theorem SOk.cut{X:KHs}{i:KI}{k:KS}{N W:Nat}{x:Bool}(h:SOk X i k N W x)(hp:k.power= -1):SOk X i (jV k i.epoch i.size) N W true:=⟨h.inv.cut (by rw[hp];decide),h.ep,h.img,h.ok,h.last⟩
theorem SOk.lasts{X X0:KHs}{i:KI}{k:KS}{N W:Nat}{x:Bool}(h:SOk X i k N W x)(hN:N≤1000000){ds:List KDeal}(hi:Img i X X0 ds):X0.s.last≤16000000∧(iH X0 ds).s.last≤16000000:=by
 have h1:=h.last
 have h2:=hi.x.s.l
 have h3:=(pM hi.x0 hi.ok).2
 constructor<;>omega
theorem aOg{p:Int}(h: -1≤p∧p≤1000):SOk gV ⟨0,0,[],[],0⟩ ⟨[],[],[],p⟩ 0 0 false:=
 ⟨(aNh h).any,by decide,⟨gV,[],.inl ⟨rfl,rfl⟩,pC,rfl,fun d hd=>(by cases hd),pC.refl⟩,pC,by decide⟩
section
variable {P:Program}{ro:Option Nat}{n:Nat}{ds:List Deferred}{β:Base}{Q:Exit→Act→World→Prop}{f:Fm}{L:List bU}
theorem aDc{c:Code}{S N W:Nat}{p:Int}{X:KHs}{i:KI}{k:KS}{M:List bU}(hL:L=aQ S k::M)(h1:SOk X i k N W false)(h2:k.power=p)(K:eE P ro n ds β c Q f (mC S X N W p::M)):eE P ro n ds β c Q f L:=fun a w ha hw=>by
 subst hL
 exact K a w ha (St.closeShelf h1 h2 hw)
end
open Go Go.Sl Go.Proofs Go.Jn
theorem uL{X:KHs}{au nu:Int}{al:List KAct}(hf:cO au nu al=true)(hn:∀m,X.done au=some m→m.d.number<nu):sH X au nu al=(eJ X au nu al,(aE X.s al).2,0):=by
 unfold sH
 rw[if_neg (by rw[hf];decide)]
 cases e:X.done au with
 |none=>rfl
 |some m=>
  have:=hn m e
  show(if m.d.number=nu then _ else if nu<m.d.number then _ else _)=_
  rw[if_neg (by omega),if_neg (by omega)];rfl
theorem aMu{X:KHs}{au nu:Int}{al:List KAct}{r:KRes}(hf:cO au nu al=true)(hd:X.done au=some ⟨⟨au,nu,al⟩,r⟩):sH X au nu al=(X,r,0):=by
 unfold sH
 rw[if_neg (by rw[hf];decide),hd]
 show(if nu=nu then(if al=al then(X,r,(0:Int))else _)else _)=_
 rw[if_pos rfl,if_pos rfl]
theorem aMv{X:KHs}{au nu:Int}{al bl:List KAct}{r:KRes}(hf:cO au nu al=true)(hd:X.done au=some ⟨⟨au,nu,bl⟩,r⟩)(hne:bl≠al):sH X au nu al=(X,dR,331):=by
 unfold sH
 rw[if_neg (by rw[hf];decide),hd]
 show(if nu=nu then(if bl=al then _ else(X,dR,(331:Int)))else _)=_
 rw[if_pos rfl,if_neg hne]
theorem aQf{X:KHs}{au nu:Int}{al:List KAct}{m:KMem}(hf:cO au nu al=true)(hd:X.done au=some m)(hlt:nu<m.d.number):sH X au nu al=(X,dR,332):=by
 unfold sH
 rw[if_neg (by rw[hf];decide),hd]
 show(if m.d.number=nu then _ else if nu<m.d.number then(X,dR,(332:Int))else _)=_
 rw[if_neg (by omega),if_pos hlt]
theorem nU(X:KHs)(au nu:Int)(al:List KAct):(eJ X au nu al).done au=some ⟨⟨au,nu,al⟩,(aE X.s al).2⟩:=if_pos rfl
theorem vZ(X:KHs){au a:Int}(nu:Int)(al:List KAct)(h:a≠au):(eJ X au nu al).done a=X.done a:=if_neg h
def awM:List KAct:=[⟨1,1,0,0,⟨100,0,0,0⟩⟩]
def awB:List KAct:=[⟨3,1,2,0,⟨30,0,0,0⟩⟩,⟨4,1,0,0,⟨50,0,0,0⟩⟩]
def awP:List KAct:=[⟨6,0,2,1,zeroA⟩,⟨3,1,2,0,⟨100,0,0,0⟩⟩]
def awF:List KAct:=[⟨5,0,0,1,zeroA⟩]
noncomputable def aX1:KHs:=eJ gV 1 1 awM
noncomputable def vT:KHs:=eJ aX1 5 1 awB
noncomputable def aX3:KHs:=eJ vT 5 2 awP
noncomputable def aX4:KHs:=eJ aX3 5 3 awF
theorem bEe:(aE gV.s awM).2=⟨true,0,0,[]⟩:=by kernel_rfl
theorem aZq:(aE aX1.s awB).2=⟨true,0,0,[1]⟩:=by kernel_rfl
theorem aZr:(aE vT.s awP).2=⟨false,1,330,[]⟩:=by kernel_rfl
theorem bEf:(aE aX3.s awF).2=⟨true,0,0,[]⟩:=by kernel_rfl
theorem bDs:sH gV 1 1 awM=(aX1,⟨true,0,0,[]⟩,0):=by rw[←bEe];exact uL (by decide) (fun m h=>by cases h)
theorem bEb:aX1.done 5=none:=by rw[aX1,vZ _ _ _ (by decide)];rfl
theorem bDt:sH aX1 5 1 awB=(vT,⟨true,0,0,[1]⟩,0):=by rw[←aZq];exact uL (by decide) (fun m h=>by rw[bEb]at h;cases h)
theorem aZn:vT.done 5=some ⟨⟨5,1,awB⟩,⟨true,0,0,[1]⟩⟩:=by rw[←aZq];exact nU _ _ _ _
theorem bDu:sH vT 5 1 awB=(vT,⟨true,0,0,[1]⟩,0):=aMu (by decide) aZn
theorem bDv:sH vT 5 2 awP=(aX3,⟨false,1,330,[]⟩,0):=by rw[←aZr];exact uL (by decide) (fun m h=>by rw[aZn]at h;injection h with h;subst h;decide)
theorem aPo:aX3.done 5=some ⟨⟨5,2,awP⟩,⟨false,1,330,[]⟩⟩:=by rw[←aZr];exact nU _ _ _ _
theorem bDw:sH aX3 5 1 awB=(aX3,dR,332):=aQf (by decide) aPo (by decide)
theorem bDx:sH aX3 5 2 awB=(aX3,dR,331):=aMv (by decide) aPo (by decide)
theorem bDy:sH aX3 5 3 awF=(aX4,⟨true,0,0,[]⟩,0):=by rw[←bEf];exact uL (by decide) (fun m h=>by rw[aPo]at h;injection h with h;subst h;decide)
theorem bEc:iS aX1.s.ps 1=⟨100,0,0,0⟩:=by kernel_rfl
theorem bEg:aX1.s.su=⟨100,0,0,0⟩:=by kernel_rfl
theorem aZo:iS vT.s.ps 1=⟨20,0,0,0⟩:=by kernel_rfl
theorem aZp:iS vT.s.ps 2=⟨30,0,0,0⟩:=by kernel_rfl
theorem bEd:iS aX4.s.ps 1=⟨70,0,0,0⟩:=by kernel_rfl
theorem aOh:sortI []=[]:=vM (.refl _) List.Pairwise.nil
theorem aAa(a:Int):sortI [a]=[a]:=vM (.refl _) (List.pairwise_singleton _ _)
theorem aJp:gW vT=[⟨1,1,⟨50,0,0,0⟩⟩]:=by
 have h:vT.s.hs=[(1,⟨1,1,⟨50,0,0,0⟩⟩)]:=by kernel_rfl
 unfold gW
 rw[h]
 show(sortI [1]).map _=_
 rw[aAa];rfl
theorem bDz:gW aX3=[⟨1,1,⟨50,0,0,0⟩⟩]:=by
 have h:aX3.s.hs=[(1,⟨1,1,⟨50,0,0,0⟩⟩)]:=by kernel_rfl
 unfold gW
 rw[h]
 show(sortI [1]).map _=_
 rw[aAa];rfl
theorem bEa:gW aX4=[]:=by
 have h:aX4.s.hs=[]:=by kernel_rfl
 unfold gW
 rw[h]
 show(sortI []).map _=_
 rw[aOh];rfl
open Go Go.Sl Go.Proofs Go.Jn
abbrev gT(n:Int):Prop:= -9223372036854775808≤n∧n≤9223372036854775807
structure ActI(x:KAct):Prop where
 o:gT x.owner
 p:gT x.other
 h:gT x.hold
 a0:gT x.a.a0
 a1:gT x.a.a1
 a2:gT x.a.a2
 a3:gT x.a.a3
structure TOp where
 kind:UInt8
 author:Int
 number:Int
 acts:List KAct
structure OpI(o:TOp):Prop where
 a:gT o.author
 n:gT o.number
 x:∀x∈o.acts,ActI x
def bDo:Rp TOp:=⟨4,fun h cs o=>OpI o∧∃v,cs=[Bx o.kind,Ix o.author,Ix o.number,v]∧Sl cJ.R h v o.acts,fun _ _ _ ⟨_,_,e,_⟩=>by rw[e];rfl,fun _ _ h h' hs ⟨q,v,e,hv⟩=>⟨q,v,e,Sl.mono _ v _ h h' hs hv⟩⟩
def pI(x n:Int):Int:=if n<1 then 0 else if Int.tmod x n<0 then Int.tmod x n+n else Int.tmod x n
theorem aSq(x:Int){n:Int}(hn:1≤n):0≤pI x n∧pI x n<n:=by
 have h1:Int.tmod x n<n:=Int.tmod_lt_of_pos x (by omega)
 have h2: -n<Int.tmod x n:=by
  rcases Int.le_total 0 x with h|h
  ·have:=Int.tmod_nonneg n h;omega
  ·have h3:Int.tmod (-x) n<n:=Int.tmod_lt_of_pos _ (by omega)
   rw[Int.neg_tmod]at h3
   omega
 unfold pI
 rw[if_neg (by omega)]
 split<;>omega
def aIb(x:KAct):UInt8:=1+x.kind%7
def bBt(x:KAct):Int:=1+pI x.owner 5
def bEq(x:KAct):KAm:=⟨pI x.a.a0 1001,pI x.a.a1 1001,pI x.a.a2 1001,pI x.a.a3 1001⟩
def bEo(x:KAct):KAct:=
 if((aIb x).toNat:Int)=((5:UInt8).toNat:Int)then⟨aIb x,0,0,1+pI x.hold 12,zeroA⟩
 else if((aIb x).toNat:Int)=((6:UInt8).toNat:Int)then⟨aIb x,0,1+pI x.other 5,1+pI x.hold 12,zeroA⟩
 else if((aIb x).toNat:Int)=((3:UInt8).toNat:Int)then⟨aIb x,bBt x,1+Int.tmod (bBt x+pI x.other 4) 5,0,bEq x⟩
 else⟨aIb x,bBt x,0,0,bEq x⟩
def bEp(o:TOp):List KAct:=if(o.acts.take 8).map bEo=[]then [⟨1,1,0,0,⟨7,0,0,0⟩⟩]else(o.acts.take 8).map bEo
def aGa(o:TOp):Int:=1+pI o.author 4
theorem aQs(o:TOp):1≤aGa o∧aGa o≤4:=by
 have:=aSq o.author (n:=4) (by decide)
 unfold aGa;omega
end Go.Td
namespace Go.Sl
theorem bBa(x y:UInt8):IntKind.u8.wrap ((x.toNat:Int)+(y.toNat:Int))=((x+y).toNat:Int):=by
 rw[u8w,UInt8.toNat_add];omega
theorem bBc(x:UInt8)(k:UInt8):((x.toNat:Int)).tmod (k.toNat:Int)=((x%k).toNat:Int):=by
 rw[gG,UInt8.toNat_mod]
end Go.Sl
namespace Go.Td
open Go Go.Sl Go.Proofs Go.Jn
theorem aBm{H S N W M V:Nat}{X:KHs}{p:Int}(hN:N≤M)(hW:W≤V)(a:bQ)(h:cV H S X N W p a):cV H S X M V p a:=by
 obtain⟨J,mp,mh,mm,s,ms,zs,i,k,h1,h2,h3⟩:=h
 exact⟨J,mp,mh,mm,s,ms,zs,i,k,h1.mono hN hW,h2,h3⟩
theorem aOd{S N W M V:Nat}{X:KHs}{p:Int}(hN:N≤M)(hW:W≤V)(a:bQ)(h:mC S X N W p a):mC S X M V p a:=by
 obtain⟨i,k,h1,h2,h3⟩:=h
 exact⟨i,k,h1.mono hN hW,h2,h3⟩
section
variable {P:Program}{ro:Option Nat}{n:Nat}{ds:List Deferred}{β:Base}{Q:Exit→Act→World→Prop}{f:Fm}{L:List bU}
theorem aDi{e:Exit}{H S N W M V:Nat}{X:KHs}{p:Int}(i:Nat)(hi:L[i]? =some (cV H S X N W p))(hN:N≤M)(hW:W≤V)(k:iZ n ds β Q e f (L.set i (cV H S X M V p))):iZ n ds β Q e f L:=fun a w ha hw=>k a w ha (hw.conseq_at i hi (aBm hN hW))
end
def aPb(X:KHs)(n:Int):Prop:=∀a m,X.done a=some m→1≤m.d.number∧m.d.number<n
theorem aPb.next{X:KHs}{n n':Int}(h:aPb X n)(h1:1≤n)(h2:n<n')(au:Int)(al:List KAct):aPb (eJ X au n al) n':=fun a m hm=>by
 by_cases e:a=au
 ·subst e
  rw[nU]at hm
  injection hm with hm;subst hm
  exact⟨h1,h2⟩
 ·rw[vZ _ _ _ e]at hm
  have:=h a m hm
  omega
structure RndOk(X X1:KHs)(au nu:Int)(al:List KAct)(R:KRes):Prop where
 d1:sH X au nu al=(X1,R,0)
 m1:X1.done au=some ⟨⟨au,nu,al⟩,R⟩
 d2:sH X1 au nu al=(X1,R,0)
 la:uS X1 au=(nu,R,true)
open Go Go.Sl Go.Proofs Go.Jn
structure KPu where
 owner:Int
 a:KAm
deriving DecidableEq
abbrev puE(x:KPu):List Value:=[Ix x.owner,Ix x.a.a0,Ix x.a.a1,Ix x.a.a2,Ix x.a.a3]
abbrev kF:Fl KPu:=⟨5,puE,fun _=>rfl,fun _=>rfl,by decide⟩
abbrev xF:Fl KMh:=⟨7,mhE,fun _=>rfl,fun _=>rfl,by decide⟩
structure KRh where
 ps:List KPu
 hs:List KHo
 last:Int
 su:KAm
 ds:List KMem
def dV:List KPu→Int→KAm
 |[],_=>zeroA
 |p::l,n=>if p.owner=n then p.a else dV l n
def cS(n:Int)(a:KAm):Bool→List KPu→List KPu
 |dn,[]=>if dn=false∧¬a=zeroA then [⟨n,a⟩]else []
 |dn,p::l=>(if dn=false∧n≤p.owner∧¬a=zeroA then [⟨n,a⟩]else [])++((if p.owner=n then []else [p])++cS n a (dn||decide (n≤p.owner)) l)
def aAt(l:List KPu):Prop:=l.Pairwise fun p q=>p.owner<q.owner
theorem aBv:∀{l:List KPu} {n:Int},(∀p∈l,p.owner≠n)→dV l n=zeroA
 |[],_,_=>rfl
 |p::l,n,h=>by unfold dV;rw[if_neg (h p (by simp))];exact aBv fun q hq=>h q (by simp[hq])
theorem zO:∀{l:List KPu} {p:KPu},aAt l→p∈l→dV l p.owner=p.a
 |q::l,p,hs,h=>by
  have h1:=List.pairwise_cons.1 hs
  unfold dV
  rcases List.mem_cons.1 h with rfl|h
  ·rw[if_pos rfl]
  ·rw[if_neg (by have:=h1.1 p h;omega)];exact zO h1.2 h
theorem qO:∀{l:List KPu} {n:Int} {a:KAm},cS n a true l=l.filter fun p=>decide (p.owner≠n)
 |[],_,_=>rfl
 |p::l,n,a=>by
  unfold cS
  rw[if_neg (by simp),List.nil_append,Bool.true_or,qO,List.filter_cons]
  by_cases e:p.owner=n
  ·rw[if_pos e,if_neg (by simpa using e)];rfl
  ·rw[if_neg e,if_pos (by simpa using e)];rfl
theorem tQ:∀{l:List KPu} {n:Int} {a:KAm},aAt l→(cS n a false l).Perm ((if a=zeroA then []else [⟨n,a⟩])++l.filter fun p=>decide (p.owner≠n))
 |[],n,a,_=>by
  unfold cS
  by_cases e:a=zeroA
  ·rw[if_neg (by simp[e]),if_pos e];exact List.Perm.refl _
  ·rw[if_pos ⟨rfl,e⟩,if_neg e];exact List.Perm.refl _
 |p::l,n,a,hs=>by
  have h1:=List.pairwise_cons.1 hs
  have f1:p.owner=n→(p::l).filter (fun p=>decide (p.owner≠n))=l.filter fun p=>decide (p.owner≠n):=fun e=>List.filter_cons_of_neg (by simpa using e)
  have f2:¬p.owner=n→(p::l).filter (fun p=>decide (p.owner≠n))=p::l.filter fun p=>decide (p.owner≠n):=fun e=>List.filter_cons_of_pos (by simpa using e)
  unfold cS
  rw[Bool.false_or]
  by_cases q:n≤p.owner
  ·rw[decide_eq_true q,qO]
   have e1:(if false=false∧n≤p.owner∧¬a=zeroA then [(⟨n,a⟩:KPu)]else [])=if a=zeroA then []else [⟨n,a⟩]:=by
    by_cases e:a=zeroA
    ·rw[if_neg (by simp[e]),if_pos e]
    ·rw[if_pos ⟨rfl,q,e⟩,if_neg e]
   rw[e1]
   refine List.Perm.append_left _ ?_
   by_cases e:p.owner=n
   ·rw[if_pos e,f1 e,List.nil_append]
   ·rw[if_neg e,f2 e];exact List.Perm.refl _
  ·have e:¬p.owner=n:=by omega
   rw[decide_eq_false q,if_neg (fun h=>q h.2.1),List.nil_append,if_neg e,f2 e]
   exact((tQ h1.2).cons p).trans (List.perm_middle (a:=p)).symm
theorem tR:∀{l:List KPu} {n:Int} {a:KAm},aAt l→aAt (cS n a false l)
 |[],n,a,_=>by
  unfold cS
  split
  ·exact List.pairwise_singleton _ _
  ·exact List.Pairwise.nil
 |p::l,n,a,hs=>by
  have h1:=List.pairwise_cons.1 hs
  unfold cS
  rw[Bool.false_or]
  by_cases q:n≤p.owner
  ·rw[decide_eq_true q,qO]
   have hf:aAt ((if p.owner=n then []else [p])++l.filter fun p=>decide (p.owner≠n)):=by
    by_cases e:p.owner=n
    ·rw[if_pos e];exact h1.2.filter _
    ·rw[if_neg e]
     exact List.pairwise_cons.2 ⟨fun x hx=>h1.1 x (List.mem_filter.1 hx).1,h1.2.filter _⟩
   by_cases e:a=zeroA
   ·rw[if_neg (by simp[e])];exact hf
   ·rw[if_pos ⟨rfl,q,e⟩]
    refine List.pairwise_cons.2 ⟨fun x hx=> ?_,hf⟩
    have hx':x∈(if p.owner=n then []else [p])++l.filter fun p=>decide (p.owner≠n):=hx
    show n<x.owner
    by_cases e:p.owner=n
    ·rw[if_pos e]at hx'
     have:=h1.1 x (List.mem_filter.1 hx').1
     omega
    ·rw[if_neg e]at hx'
     rcases List.mem_cons.1 hx' with hx|hx
     ·rw[hx];omega
     ·have:=h1.1 x (List.mem_filter.1 hx).1;omega
  ·rw[decide_eq_false q,if_neg (by simp[q]),List.nil_append]
   have e:¬p.owner=n:=by omega
   rw[if_neg e]
   refine List.pairwise_cons.2 ⟨fun x hx=> ?_,tR h1.2⟩
   rcases List.mem_append.1 ((tQ h1.2).mem_iff.1 hx)with hx|hx
   ·by_cases ea:a=zeroA
    ·rw[if_pos ea]at hx;cases hx
    ·rw[if_neg ea]at hx;rw[List.mem_singleton.1 hx];show p.owner<n;omega
   ·exact h1.1 x (List.mem_filter.1 hx).1
abbrev puP(p:KPu):Int×KAm:=(p.owner,p.a)
structure RelP(ps:List (Int×KAm))(l:List KPu):Prop where
 s:aAt l
 p:(l.map puP).Perm ps
theorem RelP.nd{ps:List (Int×KAm)}{l:List KPu}(h:RelP ps l):(ps.map (·.1)).Nodup:=by
 refine((h.p.map (·.1)).nodup_iff).1 ?_
 rw[List.map_map]
 exact List.pairwise_map.2 (h.s.imp fun{a b} hab=>by show a.owner≠b.owner;omega)
theorem RelP.get{ps:List (Int×KAm)}{l:List KPu}(h:RelP ps l)(n:Int):dV l n=iS ps n:=by
 unfold iS
 cases e:cC.look ps n with
 |none=>
  refine aBv fun p hp hn=> ?_
  rw[iM]at e
  exact e (hn▸List.mem_map.2 ⟨puP p,h.p.mem_iff.1 (List.mem_map.2 ⟨p,hp,rfl⟩),rfl⟩)
 |some v=>
  obtain⟨p,hp,hv⟩:=List.mem_map.1 (h.p.mem_iff.2 (kS e))
  injection hv with h1 h2
  subst h1;subst h2
  exact zO h.s hp
theorem aIa(l:List KPu)(n:Int):(l.filter fun p=>decide (p.owner≠n)).map puP=cC.del (l.map puP) n:=by
 unfold MapK.del
 rw[List.filter_map]
 refine congrArg (List.map puP) (List.filter_congr fun p _=> ?_)
 show decide (p.owner≠n)= !decide (p.owner=n)
 by_cases e:p.owner=n<;>simp[e]
theorem RelP.withv{ps:List (Int×KAm)}{l:List KPu}(h:RelP ps l)(n:Int)(a:KAm):((cS n a false l).map puP).Perm ((if a=zeroA then []else [(n,a)])++cC.del ps n):=by
 refine((tQ h.s).map puP).trans ?_
 rw[List.map_append,aIa]
 refine List.Perm.append ?_ (oV h.p n)
 split<;>exact List.Perm.refl _
theorem RelP.put{ps:List (Int×KAm)}{l:List KPu}(h:RelP ps l){n:Int}{a:KAm}(ha:¬a=zeroA):RelP (cC.put ps n a) (cS n a false l):=
 ⟨tR h.s,(h.withv n a).trans (by rw[if_neg ha];exact(iG h.nd n a).symm)⟩
theorem RelP.del{ps:List (Int×KAm)}{l:List KPu}(h:RelP ps l){n:Int}:RelP (cC.del ps n) (cS n zeroA false l):=⟨tR h.s,(h.withv n zeroA).trans (by rw[if_pos rfl];exact List.Perm.refl _)⟩
theorem aVt{ps:List (Int×KAm)}(hn:(ps.map (·.1)).Nodup)(n:Int)(a:KAm):(cC.del (cC.put ps n a) n).Perm (cC.del ps n):=by
 refine(oV (iG hn n a) n).trans (List.Perm.of_eq ?_)
 unfold MapK.del
 rw[List.filter_cons_of_neg (by simp),List.filter_filter]
 refine List.filter_congr fun p _=> ?_
 simp
theorem RelP.take{ps:List (Int×KAm)}{l:List KPu}(h:RelP ps l){n:Int}{a:KAm}(hx:iW ps n a=false):RelP (dQ ps n a) (cS n ((dV l n).plus a (-1)) false l):=by
 unfold dQ
 rw[hx,if_neg (by decide),h.get]
 split
 ·rename_i hz
  have d:=h.del (n:=n)
  exact⟨by rw[hz];exact d.s,by rw[hz];exact d.p.trans (aVt h.nd n _).symm⟩
 ·rename_i hz;exact h.put hz
theorem RelP.addX{ps:List (Int×KAm)}{l:List KPu}(h:RelP ps l)(hp:PsOk ps){n:Int}{a:KAm}:Go.Td.addX ps n a=(!((dV l n).plus a 1).within||decide (256<(cS n ((dV l n).plus a 1) false l).length)):=by
 unfold Go.Td.addX
 rw[h.get]
 cases hw:((iS ps n).plus a 1).within with
 |false=>rfl
 |true=>
  show(false||_)=(false||_)
  rw[Bool.false_or,Bool.false_or]
  have hlen:=(h.withv n ((iS ps n).plus a 1)).length_eq
  rw[List.length_map,List.length_append]at hlen
  have h3:(cC.del ps n).length≤ps.length:=List.length_filter_le _ _
  have hpn:=hp.pn
  by_cases hz:(iS ps n).plus a 1=zeroA
  ·rw[if_pos hz]at hlen
   rw[decide_eq_false (not_not_intro hz),Bool.and_false,Bool.false_and,decide_eq_false]
   rw[hlen]
   show ¬256<0+_
   omega
  ·rw[if_neg hz]at hlen
   rw[decide_eq_true hz,Bool.and_true]
   have h5:(cC.put ps n ((iS ps n).plus a 1)).length=1+(cC.del ps n).length:=by rw[(iG h.nd n _).length_eq,List.length_cons,Nat.add_comm]
   cases e:cC.look ps n with
   |none=>
    rw[oC e,List.length_append]at h5
    show(true&&_)=_
    rw[Bool.true_and]
    have h6:[((n,(iS ps n).plus a 1):Int×KAm)].length=1:=rfl
    have h7:[(n,(iS ps n).plus a 1)].length=1:=rfl
    rw[h7]at hlen;rw[h6]at h5
    by_cases c:(256:Int)≤(ps.length:Int)
    ·rw[decide_eq_true c,decide_eq_true (by omega)]
    ·rw[decide_eq_false c,decide_eq_false (by omega)]
   |some v=>
    have h6:=congrArg List.length (vC (K:=cC) (ks:=ps) n ((iS ps n).plus a 1) (by rw[e];rfl))
    simp only[List.length_map]at h6
    have h7:[(n,(iS ps n).plus a 1)].length=1:=rfl
    rw[h7]at hlen
    show(false&&_)=_
    rw[Bool.false_and,decide_eq_false (by omega)]
theorem RelP.add{ps:List (Int×KAm)}{l:List KPu}(h:RelP ps l)(hp:PsOk ps){n:Int}{a:KAm}(ha:a.within=true)(hx:Go.Td.addX ps n a=false):RelP (iI ps n a) (cS n ((dV l n).plus a 1) false l):=by
 unfold iI
 rw[hx,if_neg (by decide),h.get]
 split
 ·rename_i hz
  rw[hz]
  have d:=h.del (n:=n)
  refine⟨d.s,d.p.trans ?_⟩
  cases e:cC.look ps n with
  |none=>rw[oU e]
  |some v=>
   have h1:=(hp.pk _ (kS e)).2
   have h2:iS ps n=v:=by unfold iS;rw[e];rfl
   rw[h2]at hz
   have w1:=oE.1 (show v.within=true from h1.1);have w2:=oE.1 ha
   rw[uG]at hz
   simp only[KAm.plus]at hz
   exact absurd (uG.2 (by omega):v=zeroA) h1.2
 ·rename_i hz;exact h.put hz
theorem aBu{ps:List KPu}{k:Nat}{x:KPu}{n:Int}(hx:ps[k]? =some x):dV (ps.drop k) n=if x.owner=n then x.a else dV (ps.drop (k+1)) n:=by
 obtain⟨hk,rfl⟩:=List.getElem?_eq_some_iff.1 hx
 rw[List.drop_eq_getElem_cons hk];rfl
theorem aSy{ps:List KPu}{k:Nat}{n:Int}(h:ps.length≤k):dV (ps.drop k) n=zeroA:=by rw[List.drop_eq_nil_of_le h];rfl
def rWk(n:Int)(a:KAm)(dn:Bool)(ps:List KPu)(k:Nat):List KPu:=if k≤ps.length then cS n a dn (ps.drop k)else []
def rW2(n:Int)(a:KAm)(dn:Bool)(ps:List KPu)(k:Nat):List KPu:=(((ps.drop k).take 1).filter fun p=>decide (p.owner≠n))++rWk n a dn ps (k+1)
section
variable {ps:List KPu}{k:Nat}{x:KPu}{n:Int}{a:KAm}{dn:Bool}
theorem yG(hx:ps[k]? =some x):rWk n a dn ps k=(if dn=false∧n≤x.owner∧¬a=zeroA then [⟨n,a⟩]else [])++rW2 n a (dn||decide (n≤x.owner)) ps k:=by
 obtain⟨hk,rfl⟩:=List.getElem?_eq_some_iff.1 hx
 unfold rWk rW2
 rw[if_pos (by omega),List.drop_eq_getElem_cons hk]
 show _++(_++cS n a _ (ps.drop (k+1)))=_++(List.filter _ [ps[k]]++_)
 have e:rWk n a (dn||decide (n≤ps[k].owner)) ps (k+1)=cS n a (dn||decide (n≤ps[k].owner)) (ps.drop (k+1)):=if_pos (by omega)
 rw[e]
 by_cases c:ps[k].owner=n
 ·rw[if_pos c,List.filter_cons_of_neg (by simpa using c)];rfl
 ·rw[if_neg c,List.filter_cons_of_pos (by simpa using c)];rfl
theorem aEt(hk:k=ps.length):rWk n a dn ps k=(if dn=false∧¬a=zeroA then [⟨n,a⟩]else [])++rW2 n a true ps k:=by
 have e:rWk n a true ps (k+1)=[]:=if_neg (by omega)
 unfold rW2
 rw[e,List.drop_eq_nil_of_le (by omega)]
 unfold rWk
 rw[if_pos (by omega),List.drop_eq_nil_of_le (by omega)]
 show _=_++([]++[])
 rw[List.append_nil,List.append_nil];rfl
theorem aZe(hk:k≤ps.length):rWk n a true ps k=rW2 n a true ps k:=by
 by_cases e:k=ps.length
 ·rw[aEt e];rfl
 ·rw[yG (x:=ps[k]'(by omega)) (List.getElem?_eq_getElem (by omega)),if_neg (by simp),Bool.true_or];rfl
theorem aZf(hk:k=ps.length)(ha:a=zeroA):rWk n a false ps k=rW2 n a true ps k:=by rw[aEt hk,if_neg (by simp[ha])];rfl
theorem aZg(hk:k=ps.length)(ha:¬a=zeroA):rWk n a false ps k=[⟨n,a⟩]++rW2 n a true ps k:=by rw[aEt hk,if_pos ⟨rfl,ha⟩]
theorem aUs(hx:ps[k]? =some x)(hn:n≤x.owner)(ha:a=zeroA):rWk n a false ps k=rW2 n a true ps k:=by rw[yG hx,if_neg (by simp[ha]),decide_eq_true hn];rfl
theorem aUt(hx:ps[k]? =some x)(hn:n≤x.owner)(ha:¬a=zeroA):rWk n a false ps k=[⟨n,a⟩]++rW2 n a true ps k:=by rw[yG hx,if_pos ⟨rfl,hn,ha⟩,decide_eq_true hn];rfl
theorem bDl(hx:ps[k]? =some x)(hn:¬n≤x.owner):rWk n a false ps k=rW2 n a false ps k:=by rw[yG hx,if_neg (by simp[hn]),decide_eq_false hn];rfl
theorem bDm(hk:k=ps.length):rW2 n a dn ps k=rWk n a dn ps (k+1):=by unfold rW2;rw[List.drop_eq_nil_of_le (by omega)];rfl
theorem bHt(hx:ps[k]? =some x)(hn:x.owner=n):rW2 n a dn ps k=rWk n a dn ps (k+1):=by
 obtain⟨hk,rfl⟩:=List.getElem?_eq_some_iff.1 hx
 unfold rW2
 rw[List.drop_eq_getElem_cons hk]
 show List.filter _ [ps[k]]++_=_
 rw[List.filter_cons_of_neg (by simpa using hn)];rfl
theorem bHu(hx:ps[k]? =some x)(hn:¬x.owner=n):rW2 n a dn ps k=[x]++rWk n a dn ps (k+1):=by
 obtain⟨hk,rfl⟩:=List.getElem?_eq_some_iff.1 hx
 unfold rW2
 rw[List.drop_eq_getElem_cons hk]
 show List.filter _ [ps[k]]++_=_
 rw[List.filter_cons_of_pos (by simpa using hn)];rfl
theorem aZh(hk:ps.length<k):rWk n a dn ps k=[]:=if_neg (by omega)
theorem aZi:rWk n a dn ps 0=cS n a dn ps:=if_pos (Nat.zero_le _)
end
open Go Go.Sl Go.Proofs Go.Jn
def vE(h0 out:KRh)(to:Int)(am:KAm):KRh×Int:=
 if 0<to then(if !((dV out.ps to).plus am 1).within||decide (256<(cS to ((dV out.ps to).plus am 1) false out.ps).length)then(h0,4)else({out with ps:=cS to ((dV out.ps to).plus am 1) false out.ps},0))
 else(out,0)
def tP(hold:Int):List KHo→Int×KAm→Int×KAm
 |[],d=>d
 |p::l,d=>tP hold l (if p.number=hold then(p.owner,p.a)else d)
abbrev mJ(hold:Int)(l:List KHo):List KHo:=l.filter fun p=>decide (p.number≠hold)
def gU(h:KRh)(x:KAct):KAm:=(dV h.ps x.owner).plus x.a (-1)
def dY(h:KRh)(x:KAct):KRh×Int:=
 if(x.kind.toNat:Int)=1 then vE h {h with su:=h.su.plus x.a 1} x.owner x.a
 else if(x.kind.toNat:Int)=2 then(if(gU h x).within then({h with ps:=cS x.owner (gU h x) false h.ps,su:=h.su.plus x.a (-1)},0)else(h,330))
 else if(x.kind.toNat:Int)=3 then(if(gU h x).within then vE h {h with ps:=cS x.owner (gU h x) false h.ps} x.other x.a else(h,330))
 else if(x.kind.toNat:Int)=4 then(if(gU h x).within then(if 128≤h.hs.length then(h,5)else({h with ps:=cS x.owner (gU h x) false h.ps,hs:=h.hs++[⟨h.last+1,x.owner,x.a⟩],last:=h.last+1},0))else(h,330))
 else if(x.kind.toNat:Int)=7 then(if(gU h x).within then(h,0)else(h,330))
 else if(mJ x.hold h.hs).length=h.hs.length then(h,6)
 else vE h {h with hs:=mJ x.hold h.hs} (if(x.kind.toNat:Int)=6 then x.other else(tP x.hold h.hs (0,x.a)).1) (tP x.hold h.hs (0,x.a)).2
def aZm(l:List KHo):Prop:=l.Pairwise fun p q=>p.number<q.number
abbrev hoP(p:KHo):Int×KHo:=(p.number,p)
structure RelH(hs:List (Int×KHo))(l:List KHo):Prop where
 s:aZm l
 p:(l.map hoP).Perm hs
structure RelS(s:KSt)(h:KRh):Prop where
 p:RelP s.ps h.ps
 o:RelH s.hs h.hs
 l:h.last=s.last
 u:h.su=s.su
theorem RelH.nd{hs:List (Int×KHo)}{l:List KHo}(h:RelH hs l):(hs.map (·.1)).Nodup:=by
 refine((h.p.map (·.1)).nodup_iff).1 ?_
 rw[List.map_map]
 exact List.pairwise_map.2 (h.s.imp fun{a b} hab=>by show a.number≠b.number;omega)
theorem aSz{hold:Int}{l:List KHo}:∀{d:Int×KAm},(∀p∈l,p.number≠hold)→tP hold l d=d:=by
 induction l with
 |nil=>intro d _;rfl
 |cons p l ih=>intro d h;unfold tP;rw[if_neg (h p (by simp))];exact ih fun q hq=>h q (by simp[hq])
theorem aXm{hold:Int}{p:KHo}(e:p.number=hold){l:List KHo}:∀{d:Int×KAm},aZm l→p∈l→tP hold l d=(p.owner,p.a):=by
 induction l with
 |nil=>intro d _ h;cases h
 |cons q l ih=>
  intro d hs h
  have h1:=List.pairwise_cons.1 hs
  unfold tP
  rcases List.mem_cons.1 h with h|h
  ·rw[←h,if_pos e];exact aSz fun r hr=>by have:=h1.1 r hr;rw[←h]at this;omega
  ·exact ih h1.2 h
theorem aTa(hold:Int)(l:List KHo):(mJ hold l).map hoP=bL.del (l.map hoP) hold:=by
 unfold MapK.del
 rw[List.filter_map]
 refine congrArg (List.map hoP) (List.filter_congr fun p _=> ?_)
 show decide (p.number≠hold)= !decide (p.number=hold)
 by_cases e:p.number=hold<;>simp[e]
theorem RelH.del{hs:List (Int×KHo)}{l:List KHo}(h:RelH hs l)(n:Int):RelH (bL.del hs n) (mJ n l):=⟨h.s.filter _,by rw[aTa];exact oV h.p n⟩
theorem RelH.found{hs:List (Int×KHo)}{l:List KHo}(h:RelH hs l)(n:Int)(d:Int×KAm):
  ((bL.look hs n).isSome=false∧(mJ n l).length=l.length)∨((bL.look hs n).isSome=true∧¬(mJ n l).length=l.length∧tP n l d=((mM hs n).owner,(mM hs n).a)):=by
 cases e:bL.look hs n with
 |none=>
  refine .inl ⟨rfl,?_⟩
  rw[iM]at e
  refine congrArg List.length (List.filter_eq_self.2 fun p hp=>decide_eq_true fun q=> ?_)
  exact e (q▸List.mem_map.2 ⟨hoP p,h.p.mem_iff.1 (List.mem_map.2 ⟨p,hp,rfl⟩),rfl⟩)
 |some v=>
  obtain⟨p,hp,hv⟩:=List.mem_map.1 (h.p.mem_iff.2 (kS e))
  injection hv with h1 h2
  subst h2
  refine .inr ⟨rfl,fun q=> ?_,?_⟩
  ·have:=List.filter_eq_self.1 (List.filter_sublist.eq_of_length q) p hp
   simp[h1]at this
  ·unfold mM;rw[e]
   exact aXm h1 h.s hp
theorem RelP.radd{ps:List (Int×KAm)}{h0 out:KRh}(h:RelP ps out.ps)(hp:PsOk ps){to:Int}{a:KAm}(ht:0<to):
  vE h0 out to a=if Go.Td.addX ps to a then(h0,4)else({out with ps:=cS to ((dV out.ps to).plus a 1) false out.ps},0):=by
 unfold vE
 rw[if_pos ht,←h.addX hp]
theorem RelS.left{s:KSt}{h:KRh}(r:RelS s h)(x:KAct):(gU h x).within= !iW s.ps x.owner x.a:=by
 unfold gU iW
 rw[r.p.get];simp
theorem aDw{n:Int}(h:fE n=true):0<n:=by unfold fE at h;simp at h;omega
def oR(h:KRh)(z:KSt×Int×Int)(y:KRh×Int):Prop:=
 y.2=z.2.2∧(z.2.2=0→RelS z.1 y.1∧((0<z.2.1∧h.last<y.1.last∧z.2.1=y.1.last)∨(¬0<z.2.1∧¬h.last<y.1.last)))
theorem oR.bad{h:KRh}{z:KSt×Int×Int}{y:KRh×Int}{e:Int}(h1:y.2=e)(h2:z.2.2=e)(h3:¬e=0):oR h z y:=⟨h1.trans h2.symm,fun q=>absurd (h2.symm.trans q) h3⟩
theorem oR.same{h:KRh}{z:KSt×Int×Int}{y:KRh×Int}(h1:y.2=0)(h2:z.2.2=0)(r:RelS z.1 y.1)(h3:z.2.1=0)(h4:y.1.last=h.last):oR h z y:=⟨h1.trans h2.symm,fun _=>⟨r,.inr ⟨by rw[h3];decide,by rw[h4];exact Int.lt_irrefl _⟩⟩⟩
section
variable {s:KSt}{h:KRh}(g:Good2 s)(r:RelS s h){x:KAct}(hf:x.formed=true)
include g r hf
theorem bFb(k:(x.kind.toNat:Int)=1):oR h (mF s x) (vE h {h with su:=h.su.plus x.a 1} x.owner x.a):=by
 have hw:=cX hf
 unfold KAct.formed KAct.plain at hf
 have ho:fE x.owner=true:=by simp[k]at hf;exact hf.1.1.1
 rw[RelP.radd (out:={h with su:=h.su.plus x.a 1}) r.p g.p (aDw ho)]
 cases ex:Go.Td.addX s.ps x.owner x.a with
 |true=>exact .bad (e:=4) rfl (by show hO _ _ _=4;unfold hO;rw[ex];rfl) (by decide)
 |false=>
  have e0:hO s.ps x.owner x.a=0:=by unfold hO;rw[ex];rfl
  refine .same rfl e0 ⟨r.p.add g.p hw ex,r.o,r.l,?_⟩ rfl rfl
  show h.su.plus x.a 1=if _ then _ else _
  rw[if_pos e0,r.u]
theorem bFc:oR h (mD s x) (if(gU h x).within then({h with ps:=cS x.owner (gU h x) false h.ps,su:=h.su.plus x.a (-1)},0)else(h,330)):=by
 have _:=g;have _:=hf
 rw[r.left x]
 cases ex:iW s.ps x.owner x.a with
 |true=>exact .bad (e:=330) rfl (by show eI _ _ _=330;unfold eI;rw[ex];rfl) (by decide)
 |false=>
  have e0:eI s.ps x.owner x.a=0:=by unfold eI;rw[ex];rfl
  refine .same rfl e0 ⟨r.p.take ex,r.o,r.l,?_⟩ rfl rfl
  show h.su.plus x.a (-1)=if _ then _ else _
  rw[if_pos e0,r.u]
theorem bFd(k:(x.kind.toNat:Int)=3):oR h (lA s x) (if(gU h x).within then vE h {h with ps:=cS x.owner (gU h x) false h.ps} x.other x.a else(h,330)):=by
 have hw:=cX hf
 unfold KAct.formed KAct.plain at hf
 have ho:fE x.owner=true∧fE x.other=true:=by simp[k]at hf;exact⟨hf.1.1.1.1,hf.1.1.1.2⟩
 unfold lA
 rw[r.left x]
 cases ex:iW s.ps x.owner x.a with
 |true=>
  have e0:eI s.ps x.owner x.a=330:=by unfold eI;rw[ex];rfl
  rw[e0]
  exact .bad (e:=330) rfl rfl (by decide)
 |false=>
  have e0:eI s.ps x.owner x.a=0:=by unfold eI;rw[ex];rfl
  have hp2:=(qS g.p ho.1 hw ex).1
  have rp2:=r.p.take ex
  rw[if_pos e0]
  show oR h _ (vE h {h with ps:=cS x.owner (gU h x) false h.ps} x.other x.a)
  rw[RelP.radd (out:={h with ps:=cS x.owner (gU h x) false h.ps}) rp2 hp2 (aDw ho.2)]
  cases ex2:Go.Td.addX (dQ s.ps x.owner x.a) x.other x.a with
  |true=>exact .bad (e:=4) rfl (by show hO _ _ _=4;unfold hO;rw[ex2];rfl) (by decide)
  |false=>exact .same rfl (by show hO _ _ _=0;unfold hO;rw[ex2];rfl) ⟨rp2.add hp2 hw ex2,r.o,r.l,r.u⟩ rfl rfl
theorem bFe:oR h (kI s x) (if(gU h x).within then(if 128≤h.hs.length then(h,5)else({h with ps:=cS x.owner (gU h x) false h.ps,hs:=h.hs++[⟨h.last+1,x.owner,x.a⟩],last:=h.last+1},0))else(h,330)):=by
 have _:=hf
 have hlen:h.hs.length=s.hs.length:=by have:=r.o.p.length_eq;rwa [List.length_map]at this
 have hh:=g.h
 unfold kI
 rw[r.left x]
 cases ex:iW s.ps x.owner x.a with
 |true=>
  have e0:eI s.ps x.owner x.a=330:=by unfold eI;rw[ex];rfl
  rw[e0]
  exact .bad (e:=330) rfl rfl (by decide)
 |false=>
  have e0:eI s.ps x.owner x.a=0:=by unfold eI;rw[ex];rfl
  rw[if_pos e0]
  show oR h _ (if 128≤h.hs.length then(h,5)else _)
  by_cases c:(128:Int)≤(s.hs.length:Int)
  ·rw[if_pos c,if_pos (by omega)]
   exact .bad (e:=5) rfl rfl (by decide)
  ·rw[if_neg c,if_neg (by omega)]
   have hl1:h.last=s.last:=r.l
   have hno:bL.look s.hs (s.last+1)=none:=by
    cases e:bL.look s.hs (s.last+1)with
    |none=>rfl
    |some v=>have:=(hh.at e).2.2.1;omega
   refine⟨rfl,fun _=>⟨⟨r.p.take ex,⟨?_,?_⟩,by show h.last+1=s.last+1;rw[hl1],r.u⟩,.inl ⟨by show 0<s.last+1;have:=g.l0;omega,by show h.last<h.last+1;omega,by show s.last+1=h.last+1;rw[hl1]⟩⟩⟩
   ·refine List.pairwise_append.2 ⟨r.o.s,List.pairwise_singleton _ _,fun p hp q hq=> ?_⟩
    rw[List.mem_singleton.1 hq]
    have:=hh.hk _ (r.o.p.mem_iff.1 (List.mem_map.2 ⟨p,hp,rfl⟩))
    show p.number<h.last+1
    have h3:p.number≤s.last:=this.2.2.1
    omega
   ·rw[List.map_append]
    show((h.hs.map hoP)++[(h.last+1,(⟨h.last+1,x.owner,x.a⟩:KHo))]).Perm (bL.put s.hs (s.last+1) _)
    rw[oC hno,hl1]
    exact List.Perm.append_right _ r.o.p
theorem bFf:oR h (nC s x) (if(gU h x).within then(h,0)else(h,330)):=by
 have _:=g;have _:=hf
 unfold nC
 rw[r.left x]
 cases ex:iW s.ps x.owner x.a with
 |true=>exact .bad (e:=330) rfl (by show eI _ _ _=330;unfold eI;rw[ex];rfl) (by decide)
 |false=>exact .same rfl (by show eI _ _ _=0;unfold eI;rw[ex];rfl) ⟨r.p,r.o,r.l,r.u⟩ rfl rfl
theorem aLj{o to:Int}(hob:∀v,bL.look s.hs x.hold=some v→fE o=true)(hto:(bL.look s.hs x.hold).isSome=true→to=o):
  oR h (eD s x.hold o) (if(mJ x.hold h.hs).length=h.hs.length then(h,6)else vE h {h with hs:=mJ x.hold h.hs} to (tP x.hold h.hs (0,x.a)).2):=by
 have _:=hf
 have hh:=g.h
 unfold eD
 rcases r.o.found x.hold (0,x.a)with⟨f1,f2⟩|⟨f1,f2,f3⟩
 ·rw[f1,if_pos f2]
  exact .bad (e:=6) rfl rfl (by decide)
 ·rw[if_neg f2,hto f1,f3,if_pos f1]
  obtain⟨v,hv⟩:=Option.isSome_iff_exists.1 f1
  have hva:(mM s.hs x.hold).a.within=true:=by unfold mM;rw[hv];exact(hh.at hv).2.2.2.2
  rw[RelP.radd (out:={h with hs:=mJ x.hold h.hs}) r.p g.p (aDw (hob v hv))]
  cases ex:Go.Td.addX s.ps o (mM s.hs x.hold).a with
  |true=>exact .bad (e:=4) rfl (by show hO _ _ _=4;unfold hO;rw[ex];rfl) (by decide)
  |false=>exact .same rfl (by show hO _ _ _=0;unfold hO;rw[ex];rfl) ⟨r.p.add g.p hva ex,r.o.del x.hold,r.l,r.u⟩ rfl rfl
theorem aTh:oR h (dB s x) (dY h x):=by
 have hk:=lT hf
 unfold dB dY
 by_cases k1:(x.kind.toNat:Int)=1
 ·rw[if_pos k1,if_pos k1];exact bFb g r hf k1
 rw[if_neg k1,if_neg k1]
 by_cases k2:(x.kind.toNat:Int)=2
 ·rw[if_pos k2,if_pos k2];exact bFc g r hf
 rw[if_neg k2,if_neg k2]
 by_cases k3:(x.kind.toNat:Int)=3
 ·rw[if_pos k3,if_pos k3];exact bFd g r hf k3
 rw[if_neg k3,if_neg k3]
 by_cases k4:(x.kind.toNat:Int)=4
 ·rw[if_pos k4,if_pos k4];exact bFe g r hf
 rw[if_neg k4,if_neg k4]
 by_cases k7:(x.kind.toNat:Int)=7
 ·rw[if_neg (by omega:¬(x.kind.toNat:Int)=5),if_neg (by omega:¬(x.kind.toNat:Int)=6),if_pos k7];exact bFf g r hf
 rw[if_neg k7]
 by_cases k5:(x.kind.toNat:Int)=5
 ·have k6:¬(x.kind.toNat:Int)=6:=by omega
  rw[if_pos k5,if_neg k6]
  refine aLj g r hf (fun v hv=>by unfold mM;rw[hv];exact(g.h.at hv).2.2.2.1) (fun q=> ?_)
  rcases r.o.found x.hold (0,x.a)with⟨f1,_⟩|⟨_,_,f3⟩
  ·rw[f1]at q;cases q
  ·rw[f3]
 ·have k6:(x.kind.toNat:Int)=6:=by omega
  rw[if_neg k5,if_pos k6,if_pos k6]
  have ho:fE x.other=true:=by
   unfold KAct.formed KAct.plain at hf
   simp[k6]at hf;exact hf.1.1.2
  exact aLj g r hf (fun _ _=>ho) (fun _=>rfl)
end
open Go Go.Sl Go.Proofs Go.Jn
def aS(h0:KRh):KRh→List Int→Nat→List KAct→KRh×KRes
 |out,made,_,[]=>(out,⟨true,0,0,made⟩)
 |out,made,k,x::xs=>if(dY out x).2=0 then aS h0 (dY out x).1 (if out.last<(dY out x).1.last then made++[(dY out x).1.last]else made) (k+1) xs else(h0,⟨false,(k:Int),(dY out x).2,[]⟩)
theorem aTp{h0 out:KRh}{made:List Int}{k:Nat}{xs:List KAct}(h:xs.length≤k):aS h0 out made k (xs.drop k)=(out,⟨true,0,0,made⟩):=by
 rw[List.drop_eq_nil_of_le h];rfl
theorem aTo{h0 out:KRh}{made:List Int}{k:Nat}{xs:List KAct}{x:KAct}(hx:xs[k]? =some x)(he:¬(dY out x).2=0):aS h0 out made k (xs.drop k)=(h0,⟨false,(k:Int),(dY out x).2,[]⟩):=by
 obtain⟨hk,rfl⟩:=List.getElem?_eq_some_iff.1 hx
 rw[List.drop_eq_getElem_cons hk];exact if_neg he
theorem aCd{h0 out:KRh}{made:List Int}{k:Nat}{xs:List KAct}{x:KAct}(hx:xs[k]? =some x)(he:(dY out x).2=0):aS h0 out made k (xs.drop k)=aS h0 (dY out x).1 (if out.last<(dY out x).1.last then made++[(dY out x).1.last]else made) (k+1) (xs.drop (k+1)):=by
 obtain⟨hk,rfl⟩:=List.getElem?_eq_some_iff.1 hx
 rw[List.drop_eq_getElem_cons hk];exact if_pos he
abbrev oD(au:Int)(l:List KMem):List KMem:=l.filter fun m=>decide (m.d.author≠au)
def eU(h:KRh)(au nu:Int)(al:List KAct):KRh×KRes:=
 ({(aS h h [] 0 al).1 with ds:=⟨⟨au,nu,al⟩,(aS h h [] 0 al).2⟩::oD au h.ds},(aS h h [] 0 al).2)
def lW:List KMem→Int→Option KMem
 |[],_=>none
 |m::l,au=>if m.d.author=au then some m else lW l au
def kC(h:KRh)(au nu:Int)(al:List KAct):KRh×KRes×Int:=
 if cO au nu al=false then(h,dR,2)
 else match lW h.ds au with
 |some m=>
  if m.d.number=nu then(if m.d.acts=al then(h,m.r,0)else(h,dR,331))
  else if nu<m.d.number then(h,dR,332)
  else((eU h au nu al).1,(eU h au nu al).2,0)
 |none=>((eU h au nu al).1,(eU h au nu al).2,0)
structure RelX(X:KHs)(h:KRh):Prop where
 s:RelS X.s h
 d:∀au,lW h.ds au=X.done au
 k:∀m∈h.ds,X.done m.d.author=some m
theorem aLk{s0:KSt}{h0:KRh}(r0:RelS s0 h0):∀{xs:List KAct} {s:KSt} {h:KRh} {made:List Int} {k:Nat},Good2 s→RelS s h→(∀x∈xs,x.formed=true)→RelS (jY s0 s made k xs).1 (aS h0 h made k xs).1∧(aS h0 h made k xs).2=(jY s0 s made k xs).2
 |[],s,h,made,k,g,r,_=>⟨r,rfl⟩
 |x::xs,s,h,made,k,g,r,hf=>by
  obtain⟨e1,e2⟩:=aTh g r (hf x (by simp))
  unfold jY aS
  rw[e1]
  by_cases c:(dB s x).2.2=0
  ·rw[if_pos c,if_pos c]
   obtain⟨r2,hm⟩:=e2 c
   have g2:=(tI g (hf x (by simp)) c).1
   have em:(if h.last<(dY h x).1.last then made++[(dY h x).1.last]else made)=if 0<(dB s x).2.1 then made++[(dB s x).2.1]else made:=by
    rcases hm with⟨a,b,c⟩|⟨a,b⟩
    ·rw[if_pos a,if_pos b,c]
    ·rw[if_neg a,if_neg b]
   rw[em]
   exact aLk r0 g2 r2 fun y hy=>hf y (by simp[hy])
  ·rw[if_neg c,if_neg c];exact⟨r0,rfl⟩
theorem zN{au a:Int}(h:a≠au):∀l:List KMem,lW (oD au l) a=lW l a
 |[]=>rfl
 |m::l=>by
  have ih:=zN h l
  by_cases e:m.d.author=au
  ·rw[show oD au (m::l)=oD au l from List.filter_cons_of_neg (by simpa using e),ih]
   show _=if m.d.author=a then _ else _
   rw[if_neg (by rw[e];exact fun q=>h q.symm)]
  ·rw[show oD au (m::l)=m::oD au l from List.filter_cons_of_pos (by simpa using e)]
   show(if m.d.author=a then _ else _)=if m.d.author=a then _ else _
   rw[ih]
theorem aNx{X:KHs}{h:KRh}(g:XOk X)(r:RelX X h){au nu:Int}{al:List KAct}(hf:cO au nu al=true):RelX (eJ X au nu al) (eU h au nu al).1∧(eU h au nu al).2=(aE X.s al).2:=by
 obtain⟨h1,h2,h3,h4⟩:=fJ.1 hf
 obtain⟨e1,e2⟩:=aLk (s0:=X.s) (h0:=h) r.s (made:=[]) (k:=0) g.g r.s h4
 have e2':(eU h au nu al).2=(aE X.s al).2:=e2
 have hk:∀m∈(eU h au nu al).1.ds,(eJ X au nu al).done m.d.author=some m:=fun m hm=>by
  have hm:m∈(⟨⟨au,nu,al⟩,(eU h au nu al).2⟩:KMem)::oD au h.ds:=hm
  rcases List.mem_cons.1 hm with e|hm
  ·rw[e];show(if au=au then _ else _)=_;rw[if_pos rfl,e2']
  ·have hm2:=List.mem_filter.1 hm
   have hne:m.d.author≠au:=by simpa using hm2.2
   show(if m.d.author=au then _ else X.done m.d.author)=_
   rw[if_neg hne];exact r.k m hm2.1
 have hfi:∀a,lW (eU h au nu al).1.ds a=(eJ X au nu al).done a:=fun a=>by
  show(if au=a then some (⟨⟨au,nu,al⟩,(eU h au nu al).2⟩:KMem)else lW (oD au h.ds) a)=if a=au then _ else X.done a
  by_cases e:a=au
  ·rw[if_pos e,if_pos e.symm,e2']
  ·rw[if_neg e,if_neg fun q=>e q.symm,zN e,r.d]
 exact⟨⟨⟨e1.p,e1.o,e1.l,e1.u⟩,hfi,hk⟩,e2'⟩
theorem aIv(h:KRh)(au nu:Int)(al:List KAct):(eU h au nu al).1.ds.length≤h.ds.length+1:=by
 show(oD au h.ds).length+1≤_
 have:(oD au h.ds).length≤h.ds.length:=List.length_filter_le _ _
 omega
theorem aXu{X:KHs}{h:KRh}(g:XOk X)(r:RelX X h)(au nu:Int)(al:List KAct):
  ∃X1 h1 R e,sH X au nu al=(X1,R,e)∧kC h au nu al=(h1,R,e)∧RelX X1 h1∧h1.ds.length≤h.ds.length+1:=by
 unfold sH kC
 cases hf:cO au nu al with
 |false=>exact⟨X,h,dR,2,if_pos rfl,if_pos rfl,r,Nat.le_succ _⟩
 |true=>
  rw[if_neg (by decide),if_neg (by decide),r.d]
  have hc:=aNx g r hf
  have hl:=aIv h au nu al
  cases X.done au with
  |none=>exact⟨_,_,_,0,rfl,by rw[←hc.2],hc.1,hl⟩
  |some m=>
   show ∃X1 h1 R e,(if m.d.number=nu then(if m.d.acts=al then(X,m.r,(0:Int))else(X,dR,331))else if nu<m.d.number then(X,dR,332)else(eJ X au nu al,(aE X.s al).2,0))=(X1,R,e)∧(if m.d.number=nu then(if m.d.acts=al then(h,m.r,(0:Int))else(h,dR,331))else if nu<m.d.number then(h,dR,332)else((eU h au nu al).1,(eU h au nu al).2,0))=(h1,R,e)∧RelX X1 h1∧h1.ds.length≤h.ds.length+1
   by_cases e1:m.d.number=nu
   ·rw[if_pos e1,if_pos e1]
    by_cases e2:m.d.acts=al
    ·rw[if_pos e2,if_pos e2];exact⟨X,h,m.r,0,rfl,rfl,r,Nat.le_succ _⟩
    ·rw[if_neg e2,if_neg e2];exact⟨X,h,dR,331,rfl,rfl,r,Nat.le_succ _⟩
   ·rw[if_neg e1,if_neg e1]
    by_cases e2:nu<m.d.number
    ·rw[if_pos e2,if_pos e2];exact⟨X,h,dR,332,rfl,rfl,r,Nat.le_succ _⟩
    ·rw[if_neg e2,if_neg e2];exact⟨_,_,_,0,rfl,by rw[←hc.2],hc.1,hl⟩
theorem aCl{l m:List Int}(hs:l.Pairwise (· < ·))(hp:l.Perm m):sortI m=l:=vM hp.symm (hs.imp fun h=>Int.le_of_lt h)
theorem RelS.owners{X:KHs}{h:KRh}(r:RelS X.s h):sJ X=h.ps.map (·.owner):=by
 unfold sJ
 refine aCl (List.pairwise_map.2 r.p.s) ?_
 have:=r.p.p.map (·.1)
 rwa [List.map_map]at this
theorem RelS.holds{X:KHs}{h:KRh}(r:RelS X.s h):gW X=h.hs:=by
 unfold gW
 have e:sortI (X.s.hs.map (·.1))=h.hs.map (·.number):=by
  refine aCl (List.pairwise_map.2 r.o.s) ?_
  have:=r.o.p.map (·.1)
  rwa [List.map_map]at this
 rw[e,List.map_map]
 refine(List.map_congr_left fun p hp=> ?_).trans (List.map_id _)
 show mM X.s.hs p.number=p
 unfold mM
 rw[kK r.o.nd (k:=p.number) (v:=p) (r.o.p.mem_iff.1 (List.mem_map.2 ⟨p,hp,rfl⟩))]<;>rfl
theorem RelS.purse{X:KHs}{h:KRh}(r:RelS X.s h){p:KPu}(hp:p∈h.ps):iS X.s.ps p.owner=p.a:=by rw[←r.p.get];exact zO r.p.s hp
theorem RelX.last{X:KHs}{h:KRh}(r:RelX X h)(au:Int):uS X au=match lW h.ds au with|none=>(0,dR,false)|some m=>(m.d.number,m.r,true):=by
 unfold uS;rw[r.d]<;>cases X.done au<;>rfl
theorem aIx:RelX gV ⟨[],[],0,zeroA,[]⟩:=⟨⟨⟨List.Pairwise.nil,List.Perm.refl _⟩,⟨List.Pairwise.nil,List.Perm.refl _⟩,rfl,rfl⟩,fun _=>rfl,fun m h=>by cases h⟩
open Go Go.Sl Go.Proofs Go.Jn
section
variable {X:KHs}(h:XOk X)
include h
end
open Go Go.Sl Go.Proofs Go.Jn
def gZ{α:Type}(F:Fl α)(T:Nat)(p0:Option Addr)(c0:Nat)(xs0:List α)(p:Option Addr)(c:Nat)(xs:List α):bU:=fun h=>aK F T p c xs h∨(p=p0∧c=c0∧xs=xs0)
section
variable {α:Type}{F:Fl α}{T:Nat}{p0 p1 p2:Option Addr}{c0 c1 c2:Nat}{xs0 xs1 xs2:List α}
theorem fC{h:bQ}:gZ F T p0 c0 xs0 p0 c0 xs0 h:= .inr ⟨rfl,rfl,rfl⟩
theorem yE(h:bQ)(hr:aK F T p1 c1 xs1 h):gZ F T p0 c0 xs0 p1 c1 xs1 h:= .inl hr
theorem vI{a b:bQ}(hs:jF a b)(h:aK F T p1 c1 xs1 a):aK F T p1 c1 xs1 b:=by
 obtain⟨hl,h|⟨g,cap,cur,e,hg,h1,h2,h3,h4⟩⟩:=h
 ·exact⟨hl,.inl h⟩
 ·exact⟨hl,.inr ⟨g,cap,cur,e,hs _ _ hg,h1,h2,h3,h4⟩⟩
theorem aYe{a b:bQ}(hs:jF a b)(h:gZ F T p0 c0 xs0 p1 c1 xs1 a):gZ F T p0 c0 xs0 p1 c1 xs1 b:=h.elim (fun h=> .inl (vI hs h)) .inr
theorem aCj:∀a,jE [gZ F T p1 c1 xs1 p2 c2 xs2,gZ F T p0 c0 xs0 p1 c1 xs1] a→gZ F T p0 c0 xs0 p2 c2 xs2 a:=fun a ha=>by
 obtain⟨a1,b1,_,s1,s2,h1,a2,b2,_,s3,_,h2,_⟩:=ha
 rcases h1 with h1|⟨rfl,rfl,rfl⟩
 ·exact .inl (vI s1 h1)
 ·exact aYe (s3.trans s2) h2
theorem aLt:∀a,jE [gZ F T p0 c0 xs0 p1 c1 xs1,aK F T p0 c0 xs0] a→aK F T p1 c1 xs1 a:=fun a ha=>by
 obtain⟨a1,b1,_,s1,s2,h1,a2,b2,_,s3,_,h2,_⟩:=ha
 rcases h1 with h1|⟨rfl,rfl,rfl⟩
 ·exact vI s1 h1
 ·exact vI (s3.trans s2) h2
theorem yY{β:Base}{L:List bU}(i:Nat)(hi:L[i]? =some (gZ F T p0 c0 xs0 p1 c1 xs1))(hs:Sl F.R β.heap (.slice p0 xs0.length c0) xs0):bH β L (fun h=>Sl F.R h (.slice p1 xs1.length c1) xs1):=fun h hb hr=>by
 obtain⟨a,ha,hra⟩:=hr _ (List.mem_of_getElem? hi)
 rcases hra with hra|⟨rfl,rfl,rfl⟩
 ·exact Sl.mono _ _ _ _ _ ha (jC hra)
 ·exact Sl.mono _ _ _ _ _ hb hs
theorem gA{α:Type}{R:Rp α}{h:bQ}{p:Option Addr}{n c:Nat}{xs:List α}(hs:Sl R h (.slice p n c) xs):n=xs.length∧n≤c∧c≤9223372036854775807∧dH R h p xs:=by
 obtain⟨a,c',e,h1,h2,h3⟩:=hs
 injection e with e1 e2 e3
 subst e1;subst e3
 exact⟨e2,by omega,h2,h3⟩
end
abbrev bDp(l:List KPu):Prop:=∀n,(dV l n).within=true
theorem jX:∀{l:List KPu},(∀p∈l,p.a.within=true)→bDp l
 |[],_,_=>rfl
 |p::l,h,n=>by
  unfold dV
  split
  ·exact h p (by simp)
  ·exact jX (fun q hq=>h q (by simp[hq])) n
theorem aBw{n:Int}{a:KAm}:∀{l:List KPu} {dn:Bool} {p:KPu},p∈cS n a dn l→p=⟨n,a⟩∨p∈l
 |[],dn,p,h=>by
  unfold cS at h
  split at h
  ·exact .inl (List.mem_singleton.1 h)
  ·cases h
 |q::l,dn,p,h=>by
  unfold cS at h
  rcases List.mem_append.1 h with h|h
  ·split at h
   ·exact .inl (List.mem_singleton.1 h)
   ·cases h
  ·rcases List.mem_append.1 h with h|h
   ·split at h
    ·cases h
    ·exact .inr (by simp[List.mem_singleton.1 h])
   ·rcases aBw h with h|h
    ·exact .inl h
    ·exact .inr (by simp[h])
theorem aKo{c:Prop}[Decidable c]{z:KPu}:(if c then [z]else []).length≤1:=by split<;>simp
theorem aIu{n:Int}{a:KAm}{l:List KPu}:(cS n a true l).length≤l.length:=by rw[qO];exact List.length_filter_le _ _
theorem qP{n:Int}{a:KAm}:∀{l:List KPu},(cS n a false l).length≤l.length+1
 |[]=>by unfold cS;exact Nat.le_trans aKo (by decide)
 |q::l=>by
  unfold cS
  have h2:(if q.owner=n then []else [q]).length≤1:=by split<;>simp
  have h3:=aKo (c:=false=false∧n≤q.owner∧¬a=zeroA) (z:=⟨n,a⟩)
  rw[List.length_append,List.length_append,List.length_cons,Bool.false_or]
  by_cases c:n≤q.owner
  ·rw[decide_eq_true c]
   have:=aIu (n:=n) (a:=a) (l:=l)
   omega
  ·have h1:=qP (n:=n) (a:=a) (l:=l)
   rw[decide_eq_false c,if_neg (c:=false=false∧n≤q.owner∧¬a=zeroA) (fun q=>c q.2.1)]
   show 0+_≤_
   omega
structure RbOk(h:KRh):Prop where
 p:∀q∈h.ps,q.a.within=true
 o:∀q∈h.hs,q.a.within=true
 u:h.su.bd 1099511627776
 l:0≤h.last
 pn:h.ps.length≤256
 hn:h.hs.length≤128
theorem RelS.rb{s:KSt}{h:KRh}(r:RelS s h)(g:Good2 s):RbOk h where
 p q hq:=(g.p.pk _ (r.p.p.mem_iff.1 (List.mem_map.2 ⟨q,hq,rfl⟩))).2.1
 o q hq:=(g.h.hk _ (r.o.p.mem_iff.1 (List.mem_map.2 ⟨q,hq,rfl⟩))).2.2.2.2
 u:=by rw[r.u];have:=g.sup;unfold KAm.bd;omega
 l:=by rw[r.l];exact g.l0
 pn:=by have:=r.p.p.length_eq;rw[List.length_map]at this;rw[this];exact g.p.pn
 hn:=by have:=r.o.p.length_eq;rw[List.length_map]at this;rw[this];exact g.h.hn
structure DoMid(h:KRh)(x:KAct)(to:Int)(am:KAm)(out:KRh):Prop where
 e:dY h x=vE h out to am
 w:bDp out.ps
 a:am.within=true
 n:out.ps.length≤600
section
variable {h:KRh}{x:KAct}(b:RbOk h)(hx:x.formed=true)
theorem aAk{l:List KPu}{n:Int}{a:KAm}(hl:∀q∈l,q.a.within=true)(ha:a.within=true):∀q∈cS n a false l,q.a.within=true:=fun q hq=>by
 rcases aBw hq with rfl|hq
 ·exact ha
 ·exact hl q hq
theorem wL{h0 out:KRh}{am:KAm}:vE h0 out 0 am=(out,0):=if_neg (by decide)
include b hx
theorem bIa(k:x.kind=1):DoMid h x x.owner x.a {h with su:=h.su.plus x.a 1}:=by
 refine⟨?_,jX b.p,cX hx,Nat.le_trans b.pn (by decide)⟩
 unfold dY;rw[k];exact if_pos rfl
theorem bIb(k:x.kind=2)(w:(gU h x).within=true):DoMid h x 0 x.a {h with ps:=cS x.owner (gU h x) false h.ps,su:=h.su.plus x.a (-1)}:=by
 refine⟨?_,jX (aAk b.p w),cX hx,Nat.le_trans qP (Nat.le_trans (Nat.succ_le_succ b.pn) (by decide))⟩
 rw[wL];unfold dY;rw[k]
 exact(if_neg (by decide)).trans ((if_pos rfl).trans (if_pos w))
theorem bIc(k:x.kind=3)(w:(gU h x).within=true):DoMid h x x.other x.a {h with ps:=cS x.owner (gU h x) false h.ps}:=by
 refine⟨?_,jX (aAk b.p w),cX hx,Nat.le_trans qP (Nat.le_trans (Nat.succ_le_succ b.pn) (by decide))⟩
 unfold dY;rw[k]
 exact(if_neg (by decide)).trans ((if_neg (by decide)).trans ((if_pos rfl).trans (if_pos w)))
theorem bId(k:x.kind=4)(w:(gU h x).within=true)(hn:¬128≤h.hs.length):DoMid h x 0 x.a {h with ps:=cS x.owner (gU h x) false h.ps,hs:=h.hs++[⟨h.last+1,x.owner,x.a⟩],last:=h.last+1}:=by
 refine⟨?_,jX (aAk b.p w),cX hx,Nat.le_trans qP (Nat.le_trans (Nat.succ_le_succ b.pn) (by decide))⟩
 rw[wL];unfold dY;rw[k]
 exact(if_neg (by decide)).trans ((if_neg (by decide)).trans ((if_neg (by decide)).trans ((if_pos rfl).trans ((if_pos w).trans (if_neg hn)))))
theorem bIg(k:x.kind=7)(w:(gU h x).within=true):DoMid h x 0 x.a h:=by
 refine⟨?_,jX b.p,cX hx,Nat.le_trans b.pn (by decide)⟩
 rw[wL];unfold dY;rw[k]
 exact(if_neg (by decide)).trans ((if_neg (by decide)).trans ((if_neg (by decide)).trans ((if_neg (by decide)).trans ((if_pos rfl).trans (if_pos w)))))
theorem aJx(k:x.kind=2∨x.kind=3∨x.kind=4∨x.kind=7)(w:¬(gU h x).within=true):dY h x=(h,330):=by
 have _:=b;have _:=hx
 unfold dY
 rcases k with k|k|k|k<;>rw[k]
 ·exact(if_neg (by decide)).trans ((if_pos rfl).trans (if_neg w))
 ·exact(if_neg (by decide)).trans ((if_neg (by decide)).trans ((if_pos rfl).trans (if_neg w)))
 ·exact(if_neg (by decide)).trans ((if_neg (by decide)).trans ((if_neg (by decide)).trans ((if_pos rfl).trans (if_neg w))))
 ·exact(if_neg (by decide)).trans ((if_neg (by decide)).trans ((if_neg (by decide)).trans ((if_neg (by decide)).trans ((if_pos rfl).trans (if_neg w)))))
theorem bEh(k:x.kind=4)(w:(gU h x).within=true)(hn:128≤h.hs.length):dY h x=(h,5):=by
 have _:=b;have _:=hx
 unfold dY;rw[k]
 exact(if_neg (by decide)).trans ((if_neg (by decide)).trans ((if_neg (by decide)).trans ((if_pos rfl).trans ((if_pos w).trans (if_pos hn)))))
theorem aQg(k:x.kind=5∨x.kind=6):dY h x=if(mJ x.hold h.hs).length=h.hs.length then(h,6)else vE h {h with hs:=mJ x.hold h.hs} (if(x.kind.toNat:Int)=6 then x.other else(tP x.hold h.hs (0,x.a)).1) (tP x.hold h.hs (0,x.a)).2:=by
 have _:=b;have _:=hx
 unfold dY
 rcases k with k|k<;>rw[k]
 ·exact(if_neg (by decide)).trans ((if_neg (by decide)).trans ((if_neg (by decide)).trans ((if_neg (by decide)).trans (if_neg (by decide)))))
 ·exact(if_neg (by decide)).trans ((if_neg (by decide)).trans ((if_neg (by decide)).trans ((if_neg (by decide)).trans (if_neg (by decide)))))
theorem aZv(k:x.kind=5∨x.kind=6)(hn:(mJ x.hold h.hs).length=h.hs.length):dY h x=(h,6):=(aQg b hx k).trans (if_pos hn)
omit b hx in
theorem aEc{n:Int}:∀{l:List KHo} {d:Int×KAm},(∀q∈l,q.a.within=true)→d.2.within=true→(tP n l d).2.within=true
 |[],_,_,h=>h
 |q::l,d,hl,h=>by
  unfold tP
  refine aEc (fun z hz=>hl z (by simp[hz])) ?_
  split
  ·exact hl q (by simp)
  ·exact h
theorem bIe(k:x.kind=5){to:Int}{am:KAm}{l:List KHo}(hr:(to,am)=tP x.hold h.hs (0,x.a))(hl:l=mJ x.hold h.hs)(hn:¬l.length=h.hs.length):DoMid h x to am {h with hs:=l}:=by
 subst hl
 have e1:to=(tP x.hold h.hs (0,x.a)).1:=congrArg (·.1) hr
 have e2:am=(tP x.hold h.hs (0,x.a)).2:=congrArg (·.2) hr
 refine⟨?_,jX b.p,by rw[e2];exact aEc b.o (cX hx),Nat.le_trans b.pn (by decide)⟩
 rw[aQg b hx (.inl k),if_neg hn,if_neg (by rw[k];decide),e1,e2]
theorem bIf(k:x.kind=6){to:Int}{am:KAm}{l:List KHo}(hr:(to,am)=tP x.hold h.hs (0,x.a))(hl:l=mJ x.hold h.hs)(hn:¬l.length=h.hs.length):DoMid h x x.other am {h with hs:=l}:=by
 subst hl
 have e2:am=(tP x.hold h.hs (0,x.a)).2:=congrArg (·.2) hr
 refine⟨?_,jX b.p,by rw[e2];exact aEc b.o (cX hx),Nat.le_trans b.pn (by decide)⟩
 rw[aQg b hx (.inr k),if_neg hn,if_pos (by rw[k];rfl),e2]
end
section
variable {h out:KRh}{x:KAct}{to:Int}{am:KAm}(m:DoMid h x to am out)
include m
theorem aIl(ht:¬0<to):dY h x=(out,0):=m.e.trans (if_neg ht)
theorem aRz(ht:0<to)(hb:((dV out.ps to).plus am 1).within=true→256<(cS to ((dV out.ps to).plus am 1) false out.ps).length):dY h x=(h,4):=by
 rw[m.e];unfold vE
 rw[if_pos ht,if_pos]
 cases e:((dV out.ps to).plus am 1).within with
 |false=>rfl
 |true=>show(false||_)=true;rw[Bool.false_or];exact decide_eq_true (hb e)
theorem bCi(ht:0<to)(h1:((dV out.ps to).plus am 1).within=true)(h2:¬256<(cS to ((dV out.ps to).plus am 1) false out.ps).length):dY h x=({out with ps:=cS to ((dV out.ps to).plus am 1) false out.ps},0):=by
 rw[m.e];unfold vE
 rw[if_pos ht,if_neg]
 rw[h1];show ¬(false||_)=true;rw[Bool.false_or,decide_eq_false h2];decide
end
theorem zP{n:Int}{y:KHo}:∀{l:List KHo} {d:Int×KAm},tP n (l++[y]) d=if y.number=n then(y.owner,y.a)else tP n l d
 |[],d=>by show tP n [y] d=_;unfold tP tP;rfl
 |q::l,d=>by show tP n (l++[y]) _=_;rw[zP];rfl
section
variable {hs:List KHo}{k:Nat}{y:KHo}{n:Int}{d:Int×KAm}
theorem aDj(hy:hs[k]? =some y)(e:y.number=n):mJ n (hs.take (k+1))=mJ n (hs.take k)∧tP n (hs.take (k+1)) d=(y.owner,y.a):=by
 rw[iY hy]
 refine⟨?_,by rw[zP,if_pos e]⟩
 unfold mJ;rw[List.filter_append,List.filter_cons_of_neg (by simpa using e)];simp
theorem xU(hy:hs[k]? =some y)(e:¬y.number=n):mJ n (hs.take (k+1))=mJ n (hs.take k)++[y]∧tP n (hs.take (k+1)) d=tP n (hs.take k) d:=by
 rw[iY hy]
 refine⟨?_,by rw[zP,if_neg e]⟩
 unfold mJ;rw[List.filter_append,List.filter_cons_of_pos (by simpa using e)];rfl
end
open Go Go.Sl Go.Proofs Go.Jn
def fT(j i:Nat):Value→Option Addr| .tuple ⟨l⟩=>(match l[j]?.getD .nilFunc with| .agg a=>dC (a.toList[i]?.getD .nilFunc)|_=>none)|_=>none
def fU(j i:Nat):Value→Nat| .tuple ⟨l⟩=>(match l[j]?.getD .nilFunc with| .agg a=>dE (a.toList[i]?.getD .nilFunc)|_=>0)|_=>0
theorem aTs{s:KSt}{out:KRh}{x:KAct}(g:Good2 s)(r:RelS s out)(hx:x.formed=true)(he:(dY out x).2=0):∃s',RelS s' (dY out x).1∧Good2 s'∧(dY out x).1.last≤out.last+1:=by
 obtain⟨e1,e2⟩:=aTh g r hx
 obtain⟨r2,_⟩:=e2 (e1▸he)
 obtain⟨g2,l2,_⟩:=tI g hx (e1▸he)
 exact⟨_,r2,g2,by rw[r2.l,r.l];exact l2⟩
abbrev gD(au:Int)(l:List KMh):List KMh:=l.filter fun y=>decide (y.author≠au)
section
variable {hd:List KMh}{k:Nat}{y:KMh}{au:Int}
theorem bCd(hy:hd[k]? =some y)(e:y.author≠au):gD au (hd.take (k+1))=gD au (hd.take k)++[y]:=by
 rw[iY hy];unfold gD;rw[List.filter_append,List.filter_cons_of_pos (by simpa using e)];rfl
theorem bEu(hy:hd[k]? =some y)(e:y.author=au):gD au (hd.take (k+1))=gD au (hd.take k):=by
 rw[iY hy];unfold gD;rw[List.filter_append,List.filter_cons_of_neg (by simpa using e)];simp
theorem bCc:(gD au (hd.take k)).length≤hd.length:=Nat.le_trans (List.length_filter_le _ _) (by rw[List.length_take];omega)
end
def mE:List KMh→Int→Option KMh
 |[],_=>none
 |m::l,au=>if m.author=au then some m else mE l au
theorem bBx{hd:List KMh}{k:Nat}{au:Int}(h:hd.length≤k):mE (hd.drop k) au=none:=by rw[List.drop_eq_nil_of_le h];rfl
theorem aKi{hd:List KMh}{k:Nat}{y:KMh}{au:Int}(hy:hd[k]? =some y):mE (hd.drop k) au=if y.author=au then some y else mE (hd.drop (k+1)) au:=by
 obtain⟨hk,rfl⟩:=List.getElem?_eq_some_iff.1 hy
 rw[List.drop_eq_getElem_cons hk];rfl
theorem aKj{zs:List (KMh×KMem)}(hz:∀z∈zs,HdOf z){au:Int}:mE (zs.map (·.1)) au=none→lW (zs.map (·.2)) au=none:=by
 induction zs with
 |nil=>exact fun _=>rfl
 |cons z zs ih=>
  intro h
  have h:(if z.1.author=au then some z.1 else mE (zs.map (·.1)) au)=none:=h
  show(if z.2.d.author=au then some z.2 else lW (zs.map (·.2)) au)=none
  have e:=(hz z (by simp)).au
  rw[e]at h
  split at h
  ·cases h
  ·rename_i hn;rw[if_neg hn];exact ih (fun y hy=>hz y (by simp[hy])) h
theorem aKk{zs:List (KMh×KMem)}(hz:∀z∈zs,HdOf z){au:Int}{m:KMh}:mE (zs.map (·.1)) au=some m→∃mm,(m,mm)∈zs∧lW (zs.map (·.2)) au=some mm:=by
 induction zs with
 |nil=>intro h;cases h
 |cons z zs ih=>
  intro h
  have h:(if z.1.author=au then some z.1 else mE (zs.map (·.1)) au)=some m:=h
  show ∃mm,(m,mm)∈z::zs∧(if z.2.d.author=au then some z.2 else lW (zs.map (·.2)) au)=some mm
  have e:=(hz z (by simp)).au
  rw[e]at h
  split at h
  ·rename_i hn;rw[if_pos hn];injection h with h;subst h;exact⟨z.2,by simp,rfl⟩
  ·rename_i hn;rw[if_neg hn]
   obtain⟨mm,h1,h2⟩:=ih (fun y hy=>hz y (by simp[hy])) h
   exact⟨mm,by simp[h1],h2⟩
theorem aKr{zs:List (KMh×KMem)}(hz:∀z∈zs,HdOf z){au:Int}:gD au (zs.map (·.1))=(zs.filter fun z=>decide (z.1.author≠au)).map (·.1)∧oD au (zs.map (·.2))=(zs.filter fun z=>decide (z.1.author≠au)).map (·.2):=by
 unfold gD oD
 rw[List.filter_map,List.filter_map]
 refine⟨congrArg _ (List.filter_congr fun z _=>rfl),congrArg _ (List.filter_congr fun z hzz=> ?_)⟩
 show decide (z.2.d.author≠au)=decide (z.1.author≠au)
 rw[(hz z hzz).au]
section
variable {al bl:List KAct}{k:Nat}{sm:Bool}
theorem aQc:decide (al.length=bl.length)=decide (al.length=bl.length∧al.take 0=bl.take 0):=by simp
theorem aQb{x y:KAct}(hx:al[k]? =some x)(hy:bl[k]? =some y)(h:true=decide (al.length=bl.length∧al.take k=bl.take k)):decide (x=y)=decide (al.length=bl.length∧al.take (k+1)=bl.take (k+1)):=by
 have h:=of_decide_eq_true h.symm
 rw[List.take_add_one,List.take_add_one,hx,hy,h.2]
 by_cases e:x=y
 ·subst e;simp[h.1]
 ·rw[decide_eq_false e,decide_eq_false]
  intro q
  have:=List.append_cancel_left q.2
  simp at this
  exact e this
theorem aQa(hk:bl.length≤k)(h:sm=decide (al.length=bl.length∧al.take k=bl.take k)):sm=decide (al=bl):=by
 rw[h]
 by_cases e:al=bl
 ·subst e;simp
 ·rw[decide_eq_false e,decide_eq_false]
  intro q
  rw[List.take_of_length_le (by omega),List.take_of_length_le (by omega)]at q
  exact e q.2
theorem aVo(hs:sm=false)(h:sm=decide (al.length=bl.length∧al.take k=bl.take k)):sm=decide (al=bl):=by
 rw[hs]
 rw[hs]at h
 by_cases e:al=bl
 ·subst e;simp at h
 ·rw[decide_eq_false e]
end
theorem aPi{al:List KAct}{k:Nat}{x:KAct}(hx:al[k]? =some x):(!(al.take (k+1)).any fun z=> !z.formed)=((!(al.take k).any fun z=> !z.formed)&&x.formed):=by
 rw[iY hx,List.any_append]
 cases(al.take k).any fun z=> !z.formed<;>cases h:x.formed<;>simp[h]
section
variable {h:KRh}{au nu:Int}{al:List KAct}
theorem aVg(hf:cO au nu al=false):kC h au nu al=(h,dR,2):=if_pos hf
theorem aPk(hf:cO au nu al=true){m:KMem}(hm:lW h.ds au=some m)(h1:m.d.number=nu)(h2:m.d.acts=al):kC h au nu al=(h,m.r,0):=by
 unfold kC;rw[hf,if_neg (by decide),hm];show(if _ then(if _ then _ else _)else _)=_;rw[if_pos h1,if_pos h2]
theorem aMh(hf:cO au nu al=true){m:KMem}(hm:lW h.ds au=some m)(h1:m.d.number=nu)(h2:¬m.d.acts=al):kC h au nu al=(h,dR,331):=by
 unfold kC;rw[hf,if_neg (by decide),hm];show(if _ then(if _ then _ else _)else _)=_;rw[if_pos h1,if_neg h2]
theorem aVi(hf:cO au nu al=true){m:KMem}(hm:lW h.ds au=some m)(h1:¬m.d.number=nu)(h2:nu<m.d.number):kC h au nu al=(h,dR,332):=by
 unfold kC;rw[hf,if_neg (by decide),hm];show(if _ then _ else if _ then _ else _)=_;rw[if_neg h1,if_pos h2]
theorem aVh(hf:cO au nu al=true){m:KMem}(hm:lW h.ds au=some m)(h1:¬m.d.number=nu)(h2:¬nu<m.d.number):kC h au nu al=((eU h au nu al).1,(eU h au nu al).2,0):=by
 unfold kC;rw[hf,if_neg (by decide),hm];show(if _ then _ else if _ then _ else _)=_;rw[if_neg h1,if_neg h2]
theorem aMg(hf:cO au nu al=true)(hm:lW h.ds au=none):kC h au nu al=((eU h au nu al).1,(eU h au nu al).2,0):=by
 unfold kC;rw[hf,if_neg (by decide),hm]
end
def YIn(zs:List (KMh×KMem))(q:Option Addr)(k:Nat)(hl:List Int):Prop:=(hl=[]∧q=none∧k=0)∨∃z∈zs,z.1.q=q∧z.1.k=k∧z.2.r.holds=hl
theorem YIn.sl{zs:List (KMh×KMem)}{q:Option Addr}{k:Nat}{hl:List Int}{a:bQ}(h:YIn zs q k hl)(hm:∀z∈zs,MOk a z):Sl aZ.R a (.slice q hl.length k) hl:=by
 rcases h with⟨rfl,rfl,rfl⟩|⟨z,hz,rfl,rfl,rfl⟩
 ·exact⟨none,0,rfl,Nat.le_refl _,by decide,fun j x hx=>by simp at hx⟩
 ·have h1:=(hm z hz).holds
  have h2:=(gA h1).1
  rw[h2]at h1;exact h1
def vG(p1:Option Addr)(c1:Nat)(p2:Option Addr)(c2:Nat)(p3:Option Addr)(c3:Nat)(h:KRh):bU:=fun a=>∃zs,h.ds=zs.map (·.2)∧(∀z∈zs,HdOf z)∧jE [aK kF 128 p1 c1 h.ps,aK fG 130 p2 c2 h.hs,aK xF 122 p3 c3 (zs.map (·.1)),dG zs] a
def aGv(p1:Option Addr)(c1:Nat)(p2:Option Addr)(c2:Nat)(p3:Option Addr)(c3:Nat)(h:KRh)(q:Option Addr)(k:Nat)(hl:List Int):bU:=fun a=>vG p1 c1 p2 c2 p3 c3 h a∧Sl aZ.R a (.slice q hl.length k) hl
theorem St.openRef{β:Base}{p1 p2 p3:Option Addr}{c1 c2 c3:Nat}{h:KRh}{M:List bU}{w:World}(hw:St β (vG p1 c1 p2 c2 p3 c3 h::M) w):∃zs,h.ds=zs.map (·.2)∧(∀z∈zs,HdOf z)∧St β ([aK kF 128 p1 c1 h.ps,aK fG 130 p2 c2 h.hs,aK xF 122 p3 c3 (zs.map (·.1)),dG zs]++M) w:=by
 obtain⟨ho,ht,hp,a,hd,hs,hs',q,r,h1,h2,h3,⟨zs,e1,e2,hx⟩,h5⟩:=hw
 exact⟨zs,e1,e2,St.unbun ⟨ho,ht,hp,a,hd,hs,hs',q,r,h1,h2,h3,hx,h5⟩⟩
theorem jE.bun{A M:List bU}{r:bU}{a:bQ}(hr:∀a,jE A a→r a)(h:jE (A++M) a):jE (r::M) a:=by
 obtain⟨x,y,hd,sx,sy,hA,hM⟩:=jE.append.1 h
 exact⟨x,y,hd,sx,sy,hr x hA,hM⟩
theorem aRy{zs zs':List (KMh×KMem)}(hs:∀z∈zs',z∈zs){a:bQ}(h:dG zs a):dG zs' a:=fun z hz=>h z (hs z hz)
theorem bCh{T:Nat}{au nu:Int}{al:List KAct}{R:KRes}{pa q:Option Addr}{ca k:Nat}{zs:List (KMh×KMem)}{a:bQ}(h:jE [aK cJ T pa ca al,aK aZ 3 q k R.holds,dG zs] a):
  dG ((⟨au,nu,pa,al.length,ca,R.done,R.at_,R.e,q,R.holds.length,k⟩,⟨⟨au,nu,al⟩,R⟩)::zs.filter fun z=>decide (z.1.author≠au)) a:=by
 refine aRy (fun z hz=> ?_) (uU (au:=au) (nu:=nu) (at_:=R.at_) (e:=R.e) (dn:=R.done) a h)
 rcases List.mem_cons.1 hz with rfl|hz
 ·simp
 ·exact List.mem_append_left _ (List.mem_filter.1 hz).1
open Go Go.Sl Go.Proofs Go.Jn
def rK(H S:Nat)(X:KHs)(N:Nat)(p:Int)(e z:Nat):bU:=fun h=>∃J mp mh mm s ms zs i k,HOk X s ms zs i k N (e*218000+z)∧k.power=p∧i.epoch=e∧i.size=z∧jE (hL H S J mp mh mm s ms zs i k false false) h
theorem St.openE{β:Base}{H S N e z:Nat}{p:Int}{X:KHs}{M:List bU}{w:World}(h:St β (rK H S X N p e z::M) w):∃J mp mh mm s ms zs i k,HOk X s ms zs i k N (e*218000+z)∧k.power=p∧i.epoch=e∧i.size=z∧St β (hL H S J mp mh mm s ms zs i k false false++M) w:=by
 obtain⟨ho,ht,hp,a,hd,hs,hs',q,r,h1,h2,h3,⟨J,mp,mh,mm,s,ms,zs,i,k,hk,hw,h4,h5,hx⟩,h6⟩:=h
 exact⟨J,mp,mh,mm,s,ms,zs,i,k,hk,hw,h4,h5,St.unbun ⟨ho,ht,hp,a,hd,hs,hs',q,r,h1,h2,h3,hx,h6⟩⟩
theorem St.closeE{β:Base}{H S N J mp mh mm:Nat}{X:KHs}{s:KSt}{ms:List (Int×KMh)}{zs:List (KMh×KMem)}{i:KI}{k:KS}{M:List bU}{w:World}(hk:HOk X s ms zs i k N (i.epoch*218000+i.size)){p:Int}(hp:k.power=p)(h:St β (hL H S J mp mh mm s ms zs i k false false++M) w):St β (rK H S X N p i.epoch i.size::M) w:=
 h.merge fun _ h=>⟨J,mp,mh,mm,s,ms,zs,i,k,hk,hp,rfl,rfl,h⟩
theorem SOk.self{X:KHs}{i:KI}{k:KS}{N W:Nat}{x:Bool}(h:SOk X i k N W x):SOk X i k N (i.epoch*218000+i.size) x:=⟨h.inv,Nat.le_refl _,h.img,h.ok,h.last⟩
theorem HOk.self{X:KHs}{s:KSt}{ms:List (Int×KMh)}{zs:List (KMh×KMem)}{i:KI}{k:KS}{N W:Nat}(h:HOk X s ms zs i k N W):HOk X s ms zs i k N (i.epoch*218000+i.size):=⟨h.eq,h.so.self,h.mm⟩
theorem St.toE{β:Base}{H S N W:Nat}{p:Int}{X:KHs}{M:List bU}{w:World}(h:St β (cV H S X N W p::M) w):∃e z,e*218000+z≤W∧St β (rK H S X N p e z::M) w:=by
 obtain⟨J,mp,mh,mm,s,ms,zs,i,k,h1,h2,h3⟩:=St.openHouse h
 exact⟨i.epoch,i.size,h1.so.ep,St.closeE h1.self h2 h3⟩
theorem St.ofE{β:Base}{H S N e z W:Nat}{p:Int}{X:KHs}{M:List bU}{w:World}(hW:e*218000+z≤W)(h:St β (rK H S X N p e z::M) w):St β (cV H S X N W p::M) w:=by
 obtain⟨J,mp,mh,mm,s,ms,zs,i,k,h1,h2,_,_,h3⟩:=St.openE h
 exact St.closeHouse (h1.mono (Nat.le_refl _) hW) h2 h3
theorem St.toE2{β:Base}{H S N W:Nat}{p:Int}{X:KHs}{M:List bU}{w:World}(h:St β (cV H S X N W p::M) w):∃e z,e*218000+z≤W∧(N≤400→z+494≤262144)∧St β (rK H S X N p e z::M) w:=by
 obtain⟨J,mp,mh,mm,s,ms,zs,i,k,h1,h2,h3⟩:=St.openHouse h
 exact⟨i.epoch,i.size,h1.so.ep,fun hN=>by have:=h1.so.small hN (bs:=List.replicate 470 0) (Nat.le_of_eq List.length_replicate);rw[List.length_replicate]at this;omega,St.closeE h1.self h2 h3⟩
section
variable {P:Program}{ro:Option Nat}{n:Nat}{ds:List Deferred}{β:Base}{Q:Exit→Act→World→Prop}{f:Fm}{L:List bU}
end
theorem aJs{k:KS}{e n:Nat}{bs:Bs}(h:k.power= -1):qB k e n bs∧(pU k e n bs).power= -1:=by
 have h1:mV k e:= .inr (by rw[h];decide)
 have p1:(wB k e).power= -1:=by
  show kW _ k.power _= -1
  unfold kW fX;rw[h];split<;>rfl
 have h2:qU k e n bs:=by unfold qU kV Jn.pw;rw[p1];rfl
 have p2:(oI k e n bs).power= -1:=by show pl (wB k e).power _= -1;unfold pl;rw[p1];rfl
 have p3:(oJ k e n bs).power= -1:=by unfold oJ;simp only;split<;>exact p2
 have h3:aFn k e n bs:=by unfold aFn kV Jn.pw;rw[p3];rfl
 refine⟨⟨h1,h2,h3⟩,?_⟩
 unfold pU
 rw[if_pos h1,if_pos h2]
 show pl (oJ k e n bs).power _= -1
 unfold pl;rw[p3];rfl
theorem aPy{i:KI}{bs:Bs}(h:bs.length≤43300):(uI i bs).size≤43324:=by show 24+bs.length≤_;omega
theorem HOk.ck{X:KHs}{s:KSt}{ms:List (Int×KMh)}{zs:List (KMh×KMem)}{i:KI}{k:KS}{N W:Nat}(h:HOk X s ms zs i k N W)(hN:N≤1000000)(hW:W≤54000000){bs:Bs}(hb:bs.length≤43300)(hs:StB X bs)(h0:bs≠[])(hc:qB k (i.epoch+1) i.next bs):
 HOk X s ms zs (uI i bs) (pU k (i.epoch+1) i.next bs) (N+1) ((uI i bs).epoch*218000+(uI i bs).size):=⟨h.eq,(h.so.ck hN hW hb hs h0 hc).self,h.mm⟩
theorem SOk.epoch{X:KHs}{i:KI}{k:KS}{N W:Nat}{x:Bool}(h:SOk X i k N W x)(hW:W≤54000000):i.epoch<4611686018427387903:=by
 have:=h.ep
 have h2:i.epoch*218000≤54000000:=Nat.le_trans (Nat.le_add_right _ _) (Nat.le_trans this hW)
 have h3:i.epoch*1≤i.epoch*218000:=Nat.mul_le_mul_left _ (by decide)
 rw[Nat.mul_one]at h3
 exact Nat.lt_of_le_of_lt (Nat.le_trans h3 h2) (by decide)
theorem SOk.fit{X:KHs}{i:KI}{k:KS}{N W:Nat}{x:Bool}(h:SOk X i k N W x)(hN:N≤1000000):k.fits 524288:=h.inv.fits hN
theorem SOk.last16{X:KHs}{i:KI}{k:KS}{N W:Nat}{x:Bool}(h:SOk X i k N W x)(hN:N≤1000000):X.s.last≤16000000:=by have:=h.last;omega
open Go Go.Sl Go.Proofs Go.Jn
def bAd:List Bool→List UInt8→Nat→List UInt8
 |[],xs,_=>xs
 |b::l,xs,n=>bAd l (vB xs n (aHv (if b then 1 else 0) 0 n)) (n+1)
theorem aLc:∀(l:List Bool) {xs:List UInt8} {n:Nat} {m:List Bool},Wr xs n m→Wr (bAd l xs n) (n+l.length) (m++l)
 |[],_,_,_,h=>by rw[List.append_nil];exact h
 |b::l,xs,n,m,h=>by
  have h1:=aLh (v:=if b then 1 else 0) (j:=0) h (by decide)
  have e:(if b then(1:UInt64)else 0).toNat.testBit 0=b:=by cases b<;>rfl
  rw[e]at h1
  have:=aLc l h1
  rw[List.length_cons,show n+(l.length+1)=n+1+l.length by omega,show m++b::l=m++[b]++l by simp]
  exact this
theorem aOx{xs ys:List UInt8}{n:Nat}{l:List Bool}(h:Wr xs n l)(g:Wr ys n l):xs=ys:=by
 have hl:xs.length=ys.length:=h.len.trans g.len.symm
 refine List.ext_getElem hl fun k h1 h2=>UInt8.toNat_inj.1 (Nat.eq_of_testBit_eq fun i=> ?_)
 by_cases hi:i<8
 ·have e:=(h.bit (8*k+(7-i))).trans (g.bit (8*k+(7-i))).symm
  unfold nS at e
  rw[show(8*k+(7-i))/8=k by omega,show 7-(8*k+(7-i))%8=i by omega,List.getD_eq_getElem?_getD,List.getD_eq_getElem?_getD,List.getElem?_eq_getElem h1,List.getElem?_eq_getElem h2]at e
  exact e
 ·have z:∀x:UInt8,x.toNat.testBit i=false:=fun x=>Nat.testBit_lt_two_pow (Nat.lt_of_lt_of_le x.toNat_lt (Nat.pow_le_pow_right (by decide) (by omega)))
  rw[z,z]
open Go Go.Sl Go.Proofs Go.Jn
section
variable {P:Program}{ro:Option Nat}{n:Nat}{ds:List Deferred}{β:Base}{Q:Exit→Act→World→Prop}{f:Fm}{L:List bU}
end
open Go Go.Sl Go.Proofs Go.Jn
theorem fN(a:KAm)(k:Nat):(lZ a k).length=k+k+k+k:=by simp[lZ,dF];omega
theorem aPe(x:KAct):(aCv x).length=225:=by simp[aCv,dF,fN]
theorem aAy:∀l:List KAct,(uF l).length=225*l.length
 |[]=>rfl
 |x::l=>by show(aCv x++uF l).length=_;rw[List.length_append,aPe,aAy l,List.length_cons];omega
theorem eX(au nu:Int)(al:List KAct):(kR au nu al).length=57+225*al.length:=by simp[kR,dF,aAy];omega
theorem iD:∀l:List (Int×KAm),(qX l).length=141*l.length
 |[]=>rfl
 |p::l=>by show(aM (U p.1) 17++(lZ p.2 31++qX l)).length=_;simp only[List.length_append,dF,fN,iD l,List.length_cons];omega
theorem iB:∀l:List (Int×KHo),(sV l).length=189*l.length
 |[]=>rfl
 |p::l=>by show(aM (U p.1) 48++(aM (U p.2.owner) 17++(lZ p.2.a 31++sV l))).length=_;simp only[List.length_append,dF,fN,iB l,List.length_cons];omega
theorem iC:∀l:List Int,(nsL l).length=48*l.length
 |[]=>rfl
 |n::l=>by show(aM (U n) 48++nsL l).length=_;simp only[List.length_append,dF,iC l,List.length_cons];omega
theorem aRw{m:KMem}(h:MemFit m):(xK m).length≤4459:=by
 have h1:=h.d.few;have h2:=h.few
 simp only[xK,List.length_append,dF,iC,eX];omega
theorem aDr:∀l:List (Int×KMem),(∀p∈l,MemFit p.2)→(tF l).length≤4459*l.length
 |[],_=>Nat.le_refl _
 |p::l,h=>by
  have h1:=aRw (h p (by simp))
  have h2:=aDr l fun q hq=>h q (by simp[hq])
  show(xK p.2++tF l).length≤_
  rw[List.length_append,List.length_cons];omega
theorem aLg:∀(l:List (Int×KAm)) (p:Int×KAm),qX (l++[p])=qX l++(aM (U p.1) 17++lZ p.2 31)
 |[],p=>by show aM (U p.1) 17++(lZ p.2 31++[])=_;rw[List.append_nil];rfl
 |q::l,p=>by show aM (U q.1) 17++(lZ q.2 31++qX (l++[p]))=aM (U q.1) 17++(lZ q.2 31++qX l)++_;rw[aLg l p];simp only[List.append_assoc]
theorem aKl:∀(l:List (Int×KHo)) (p:Int×KHo),sV (l++[p])=sV l++(aM (U p.1) 48++(aM (U p.2.owner) 17++lZ p.2.a 31))
 |[],p=>by show aM (U p.1) 48++(aM (U p.2.owner) 17++(lZ p.2.a 31++[]))=_;rw[List.append_nil];rfl
 |q::l,p=>by show aM (U q.1) 48++(aM (U q.2.owner) 17++(lZ q.2.a 31++sV (l++[p])))=aM (U q.1) 48++(aM (U q.2.owner) 17++(lZ q.2.a 31++sV l))++_;rw[aKl l p];simp only[List.append_assoc]
theorem aLa:∀(l:List Int) (n:Int),nsL (l++[n])=nsL l++aM (U n) 48
 |[],n=>by show aM (U n) 48++[]=_;rw[List.append_nil];rfl
 |m::l,n=>by show aM (U m) 48++nsL (l++[n])=aM (U m) 48++nsL l++_;rw[aLa l n,List.append_assoc]
theorem aKx:∀(l:List (Int×KMem)) (p:Int×KMem),tF (l++[p])=tF l++xK p.2
 |[],p=>by show xK p.2++[]=_;rw[List.append_nil];rfl
 |q::l,p=>by show xK q.2++tF (l++[p])=xK q.2++tF l++_;rw[aKx l p,List.append_assoc]
noncomputable def mG (s:KSt):List (Int×KAm):=(sortI (s.ps.map (·.1))).map fun n=>(n,iS s.ps n)
noncomputable def nM (s:KSt):List (Int×KHo):=(sortI (s.hs.map (·.1))).map fun n=>(n,mM s.hs n)
def aRx(X:KHs)(n:Int):KMem:=(X.done n).getD ⟨⟨0,0,[]⟩,dR⟩
noncomputable def nZ (X:KHs) (ms:List (Int×KMh)):List (Int×KMem):=(sortI (ms.map (·.1))).map fun n=>(n,aRx X n)
theorem aGj{ν:Type}{ks:List (Int×ν)}{f:Int→ν}(h:∀p∈ks,f p.1=p.2):(ks.map (·.1)).map (fun n=>(n,f n))=ks:=by
 rw[List.map_map]
 conv=>rhs;rw[←List.map_id ks]
 refine List.map_congr_left fun p hp=> ?_
 show(p.1,f p.1)=p
 rw[h p hp]
theorem zK{s:KSt}(hn:(s.ps.map (·.1)).Nodup):s.ps.Perm (mG s):=by
 have h1:=((sortI_perm (s.ps.map (·.1))).map fun n=>(n,iS s.ps n)).symm
 rwa [aGj (f:=iS s.ps) fun p hp=>by unfold iS;rw[kK (v:=p.2) hn hp];rfl]at h1
theorem yV{s:KSt}(hn:(s.hs.map (·.1)).Nodup):s.hs.Perm (nM s):=by
 have h1:=((sortI_perm (s.hs.map (·.1))).map fun n=>(n,mM s.hs n)).symm
 rwa [aGj (f:=mM s.hs) fun p hp=>by unfold mM;rw[kK (v:=p.2) hn hp];rfl]at h1
theorem aSb{X:KHs}{ms:List (Int×KMh)}{zs:List (KMh×KMem)}(h:MmOk X ms zs)(hn:(ms.map (·.1)).Nodup):MsOf X (nZ X ms) where
 nd:=by
  unfold nZ
  rw[List.map_map]
  show((sortI (ms.map (·.1))).map id).Nodup
  rw[List.map_id]
  exact(sortI_perm _).nodup_iff.2 hn
 mem:=fun a m=>by
  unfold nZ
  rw[List.mem_map]
  constructor
  ·intro hm
   obtain⟨hd,h1,_,_⟩:=h.found hm
   refine⟨a,(sortI_perm _).mem_iff.2 (List.mem_map.2 ⟨_,kS h1,rfl⟩),?_⟩
   unfold aRx;rw[hm];rfl
  ·rintro⟨n,hn',e⟩
   injection e with e1 e2
   subst e1
   have hk:=(sortI_perm _).mem_iff.1 hn'
   obtain⟨p,hp,hpn⟩:=List.mem_map.1 hk
   have hl:=kK (K:=dW) hn (k:=p.1) (v:=p.2) hp
   obtain⟨m',h3,h4⟩:=h.some_ p.1 p.2 hl
   rw[←hpn]at e2⊢
   unfold aRx at e2
   rw[h4]at e2⊢
   exact congrArg some e2
theorem bEx{X:KHs}{ms:List (Int×KMh)}{zs:List (KMh×KMem)}(h:MmOk X ms zs)(hn:(ms.map (·.1)).Nodup){k:Nat}{n:Int}(hk:(sortI (ms.map (·.1)))[k]? =some n):∃hd mal mhl,(dW.look ms n).getD xE=hd∧LkOk X ms zs n hd mal mhl∧hd.n=mal.length∧hd.m=mhl.length∧
  X.done n=some ⟨⟨hd.author,hd.number,mal⟩,⟨hd.done,hd.at_,hd.e,mhl⟩⟩:=by
 obtain⟨hd,mal,mhl,h1,h2,h3,h4⟩:=h.lk n
 have hk:=(sortI_perm _).mem_iff.1 (List.mem_of_getElem? hk)
 obtain⟨p,hp,hpn⟩:=List.mem_map.1 hk
 have hl:=kK (K:=dW) hn (k:=p.1) (v:=p.2) hp
 rw[hpn]at hl
 obtain⟨m,g1,g2,g3,g4,g5⟩:=h2.yes (by rw[hl];rfl)
 refine⟨hd,mal,mhl,h1,h2,h3,h4,?_⟩
 have a:=g3.dn;have b:=g3.at_;have c:=g3.e;have d:=g3.au;have e:=g3.nu
 rw[g1]
 obtain⟨⟨au,nu,al⟩,⟨dn,at_,e_,hl_⟩⟩:=m
 simp only at a b c d e g4 g5
 rw[a,b,c,d,e,g4,g5]
theorem aXc{X:KHs}{ms:List (Int×KMh)}{k:Nat}{n:Int}{m:KMem}(hk:(sortI (ms.map (·.1)))[k]? =some n)(hm:X.done n=some m):tF ((nZ X ms).take (k+1))=tF ((nZ X ms).take k)++xK m:=by
 have h1:(nZ X ms)[k]? =some (n,m):=by
  unfold nZ
  rw[List.getElem?_map,hk]
  show some (n,aRx X n)=_
  unfold aRx;rw[hm];rfl
 rw[←jR h1,aKx]
theorem aXl{s:KSt}{k:Nat}{n:Int}(hk:(sortI (s.ps.map (·.1)))[k]? =some n):qX ((mG s).take (k+1))=qX ((mG s).take k)++(aM (U n) 17++lZ (iS s.ps n) 31)∧(n,iS s.ps n)∈mG s:=by
 have h1:(mG s)[k]? =some (n,iS s.ps n):=by
  unfold mG
  rw[List.getElem?_map,hk];rfl
 exact⟨by rw[←jR h1,aLg],List.mem_of_getElem? h1⟩
theorem aWj{s:KSt}{k:Nat}{n:Int}(hk:(sortI (s.hs.map (·.1)))[k]? =some n):sV ((nM s).take (k+1))=sV ((nM s).take k)++(aM (U n) 48++(aM (U (mM s.hs n).owner) 17++lZ (mM s.hs n).a 31))∧(n,mM s.hs n)∈nM s:=by
 have h1:(nM s)[k]? =some (n,mM s.hs n):=by
  unfold nM
  rw[List.getElem?_map,hk];rfl
 exact⟨by rw[←jR h1,aKl],List.mem_of_getElem? h1⟩
theorem uZ(s:KSt):(mG s).length=s.ps.length:=by unfold mG;rw[List.length_map,(sortI_perm _).length_eq,List.length_map]
theorem uQ(s:KSt):(nM s).length=s.hs.length:=by unfold nM;rw[List.length_map,(sortI_perm _).length_eq,List.length_map]
theorem uV(X:KHs)(ms:List (Int×KMh)):(nZ X ms).length=ms.length:=by unfold nZ;rw[List.length_map,(sortI_perm _).length_eq,List.length_map]
abbrev wrL(wb:Nat)(p:Option Addr)(c:Nat)(xs:List UInt8)(n:Nat):List bU:=[pt wb (.cells #[.slice p xs.length c,Nx n] 139),aK hG 5 p c xs]
def xP(wb:Nat)(l:List Bool):bU:=fun h=>∃p c xs,Wr xs l.length l∧jE (wrL wb p c xs l.length) h
theorem St.openWr{β:Base}{wb:Nat}{l:List Bool}{M:List bU}{w:World}(h:St β (xP wb l::M) w):∃p c xs,Wr xs l.length l∧St β (wrL wb p c xs l.length++M) w:=by
 obtain⟨ho,ht,hp,a,hd,hs,hs',q,r,h1,h2,h3,⟨p,c,xs,hk,hx⟩,h5⟩:=h
 exact⟨p,c,xs,hk,St.unbun ⟨ho,ht,hp,a,hd,hs,hs',q,r,h1,h2,h3,hx,h5⟩⟩
theorem St.closeWr{β:Base}{wb:Nat}{p:Option Addr}{c n:Nat}{xs:List UInt8}{l:List Bool}{M:List bU}{w:World}(hr:Wr xs n l)(hn:n=l.length)(h:St β (wrL wb p c xs n++M) w):St β (xP wb l::M) w:=by
 subst hn
 exact h.merge fun _ h=>⟨p,c,xs,hr,h⟩
theorem aOw{wb:Nat}(a:bQ)(h:jE (wrL wb none 0 [] 0) a):xP wb [] a:=⟨none,0,[],aJn,h⟩
open Go Go.Sl Go.Proofs Go.Jn
noncomputable def aGz (l:List TOp):Nat→KHs
 |0=>gV
 |k+1=>match l[k]? with
  |some o=>eJ (aGz l k) (aGa o) ((1+k:Nat):Int) (bEp o)
  |none=>aGz l k
theorem aOc{l:List TOp}{k:Nat}{o:TOp}(h:l[k]? =some o):aGz l (k+1)=eJ (aGz l k) (aGa o) ((1+k:Nat):Int) (bEp o):=by
 show(match l[k]? with|some o=>_|none=>_)=_
 rw[h]
theorem aEg(l:List TOp):∀k a,5≤a→(aGz l k).done a=none
 |0,_,_=>rfl
 |k+1,a,ha=>by
  cases e:l[k]? with
  |none=>
   have:aGz l (k+1)=aGz l k:=by show(match l[k]? with|some o=>_|none=>_)=_;rw[e]
   rw[this];exact aEg l k a ha
  |some o=>
   rw[aOc e,vZ _ _ _ (by have:=aQs o;omega)]
   exact aEg l k a ha
def N50(Y:KHs)(j:Nat):Prop:=∀m,Y.done 50=some m→m.d.number≤(j:Int)
theorem N50.zero(l:List TOp)(i:Nat):N50 (aGz l i) 0:=fun m h=>by rw[aEg l i 50 (by decide)]at h;cases h
theorem N50.next{Y:KHs}{j:Nat}(al:List KAct):N50 (eJ Y 50 ((1+j:Nat):Int) al) (j+1):=fun m h=>by
 rw[nU]at h
 injection h with h;subst h
 show((1+j:Nat):Int)≤((j+1:Nat):Int)
 omega
def mkL(n:Int):List Int:=if 0<n then [n]else []
theorem aIm{x:KAct}(h:x.formed=true){j:Nat}(hj:j≤100):cO 50 ((1+j:Nat):Int) [x]=true:=
 fJ.2 ⟨by omega,by omega,by simp,fun y hy=>by rw[List.mem_singleton.1 hy];exact h⟩
theorem aSm{s:KSt}{x:KAct}(h:(dB s x).2.2=0):aE s [x]=((dB s x).1,⟨true,0,0,mkL (dB s x).2.1⟩):=by
 unfold aE jY
 rw[if_pos h]
 unfold mkL jY
 split<;>rfl
structure InnOk(s0 s:KSt)(al:List KAct)(j:Nat)(made:List Int)(Y:KHs):Prop where
 r:jY s0 Y.s made j (al.drop j)=aE s0 al
 n:N50 Y j
theorem aTq{s0:KSt}:∀{xs:List KAct} {s:KSt} {made:List Int} {k:Nat},(jY s0 s made k xs).2.done=true∨((k:Nat):Int)≤(jY s0 s made k xs).2.at_
 |[],_,_,_=> .inl rfl
 |x::xs,s,made,k=>by
  unfold jY
  split
  ·rcases aTq (s0:=s0) (xs:=xs) (s:=(dB s x).1) (made:=if 0<(dB s x).2.1 then made++[(dB s x).2.1]else made) (k:=k+1)with h|h
   ·exact .inl h
   ·exact .inr (by omega)
  ·exact .inr (Int.le_refl _)
section
variable {s0 s:KSt}{al:List KAct}{j:Nat}{made:List Int}{Y:KHs}{x:KAct}(h:InnOk s0 s al j made Y)(hx:al[j]? =some x)
include h
theorem InnOk.over(hj:al.length≤j):aE s0 al=(Y.s,⟨true,0,0,made⟩):=by rw[←h.r,aLq hj]
include hx
theorem InnOk.next(he:(dB Y.s x).2.2=0):InnOk s0 s al (j+1) (made++mkL (dB Y.s x).2.1) (eJ Y 50 ((1+j:Nat):Int) [x]):=by
 refine⟨?_,N50.next _⟩
 rw[←h.r,zY hx he]
 have:(eJ Y 50 ((1+j:Nat):Int) [x]).s=(dB Y.s x).1:=by show(aE Y.s [x]).1=_;rw[aSm he]
 rw[this]
 unfold mkL
 split<;>simp
theorem InnOk.good(he:(dB Y.s x).2.2=0):(aE s0 al).2.done=true∨((j:Nat):Int)<(aE s0 al).2.at_:=by
 have h2:=(h.next hx he).r
 rw[←h2]
 rcases aTq (s0:=s0) (xs:=al.drop (j+1)) (s:=(eJ Y 50 ((1+j:Nat):Int) [x]).s) (made:=made++mkL (dB Y.s x).2.1) (k:=j+1)with q|q
 ·exact .inl q
 ·exact .inr (by omega)
theorem InnOk.bad(he:¬(dB Y.s x).2.2=0):(aE s0 al).2=⟨false,((j:Nat):Int),(dB Y.s x).2.2,[]⟩:=by rw[←h.r,aLp hx he]
theorem InnOk.do_ok(hf:x.formed=true)(hj:j≤100)(he:(dB Y.s x).2.2=0):sH Y 50 ((1+j:Nat):Int) [x]=(eJ Y 50 ((1+j:Nat):Int) [x],⟨true,0,0,mkL (dB Y.s x).2.1⟩,0):=by
 have _:=hx
 rw[uL (aIm hf hj) (fun m hm=>by have:=h.n m hm;omega),aSm he]
end
structure WhOk(X X1 Y:KHs)(R:KRes)(made:List Int):Prop where
 done:R.done=true→Y.s=X1.s∧made=R.holds
end Go.Td
namespace Go.Sl
section
variable {H:Type}{enc:TypeId×Value→H}{P:Program}{w:World}{base:Nat}{spare:Nat→Bool}{held:Bool}
end
end Go.Sl
namespace Go.Proofs
open Go Go.Sl Go.Td
open Go.ChangeShapes Go.ChangeAt Go.RowKit
theorem c3:Tryz.prog.cellsOf 3=1:=by kernel_rfl
theorem c5:Tryz.prog.cellsOf 5=1:=by kernel_rfl
end Go.Proofs
