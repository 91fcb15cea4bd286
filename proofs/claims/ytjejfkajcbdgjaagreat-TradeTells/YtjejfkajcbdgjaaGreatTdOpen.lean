/-
  Own work; plain Lean (TdRd, TdRef3, TdKept, TdRef4, TdRef5, TdHouE, TdWrt, TdWh, TdOpen).
-/
import Derived.Test.YtjejfkajcbdgjaaGreatTd6
import Derived.Shelf.Small.Bits
import Derived.Shelf.Small.Wraps
import Derived.Shelf.Strconv.Itoa0
import Derived.Shelf.Sort.Plain
import Derived.Ground.Names2Prog
import Derived.Shelf.Slices.SearchI
import Derived.Shelf.Slices.In.SortNone
import Derived.Test.YtjejfkajcbdgjaaGreatProg
import Derived.ProofKit
import Derived.OpenShut
import Derived.Deep.Slices
import Derived.Laws.IdiomArrays
import Derived.SizedLaws
set_option linter.all false
namespace Go.Sl
theorem bAl(x:UInt8)(s:Nat)(hs:s<8):((x.toNat:Int)).fdiv (2^(min ((s:Int)).toNat IntKind.u8.bits))=((x>>>UInt8.ofNat s).toNat:Int):=by
 have e:(UInt8.ofNat s).toNat%8=s:=by simp;omega
 have hm:min ((s:Int)).toNat IntKind.u8.bits=s:=by simp[IntKind.bits];omega
 rw[hm,UInt8.toNat_shiftRight,e,Nat.shiftRight_eq_div_pow,Int.fdiv_eq_ediv_of_nonneg _ (by exact_mod_cast Nat.zero_le _)]
 push_cast;rfl
theorem bAj(x y:UInt8):IntKind.u8.wrap ((BitVec.ofInt IntKind.u8.bits (x.toNat:Int)&&&BitVec.ofInt IntKind.u8.bits (y.toNat:Int)).toNat:Int)=((x&&&y).toNat:Int):=by
 rw[aJc,aJc,u8w]
 have h:=(x&&&y).toNat_lt
 show(((x&&&y).toNat:Nat):Int)%256=_
 omega
end Go.Sl
namespace Go.Td
open Go Go.Sl Go.Proofs Go.Jn
theorem aWy{xs:List UInt8}{n j:Nat}{x:UInt8}(h:xs[(n+j)/8]? =some x):(zB xs n j<<<(1:UInt64))|||(x>>>UInt8.ofNat (7-(n+j)%8)&&&(1:UInt8)).toUInt64=zB xs n (j+1):=by
 show _=(zB xs n j<<<(1:UInt64))|||aAq xs (n+j)
 unfold aAq
 rw[List.getD_eq_getElem?_getD,h];rfl
structure Fits(v:Int)(k:Nat):Prop where
 f:k=64∨(0≤v∧v<2^k∧k<64)
 w:0≤v∧v≤9223372036854775807
theorem Fits.k64{v:Int}{k:Nat}(h:Fits v k):k≤64:=by rcases h.f with h|h<;>omega
theorem fL{v:Int}{k:Nat}(hk:k<64)(h0:0≤v)(h:v<2^k):Fits v k:=by
 refine⟨.inr ⟨h0,h,hk⟩,?_⟩
 have:(2:Int)^k≤2^63:=by exact_mod_cast Nat.pow_le_pow_right (by decide) (by omega:k≤63)
 omega
theorem bDx{v:Int}(h:0≤v∧v≤9223372036854775807):IntKind.i64.wrap ((U v).toNat:Int)=v:=by
 have hu:((U v).toNat:Int)=v:=by
  unfold U
  rw[UInt64.toNat_ofNat_of_lt' (by show(v%18446744073709551616).toNat<2^64;omega)]
  omega
 rw[hu]
 exact uB (by omega)
def amK(a:KAm)(k:Nat)(r:List Bool):List Bool:=aJ (U a.a0) k++(aJ (U a.a1) k++(aJ (U a.a2) k++(aJ (U a.a3) k++r)))
def aUj(x:KAct)(r:List Bool):List Bool:=aJ (U ((x.kind.toNat:Nat):Int)) 3++(aJ (U x.owner) 17++(aJ (U x.other) 17++(aJ (U x.hold) 64++amK x.a 31 r)))
def kG:List KAct→List Bool→List Bool
 |[],r=>r
 |x::l,r=>aUj x (kG l r)
def aAw(au nu:Int)(al:List KAct)(r:List Bool):List Bool:=aJ (U au) 7++(aJ (U nu) 41++(aJ (U ((al.length:Nat):Int)) 9++kG al r))
def psK:List (Int×KAm)→List Bool→List Bool
 |[],r=>r
 |p::l,r=>aJ (U p.1) 17++amK p.2 31 (psK l r)
def hsK:List (Int×KHo)→List Bool→List Bool
 |[],r=>r
 |p::l,r=>aJ (U p.1) 48++(aJ (U p.2.owner) 17++amK p.2.a 31 (hsK l r))
def nsK:List Int→List Bool→List Bool
 |[],r=>r
 |n::l,r=>aJ (U n) 48++nsK l r
def aRh(m:KMem)(r:List Bool):List Bool:=aAw m.d.author m.d.number m.d.acts (aJ (U ((m.r.holds.length:Nat):Int)) 9++nsK m.r.holds (aJ (U m.r.at_) 9++(aJ (U m.r.e) 16++r)))
def tM:List (Int×KMem)→List Bool→List Bool
 |[],r=>r
 |p::l,r=>aRh p.2 (tM l r)
def stK(su:KAm)(last:Int)(ps:List (Int×KAm))(hs:List (Int×KHo))(ms:List (Int×KMem)):List Bool:=
 amK su 63 (aJ (U last) 48++(aJ (U ((ps.length:Nat):Int)) 9++psK ps (aJ (U ((hs.length:Nat):Int)) 9++hsK hs (aJ (U ((ms.length:Nat):Int)) 9++tM ms []))))
theorem aCl(a:KAm)(k:Nat)(r:List Bool):lN a k++r=amK a k r:=by simp[lN,amK]
theorem aUk(x:KAct)(r:List Bool):aCj x++r=aUj x r:=by simp[aCj,aUj,←aCl]
theorem aEm:∀(l:List KAct) (r:List Bool),tP l++r=kG l r
 |[],r=>rfl
 |x::l,r=>by show aCj x++tP l++r=aUj x (kG l r);rw[List.append_assoc,aEm l r,aUk]
theorem aFh(au nu:Int)(al:List KAct)(r:List Bool):kI au nu al++r=aAw au nu al r:=by simp[kI,aAw,←aEm]
theorem aSc:∀(l:List (Int×KAm)) (r:List Bool),qM l++r=psK l r
 |[],r=>rfl
 |p::l,r=>by show(aJ (U p.1) 17++(lN p.2 31++qM l))++r=aJ (U p.1) 17++amK p.2 31 (psK l r);rw[←aSc l r,←aCl];simp
theorem aQs:∀(l:List (Int×KHo)) (r:List Bool),sI l++r=hsK l r
 |[],r=>rfl
 |p::l,r=>by show(aJ (U p.1) 48++(aJ (U p.2.owner) 17++(lN p.2.a 31++sI l)))++r=aJ (U p.1) 48++(aJ (U p.2.owner) 17++amK p.2.a 31 (hsK l r));rw[←aQs l r,←aCl];simp
theorem aRt:∀(l:List Int) (r:List Bool),nsL l++r=nsK l r
 |[],r=>rfl
 |n::l,r=>by show(aJ (U n) 48++nsL l)++r=aJ (U n) 48++nsK l r;rw[←aRt l r,List.append_assoc]
theorem aWk(m:KMem)(r:List Bool):wV m++r=aRh m r:=by
 unfold wV aRh
 rw[←aFh,←aRt];simp
theorem aRq:∀(l:List (Int×KMem)) (r:List Bool),sS l++r=tM l r
 |[],r=>rfl
 |p::l,r=>by show(wV p.2++sS l)++r=aRh p.2 (tM l r);rw[←aRq l r,←aWk,List.append_assoc]
theorem bCa(su:KAm)(last:Int)(ps:List (Int×KAm))(hs:List (Int×KHo))(ms:List (Int×KMem)):gJ su last ps hs ms=stK su last ps hs ms:=by
 unfold gJ stK
 rw[←aRq,←aQs,←aSc,←aCl,List.append_nil]
theorem aSd{l:List (Int×KAm)}{k:Nat}{p:Int×KAm}{r:List Bool}(h:l[k]? =some p):psK (l.drop k) r=aJ (U p.1) 17++amK p.2 31 (psK (l.drop (k+1)) r):=by
 obtain⟨hk,rfl⟩:=List.getElem?_eq_some_iff.1 h;rw[List.drop_eq_getElem_cons hk];rfl
theorem aQt{l:List (Int×KHo)}{k:Nat}{p:Int×KHo}{r:List Bool}(h:l[k]? =some p):hsK (l.drop k) r=aJ (U p.1) 48++(aJ (U p.2.owner) 17++amK p.2.a 31 (hsK (l.drop (k+1)) r)):=by
 obtain⟨hk,rfl⟩:=List.getElem?_eq_some_iff.1 h;rw[List.drop_eq_getElem_cons hk];rfl
theorem aRu{l:List Int}{k:Nat}{n:Int}{r:List Bool}(h:l[k]? =some n):nsK (l.drop k) r=aJ (U n) 48++nsK (l.drop (k+1)) r:=by
 obtain⟨hk,rfl⟩:=List.getElem?_eq_some_iff.1 h;rw[List.drop_eq_getElem_cons hk];rfl
theorem aRr{l:List (Int×KMem)}{k:Nat}{p:Int×KMem}{r:List Bool}(h:l[k]? =some p):tM (l.drop k) r=aRh p.2 (tM (l.drop (k+1)) r):=by
 obtain⟨hk,rfl⟩:=List.getElem?_eq_some_iff.1 h;rw[List.drop_eq_getElem_cons hk];rfl
theorem aHe{l:List KAct}{k:Nat}{x:KAct}{r:List Bool}(h:l[k]? =some x):kG (l.drop k) r=aJ (U ((x.kind.toNat:Nat):Int)) 3++(aJ (U x.owner) 17++(aJ (U x.other) 17++(aJ (U x.hold) 64++amK x.a 31 (kG (l.drop (k+1)) r)))):=by
 obtain⟨hk,rfl⟩:=List.getElem?_eq_some_iff.1 h;rw[List.drop_eq_getElem_cons hk];rfl
abbrev rdL(rb:Nat)(p:Option Addr)(c:Nat)(xs:List UInt8)(n:Nat):List bU:=[pt rb (.cells #[.bool true,.slice p xs.length c,Nx n,Ix 0] 198),aM gQ 5 p c xs]
def fT(rb:Nat)(l:List Bool):bU:=fun h=>∃p c xs n,Rd xs n l∧xs.length≤65536∧iY (rdL rb p c xs n) h
theorem St.openRd{β:Base}{rb:Nat}{l:List Bool}{M:List bU}{w:World}(h:St β (fT rb l::M) w):∃p c xs n,Rd xs n l∧xs.length≤65536∧St β (rdL rb p c xs n++M) w:=by
 obtain⟨ho,ht,hp,a,hd,hs,hs',q,r,h1,h2,h3,⟨p,c,xs,n,hk,hl,hx⟩,h5⟩:=h
 exact⟨p,c,xs,n,hk,hl,St.unbun ⟨ho,ht,hp,a,hd,hs,hs',q,r,h1,h2,h3,hx,h5⟩⟩
theorem St.closeRd{β:Base}{rb:Nat}{p:Option Addr}{c:Nat}{xs:List UInt8}{n:Nat}{l:List Bool}{M:List bU}{w:World}(hr:Rd xs n l)(hl:xs.length≤65536)(h:St β (rdL rb p c xs n++M) w):St β (fT rb l::M) w:=
 h.merge fun _ h=>⟨p,c,xs,n,hr,hl,h⟩
theorem aXh(p:Option Addr)(c:Nat)(xs:List UInt8):row (.slice p xs.length c) 5 1 xs.length (BX xs)=aM gQ 5 p c xs:=by
 have:BX xs=xs.flatMap gQ.enc:=by
  induction xs with
  |nil=>rfl
  |cons x xs ih=>show Bx x::BX xs=Bx x::_;rw[ih];rfl
 rw[this]
end Go.Td
namespace Go.Proofs
open Go.Shelf
open Go.RowKit in
open Go.RowKit in
def Tryz.lays189_ren:Go.Shelf.Ren:=⟨fun|189=>78|125=>113|257=>112|128=>135|129=>136|294=>126|295=>127|296=>128|297=>129|298=>130|299=>131|216=>132|300=>133|301=>134|328=>143|329=>144|330=>145|331=>146|332=>147|215=>148|343=>152|n=>n,fun|28=>35|3=>3|46=>194|0=>0|51=>217|53=>172|4=>4|183=>209|182=>208|131=>214|5=>5|9=>9|218=>228|222=>232|228=>236|229=>237|n=>n,fun|n=>n⟩
theorem Tryz.lays189:Go.Proofs.Lays.n189 Tryz.prog Tryz.lays189_ren:={
 mixed:=by kernel_rfl
 f125:=Tryz.func113.trans (congrArg some (by kernel_rfl))
 f128:=Tryz.func135.trans (congrArg some (by kernel_rfl))
 f129:=Tryz.func136.trans (congrArg some (by kernel_rfl))
 f189:=Tryz.func78.trans (congrArg some (by kernel_rfl))
 f215:=Tryz.func148.trans (congrArg some (by kernel_rfl))
 f216:=Tryz.func132.trans (congrArg some (by kernel_rfl))
 f257:=Tryz.func112.trans (congrArg some (by kernel_rfl))
 f294:=Tryz.func126.trans (congrArg some (by kernel_rfl))
 f295:=Tryz.func127.trans (congrArg some (by kernel_rfl))
 f296:=Tryz.func128.trans (congrArg some (by kernel_rfl))
 f297:=Tryz.func129.trans (congrArg some (by kernel_rfl))
 f298:=Tryz.func130.trans (congrArg some (by kernel_rfl))
 f299:=Tryz.func131.trans (congrArg some (by kernel_rfl))
 f300:=Tryz.func133.trans (congrArg some (by kernel_rfl))
 f301:=Tryz.func134.trans (congrArg some (by kernel_rfl))
 f328:=Tryz.func143.trans (congrArg some (by kernel_rfl))
 f329:=Tryz.func144.trans (congrArg some (by kernel_rfl))
 f330:=Tryz.func145.trans (congrArg some (by kernel_rfl))
 f331:=Tryz.func146.trans (congrArg some (by kernel_rfl))
 f332:=Tryz.func147.trans (congrArg some (by kernel_rfl))
 f343:=Tryz.func152.trans (congrArg some (by kernel_rfl))
 t0:=Tryz.underlying0
 a0:=Tryz.isAgg0
 z0:=Tryz.sizeOf0
 v0:=Tryz.zeroValue0
 t3:=Tryz.underlying3
 a3:=Tryz.isAgg3
 z3:=Tryz.sizeOf3
 v3:=Tryz.zeroValue3
 t4:=Tryz.underlying4
 a4:=Tryz.isAgg4
 z4:=Tryz.sizeOf4
 v4:=Tryz.zeroValue4
 t5:=Tryz.underlying5
 a5:=Tryz.isAgg5
 z5:=Tryz.sizeOf5
 v5:=Tryz.zeroValue5
 t9:=Tryz.underlying9
 a9:=Tryz.isAgg9
 z9:=Tryz.sizeOf9
 v9:=Tryz.zeroValue9
 t28:=Tryz.underlying35
 a28:=Tryz.isAgg35
 z28:=Tryz.sizeOf35
 v28:=Tryz.zeroValue35
 t46:=Tryz.underlying194
 a46:=Tryz.isAgg194
 z46:=Tryz.sizeOf194
 v46:=Tryz.zeroValue194
 t51:=Tryz.underlying217
 a51:=Tryz.isAgg217
 z51:=Tryz.sizeOf217
 v51:=Tryz.zeroValue217
 t53:=Tryz.underlying172
 a53:=Tryz.isAgg172
 z53:=Tryz.sizeOf172
 v53:=Tryz.zeroValue172
 t131:=Tryz.underlying214
 a131:=Tryz.isAgg214
 z131:=Tryz.sizeOf214
 v131:=Tryz.zeroValue214
 t182:=Tryz.underlying208
 a182:=Tryz.isAgg208
 z182:=Tryz.sizeOf208
 v182:=Tryz.zeroValue208
 t183:=Tryz.underlying209
 a183:=Tryz.isAgg209
 z183:=Tryz.sizeOf209
 v183:=Tryz.zeroValue209
 t218:=Tryz.underlying228
 a218:=Tryz.isAgg228
 z218:=Tryz.sizeOf228
 v218:=Tryz.zeroValue228
 t222:=Tryz.underlying232
 a222:=Tryz.isAgg232
 z222:=Tryz.sizeOf232
 v222:=Tryz.zeroValue232
 t228:=Tryz.underlying236
 a228:=Tryz.isAgg236
 z228:=Tryz.sizeOf236
 v228:=Tryz.zeroValue236
 t229:=Tryz.underlying237
 a229:=Tryz.isAgg237
 z229:=Tryz.sizeOf237
 v229:=Tryz.zeroValue237}
open Go.Sort Go.RowKit in
theorem Tryz.slices_Sort_int(cU off cap:Nat)(zs:List Int)(w:World)(hH:Holds (Value.int .i64) w cU off zs.toArray)(hblk:cU<w.heap.size)(hsz:zs.length<4611686018427387904):
  Calls Tryz.prog 78 #[.slice (some ⟨cU,off,none⟩) zs.length cap] w fun e w'=>
   e= .returned (.tuple #[])∧∃n os,w'=grow (putRow (Value.int .i64) (Sort.ahead w n) cU off (zs.mergeSort fun x y=>decide (x≤y)).toArray) os:=Any.slices_Sort_int Tryz.lays189 cU off cap zs w hH hblk hsz
open Go.RowKit Go.Lib in
open Go.RowKit Go.Lib in
open Go.RowKit Go.Sort in
theorem Tryz.slices_Sort_int_none(p:Option Addr)(cap:Nat)(w:World):
 Calls Tryz.prog 78 #[.slice p 0 cap] w fun e w'=>e= .returned (.tuple #[])∧w'=w:=Any.slices_Sort_int_none Tryz.lays189 p cap w
end Go.Proofs
namespace Go.Sl
open Go.Sort
section
variable {α:Type}[Inhabited α]{β:Base}{L:List bU}{w:World}
theorem aBp{enc:α→Value}{T g m cap:Nat}{xs:List α}(h:St β (row (.slice (some ⟨g,0,none⟩) m cap) T 1 m (xs.map enc)::L) w):Holds enc w g 0 xs.toArray∧g<w.heap.size∧xs.length=m∧m≤cap∧cap≤maxLen:=by
 obtain⟨_,_,_,a,_,_,hs',hL⟩:=h
 obtain⟨a1,hs1,hl,hr⟩:=hL.each _ (List.mem_cons_self)
 rcases hr with⟨hr,_⟩|⟨g',cap',cur,e,hg,h1,h2,h3,h4⟩
 ·cases hr
 ·injection e with e1 e2 e3
  injection e1 with e1
  injection e1 with e1
  subst e1;subst e3
  have hb:w.heap[g]? =some (.cells cur T (0,0)):=hs' _ _ (hs1 _ _ hg)
  have hlen:xs.length=m:=by simpa using hl
  refine⟨fun j hj=> ?_,(Array.getElem?_eq_some_iff.1 hb).1,hlen,h1,h2⟩
  have hj':j<xs.length:=by simpa using hj
  have hc:cur[j]? =some (enc xs[j]):=by
   have h5:(cur.toList.take (m*1))[j]? =(xs.map enc)[j]? :=by rw[h4]
   rw[List.getElem?_take_of_lt (by omega)]at h5
   simpa[hj']using h5
  constructor
  ·show(match w.heap[g]? with|some (.cells c _ _)=>if(none:Option _).isSome then none else c[0+j]? |_=>none)=_
   rw[hb]
   simp[hc,hj']
  ·show(match w.heap[g]? with|some (.cells _ _ (lo,hi))=>decide (lo≤0+j)&&decide (0+j<hi)|_=>false)=_
   rw[hb]
   simp
theorem St.putRow{enc:α→Value}{T g m cap k:Nat}{xs ys:List α}{os:Array Obj}{q:Nat}(h:St β (row (.slice (some ⟨g,0,none⟩) m cap) T 1 m (xs.map enc)::L) w)(hys:ys.length=m)(hk:k≤m):
  St β (row (.slice (some ⟨g,0,none⟩) k cap) T 1 k ((ys.take k).map enc)::L) (Go.Sort.grow (Go.Sort.putRow enc (Go.Sort.ahead w q) g 0 ys.toArray) os):=by
 have hh:=aBp h
 refine h.turn rfl rfl rfl fun a ha hr=> ?_
 obtain⟨hl,hr⟩:=hr
 rcases hr with⟨hr,_⟩|⟨g',cap',cur,e,hg,h1,h2,h3,h4⟩
 ·cases hr
 ·injection e with e1 e2 e3
  injection e1 with e1
  injection e1 with e1
  subst e1;subst e3
  have hb:w.heap[g]? =some (.cells cur T (0,0)):=ha _ _ hg
  have hgs:=(Array.getElem?_eq_some_iff.1 hb).1
  have hw':∀k',k'<w.heap.size→(Go.Sort.grow (Go.Sort.putRow enc (Go.Sort.ahead w q) g 0 ys.toArray) os).heap[k']? =if k'=g then some (.cells (putCells enc 0 ys.toArray cur) T (0,0))else w.heap[k']? :=by
   intro k' hk'
   unfold Go.Sort.grow Go.Sort.putRow mapBlock Go.Sort.ahead
   simp only
   rw[Array.getElem?_append_left (by simpa using hk'),Array.getElem?_modify]
   by_cases e:g=k'
   ·subst e;simp[hb,onCells]
   ·simp[e,Ne.symm e]
  refine⟨fun k'=>if k'=g then some (.cells (putCells enc 0 ys.toArray cur) T (0,0))else none,?_,?_,?_⟩
  ·refine⟨by simp;omega,.inr ⟨g,cap,putCells enc 0 ys.toArray cur,rfl,by simp,by omega,h2,by simp[putCells,h3],?_⟩⟩
   apply List.ext_getElem?
   intro j
   by_cases hj:j<k
   ·rw[List.getElem?_take_of_lt (by omega)]
    have hjy:j<ys.length:=by omega
    have hjc:j<cur.size:=by omega
    simp[putCells,hjc,hjy,hj]
   ·rw[List.getElem?_eq_none (by simp;omega),List.getElem?_eq_none (by simp;omega)]
  ·intro k' x hx
   by_cases e:k'=g
   ·subst e;simp at hx;subst hx
    show(Go.Sort.grow _ os).heap[k']? =_
    rw[hw' k' hgs];simp
   ·simp[e]at hx
  ·intro k' hlt hak
   have hne:k'≠g:=by rintro rfl;rw[hg]at hak;cases hak
   exact⟨by simp[hne],by rw[hw' k' hlt];simp[hne]⟩
end
end Go.Sl
namespace Go.Proofs
open Go Go.Sl Go.Sort
theorem aXq(β:Base)(w:World)(v:Value)(zs:List Int)(hw:St β [row v 3 1 zs.length (zs.map fun z=>Ix z)] w)(hsz:zs.length<4611686018427387904):
  Calls Tryz.prog 78 #[v] w fun e w'=>e= .returned (.tuple #[])∧St β [row v 3 1 zs.length ((zs.mergeSort fun x y=>decide (x≤y)).map fun z=>Ix z)] w':=by
 obtain⟨hl,hr⟩:∃a,row v 3 1 zs.length (zs.map fun z=>Ix z) a:=by
  obtain⟨_,_,_,a,_,_,_,hL⟩:=hw
  obtain⟨a1,_,h⟩:=hL.each _ (List.mem_cons_self)
  exact⟨a1,h⟩
 rcases hr.2 with⟨rfl,h0⟩|⟨g,cap,cur,rfl,_⟩
 ·have hz:zs=[]:=List.eq_nil_of_length_eq_zero h0
  subst hz
  exact(Tryz.slices_Sort_int_none none 0 w).mono fun e w' ⟨h1,h2⟩=>⟨h1,by subst h2;rw[List.mergeSort_nil];exact hw⟩
 ·have hh:=aBp (enc:=fun z=>Ix z) hw
  refine(Tryz.slices_Sort_int g 0 cap zs w hh.1 hh.2.1 hsz).mono fun e w' ⟨h1,n,os,h2⟩=>⟨h1,?_⟩
  subst h2
  have h:=hw.putRow (enc:=fun z=>Ix z) (q:=n) (os:=os) (ys:=zs.mergeSort fun x y=>decide (x≤y)) (k:=zs.length) (by simp) (Nat.le_refl _)
  rw[List.take_of_length_le (by simp)]at h
  exact h
end Go.Proofs
namespace Go.Td
def sortI(l:List Int):List Int:=l.mergeSort fun x y=>decide (x≤y)
theorem sortI_perm(l:List Int):(sortI l).Perm l:=List.mergeSort_perm l _
theorem uW(l:List Int):(sortI l).Pairwise fun x y=>x≤y:=by
 have:=List.pairwise_mergeSort (le:=fun x y:Int=>decide (x≤y)) (fun a b c h1 h2=>by simp at*;omega) (fun a b=>by simp;omega) l
 exact this.imp fun h=>by simpa using h
theorem aNu{l m:List Int}(h:l.Perm m)(hl:l.Pairwise fun x y=>x≤y)(hm:m.Pairwise fun x y=>x≤y):l=m:=
 h.eq_of_pairwise (le:=(· ≤ ·)) (fun _ _ _ _ h1 h2=>Int.le_antisymm h1 h2) hl hm
theorem uV{l m:List Int}(h:l.Perm m)(hm:m.Pairwise fun x y=>x≤y):sortI l=m:=aNu ((sortI_perm l).trans h) (uW _) hm
end Go.Td
namespace Go.Proofs
open Go Go.Sl Go.Sort Go.Td
theorem aJr(xs:List Int):xs.flatMap bA.enc=xs.map fun z=>Ix z:=by
 induction xs with
 |nil=>rfl
 |cons x xs ih=>show Ix x::_=Ix x::_;rw[←ih];rfl
theorem aTi(β:Base)(w:World)(p:Option Addr)(c:Nat)(xs:List Int)(hw:St β [aM bA 3 p c xs] w)(hn:xs.length≤1048576):Calls Tryz.prog 78 #[.slice p xs.length c] w fun r w'=>r= .returned (.tuple #[])∧St β [aM bA 3 p c (Go.Td.sortI xs)] w':=by
 have hw1:St β [row (.slice p xs.length c) 3 1 xs.length (xs.map fun z=>Ix z)] w:=by rw[←aJr];exact hw
 refine(aXq β w _ xs hw1 (by omega)).mono ?_
 rintro r w' ⟨rfl,hw'⟩
 refine⟨rfl,?_⟩
 have hl:(Go.Td.sortI xs).length=xs.length:=(Go.Td.sortI_perm xs).length_eq
 show St β [row (.slice p (Go.Td.sortI xs).length c) 3 1 (Go.Td.sortI xs).length ((Go.Td.sortI xs).flatMap bA.enc)] w'
 rw[aJr,hl]
 exact hw'
end Go.Proofs
namespace Go.Td
open Go Go.Sl Go.Proofs Go.Jn
theorem tI{l m:List Int}(h:l.Perm m):sortI l=sortI m:=uV (h.trans (sortI_perm m).symm) (uW m)
noncomputable def rV (X:KHs):List Int:=sortI (X.s.ps.map (·.1))
noncomputable def gN (X:KHs):List KHo:=(sortI (X.s.hs.map (·.1))).map (mB X.s.hs)
def uD(X:KHs)(au:Int):Int×KRes×Bool:=match X.done au with|none=>(0,dK,false)|some m=>(m.d.number,m.r,true)
structure VOk(X:KHs)(s:KSt)(ms:List (Int×KMh))(zs:List (KMh×KMem)):Prop where
 eq:EqS s X.s
 mm:MmOk X ms zs
 ok:XOk X
theorem HOk.v{X:KHs}{s:KSt}{ms:List (Int×KMh)}{zs:List (KMh×KMem)}{i:KI}{k:KS}{N W:Nat}(h:HOk X s ms zs i k N W):VOk X s ms zs:=⟨h.eq,h.mm,h.so.ok⟩
section
variable {X:KHs}{s:KSt}{ms:List (Int×KMh)}{zs:List (KMh×KMem)}(h:VOk X s ms zs)
include h
theorem VOk.purse(n:Int):iJ s.ps n=iJ X.s.ps n:=rD h.eq.p h.eq.np n
theorem VOk.supply:s.su=X.s.su:=h.eq.u
theorem VOk.owners:sortI (s.ps.map (·.1))=rV X:=tI (h.eq.p.map _)
theorem VOk.holds:(sortI (s.hs.map (·.1))).map (mB s.hs)=gN X:=by
 unfold gN
 rw[tI (h.eq.h.map _)]
 exact List.map_congr_left fun n _=>yJ h.eq.h h.eq.nh n
theorem VOk.pfew:(s.ps.map (·.1)).length≤256:=by rw[List.length_map,h.eq.p.length_eq];exact h.ok.g.p.pn
theorem VOk.hfew:(s.hs.map (·.1)).length≤128:=by rw[List.length_map,h.eq.h.length_eq];exact h.ok.g.h.hn
end
abbrev vL(H J mp mh mm:Nat)(s:KSt)(ms:List (Int×KMh))(zs:List (KMh×KMem))(dn:Bool):List bU:=[pt H (.cells (aQn J mp mh mm s dn) 91),aZ bW mp s.ps,aZ bK mh s.hs,aZ dS mm ms,cV zs]
def fV(H J:Nat)(X:KHs)(dn:Bool):bU:=fun h=>∃mp mh mm s ms zs,VOk X s ms zs∧iY (vL H J mp mh mm s ms zs dn) h
theorem St.openView{β:Base}{H J:Nat}{X:KHs}{dn:Bool}{M:List bU}{w:World}(h:St β (fV H J X dn::M) w):∃mp mh mm s ms zs,VOk X s ms zs∧St β (vL H J mp mh mm s ms zs dn++M) w:=by
 obtain⟨ho,ht,hp,a,hd,hs,hs',q,r,h1,h2,h3,⟨mp,mh,mm,s,ms,zs,hk,hx⟩,h5⟩:=h
 exact⟨mp,mh,mm,s,ms,zs,hk,St.unbun ⟨ho,ht,hp,a,hd,hs,hs',q,r,h1,h2,h3,hx,h5⟩⟩
theorem St.closeView{β:Base}{H J mp mh mm:Nat}{X:KHs}{s:KSt}{ms:List (Int×KMh)}{zs:List (KMh×KMem)}{dn:Bool}{M:List bU}{w:World}(hk:VOk X s ms zs)(h:St β (vL H J mp mh mm s ms zs dn++M) w):St β (fV H J X dn::M) w:=
 h.merge fun _ h=>⟨mp,mh,mm,s,ms,zs,hk,h⟩
theorem St.splitHouse{β:Base}{H S N W:Nat}{p:Int}{X:KHs}{M:List bU}{w:World}(h:St β (cO H S X N W p::M) w):∃J i k,SOk X i k N W true∧k.power=p∧St β (fV H J X false::eV J S i false::aP S k::M) w:=by
 obtain⟨J,mp,mh,mm,s,ms,zs,i,k,h1,h2,h3⟩:=St.openHouse h
 exact⟨J,i,k,h1.so,h2,St.closeView (mp:=mp) (mh:=mh) (mm:=mm) (M:=eV J S i false::aP S k::M) h1.v (h3.perm (List.Perm.append_right M (aV (L':=vL H J mp mh mm s ms zs false++[eV J S i false,aP S k]) [0,3,4,5,6,1,2] 7 rfl (by kernel_rfl) (by kernel_rfl))))⟩
theorem St.joinHouse{β:Base}{H S J N W:Nat}{p:Int}{X:KHs}{i:KI}{k:KS}{M:List bU}{w:World}(hs:SOk X i k N W true)(hp:k.power=p)(h:St β (fV H J X false::eV J S i false::aP S k::M) w):St β (cO H S X N W p::M) w:=by
 obtain⟨mp,mh,mm,s,ms,zs,h1,h2⟩:=St.openView h
 exact St.closeHouse (J:=J) (mp:=mp) (mh:=mh) (mm:=mm) (M:=M) (i:=i) (k:=k) ⟨h1.eq,hs,h1.mm⟩ hp (h2.perm (List.Perm.append_right M (aV (L:=vL H J mp mh mm s ms zs false++[eV J S i false,aP S k]) (L':=hL H S J mp mh mm s ms zs i k false false) [0,5,6,1,2,3,4] 7 rfl (by kernel_rfl) (by kernel_rfl))))
section
variable {P:Program}{ro:Option Nat}{n:Nat}{ds:List Deferred}{β:Base}{Q:Exit→Act→World→Prop}{f:Fm}{L:List bU}
theorem aCs{c:Code}{H S N W:Nat}{p:Int}{X:KHs}{M:List bU}(hL':L=cO H S X N W p::M)(K:∀J i k,SOk X i k N W true→k.power=p→eA P ro n ds β c Q f (fV H J X false::eV J S i false::aP S k::M)):eA P ro n ds β c Q f L:=fun a w ha hw=>by
 subst hL'
 obtain⟨J,i,k,h1,h2,h⟩:=St.splitHouse hw
 exact K J i k h1 h2 a w ha h
end
theorem vR{P:Program}{fn:Nat}{args:Array Value}{β:Base}{H S N W:Nat}{p:Int}{X:KHs}{w:World}{Φ:Ending→List bU→Prop}(hw:St β [cO H S X N W p] w)
 (hv:∀β w J,St β [fV H J X false] w→Calls P fn args w fun r w'=>∃L,Φ r L∧St β (L++[fV H J X false]) w'):Calls P fn args w fun r w'=>∃L,Φ r L∧St β (L++[cO H S X N W p]) w':=by
 obtain⟨J,i,k,h1,h2,h3⟩:=St.splitHouse hw
 obtain⟨β1,sb,kn,hw1,back⟩:=St.frame (L:=[fV H J X false]) (M:=[eV J S i false,aP S k]) h3
 refine(hv β1 w J hw1).mono ?_
 rintro r w' ⟨L,hΦ,hw'⟩
 refine⟨L,hΦ,?_⟩
 have h4:=back _ _ hw'
 have h5:St β (fV H J X false::eV J S i false::aP S k::L) w':=h4.perm (by
  rw[List.append_assoc]
  exact List.perm_append_comm)
 exact(St.joinHouse h1 h2 h5).perm (List.perm_append_comm (l₁:=[cO H S X N W p]) (l₂:=L))
theorem LkOk.last{X:KHs}{ms:List (Int×KMh)}{zs:List (KMh×KMem)}{au:Int}{hd:KMh}{mal:List KAct}{mhl:List Int}(h:LkOk X ms zs au hd mal mhl):uD X au=(hd.number,⟨hd.done,hd.at_,hd.e,mhl⟩,(dS.look ms au).isSome):=by
 unfold uD
 cases e:(dS.look ms au).isSome with
 |true=>
  obtain⟨m,h2,_,h4,h5,h6⟩:=h.yes e
  rw[h2]
  show(m.d.number,m.r,true)=_
  have a:=h4.dn;have b:=h4.at_;have c:=h4.e
  have d:hd.number=m.d.number:=h4.nu
  cases hr:m.r
  rw[hr]at a b c h6
  simp only at a b c h6
  rw[a,b,c,d,←h6]
 |false=>
  obtain⟨h1,rfl,_,rfl⟩:=h.no e
  rw[h1];rfl
open Go Go.Sl Go.Proofs Go.Jn
section
variable {P:Program}{ro:Option Nat}{n:Nat}{ds:List Deferred}{β:Base}{Q:Exit→Act→World→Prop}{f:Fm}
theorem aJp{e:Exit}{L M:List bU}{r:bU}(hr:∀a,iY L a→r a)(k:iQ n ds β Q e f (r::M)):iQ n ds β Q e f (L++M):=fun a w ha hw=>k a w ha (St.merge hw hr)
theorem aCr{c:Code}{L M:List bU}{r:bU}(hr:∀a,iY L a→r a)(k:eA P ro n ds β c Q f (r::M)):eA P ro n ds β c Q f (L++M):=fun a w ha hw=>k a w ha (St.merge hw hr)
end
theorem jG{α:Type}{l:List α}{k:Nat}{x:α}(h:l[k]? =some x):l.take k++[x]=l.take (k+1):=(iP h).symm
section
variable {P:Program}{ν:Type}{K:MapK P Int ν}
theorem aGe{ks:List (Int×ν)}(hn:(ks.map (·.1)).Nodup){k:Nat}{p:Int×ν}{v:ν}(h:ks[k]? =some p)(hv:v=p.2):K.put (ks.take k) p.1 v=ks.take (k+1):=by
 subst hv
 have hnone:K.look (ks.take k) p.1=none:=by
  rw[iC]
  intro hm
  have h1:(ks.take k++[p]).map (·.1)=(ks.map (·.1)).take (k+1):=by rw[jG h,List.map_take]
  have h2:((ks.take k++[p]).map (·.1)).Nodup:=by rw[h1];exact hn.sublist (List.take_sublist _ _)
  rw[List.map_append,List.nodup_append]at h2
  exact h2.2.2 _ hm _ (by simp) rfl
 rw[nS hnone,←jG h]
end
theorem vT:∀(n:Nat) (l:List Int),l.Nodup→(∀x∈l,1≤x∧x≤(n:Int))→l.length≤n
 |0,l,_,h=>by
  cases l with
  |nil=>exact Nat.le_refl _
  |cons x l=>have:=h x (by simp);omega
 |n+1,l,hd,h=>by
  by_cases hm:((n+1:Nat):Int)∈l
  ·have hp:=List.perm_cons_erase hm
   have hd2:=hp.nodup_iff.1 hd
   rw[List.nodup_cons]at hd2
   have:=vT n (l.erase ((n+1:Nat):Int)) hd2.2 fun x hx=>by
    have h1:=h x (List.mem_of_mem_erase hx)
    have h2:x≠((n+1:Nat):Int):=fun e=>hd2.1 (e▸hx)
    omega
   rw[hp.length_eq,List.length_cons];omega
  ·have:=vT n l hd fun x hx=>by
    have h1:=h x hx
    have h2:x≠((n+1:Nat):Int):=fun e=>hm (e▸hx)
    omega
   omega
theorem zV{a:KAm}(h:a.within=true):Fits a.a0 31∧Fits a.a1 31∧Fits a.a2 31∧Fits a.a3 31:=by
 have:=nU.1 h
 exact⟨fL (by decide) (by omega) (by omega),fL (by decide) (by omega) (by omega),fL (by decide) (by omega) (by omega),fL (by decide) (by omega) (by omega)⟩
theorem aKl{n:Int}:fA n=true↔1≤n∧n≤65536:=by unfold fA;simp
structure ActFit(x:KAct):Prop where
 k:Fits ((x.kind.toNat:Nat):Int) 3
 o:Fits x.owner 17
 p:Fits x.other 17
 h:Fits x.hold 64
 a:Fits x.a.a0 31∧Fits x.a.a1 31∧Fits x.a.a2 31∧Fits x.a.a3 31
theorem aFp{x:KAct}(h:x.formed=true):0≤x.hold:=by
 unfold KAct.formed at h
 split at h
 ·simp only[Bool.and_eq_true,decide_eq_true_eq]at h;omega
 ·split at h
  ·simp only[Bool.and_eq_true,decide_eq_true_eq]at h;omega
  ·split at h
   ·simp only[Bool.and_eq_true,decide_eq_true_eq]at h;omega
   ·split at h
    ·simp only[Bool.and_eq_true,decide_eq_true_eq]at h;omega
    ·cases h
theorem aHq{x:KAct}(h:x.formed=true)(hh:x.hold≤9223372036854775807):ActFit x:=by
 obtain⟨h1,h2,h3,_⟩:=wJ h
 have h4:=aFp h
 have f:∀{v:Int} {k:Nat},k<64→(k=64∨(0≤v∧v<2^k∧k<64))→Fits v k:=fun hk h=>by
  rcases h with h|h
  ·omega
  ·exact fL h.2.2 h.1 h.2.1
 exact⟨f (by decide) h1,f (by decide) h2,f (by decide) h3,⟨.inl rfl,h4,hh⟩,zV (cP h)⟩
structure DealFit(au nu:Int)(al:List KAct):Prop where
 a:Fits au 7
 n:Fits nu 41
 l:Fits ((al.length:Nat):Int) 9
 x:∀x∈al,ActFit x
 few:al.length≤16
theorem aFi{au nu:Int}{al:List KAct}(hf:cE au nu al=true)(hh:vQ al):DealFit au nu al:=by
 obtain⟨h1,h2,h3,h4⟩:=fG.1 hf
 exact⟨fL (by decide) (by omega) (by omega),fL (by decide) (by omega) (by omega),fL (by decide) (by omega) (by omega),fun x hx=>aHq (h4 x hx) (hh x hx),h3.2⟩
def tL(L:List (KMh×KMem)):List (Int×KMh):=L.map fun z=>(z.2.d.author,z.1)
def mml(L:List (KMh×KMem)):List (Int×KMem):=L.map fun z=>(z.2.d.author,z.2)
theorem aFr(L:List (KMh×KMem)):(tL L).map (·.1)=(mml L).map (·.1):=by simp[tL,mml]
theorem aQp{L:List (KMh×KMem)}{z:KMh×KMem}(h:¬z.2.d.author∈(mml L).map (·.1)):dS.put (tL L) z.2.d.author z.1=tL (L++[z]):=by
 rw[nS (iC.2 (by rw[aFr];exact h))]
 unfold tL;rw[List.map_append];rfl
theorem aRp(L:List (KMh×KMem))(z:KMh×KMem):mml (L++[z])=mml L++[(z.2.d.author,z.2)]:=by unfold mml;rw[List.map_append];rfl
theorem bEd{X:KHs}{ms:List (Int×KMem)}{L:List (KMh×KMem)}(h:MsOf X ms)(he:mml L=ms)(hh:∀z∈L,HdOf z):MmOk X (tL L) L where
 none_:=fun a ha=>by
  cases e:X.done a with
  |none=>rfl
  |some m=>
   exfalso
   have:=(h.mem a m).1 e
   rw[iC,aFr,he]at ha
   exact ha (List.mem_map.2 ⟨_,this,rfl⟩)
 some_:=fun a hd ha=>by
  have hm:=kJ ha
  unfold tL at hm
  obtain⟨z,hz,e⟩:=List.mem_map.1 hm
  injection e with e1 e2
  subst e2
  refine⟨z.2,hz,(h.mem a z.2).2 ?_⟩
  rw[←he]
  exact List.mem_map.2 ⟨z,hz,by rw[e1]⟩
 hdr:=hh
structure StFit(X:KHs)(ps:List (Int×KAm))(hs:List (Int×KHo))(ms:List (Int×KMem)):Prop where
 su:Fits X.s.su.a0 63∧Fits X.s.su.a1 63∧Fits X.s.su.a2 63∧Fits X.s.su.a3 63
 la:Fits X.s.last 48
 pl:Fits ((ps.length:Nat):Int) 9
 pp:∀p∈ps,Fits p.1 17∧Fits p.2.a0 31∧Fits p.2.a1 31∧Fits p.2.a2 31∧Fits p.2.a3 31
 pd:(ps.map (·.1)).Nodup
 pn:ps.length≤256
 hl:Fits ((hs.length:Nat):Int) 9
 hh:∀p∈hs,Fits p.1 48∧Fits p.2.owner 17∧(Fits p.2.a.a0 31∧Fits p.2.a.a1 31∧Fits p.2.a.a2 31∧Fits p.2.a.a3 31)∧p.2.number=p.1
 hd:(hs.map (·.1)).Nodup
 hn:hs.length≤128
 ml:Fits ((ms.length:Nat):Int) 9
 mn:ms.length≤64
 mm:∀p∈ms,MemOk p.1 p.2 X.s.last
 md:(ms.map (·.1)).Nodup
theorem aIo{X:KHs}{ps:List (Int×KAm)}{hs:List (Int×KHo)}{ms:List (Int×KMem)}(hx:XOk X)(hl:X.s.last≤16000000)(hp:X.s.ps.Perm ps)(hh:X.s.hs.Perm hs)(hm:MsOf X ms):StFit X ps hs ms:=by
 have hg:=hx.g
 have hsu:=hg.sup
 have pn:ps.length≤256:=by rw[←hp.length_eq];exact hg.p.pn
 have hn:hs.length≤128:=by rw[←hh.length_eq];exact hg.h.hn
 have hmm:∀p∈ms,MemOk p.1 p.2 X.s.last:=fun p hp=>hx.m _ _ ((hm.mem p.1 p.2).2 hp)
 have mn:ms.length≤64:=by
  have:=vT 64 (ms.map (·.1)) hm.nd fun a ha=>by
   obtain⟨p,hp,rfl⟩:=List.mem_map.1 ha
   exact(fG.1 (hmm p hp).fm).1
  rwa [List.length_map]at this
 have l0:=hg.l0
 refine⟨⟨fL (by decide) (by omega) (by omega),fL (by decide) (by omega) (by omega),fL (by decide) (by omega) (by omega),fL (by decide) (by omega) (by omega)⟩,fL (by decide) (by omega) (by omega),fL (by decide) (by omega) (by omega),fun p h=> ?_,mV hp hg.p.np,pn,fL (by decide) (by omega) (by omega),fun p h=> ?_,mV hh hg.h.nh,hn,fL (by decide) (by omega) (by omega),mn,hmm,hm.nd⟩
 ·obtain⟨h1,h2,_⟩:=hg.p.pk p (hp.mem_iff.2 h)
  have:=aKl.1 h1
  exact⟨fL (by decide) (by omega) (by omega),zV h2⟩
 ·obtain⟨h0,h1,h2,h3,h4⟩:=hg.h.hk p (hh.mem_iff.2 h)
  have:=aKl.1 h3
  exact⟨fL (by decide) (by omega) (by omega),fL (by decide) (by omega) (by omega),zV h4,h0⟩
structure MemFit(m:KMem):Prop where
 d:DealFit m.d.author m.d.number m.d.acts
 l:Fits ((m.r.holds.length:Nat):Int) 9
 h:∀n∈m.r.holds,Fits n 48
 at_:Fits m.r.at_ 9
 e:Fits m.r.e 16
 fm:cE m.d.author m.d.number m.d.acts=true
 dn:m.r.done=decide (m.r.e=0)
 few:m.r.holds.length≤16
theorem xJ{a:Int}{m:KMem}{last:Int}(h:MemOk a m last)(hl:last≤16000000):MemFit m:=by
 have hf:cE m.d.author m.d.number m.d.acts=true:=by rw[h.au];exact h.fm
 have h1:=h.r.hn;have h2:=h.r.at0;have h3:=h.r.e
 exact⟨aFi hf h.hb,fL (by decide) (by omega) (by omega),fun n hn=>by have:=h.r.hk n hn;exact fL (by decide) (by omega) (by omega),fL (by decide) (by omega) (by omega),fL (by decide) (by omega) (by omega),hf,h.r.dn,h1⟩
theorem wO{X:KHs}{ds:List KDeal}{k:Nat}{d:KDeal}(h:ds[k]? =some d):gZ X (ds.take (k+1))=eH (gZ X (ds.take k)) d.author d.number d.acts:=by rw[←jG h,wN]
theorem pD{X:KHs}(h:XOk X):∀{ds:List KDeal},okD ds→XOk (gZ X ds)∧X.s.last≤(gZ X ds).s.last
 |[],_=>⟨h,Int.le_refl _⟩
 |d::ds,hd=>by
  obtain⟨h1,_,h3,_⟩:=vJ h (hd d (by simp)).1 (hd d (by simp)).2
  obtain⟨g1,g2⟩:=pD h1 (ds:=ds) fun e he=>hd e (by simp[he])
  exact⟨g1,Int.le_trans h3 g2⟩
theorem aGl{X:KHs}(h:XOk X){ds:List KDeal}(hd:okD ds)(k:Nat):(gZ X (ds.take k)).s.last≤(gZ X ds).s.last:=by
 have h1:=pD h (ds:=ds.take k) fun e he=>hd e (List.mem_of_mem_take he)
 have h2:=pD h1.1 (ds:=ds.drop k) fun e he=>hd e (List.mem_of_mem_drop he)
 have:gZ (gZ X (ds.take k)) (ds.drop k)=gZ X ds:=by
  unfold gZ;rw[←List.foldl_append,List.take_append_drop]
 rw[this]at h2
 exact h2.2
theorem aPh{X:KHs}{s:KSt}{ms:List (Int×KMh)}{zs:List (KMh×KMem)}(he:EqS s X.s)(hm:MmOk X ms zs)(au nu:Int)(al:List KAct){hd:KMh}(hh:HdOf (hd,⟨⟨au,nu,al⟩,(aE s al).2⟩)):
  EqS (aE s al).1 (eH X au nu al).s∧MmOk (eH X au nu al) (dS.put ms au hd) (zs++[(hd,⟨⟨au,nu,al⟩,(aE s al).2⟩)]):=by
 obtain⟨h1,h2⟩:=xV he al
 refine⟨h1,?_⟩
 rw[h2]at hh⊢
 exact hm.add hh
open Go Go.Sl Go.Proofs Go.Jn
theorem aWt{α:Type}{ks:List (Int×α)}(hn:(ks.map (·.1)).Nodup){k:Nat}{p:Int×α}(h:ks[k]? =some p):¬p.1∈(ks.take k).map (·.1):=by
 intro hm
 have h1:(ks.take k++[p]).map (·.1)=(ks.map (·.1)).take (k+1):=by rw[jG h,List.map_take]
 have h2:((ks.take k++[p]).map (·.1)).Nodup:=by rw[h1];exact hn.sublist (List.take_sublist _ _)
 rw[List.map_append,List.nodup_append]at h2
 exact h2.2.2 _ hm _ (by simp) rfl
theorem bBg{x:Int×KHo}(h:x.2.number=x.1):(⟨x.1,x.2.owner,x.2.a⟩:KHo)=x.2:=by rw[←h]
theorem aWl{m:KMem}{hl:List Int}(hd:m.r.done=decide (m.r.e=0))(hh:hl=m.r.holds):(⟨⟨m.d.author,m.d.number,m.d.acts⟩,⟨decide (m.r.e=(0:Int)),m.r.at_,m.r.e,hl⟩⟩:KMem)=m:=by
 subst hh;rw[←hd]
theorem aRo{ms:List (Int×KMem)}{k:Nat}{x:Int×KMem}{L:List (KMh×KMem)}{H:KMh}{last:Int}(hx:ms[k]? =some x)(h:mml L=ms.take k)(hm:MemOk x.1 x.2 last):mml (L++[(H,x.2)])=ms.take (k+1):=by
 rw[aRp,h,←jG hx]
 show ms.take k++[(x.2.d.author,x.2)]=_
 rw[hm.au]
theorem aQo{ms:List (Int×KMem)}{k:Nat}{x:Int×KMem}{L:List (KMh×KMem)}{H:KMh}{last:Int}(hd:(ms.map (·.1)).Nodup)(hx:ms[k]? =some x)(h:mml L=ms.take k)(hm:MemOk x.1 x.2 last):dS.put (tL L) x.2.d.author H=tL (L++[(H,x.2)]):=by
 have:=aQp (L:=L) (z:=(H,x.2)) (by show ¬x.2.d.author∈_;rw[h,hm.au];exact aWt hd hx)
 exact this
theorem bBe{L:List (KMh×KMem)}{z:KMh×KMem}(h:∀z∈L,HdOf z)(hz:HdOf z):∀y∈L++[z],HdOf y:=fun y hy=>by
 rcases List.mem_append.1 hy with hy|hy
 ·exact h y hy
 ·rw[List.mem_singleton.1 hy];exact hz
open Go Go.Sl Go.Proofs Go.Jn
def aQj:KSt:=⟨[],[],0,zeroA⟩
theorem aQl:MmOk gM [] []:=⟨fun _ _=>rfl,fun a h q=>(by simp[MapK.look]at q),fun z hz=>by cases hz⟩
theorem aQk:EqS aQj gM.s:=oR.g.refl
theorem aXc{recs:List Bs}{ds:List KDeal}(h:recs=ds.map aNg){k:Nat}{x:Bs}(hx:recs[k]? =some x):∃d,ds[k]? =some d∧x=aNg d:=by
 rw[h,List.getElem?_map]at hx
 cases e:ds[k]? with
 |none=>rw[e]at hx;cases hx
 |some d=>rw[e]at hx;injection hx with hx;exact⟨d,rfl,hx.symm⟩
theorem bBw(d:KDeal):Wr (aNg d) (0+(57+225*d.acts.length)) (aAw d.author d.number d.acts []):=by
 have:=aFg (au:=d.author) (nu:=d.number) (al:=d.acts) aIz
 rwa [List.nil_append,←List.append_nil (kI _ _ _),aFh]at this
theorem aXb{d:KDeal}(h:cE d.author d.number d.acts=true):(aNg d).length≤65536:=Nat.le_trans (rF h) (by decide)
theorem MmOk.eqX{X Y:KHs}{ms:List (Int×KMh)}{zs:List (KMh×KMem)}(h:MmOk Y ms zs)(e:X.done=Y.done):MmOk X ms zs:=⟨fun a ha=>by rw[e];exact h.none_ a ha,fun a g ha=>by rw[e];exact h.some_ a g ha,h.hdr⟩
structure RsOk(X0:KHs)(ds:List KDeal)(k:Nat)(s:KSt)(ms:List (Int×KMh))(zs:List (KMh×KMem)):Prop where
 e:EqS s (gZ X0 (ds.take k)).s
 m:MmOk (gZ X0 (ds.take k)) ms zs
theorem RsOk.zero{X0:KHs}{ds:List KDeal}{s:KSt}{ms:List (Int×KMh)}{zs:List (KMh×KMem)}(h:EqS s X0.s)(g:MmOk X0 ms zs):RsOk X0 ds 0 s ms zs:=⟨h,g⟩
theorem RsOk.good{X0:KHs}{ds:List KDeal}{k:Nat}{s:KSt}{ms:List (Int×KMh)}{zs:List (KMh×KMem)}(h:RsOk X0 ds k s ms zs)(hx:XOk X0)(hd:okD ds)(hl:(gZ X0 ds).s.last≤16000000):GoodS s 1152921504606846976:=by
 have h1:=pD hx (ds:=ds.take k) fun e he=>hd e (List.mem_of_mem_take he)
 have h2:=aGl hx hd k
 have h3:=h.e.l
 exact(h.e.good2 h1.1.g).good (by omega) (by decide)
theorem RsOk.next{X0:KHs}{ds:List KDeal}{k:Nat}{s:KSt}{ms:List (Int×KMh)}{zs:List (KMh×KMem)}(h:RsOk X0 ds k s ms zs){d:KDeal}(hd:ds[k]? =some d){H:KMh}(hh:HdOf (H,⟨⟨d.author,d.number,d.acts⟩,(aE s d.acts).2⟩)):
  RsOk X0 ds (k+1) (aE s d.acts).1 (dS.put ms d.author H) (zs++[(H,⟨⟨d.author,d.number,d.acts⟩,(aE s d.acts).2⟩)]):=by
 obtain⟨h1,h2⟩:=aPh h.e h.m d.author d.number d.acts hh
 exact⟨by rw[wO hd];exact h1,by rw[wO hd];exact h2⟩
theorem RsOk.all{X0 X:KHs}{ds:List KDeal}{k:Nat}{s:KSt}{ms:List (Int×KMh)}{zs:List (KMh×KMem)}(h:RsOk X0 ds k s ms zs)(hk:ds.length≤k)(hx:EqX X (gZ X0 ds)):EqS s X.s∧MmOk X ms zs:=by
 obtain⟨h1,h2⟩:=h
 rw[List.take_of_length_le hk]at h1 h2
 exact⟨h1.trans hx.s.symm,h2.eqX hx.d⟩
open Go Go.Sl Go.Proofs Go.Jn
theorem aPs{k:KS}{e n:Nat}(h:k.power= -1):(jO k e n).power= -1:=by
 show kN _ k.power _= -1
 unfold kN fU
 rw[h];split<;>rfl
theorem SOk.cut{X:KHs}{i:KI}{k:KS}{N W:Nat}{x:Bool}(h:SOk X i k N W x)(hp:k.power= -1):SOk X i (jO k i.epoch i.size) N W true:=⟨h.inv.cut (by rw[hp];decide),h.ep,h.img,h.ok,h.last⟩
theorem SOk.lasts{X X0:KHs}{i:KI}{k:KS}{N W:Nat}{x:Bool}(h:SOk X i k N W x)(hN:N≤1000000){ds:List KDeal}(hi:Img i X X0 ds):X0.s.last≤16000000∧(gZ X0 ds).s.last≤16000000:=by
 have h1:=h.last
 have h2:=hi.x.s.l
 have h3:=(pD hi.x0 hi.ok).2
 constructor<;>omega
theorem aNs{p:Int}(h: -1≤p∧p≤1000):SOk gM ⟨0,0,[],[],0⟩ ⟨[],[],[],p⟩ 0 0 false:=
 ⟨(aMs h).any,by decide,⟨gM,[],.inl ⟨rfl,rfl⟩,oR,rfl,fun d hd=>(by cases hd),oR.refl⟩,oR,by decide⟩
section
variable {P:Program}{ro:Option Nat}{n:Nat}{ds:List Deferred}{β:Base}{Q:Exit→Act→World→Prop}{f:Fm}{L:List bU}
theorem aCq{c:Code}{S N W:Nat}{p:Int}{X:KHs}{i:KI}{k:KS}{M:List bU}(hL:L=aP S k::M)(h1:SOk X i k N W false)(h2:k.power=p)(K:eA P ro n ds β c Q f (lP S X N W p::M)):eA P ro n ds β c Q f L:=fun a w ha hw=>by
 subst hL
 exact K a w ha (St.closeShelf h1 h2 hw)
end
open Go Go.Sl Go.Proofs Go.Jn
theorem tV{X:KHs}{au nu:Int}{al:List KAct}(hf:cE au nu al=true)(hn:∀m,X.done au=some m→m.d.number<nu):rS X au nu al=(eH X au nu al,(aE X.s al).2,0):=by
 unfold rS
 rw[if_neg (by rw[hf];decide)]
 cases e:X.done au with
 |none=>rfl
 |some m=>
  have:=hn m e
  show(if m.d.number=nu then _ else if nu<m.d.number then _ else _)=_
  rw[if_neg (by omega),if_neg (by omega)];rfl
theorem aMe{X:KHs}{au nu:Int}{al:List KAct}{r:KRes}(hf:cE au nu al=true)(hd:X.done au=some ⟨⟨au,nu,al⟩,r⟩):rS X au nu al=(X,r,0):=by
 unfold rS
 rw[if_neg (by rw[hf];decide),hd]
 show(if nu=nu then(if al=al then(X,r,(0:Int))else _)else _)=_
 rw[if_pos rfl,if_pos rfl]
theorem aMf{X:KHs}{au nu:Int}{al bl:List KAct}{r:KRes}(hf:cE au nu al=true)(hd:X.done au=some ⟨⟨au,nu,bl⟩,r⟩)(hne:bl≠al):rS X au nu al=(X,dK,331):=by
 unfold rS
 rw[if_neg (by rw[hf];decide),hd]
 show(if nu=nu then(if bl=al then _ else(X,dK,(331:Int)))else _)=_
 rw[if_pos rfl,if_neg hne]
theorem aPt{X:KHs}{au nu:Int}{al:List KAct}{m:KMem}(hf:cE au nu al=true)(hd:X.done au=some m)(hlt:nu<m.d.number):rS X au nu al=(X,dK,332):=by
 unfold rS
 rw[if_neg (by rw[hf];decide),hd]
 show(if m.d.number=nu then _ else if nu<m.d.number then(X,dK,(332:Int))else _)=_
 rw[if_neg (by omega),if_pos hlt]
theorem nL(X:KHs)(au nu:Int)(al:List KAct):(eH X au nu al).done au=some ⟨⟨au,nu,al⟩,(aE X.s al).2⟩:=if_pos rfl
theorem vI(X:KHs){au a:Int}(nu:Int)(al:List KAct)(h:a≠au):(eH X au nu al).done a=X.done a:=if_neg h
def awM:List KAct:=[⟨1,1,0,0,⟨100,0,0,0⟩⟩]
def awB:List KAct:=[⟨3,1,2,0,⟨30,0,0,0⟩⟩,⟨4,1,0,0,⟨50,0,0,0⟩⟩]
def awP:List KAct:=[⟨6,0,2,1,zeroA⟩,⟨3,1,2,0,⟨100,0,0,0⟩⟩]
def awF:List KAct:=[⟨5,0,0,1,zeroA⟩]
noncomputable def aX1:KHs:=eH gM 1 1 awM
noncomputable def vA:KHs:=eH aX1 5 1 awB
noncomputable def aX3:KHs:=eH vA 5 2 awP
noncomputable def aX4:KHs:=eH aX3 5 3 awF
theorem bDj:(aE gM.s awM).2=⟨true,0,0,[]⟩:=by kernel_rfl
theorem aYy:(aE aX1.s awB).2=⟨true,0,0,[1]⟩:=by kernel_rfl
theorem aYz:(aE vA.s awP).2=⟨false,1,330,[]⟩:=by kernel_rfl
theorem bDk:(aE aX3.s awF).2=⟨true,0,0,[]⟩:=by kernel_rfl
theorem bCx:rS gM 1 1 awM=(aX1,⟨true,0,0,[]⟩,0):=by rw[←bDj];exact tV (by decide) (fun m h=>by cases h)
theorem bDg:aX1.done 5=none:=by rw[aX1,vI _ _ _ (by decide)];rfl
theorem bCy:rS aX1 5 1 awB=(vA,⟨true,0,0,[1]⟩,0):=by rw[←aYy];exact tV (by decide) (fun m h=>by rw[bDg]at h;cases h)
theorem aYv:vA.done 5=some ⟨⟨5,1,awB⟩,⟨true,0,0,[1]⟩⟩:=by rw[←aYy];exact nL _ _ _ _
theorem bCz:rS vA 5 1 awB=(vA,⟨true,0,0,[1]⟩,0):=aMe (by decide) aYv
theorem bDa:rS vA 5 2 awP=(aX3,⟨false,1,330,[]⟩,0):=by rw[←aYz];exact tV (by decide) (fun m h=>by rw[aYv]at h;injection h with h;subst h;decide)
theorem aPa:aX3.done 5=some ⟨⟨5,2,awP⟩,⟨false,1,330,[]⟩⟩:=by rw[←aYz];exact nL _ _ _ _
theorem bDb:rS aX3 5 1 awB=(aX3,dK,332):=aPt (by decide) aPa (by decide)
theorem bDc:rS aX3 5 2 awB=(aX3,dK,331):=aMf (by decide) aPa (by decide)
theorem bDd:rS aX3 5 3 awF=(aX4,⟨true,0,0,[]⟩,0):=by rw[←bDk];exact tV (by decide) (fun m h=>by rw[aPa]at h;injection h with h;subst h;decide)
theorem bDh:iJ aX1.s.ps 1=⟨100,0,0,0⟩:=by kernel_rfl
theorem bDl:aX1.s.su=⟨100,0,0,0⟩:=by kernel_rfl
theorem aYw:iJ vA.s.ps 1=⟨20,0,0,0⟩:=by kernel_rfl
theorem aYx:iJ vA.s.ps 2=⟨30,0,0,0⟩:=by kernel_rfl
theorem bDi:iJ aX4.s.ps 1=⟨70,0,0,0⟩:=by kernel_rfl
theorem aNt:sortI []=[]:=uV (.refl _) List.Pairwise.nil
theorem zK(a:Int):sortI [a]=[a]:=uV (.refl _) (List.pairwise_singleton _ _)
theorem aJb:gN vA=[⟨1,1,⟨50,0,0,0⟩⟩]:=by
 have h:vA.s.hs=[(1,⟨1,1,⟨50,0,0,0⟩⟩)]:=by kernel_rfl
 unfold gN
 rw[h]
 show(sortI [1]).map _=_
 rw[zK];rfl
theorem bDe:gN aX3=[⟨1,1,⟨50,0,0,0⟩⟩]:=by
 have h:aX3.s.hs=[(1,⟨1,1,⟨50,0,0,0⟩⟩)]:=by kernel_rfl
 unfold gN
 rw[h]
 show(sortI [1]).map _=_
 rw[zK];rfl
theorem bDf:gN aX4=[]:=by
 have h:aX4.s.hs=[]:=by kernel_rfl
 unfold gN
 rw[h]
 show(sortI []).map _=_
 rw[aNt];rfl
open Go Go.Sl Go.Proofs Go.Jn
abbrev aAf(n:Int):Prop:= -9223372036854775808≤n∧n≤9223372036854775807
structure ActI(x:KAct):Prop where
 o:aAf x.owner
 p:aAf x.other
 h:aAf x.hold
 a0:aAf x.a.a0
 a1:aAf x.a.a1
 a2:aAf x.a.a2
 a3:aAf x.a.a3
structure TOp where
 kind:UInt8
 author:Int
 number:Int
 acts:List KAct
structure OpI(o:TOp):Prop where
 a:aAf o.author
 n:aAf o.number
 x:∀x∈o.acts,ActI x
def bAi:Rp TOp:=⟨4,fun h cs o=>OpI o∧∃v,cs=[Bx o.kind,Ix o.author,Ix o.number,v]∧Sl dI.R h v o.acts,fun _ _ _ ⟨_,_,e,_⟩=>by rw[e];rfl,fun _ _ h h' hs ⟨q,v,e,hv⟩=>⟨q,v,e,Sl.mono _ v _ h h' hs hv⟩⟩
def oX(x n:Int):Int:=if n<1 then 0 else if Int.tmod x n<0 then Int.tmod x n+n else Int.tmod x n
theorem aSb(x:Int){n:Int}(hn:1≤n):0≤oX x n∧oX x n<n:=by
 have h1:Int.tmod x n<n:=Int.tmod_lt_of_pos x (by omega)
 have h2: -n<Int.tmod x n:=by
  rcases Int.le_total 0 x with h|h
  ·have:=Int.tmod_nonneg n h;omega
  ·have h3:Int.tmod (-x) n<n:=Int.tmod_lt_of_pos _ (by omega)
   rw[Int.neg_tmod]at h3
   omega
 unfold oX
 rw[if_neg (by omega)]
 split<;>omega
def aHo(x:KAct):UInt8:=1+x.kind%7
def bBb(x:KAct):Int:=1+oX x.owner 5
def bDv(x:KAct):KAm:=⟨oX x.a.a0 1001,oX x.a.a1 1001,oX x.a.a2 1001,oX x.a.a3 1001⟩
def bDt(x:KAct):KAct:=
 if((aHo x).toNat:Int)=((5:UInt8).toNat:Int)then⟨aHo x,0,0,1+oX x.hold 12,zeroA⟩
 else if((aHo x).toNat:Int)=((6:UInt8).toNat:Int)then⟨aHo x,0,1+oX x.other 5,1+oX x.hold 12,zeroA⟩
 else if((aHo x).toNat:Int)=((3:UInt8).toNat:Int)then⟨aHo x,bBb x,1+Int.tmod (bBb x+oX x.other 4) 5,0,bDv x⟩
 else⟨aHo x,bBb x,0,0,bDv x⟩
def bDu(o:TOp):List KAct:=if(o.acts.take 8).map bDt=[]then [⟨1,1,0,0,⟨7,0,0,0⟩⟩]else(o.acts.take 8).map bDt
def aFo(o:TOp):Int:=1+oX o.author 4
theorem aQg(o:TOp):1≤aFo o∧aFo o≤4:=by
 have:=aSb o.author (n:=4) (by decide)
 unfold aFo;omega
end Go.Td
namespace Go.Sl
theorem bAk(x:UInt8)(k:UInt8):((x.toNat:Int)).tmod (k.toNat:Int)=((x%k).toNat:Int):=by
 rw[gD,UInt8.toNat_mod]
end Go.Sl
namespace Go.Td
open Go Go.Sl Go.Proofs Go.Jn
theorem aBb{H S N W M V:Nat}{X:KHs}{p:Int}(hN:N≤M)(hW:W≤V)(a:bV)(h:cO H S X N W p a):cO H S X M V p a:=by
 obtain⟨J,mp,mh,mm,s,ms,zs,i,k,h1,h2,h3⟩:=h
 exact⟨J,mp,mh,mm,s,ms,zs,i,k,h1.mono hN hW,h2,h3⟩
theorem aNp{S N W M V:Nat}{X:KHs}{p:Int}(hN:N≤M)(hW:W≤V)(a:bV)(h:lP S X N W p a):lP S X M V p a:=by
 obtain⟨i,k,h1,h2,h3⟩:=h
 exact⟨i,k,h1.mono hN hW,h2,h3⟩
section
variable {P:Program}{ro:Option Nat}{n:Nat}{ds:List Deferred}{β:Base}{Q:Exit→Act→World→Prop}{f:Fm}{L:List bU}
theorem aCx{e:Exit}{H S N W M V:Nat}{X:KHs}{p:Int}(i:Nat)(hi:L[i]? =some (cO H S X N W p))(hN:N≤M)(hW:W≤V)(k:iQ n ds β Q e f (L.set i (cO H S X M V p))):iQ n ds β Q e f L:=fun a w ha hw=>k a w ha (hw.conseq_at i hi (aBb hN hW))
end
def aOn(X:KHs)(n:Int):Prop:=∀a m,X.done a=some m→1≤m.d.number∧m.d.number<n
theorem aOn.next{X:KHs}{n n':Int}(h:aOn X n)(h1:1≤n)(h2:n<n')(au:Int)(al:List KAct):aOn (eH X au n al) n':=fun a m hm=>by
 by_cases e:a=au
 ·subst e
  rw[nL]at hm
  injection hm with hm;subst hm
  exact⟨h1,h2⟩
 ·rw[vI _ _ _ e]at hm
  have:=h a m hm
  omega
structure RndOk(X X1:KHs)(au nu:Int)(al:List KAct)(R:KRes):Prop where
 d1:rS X au nu al=(X1,R,0)
 m1:X1.done au=some ⟨⟨au,nu,al⟩,R⟩
 d2:rS X1 au nu al=(X1,R,0)
 la:uD X1 au=(nu,R,true)
open Go Go.Sl Go.Proofs Go.Jn
structure KPu where
 owner:Int
 a:KAm
deriving DecidableEq
abbrev puE(x:KPu):List Value:=[Ix x.owner,Ix x.a.a0,Ix x.a.a1,Ix x.a.a2,Ix x.a.a3]
abbrev jW:Fl KPu:=⟨5,puE,fun _=>rfl,fun _=>rfl,by decide⟩
abbrev wR:Fl KMh:=⟨7,mhE,fun _=>rfl,fun _=>rfl,by decide⟩
structure KRh where
 ps:List KPu
 hs:List KHo
 last:Int
 su:KAm
 ds:List KMem
def dR:List KPu→Int→KAm
 |[],_=>zeroA
 |p::l,n=>if p.owner=n then p.a else dR l n
def cJ(n:Int)(a:KAm):Bool→List KPu→List KPu
 |dn,[]=>if dn=false∧¬a=zeroA then [⟨n,a⟩]else []
 |dn,p::l=>(if dn=false∧n≤p.owner∧¬a=zeroA then [⟨n,a⟩]else [])++((if p.owner=n then []else [p])++cJ n a (dn||decide (n≤p.owner)) l)
def aAi(l:List KPu):Prop:=l.Pairwise fun p q=>p.owner<q.owner
theorem aBk:∀{l:List KPu} {n:Int},(∀p∈l,p.owner≠n)→dR l n=zeroA
 |[],_,_=>rfl
 |p::l,n,h=>by unfold dR;rw[if_neg (h p (by simp))];exact aBk fun q hq=>h q (by simp[hq])
theorem yY:∀{l:List KPu} {p:KPu},aAi l→p∈l→dR l p.owner=p.a
 |q::l,p,hs,h=>by
  have h1:=List.pairwise_cons.1 hs
  unfold dR
  rcases List.mem_cons.1 h with rfl|h
  ·rw[if_pos rfl]
  ·rw[if_neg (by have:=h1.1 p h;omega)];exact yY h1.2 h
theorem qD:∀{l:List KPu} {n:Int} {a:KAm},cJ n a true l=l.filter fun p=>decide (p.owner≠n)
 |[],_,_=>rfl
 |p::l,n,a=>by
  unfold cJ
  rw[if_neg (by simp),List.nil_append,Bool.true_or,qD,List.filter_cons]
  by_cases e:p.owner=n
  ·rw[if_pos e,if_neg (by simpa using e)];rfl
  ·rw[if_neg e,if_pos (by simpa using e)];rfl
theorem tD:∀{l:List KPu} {n:Int} {a:KAm},aAi l→(cJ n a false l).Perm ((if a=zeroA then []else [⟨n,a⟩])++l.filter fun p=>decide (p.owner≠n))
 |[],n,a,_=>by
  unfold cJ
  by_cases e:a=zeroA
  ·rw[if_neg (by simp[e]),if_pos e];exact List.Perm.refl _
  ·rw[if_pos ⟨rfl,e⟩,if_neg e];exact List.Perm.refl _
 |p::l,n,a,hs=>by
  have h1:=List.pairwise_cons.1 hs
  have f1:p.owner=n→(p::l).filter (fun p=>decide (p.owner≠n))=l.filter fun p=>decide (p.owner≠n):=fun e=>List.filter_cons_of_neg (by simpa using e)
  have f2:¬p.owner=n→(p::l).filter (fun p=>decide (p.owner≠n))=p::l.filter fun p=>decide (p.owner≠n):=fun e=>List.filter_cons_of_pos (by simpa using e)
  unfold cJ
  rw[Bool.false_or]
  by_cases q:n≤p.owner
  ·rw[decide_eq_true q,qD]
   have e1:(if false=false∧n≤p.owner∧¬a=zeroA then [(⟨n,a⟩:KPu)]else [])=if a=zeroA then []else [⟨n,a⟩]:=by
    by_cases e:a=zeroA
    ·rw[if_neg (by simp[e]),if_pos e]
    ·rw[if_pos ⟨rfl,q,e⟩,if_neg e]
   rw[e1]
   refine List.Perm.append_left _ ?_
   by_cases e:p.owner=n
   ·rw[if_pos e,f1 e,List.nil_append]
   ·rw[if_neg e,f2 e];exact List.Perm.refl _
  ·have e:¬p.owner=n:=by omega
   rw[decide_eq_false q,if_neg (fun h=>q h.2.1),List.nil_append,if_neg e,f2 e]
   exact((tD h1.2).cons p).trans (List.perm_middle (a:=p)).symm
theorem tE:∀{l:List KPu} {n:Int} {a:KAm},aAi l→aAi (cJ n a false l)
 |[],n,a,_=>by
  unfold cJ
  split
  ·exact List.pairwise_singleton _ _
  ·exact List.Pairwise.nil
 |p::l,n,a,hs=>by
  have h1:=List.pairwise_cons.1 hs
  unfold cJ
  rw[Bool.false_or]
  by_cases q:n≤p.owner
  ·rw[decide_eq_true q,qD]
   have hf:aAi ((if p.owner=n then []else [p])++l.filter fun p=>decide (p.owner≠n)):=by
    by_cases e:p.owner=n
    ·rw[if_pos e];exact h1.2.filter _
    ·rw[if_neg e]
     exact List.pairwise_cons.2 ⟨fun x hx=>h1.1 x (List.mem_filter.1 hx).1,h1.2.filter _⟩
   by_cases e:a=zeroA
   ·rw[if_neg (by simp[e])];exact hf
   ·rw[if_pos ⟨rfl,q,e⟩]
    refine List.pairwise_cons.2 ⟨fun x hx=> ?_,hf⟩
    have hx':x∈(if p.owner=n then []else [p])++l.filter fun p=>decide (p.owner≠n):=hx
    show n<x.owner
    by_cases e:p.owner=n
    ·rw[if_pos e]at hx'
     have:=h1.1 x (List.mem_filter.1 hx').1
     omega
    ·rw[if_neg e]at hx'
     rcases List.mem_cons.1 hx' with hx|hx
     ·rw[hx];omega
     ·have:=h1.1 x (List.mem_filter.1 hx).1;omega
  ·rw[decide_eq_false q,if_neg (by simp[q]),List.nil_append]
   have e:¬p.owner=n:=by omega
   rw[if_neg e]
   refine List.pairwise_cons.2 ⟨fun x hx=> ?_,tE h1.2⟩
   rcases List.mem_append.1 ((tD h1.2).mem_iff.1 hx)with hx|hx
   ·by_cases ea:a=zeroA
    ·rw[if_pos ea]at hx;cases hx
    ·rw[if_neg ea]at hx;rw[List.mem_singleton.1 hx];show p.owner<n;omega
   ·exact h1.1 x (List.mem_filter.1 hx).1
abbrev puP(p:KPu):Int×KAm:=(p.owner,p.a)
structure RelP(ps:List (Int×KAm))(l:List KPu):Prop where
 s:aAi l
 p:(l.map puP).Perm ps
theorem RelP.nd{ps:List (Int×KAm)}{l:List KPu}(h:RelP ps l):(ps.map (·.1)).Nodup:=by
 refine((h.p.map (·.1)).nodup_iff).1 ?_
 rw[List.map_map]
 exact List.pairwise_map.2 (h.s.imp fun{a b} hab=>by show a.owner≠b.owner;omega)
theorem RelP.get{ps:List (Int×KAm)}{l:List KPu}(h:RelP ps l)(n:Int):dR l n=iJ ps n:=by
 unfold iJ
 cases e:bW.look ps n with
 |none=>
  refine aBk fun p hp hn=> ?_
  rw[iC]at e
  exact e (hn▸List.mem_map.2 ⟨puP p,h.p.mem_iff.1 (List.mem_map.2 ⟨p,hp,rfl⟩),rfl⟩)
 |some v=>
  obtain⟨p,hp,hv⟩:=List.mem_map.1 (h.p.mem_iff.2 (kJ e))
  injection hv with h1 h2
  subst h1;subst h2
  exact yY h.s hp
theorem aHn(l:List KPu)(n:Int):(l.filter fun p=>decide (p.owner≠n)).map puP=bW.del (l.map puP) n:=by
 unfold MapK.del
 rw[List.filter_map]
 refine congrArg (List.map puP) (List.filter_congr fun p _=> ?_)
 show decide (p.owner≠n)= !decide (p.owner=n)
 by_cases e:p.owner=n<;>simp[e]
theorem RelP.withv{ps:List (Int×KAm)}{l:List KPu}(h:RelP ps l)(n:Int)(a:KAm):((cJ n a false l).map puP).Perm ((if a=zeroA then []else [(n,a)])++bW.del ps n):=by
 refine((tD h.s).map puP).trans ?_
 rw[List.map_append,aHn]
 refine List.Perm.append ?_ (oM h.p n)
 split<;>exact List.Perm.refl _
theorem RelP.put{ps:List (Int×KAm)}{l:List KPu}(h:RelP ps l){n:Int}{a:KAm}(ha:¬a=zeroA):RelP (bW.put ps n a) (cJ n a false l):=
 ⟨tE h.s,(h.withv n a).trans (by rw[if_neg ha];exact(gY h.nd n a).symm)⟩
theorem RelP.del{ps:List (Int×KAm)}{l:List KPu}(h:RelP ps l){n:Int}:RelP (bW.del ps n) (cJ n zeroA false l):=⟨tE h.s,(h.withv n zeroA).trans (by rw[if_pos rfl];exact List.Perm.refl _)⟩
theorem aVe{ps:List (Int×KAm)}(hn:(ps.map (·.1)).Nodup)(n:Int)(a:KAm):(bW.del (bW.put ps n a) n).Perm (bW.del ps n):=by
 refine(oM (gY hn n a) n).trans (List.Perm.of_eq ?_)
 unfold MapK.del
 rw[List.filter_cons_of_neg (by simp),List.filter_filter]
 refine List.filter_congr fun p _=> ?_
 simp
theorem RelP.take{ps:List (Int×KAm)}{l:List KPu}(h:RelP ps l){n:Int}{a:KAm}(hx:iN ps n a=false):RelP (dJ ps n a) (cJ n ((dR l n).plus a (-1)) false l):=by
 unfold dJ
 rw[hx,if_neg (by decide),h.get]
 split
 ·rename_i hz
  have d:=h.del (n:=n)
  exact⟨by rw[hz];exact d.s,by rw[hz];exact d.p.trans (aVe h.nd n _).symm⟩
 ·rename_i hz;exact h.put hz
theorem RelP.addX{ps:List (Int×KAm)}{l:List KPu}(h:RelP ps l)(hp:PsOk ps){n:Int}{a:KAm}:Go.Td.addX ps n a=(!((dR l n).plus a 1).within||decide (256<(cJ n ((dR l n).plus a 1) false l).length)):=by
 unfold Go.Td.addX
 rw[h.get]
 cases hw:((iJ ps n).plus a 1).within with
 |false=>rfl
 |true=>
  show(false||_)=(false||_)
  rw[Bool.false_or,Bool.false_or]
  have hlen:=(h.withv n ((iJ ps n).plus a 1)).length_eq
  rw[List.length_map,List.length_append]at hlen
  have h3:(bW.del ps n).length≤ps.length:=List.length_filter_le _ _
  have hpn:=hp.pn
  by_cases hz:(iJ ps n).plus a 1=zeroA
  ·rw[if_pos hz]at hlen
   rw[decide_eq_false (not_not_intro hz),Bool.and_false,Bool.false_and,decide_eq_false]
   rw[hlen]
   show ¬256<0+_
   omega
  ·rw[if_neg hz]at hlen
   rw[decide_eq_true hz,Bool.and_true]
   have h5:(bW.put ps n ((iJ ps n).plus a 1)).length=1+(bW.del ps n).length:=by rw[(gY h.nd n _).length_eq,List.length_cons,Nat.add_comm]
   cases e:bW.look ps n with
   |none=>
    rw[nS e,List.length_append]at h5
    show(true&&_)=_
    rw[Bool.true_and]
    have h6:[((n,(iJ ps n).plus a 1):Int×KAm)].length=1:=rfl
    have h7:[(n,(iJ ps n).plus a 1)].length=1:=rfl
    rw[h7]at hlen;rw[h6]at h5
    by_cases c:(256:Int)≤(ps.length:Int)
    ·rw[decide_eq_true c,decide_eq_true (by omega)]
    ·rw[decide_eq_false c,decide_eq_false (by omega)]
   |some v=>
    have h6:=congrArg List.length (uM (K:=bW) (ks:=ps) n ((iJ ps n).plus a 1) (by rw[e];rfl))
    simp only[List.length_map]at h6
    have h7:[(n,(iJ ps n).plus a 1)].length=1:=rfl
    rw[h7]at hlen
    show(false&&_)=_
    rw[Bool.false_and,decide_eq_false (by omega)]
theorem RelP.add{ps:List (Int×KAm)}{l:List KPu}(h:RelP ps l)(hp:PsOk ps){n:Int}{a:KAm}(ha:a.within=true)(hx:Go.Td.addX ps n a=false):RelP (hG ps n a) (cJ n ((dR l n).plus a 1) false l):=by
 unfold hG
 rw[hx,if_neg (by decide),h.get]
 split
 ·rename_i hz
  rw[hz]
  have d:=h.del (n:=n)
  refine⟨d.s,d.p.trans ?_⟩
  cases e:bW.look ps n with
  |none=>rw[oL e]
  |some v=>
   have h1:=(hp.pk _ (kJ e)).2
   have h2:iJ ps n=v:=by unfold iJ;rw[e];rfl
   rw[h2]at hz
   have w1:=nU.1 (show v.within=true from h1.1);have w2:=nU.1 ha
   rw[tQ]at hz
   simp only[KAm.plus]at hz
   exact absurd (tQ.2 (by omega):v=zeroA) h1.2
 ·rename_i hz;exact h.put hz
theorem aBj{ps:List KPu}{k:Nat}{x:KPu}{n:Int}(hx:ps[k]? =some x):dR (ps.drop k) n=if x.owner=n then x.a else dR (ps.drop (k+1)) n:=by
 obtain⟨hk,rfl⟩:=List.getElem?_eq_some_iff.1 hx
 rw[List.drop_eq_getElem_cons hk];rfl
theorem aSj{ps:List KPu}{k:Nat}{n:Int}(h:ps.length≤k):dR (ps.drop k) n=zeroA:=by rw[List.drop_eq_nil_of_le h];rfl
def rWk(n:Int)(a:KAm)(dn:Bool)(ps:List KPu)(k:Nat):List KPu:=if k≤ps.length then cJ n a dn (ps.drop k)else []
def rW2(n:Int)(a:KAm)(dn:Bool)(ps:List KPu)(k:Nat):List KPu:=(((ps.drop k).take 1).filter fun p=>decide (p.owner≠n))++rWk n a dn ps (k+1)
section
variable {ps:List KPu}{k:Nat}{x:KPu}{n:Int}{a:KAm}{dn:Bool}
theorem xR(hx:ps[k]? =some x):rWk n a dn ps k=(if dn=false∧n≤x.owner∧¬a=zeroA then [⟨n,a⟩]else [])++rW2 n a (dn||decide (n≤x.owner)) ps k:=by
 obtain⟨hk,rfl⟩:=List.getElem?_eq_some_iff.1 hx
 unfold rWk rW2
 rw[if_pos (by omega),List.drop_eq_getElem_cons hk]
 show _++(_++cJ n a _ (ps.drop (k+1)))=_++(List.filter _ [ps[k]]++_)
 have e:rWk n a (dn||decide (n≤ps[k].owner)) ps (k+1)=cJ n a (dn||decide (n≤ps[k].owner)) (ps.drop (k+1)):=if_pos (by omega)
 rw[e]
 by_cases c:ps[k].owner=n
 ·rw[if_pos c,List.filter_cons_of_neg (by simpa using c)];rfl
 ·rw[if_neg c,List.filter_cons_of_pos (by simpa using c)];rfl
theorem aEh(hk:k=ps.length):rWk n a dn ps k=(if dn=false∧¬a=zeroA then [⟨n,a⟩]else [])++rW2 n a true ps k:=by
 have e:rWk n a true ps (k+1)=[]:=if_neg (by omega)
 unfold rW2
 rw[e,List.drop_eq_nil_of_le (by omega)]
 unfold rWk
 rw[if_pos (by omega),List.drop_eq_nil_of_le (by omega)]
 show _=_++([]++[])
 rw[List.append_nil,List.append_nil];rfl
theorem aYm(hk:k≤ps.length):rWk n a true ps k=rW2 n a true ps k:=by
 by_cases e:k=ps.length
 ·rw[aEh e];rfl
 ·rw[xR (x:=ps[k]'(by omega)) (List.getElem?_eq_getElem (by omega)),if_neg (by simp),Bool.true_or];rfl
theorem aYn(hk:k=ps.length)(ha:a=zeroA):rWk n a false ps k=rW2 n a true ps k:=by rw[aEh hk,if_neg (by simp[ha])];rfl
theorem aYo(hk:k=ps.length)(ha:¬a=zeroA):rWk n a false ps k=[⟨n,a⟩]++rW2 n a true ps k:=by rw[aEh hk,if_pos ⟨rfl,ha⟩]
theorem aUd(hx:ps[k]? =some x)(hn:n≤x.owner)(ha:a=zeroA):rWk n a false ps k=rW2 n a true ps k:=by rw[xR hx,if_neg (by simp[ha]),decide_eq_true hn];rfl
theorem aUe(hx:ps[k]? =some x)(hn:n≤x.owner)(ha:¬a=zeroA):rWk n a false ps k=[⟨n,a⟩]++rW2 n a true ps k:=by rw[xR hx,if_pos ⟨rfl,hn,ha⟩,decide_eq_true hn];rfl
theorem bCs(hx:ps[k]? =some x)(hn:¬n≤x.owner):rWk n a false ps k=rW2 n a false ps k:=by rw[xR hx,if_neg (by simp[hn]),decide_eq_false hn];rfl
theorem bCt(hk:k=ps.length):rW2 n a dn ps k=rWk n a dn ps (k+1):=by unfold rW2;rw[List.drop_eq_nil_of_le (by omega)];rfl
theorem bGu(hx:ps[k]? =some x)(hn:x.owner=n):rW2 n a dn ps k=rWk n a dn ps (k+1):=by
 obtain⟨hk,rfl⟩:=List.getElem?_eq_some_iff.1 hx
 unfold rW2
 rw[List.drop_eq_getElem_cons hk]
 show List.filter _ [ps[k]]++_=_
 rw[List.filter_cons_of_neg (by simpa using hn)];rfl
theorem bGv(hx:ps[k]? =some x)(hn:¬x.owner=n):rW2 n a dn ps k=[x]++rWk n a dn ps (k+1):=by
 obtain⟨hk,rfl⟩:=List.getElem?_eq_some_iff.1 hx
 unfold rW2
 rw[List.drop_eq_getElem_cons hk]
 show List.filter _ [ps[k]]++_=_
 rw[List.filter_cons_of_pos (by simpa using hn)];rfl
theorem aYp(hk:ps.length<k):rWk n a dn ps k=[]:=if_neg (by omega)
theorem aYq:rWk n a dn ps 0=cJ n a dn ps:=if_pos (Nat.zero_le _)
end
open Go Go.Sl Go.Proofs Go.Jn
def uO(h0 out:KRh)(to:Int)(am:KAm):KRh×Int:=
 if 0<to then(if !((dR out.ps to).plus am 1).within||decide (256<(cJ to ((dR out.ps to).plus am 1) false out.ps).length)then(h0,4)else({out with ps:=cJ to ((dR out.ps to).plus am 1) false out.ps},0))
 else(out,0)
def tC(hold:Int):List KHo→Int×KAm→Int×KAm
 |[],d=>d
 |p::l,d=>tC hold l (if p.number=hold then(p.owner,p.a)else d)
abbrev lY(hold:Int)(l:List KHo):List KHo:=l.filter fun p=>decide (p.number≠hold)
def gL(h:KRh)(x:KAct):KAm:=(dR h.ps x.owner).plus x.a (-1)
def dT(h:KRh)(x:KAct):KRh×Int:=
 if(x.kind.toNat:Int)=1 then uO h {h with su:=h.su.plus x.a 1} x.owner x.a
 else if(x.kind.toNat:Int)=2 then(if(gL h x).within then({h with ps:=cJ x.owner (gL h x) false h.ps,su:=h.su.plus x.a (-1)},0)else(h,330))
 else if(x.kind.toNat:Int)=3 then(if(gL h x).within then uO h {h with ps:=cJ x.owner (gL h x) false h.ps} x.other x.a else(h,330))
 else if(x.kind.toNat:Int)=4 then(if(gL h x).within then(if 128≤h.hs.length then(h,5)else({h with ps:=cJ x.owner (gL h x) false h.ps,hs:=h.hs++[⟨h.last+1,x.owner,x.a⟩],last:=h.last+1},0))else(h,330))
 else if(x.kind.toNat:Int)=7 then(if(gL h x).within then(h,0)else(h,330))
 else if(lY x.hold h.hs).length=h.hs.length then(h,6)
 else uO h {h with hs:=lY x.hold h.hs} (if(x.kind.toNat:Int)=6 then x.other else(tC x.hold h.hs (0,x.a)).1) (tC x.hold h.hs (0,x.a)).2
def aYu(l:List KHo):Prop:=l.Pairwise fun p q=>p.number<q.number
abbrev hoP(p:KHo):Int×KHo:=(p.number,p)
structure RelH(hs:List (Int×KHo))(l:List KHo):Prop where
 s:aYu l
 p:(l.map hoP).Perm hs
structure RelS(s:KSt)(h:KRh):Prop where
 p:RelP s.ps h.ps
 o:RelH s.hs h.hs
 l:h.last=s.last
 u:h.su=s.su
theorem RelH.nd{hs:List (Int×KHo)}{l:List KHo}(h:RelH hs l):(hs.map (·.1)).Nodup:=by
 refine((h.p.map (·.1)).nodup_iff).1 ?_
 rw[List.map_map]
 exact List.pairwise_map.2 (h.s.imp fun{a b} hab=>by show a.number≠b.number;omega)
theorem aSk{hold:Int}{l:List KHo}:∀{d:Int×KAm},(∀p∈l,p.number≠hold)→tC hold l d=d:=by
 induction l with
 |nil=>intro d _;rfl
 |cons p l ih=>intro d h;unfold tC;rw[if_neg (h p (by simp))];exact ih fun q hq=>h q (by simp[hq])
theorem aWw{hold:Int}{p:KHo}(e:p.number=hold){l:List KHo}:∀{d:Int×KAm},aYu l→p∈l→tC hold l d=(p.owner,p.a):=by
 induction l with
 |nil=>intro d _ h;cases h
 |cons q l ih=>
  intro d hs h
  have h1:=List.pairwise_cons.1 hs
  unfold tC
  rcases List.mem_cons.1 h with h|h
  ·rw[←h,if_pos e];exact aSk fun r hr=>by have:=h1.1 r hr;rw[←h]at this;omega
  ·exact ih h1.2 h
theorem aSl(hold:Int)(l:List KHo):(lY hold l).map hoP=bK.del (l.map hoP) hold:=by
 unfold MapK.del
 rw[List.filter_map]
 refine congrArg (List.map hoP) (List.filter_congr fun p _=> ?_)
 show decide (p.number≠hold)= !decide (p.number=hold)
 by_cases e:p.number=hold<;>simp[e]
theorem RelH.del{hs:List (Int×KHo)}{l:List KHo}(h:RelH hs l)(n:Int):RelH (bK.del hs n) (lY n l):=⟨h.s.filter _,by rw[aSl];exact oM h.p n⟩
theorem RelH.found{hs:List (Int×KHo)}{l:List KHo}(h:RelH hs l)(n:Int)(d:Int×KAm):
  ((bK.look hs n).isSome=false∧(lY n l).length=l.length)∨((bK.look hs n).isSome=true∧¬(lY n l).length=l.length∧tC n l d=((mB hs n).owner,(mB hs n).a)):=by
 cases e:bK.look hs n with
 |none=>
  refine .inl ⟨rfl,?_⟩
  rw[iC]at e
  refine congrArg List.length (List.filter_eq_self.2 fun p hp=>decide_eq_true fun q=> ?_)
  exact e (q▸List.mem_map.2 ⟨hoP p,h.p.mem_iff.1 (List.mem_map.2 ⟨p,hp,rfl⟩),rfl⟩)
 |some v=>
  obtain⟨p,hp,hv⟩:=List.mem_map.1 (h.p.mem_iff.2 (kJ e))
  injection hv with h1 h2
  subst h2
  refine .inr ⟨rfl,fun q=> ?_,?_⟩
  ·have:=List.filter_eq_self.1 (List.filter_sublist.eq_of_length q) p hp
   simp[h1]at this
  ·unfold mB;rw[e]
   exact aWw h1 h.s hp
theorem RelP.radd{ps:List (Int×KAm)}{h0 out:KRh}(h:RelP ps out.ps)(hp:PsOk ps){to:Int}{a:KAm}(ht:0<to):
  uO h0 out to a=if Go.Td.addX ps to a then(h0,4)else({out with ps:=cJ to ((dR out.ps to).plus a 1) false out.ps},0):=by
 unfold uO
 rw[if_pos ht,←h.addX hp]
theorem RelS.left{s:KSt}{h:KRh}(r:RelS s h)(x:KAct):(gL h x).within= !iN s.ps x.owner x.a:=by
 unfold gL iN
 rw[r.p.get];simp
theorem aDk{n:Int}(h:fA n=true):0<n:=by unfold fA at h;simp at h;omega
def oH(h:KRh)(z:KSt×Int×Int)(y:KRh×Int):Prop:=
 y.2=z.2.2∧(z.2.2=0→RelS z.1 y.1∧((0<z.2.1∧h.last<y.1.last∧z.2.1=y.1.last)∨(¬0<z.2.1∧¬h.last<y.1.last)))
theorem oH.bad{h:KRh}{z:KSt×Int×Int}{y:KRh×Int}{e:Int}(h1:y.2=e)(h2:z.2.2=e)(h3:¬e=0):oH h z y:=⟨h1.trans h2.symm,fun q=>absurd (h2.symm.trans q) h3⟩
theorem oH.same{h:KRh}{z:KSt×Int×Int}{y:KRh×Int}(h1:y.2=0)(h2:z.2.2=0)(r:RelS z.1 y.1)(h3:z.2.1=0)(h4:y.1.last=h.last):oH h z y:=⟨h1.trans h2.symm,fun _=>⟨r,.inr ⟨by rw[h3];decide,by rw[h4];exact Int.lt_irrefl _⟩⟩⟩
section
variable {s:KSt}{h:KRh}(g:Good2 s)(r:RelS s h){x:KAct}(hf:x.formed=true)
include g r hf
theorem bEe(k:(x.kind.toNat:Int)=1):oH h (lT s x) (uO h {h with su:=h.su.plus x.a 1} x.owner x.a):=by
 have hw:=cP hf
 unfold KAct.formed KAct.plain at hf
 have ho:fA x.owner=true:=by simp[k]at hf;exact hf.1.1.1
 rw[RelP.radd (out:={h with su:=h.su.plus x.a 1}) r.p g.p (aDk ho)]
 cases ex:Go.Td.addX s.ps x.owner x.a with
 |true=>exact .bad (e:=4) rfl (by show gR _ _ _=4;unfold gR;rw[ex];rfl) (by decide)
 |false=>
  have e0:gR s.ps x.owner x.a=0:=by unfold gR;rw[ex];rfl
  refine .same rfl e0 ⟨r.p.add g.p hw ex,r.o,r.l,?_⟩ rfl rfl
  show h.su.plus x.a 1=if _ then _ else _
  rw[if_pos e0,r.u]
theorem bEf:oH h (lQ s x) (if(gL h x).within then({h with ps:=cJ x.owner (gL h x) false h.ps,su:=h.su.plus x.a (-1)},0)else(h,330)):=by
 have _:=g;have _:=hf
 rw[r.left x]
 cases ex:iN s.ps x.owner x.a with
 |true=>exact .bad (e:=330) rfl (by show eE _ _ _=330;unfold eE;rw[ex];rfl) (by decide)
 |false=>
  have e0:eE s.ps x.owner x.a=0:=by unfold eE;rw[ex];rfl
  refine .same rfl e0 ⟨r.p.take ex,r.o,r.l,?_⟩ rfl rfl
  show h.su.plus x.a (-1)=if _ then _ else _
  rw[if_pos e0,r.u]
theorem bEg(k:(x.kind.toNat:Int)=3):oH h (kR s x) (if(gL h x).within then uO h {h with ps:=cJ x.owner (gL h x) false h.ps} x.other x.a else(h,330)):=by
 have hw:=cP hf
 unfold KAct.formed KAct.plain at hf
 have ho:fA x.owner=true∧fA x.other=true:=by simp[k]at hf;exact⟨hf.1.1.1.1,hf.1.1.1.2⟩
 unfold kR
 rw[r.left x]
 cases ex:iN s.ps x.owner x.a with
 |true=>
  have e0:eE s.ps x.owner x.a=330:=by unfold eE;rw[ex];rfl
  rw[e0]
  exact .bad (e:=330) rfl rfl (by decide)
 |false=>
  have e0:eE s.ps x.owner x.a=0:=by unfold eE;rw[ex];rfl
  have hp2:=(qI g.p ho.1 hw ex).1
  have rp2:=r.p.take ex
  rw[if_pos e0]
  show oH h _ (uO h {h with ps:=cJ x.owner (gL h x) false h.ps} x.other x.a)
  rw[RelP.radd (out:={h with ps:=cJ x.owner (gL h x) false h.ps}) rp2 hp2 (aDk ho.2)]
  cases ex2:Go.Td.addX (dJ s.ps x.owner x.a) x.other x.a with
  |true=>exact .bad (e:=4) rfl (by show gR _ _ _=4;unfold gR;rw[ex2];rfl) (by decide)
  |false=>exact .same rfl (by show gR _ _ _=0;unfold gR;rw[ex2];rfl) ⟨rp2.add hp2 hw ex2,r.o,r.l,r.u⟩ rfl rfl
theorem bEh:oH h (jZ s x) (if(gL h x).within then(if 128≤h.hs.length then(h,5)else({h with ps:=cJ x.owner (gL h x) false h.ps,hs:=h.hs++[⟨h.last+1,x.owner,x.a⟩],last:=h.last+1},0))else(h,330)):=by
 have _:=hf
 have hlen:h.hs.length=s.hs.length:=by have:=r.o.p.length_eq;rwa [List.length_map]at this
 have hh:=g.h
 unfold jZ
 rw[r.left x]
 cases ex:iN s.ps x.owner x.a with
 |true=>
  have e0:eE s.ps x.owner x.a=330:=by unfold eE;rw[ex];rfl
  rw[e0]
  exact .bad (e:=330) rfl rfl (by decide)
 |false=>
  have e0:eE s.ps x.owner x.a=0:=by unfold eE;rw[ex];rfl
  rw[if_pos e0]
  show oH h _ (if 128≤h.hs.length then(h,5)else _)
  by_cases c:(128:Int)≤(s.hs.length:Int)
  ·rw[if_pos c,if_pos (by omega)]
   exact .bad (e:=5) rfl rfl (by decide)
  ·rw[if_neg c,if_neg (by omega)]
   have hl1:h.last=s.last:=r.l
   have hno:bK.look s.hs (s.last+1)=none:=by
    cases e:bK.look s.hs (s.last+1)with
    |none=>rfl
    |some v=>have:=(hh.at e).2.2.1;omega
   refine⟨rfl,fun _=>⟨⟨r.p.take ex,⟨?_,?_⟩,by show h.last+1=s.last+1;rw[hl1],r.u⟩,.inl ⟨by show 0<s.last+1;have:=g.l0;omega,by show h.last<h.last+1;omega,by show s.last+1=h.last+1;rw[hl1]⟩⟩⟩
   ·refine List.pairwise_append.2 ⟨r.o.s,List.pairwise_singleton _ _,fun p hp q hq=> ?_⟩
    rw[List.mem_singleton.1 hq]
    have:=hh.hk _ (r.o.p.mem_iff.1 (List.mem_map.2 ⟨p,hp,rfl⟩))
    show p.number<h.last+1
    have h3:p.number≤s.last:=this.2.2.1
    omega
   ·rw[List.map_append]
    show((h.hs.map hoP)++[(h.last+1,(⟨h.last+1,x.owner,x.a⟩:KHo))]).Perm (bK.put s.hs (s.last+1) _)
    rw[nS hno,hl1]
    exact List.Perm.append_right _ r.o.p
theorem bEi:oH h (mU s x) (if(gL h x).within then(h,0)else(h,330)):=by
 have _:=g;have _:=hf
 unfold mU
 rw[r.left x]
 cases ex:iN s.ps x.owner x.a with
 |true=>exact .bad (e:=330) rfl (by show eE _ _ _=330;unfold eE;rw[ex];rfl) (by decide)
 |false=>exact .same rfl (by show eE _ _ _=0;unfold eE;rw[ex];rfl) ⟨r.p,r.o,r.l,r.u⟩ rfl rfl
theorem aKt{o to:Int}(hob:∀v,bK.look s.hs x.hold=some v→fA o=true)(hto:(bK.look s.hs x.hold).isSome=true→to=o):
  oH h (dZ s x.hold o) (if(lY x.hold h.hs).length=h.hs.length then(h,6)else uO h {h with hs:=lY x.hold h.hs} to (tC x.hold h.hs (0,x.a)).2):=by
 have _:=hf
 have hh:=g.h
 unfold dZ
 rcases r.o.found x.hold (0,x.a)with⟨f1,f2⟩|⟨f1,f2,f3⟩
 ·rw[f1,if_pos f2]
  exact .bad (e:=6) rfl rfl (by decide)
 ·rw[if_neg f2,hto f1,f3,if_pos f1]
  obtain⟨v,hv⟩:=Option.isSome_iff_exists.1 f1
  have hva:(mB s.hs x.hold).a.within=true:=by unfold mB;rw[hv];exact(hh.at hv).2.2.2.2
  rw[RelP.radd (out:={h with hs:=lY x.hold h.hs}) r.p g.p (aDk (hob v hv))]
  cases ex:Go.Td.addX s.ps o (mB s.hs x.hold).a with
  |true=>exact .bad (e:=4) rfl (by show gR _ _ _=4;unfold gR;rw[ex];rfl) (by decide)
  |false=>exact .same rfl (by show gR _ _ _=0;unfold gR;rw[ex];rfl) ⟨r.p.add g.p hva ex,r.o.del x.hold,r.l,r.u⟩ rfl rfl
theorem aSs:oH h (cS s x) (dT h x):=by
 have hk:=lH hf
 unfold cS dT
 by_cases k1:(x.kind.toNat:Int)=1
 ·rw[if_pos k1,if_pos k1];exact bEe g r hf k1
 rw[if_neg k1,if_neg k1]
 by_cases k2:(x.kind.toNat:Int)=2
 ·rw[if_pos k2,if_pos k2];exact bEf g r hf
 rw[if_neg k2,if_neg k2]
 by_cases k3:(x.kind.toNat:Int)=3
 ·rw[if_pos k3,if_pos k3];exact bEg g r hf k3
 rw[if_neg k3,if_neg k3]
 by_cases k4:(x.kind.toNat:Int)=4
 ·rw[if_pos k4,if_pos k4];exact bEh g r hf
 rw[if_neg k4,if_neg k4]
 by_cases k7:(x.kind.toNat:Int)=7
 ·rw[if_neg (by omega:¬(x.kind.toNat:Int)=5),if_neg (by omega:¬(x.kind.toNat:Int)=6),if_pos k7];exact bEi g r hf
 rw[if_neg k7]
 by_cases k5:(x.kind.toNat:Int)=5
 ·have k6:¬(x.kind.toNat:Int)=6:=by omega
  rw[if_pos k5,if_neg k6]
  refine aKt g r hf (fun v hv=>by unfold mB;rw[hv];exact(g.h.at hv).2.2.2.1) (fun q=> ?_)
  rcases r.o.found x.hold (0,x.a)with⟨f1,_⟩|⟨_,_,f3⟩
  ·rw[f1]at q;cases q
  ·rw[f3]
 ·have k6:(x.kind.toNat:Int)=6:=by omega
  rw[if_neg k5,if_pos k6,if_pos k6]
  have ho:fA x.other=true:=by
   unfold KAct.formed KAct.plain at hf
   simp[k6]at hf;exact hf.1.1.2
  exact aKt g r hf (fun _ _=>ho) (fun _=>rfl)
end
open Go Go.Sl Go.Proofs Go.Jn
def aS(h0:KRh):KRh→List Int→Nat→List KAct→KRh×KRes
 |out,made,_,[]=>(out,⟨true,0,0,made⟩)
 |out,made,k,x::xs=>if(dT out x).2=0 then aS h0 (dT out x).1 (if out.last<(dT out x).1.last then made++[(dT out x).1.last]else made) (k+1) xs else(h0,⟨false,(k:Int),(dT out x).2,[]⟩)
theorem aTa{h0 out:KRh}{made:List Int}{k:Nat}{xs:List KAct}(h:xs.length≤k):aS h0 out made k (xs.drop k)=(out,⟨true,0,0,made⟩):=by
 rw[List.drop_eq_nil_of_le h];rfl
theorem aSz{h0 out:KRh}{made:List Int}{k:Nat}{xs:List KAct}{x:KAct}(hx:xs[k]? =some x)(he:¬(dT out x).2=0):aS h0 out made k (xs.drop k)=(h0,⟨false,(k:Int),(dT out x).2,[]⟩):=by
 obtain⟨hk,rfl⟩:=List.getElem?_eq_some_iff.1 hx
 rw[List.drop_eq_getElem_cons hk];exact if_neg he
theorem aBr{h0 out:KRh}{made:List Int}{k:Nat}{xs:List KAct}{x:KAct}(hx:xs[k]? =some x)(he:(dT out x).2=0):aS h0 out made k (xs.drop k)=aS h0 (dT out x).1 (if out.last<(dT out x).1.last then made++[(dT out x).1.last]else made) (k+1) (xs.drop (k+1)):=by
 obtain⟨hk,rfl⟩:=List.getElem?_eq_some_iff.1 hx
 rw[List.drop_eq_getElem_cons hk];exact if_pos he
abbrev nT(au:Int)(l:List KMem):List KMem:=l.filter fun m=>decide (m.d.author≠au)
def eP(h:KRh)(au nu:Int)(al:List KAct):KRh×KRes:=
 ({(aS h h [] 0 al).1 with ds:=⟨⟨au,nu,al⟩,(aS h h [] 0 al).2⟩::nT au h.ds},(aS h h [] 0 al).2)
def lK:List KMem→Int→Option KMem
 |[],_=>none
 |m::l,au=>if m.d.author=au then some m else lK l au
def jT(h:KRh)(au nu:Int)(al:List KAct):KRh×KRes×Int:=
 if cE au nu al=false then(h,dK,2)
 else match lK h.ds au with
 |some m=>
  if m.d.number=nu then(if m.d.acts=al then(h,m.r,0)else(h,dK,331))
  else if nu<m.d.number then(h,dK,332)
  else((eP h au nu al).1,(eP h au nu al).2,0)
 |none=>((eP h au nu al).1,(eP h au nu al).2,0)
structure RelX(X:KHs)(h:KRh):Prop where
 s:RelS X.s h
 d:∀au,lK h.ds au=X.done au
 k:∀m∈h.ds,X.done m.d.author=some m
theorem aKu{s0:KSt}{h0:KRh}(r0:RelS s0 h0):∀{xs:List KAct} {s:KSt} {h:KRh} {made:List Int} {k:Nat},Good2 s→RelS s h→(∀x∈xs,x.formed=true)→RelS (jR s0 s made k xs).1 (aS h0 h made k xs).1∧(aS h0 h made k xs).2=(jR s0 s made k xs).2
 |[],s,h,made,k,g,r,_=>⟨r,rfl⟩
 |x::xs,s,h,made,k,g,r,hf=>by
  obtain⟨e1,e2⟩:=aSs g r (hf x (by simp))
  unfold jR aS
  rw[e1]
  by_cases c:(cS s x).2.2=0
  ·rw[if_pos c,if_pos c]
   obtain⟨r2,hm⟩:=e2 c
   have g2:=(sV g (hf x (by simp)) c).1
   have em:(if h.last<(dT h x).1.last then made++[(dT h x).1.last]else made)=if 0<(cS s x).2.1 then made++[(cS s x).2.1]else made:=by
    rcases hm with⟨a,b,c⟩|⟨a,b⟩
    ·rw[if_pos a,if_pos b,c]
    ·rw[if_neg a,if_neg b]
   rw[em]
   exact aKu r0 g2 r2 fun y hy=>hf y (by simp[hy])
  ·rw[if_neg c,if_neg c];exact⟨r0,rfl⟩
theorem yX{au a:Int}(h:a≠au):∀l:List KMem,lK (nT au l) a=lK l a
 |[]=>rfl
 |m::l=>by
  have ih:=yX h l
  by_cases e:m.d.author=au
  ·rw[show nT au (m::l)=nT au l from List.filter_cons_of_neg (by simpa using e),ih]
   show _=if m.d.author=a then _ else _
   rw[if_neg (by rw[e];exact fun q=>h q.symm)]
  ·rw[show nT au (m::l)=m::nT au l from List.filter_cons_of_pos (by simpa using e)]
   show(if m.d.author=a then _ else _)=if m.d.author=a then _ else _
   rw[ih]
theorem aNj{X:KHs}{h:KRh}(g:XOk X)(r:RelX X h){au nu:Int}{al:List KAct}(hf:cE au nu al=true):RelX (eH X au nu al) (eP h au nu al).1∧(eP h au nu al).2=(aE X.s al).2:=by
 obtain⟨h1,h2,h3,h4⟩:=fG.1 hf
 obtain⟨e1,e2⟩:=aKu (s0:=X.s) (h0:=h) r.s (made:=[]) (k:=0) g.g r.s h4
 have e2':(eP h au nu al).2=(aE X.s al).2:=e2
 have hk:∀m∈(eP h au nu al).1.ds,(eH X au nu al).done m.d.author=some m:=fun m hm=>by
  have hm:m∈(⟨⟨au,nu,al⟩,(eP h au nu al).2⟩:KMem)::nT au h.ds:=hm
  rcases List.mem_cons.1 hm with e|hm
  ·rw[e];show(if au=au then _ else _)=_;rw[if_pos rfl,e2']
  ·have hm2:=List.mem_filter.1 hm
   have hne:m.d.author≠au:=by simpa using hm2.2
   show(if m.d.author=au then _ else X.done m.d.author)=_
   rw[if_neg hne];exact r.k m hm2.1
 have hfi:∀a,lK (eP h au nu al).1.ds a=(eH X au nu al).done a:=fun a=>by
  show(if au=a then some (⟨⟨au,nu,al⟩,(eP h au nu al).2⟩:KMem)else lK (nT au h.ds) a)=if a=au then _ else X.done a
  by_cases e:a=au
  ·rw[if_pos e,if_pos e.symm,e2']
  ·rw[if_neg e,if_neg fun q=>e q.symm,yX e,r.d]
 exact⟨⟨⟨e1.p,e1.o,e1.l,e1.u⟩,hfi,hk⟩,e2'⟩
theorem aIg(h:KRh)(au nu:Int)(al:List KAct):(eP h au nu al).1.ds.length≤h.ds.length+1:=by
 show(nT au h.ds).length+1≤_
 have:(nT au h.ds).length≤h.ds.length:=List.length_filter_le _ _
 omega
theorem aXe{X:KHs}{h:KRh}(g:XOk X)(r:RelX X h)(au nu:Int)(al:List KAct):
  ∃X1 h1 R e,rS X au nu al=(X1,R,e)∧jT h au nu al=(h1,R,e)∧RelX X1 h1∧h1.ds.length≤h.ds.length+1:=by
 unfold rS jT
 cases hf:cE au nu al with
 |false=>exact⟨X,h,dK,2,if_pos rfl,if_pos rfl,r,Nat.le_succ _⟩
 |true=>
  rw[if_neg (by decide),if_neg (by decide),r.d]
  have hc:=aNj g r hf
  have hl:=aIg h au nu al
  cases X.done au with
  |none=>exact⟨_,_,_,0,rfl,by rw[←hc.2],hc.1,hl⟩
  |some m=>
   show ∃X1 h1 R e,(if m.d.number=nu then(if m.d.acts=al then(X,m.r,(0:Int))else(X,dK,331))else if nu<m.d.number then(X,dK,332)else(eH X au nu al,(aE X.s al).2,0))=(X1,R,e)∧(if m.d.number=nu then(if m.d.acts=al then(h,m.r,(0:Int))else(h,dK,331))else if nu<m.d.number then(h,dK,332)else((eP h au nu al).1,(eP h au nu al).2,0))=(h1,R,e)∧RelX X1 h1∧h1.ds.length≤h.ds.length+1
   by_cases e1:m.d.number=nu
   ·rw[if_pos e1,if_pos e1]
    by_cases e2:m.d.acts=al
    ·rw[if_pos e2,if_pos e2];exact⟨X,h,m.r,0,rfl,rfl,r,Nat.le_succ _⟩
    ·rw[if_neg e2,if_neg e2];exact⟨X,h,dK,331,rfl,rfl,r,Nat.le_succ _⟩
   ·rw[if_neg e1,if_neg e1]
    by_cases e2:nu<m.d.number
    ·rw[if_pos e2,if_pos e2];exact⟨X,h,dK,332,rfl,rfl,r,Nat.le_succ _⟩
    ·rw[if_neg e2,if_neg e2];exact⟨_,_,_,0,rfl,by rw[←hc.2],hc.1,hl⟩
theorem aBz{l m:List Int}(hs:l.Pairwise (· < ·))(hp:l.Perm m):sortI m=l:=uV hp.symm (hs.imp fun h=>Int.le_of_lt h)
theorem RelS.owners{X:KHs}{h:KRh}(r:RelS X.s h):rV X=h.ps.map (·.owner):=by
 unfold rV
 refine aBz (List.pairwise_map.2 r.p.s) ?_
 have:=r.p.p.map (·.1)
 rwa [List.map_map]at this
theorem RelS.holds{X:KHs}{h:KRh}(r:RelS X.s h):gN X=h.hs:=by
 unfold gN
 have e:sortI (X.s.hs.map (·.1))=h.hs.map (·.number):=by
  refine aBz (List.pairwise_map.2 r.o.s) ?_
  have:=r.o.p.map (·.1)
  rwa [List.map_map]at this
 rw[e,List.map_map]
 refine(List.map_congr_left fun p hp=> ?_).trans (List.map_id _)
 show mB X.s.hs p.number=p
 unfold mB
 rw[kD r.o.nd (k:=p.number) (v:=p) (r.o.p.mem_iff.1 (List.mem_map.2 ⟨p,hp,rfl⟩))]<;>rfl
theorem RelS.purse{X:KHs}{h:KRh}(r:RelS X.s h){p:KPu}(hp:p∈h.ps):iJ X.s.ps p.owner=p.a:=by rw[←r.p.get];exact yY r.p.s hp
theorem RelX.last{X:KHs}{h:KRh}(r:RelX X h)(au:Int):uD X au=match lK h.ds au with|none=>(0,dK,false)|some m=>(m.d.number,m.r,true):=by
 unfold uD;rw[r.d]<;>cases X.done au<;>rfl
theorem aIj:RelX gM ⟨[],[],0,zeroA,[]⟩:=⟨⟨⟨List.Pairwise.nil,List.Perm.refl _⟩,⟨List.Pairwise.nil,List.Perm.refl _⟩,rfl,rfl⟩,fun _=>rfl,fun m h=>by cases h⟩
open Go Go.Sl Go.Proofs Go.Jn
section
variable {X:KHs}(h:XOk X)
include h
end
open Go Go.Sl Go.Proofs Go.Jn
def gP{α:Type}(F:Fl α)(T:Nat)(p0:Option Addr)(c0:Nat)(xs0:List α)(p:Option Addr)(c:Nat)(xs:List α):bU:=fun h=>aM F T p c xs h∨(p=p0∧c=c0∧xs=xs0)
section
variable {α:Type}{F:Fl α}{T:Nat}{p0 p1 p2:Option Addr}{c0 c1 c2:Nat}{xs0 xs1 xs2:List α}
theorem eX{h:bV}:gP F T p0 c0 xs0 p0 c0 xs0 h:= .inr ⟨rfl,rfl,rfl⟩
theorem xO(h:bV)(hr:aM F T p1 c1 xs1 h):gP F T p0 c0 xs0 p1 c1 xs1 h:= .inl hr
theorem uS{a b:bV}(hs:iZ a b)(h:aM F T p1 c1 xs1 a):aM F T p1 c1 xs1 b:=by
 obtain⟨hl,h|⟨g,cap,cur,e,hg,h1,h2,h3,h4⟩⟩:=h
 ·exact⟨hl,.inl h⟩
 ·exact⟨hl,.inr ⟨g,cap,cur,e,hs _ _ hg,h1,h2,h3,h4⟩⟩
theorem aXo{a b:bV}(hs:iZ a b)(h:gP F T p0 c0 xs0 p1 c1 xs1 a):gP F T p0 c0 xs0 p1 c1 xs1 b:=h.elim (fun h=> .inl (uS hs h)) .inr
theorem aBx:∀a,iY [gP F T p1 c1 xs1 p2 c2 xs2,gP F T p0 c0 xs0 p1 c1 xs1] a→gP F T p0 c0 xs0 p2 c2 xs2 a:=fun a ha=>by
 obtain⟨a1,b1,_,s1,s2,h1,a2,b2,_,s3,_,h2,_⟩:=ha
 rcases h1 with h1|⟨rfl,rfl,rfl⟩
 ·exact .inl (uS s1 h1)
 ·exact aXo (s3.trans s2) h2
theorem aLd:∀a,iY [gP F T p0 c0 xs0 p1 c1 xs1,aM F T p0 c0 xs0] a→aM F T p1 c1 xs1 a:=fun a ha=>by
 obtain⟨a1,b1,_,s1,s2,h1,a2,b2,_,s3,_,h2,_⟩:=ha
 rcases h1 with h1|⟨rfl,rfl,rfl⟩
 ·exact uS s1 h1
 ·exact uS (s3.trans s2) h2
theorem yK{β:Base}{L:List bU}(i:Nat)(hi:L[i]? =some (gP F T p0 c0 xs0 p1 c1 xs1))(hs:Sl F.R β.heap (.slice p0 xs0.length c0) xs0):bF β L (fun h=>Sl F.R h (.slice p1 xs1.length c1) xs1):=fun h hb hr=>by
 obtain⟨a,ha,hra⟩:=hr _ (List.mem_of_getElem? hi)
 rcases hra with hra|⟨rfl,rfl,rfl⟩
 ·exact Sl.mono _ _ _ _ _ ha (jE hra)
 ·exact Sl.mono _ _ _ _ _ hb hs
theorem gF{α:Type}{R:Rp α}{h:bV}{p:Option Addr}{n c:Nat}{xs:List α}(hs:Sl R h (.slice p n c) xs):n=xs.length∧n≤c∧c≤9223372036854775807∧cX R h p xs:=by
 obtain⟨a,c',e,h1,h2,h3⟩:=hs
 injection e with e1 e2 e3
 subst e1;subst e3
 exact⟨e2,by omega,h2,h3⟩
end
abbrev bCv(l:List KPu):Prop:=∀n,(dR l n).within=true
theorem jQ:∀{l:List KPu},(∀p∈l,p.a.within=true)→bCv l
 |[],_,_=>rfl
 |p::l,h,n=>by
  unfold dR
  split
  ·exact h p (by simp)
  ·exact jQ (fun q hq=>h q (by simp[hq])) n
theorem aBl{n:Int}{a:KAm}:∀{l:List KPu} {dn:Bool} {p:KPu},p∈cJ n a dn l→p=⟨n,a⟩∨p∈l
 |[],dn,p,h=>by
  unfold cJ at h
  split at h
  ·exact .inl (List.mem_singleton.1 h)
  ·cases h
 |q::l,dn,p,h=>by
  unfold cJ at h
  rcases List.mem_append.1 h with h|h
  ·split at h
   ·exact .inl (List.mem_singleton.1 h)
   ·cases h
  ·rcases List.mem_append.1 h with h|h
   ·split at h
    ·cases h
    ·exact .inr (by simp[List.mem_singleton.1 h])
   ·rcases aBl h with h|h
    ·exact .inl h
    ·exact .inr (by simp[h])
theorem aJy{c:Prop}[Decidable c]{z:KPu}:(if c then [z]else []).length≤1:=by split<;>simp
theorem aIf{n:Int}{a:KAm}{l:List KPu}:(cJ n a true l).length≤l.length:=by rw[qD];exact List.length_filter_le _ _
theorem qF{n:Int}{a:KAm}:∀{l:List KPu},(cJ n a false l).length≤l.length+1
 |[]=>by unfold cJ;exact Nat.le_trans aJy (by decide)
 |q::l=>by
  unfold cJ
  have h2:(if q.owner=n then []else [q]).length≤1:=by split<;>simp
  have h3:=aJy (c:=false=false∧n≤q.owner∧¬a=zeroA) (z:=⟨n,a⟩)
  rw[List.length_append,List.length_append,List.length_cons,Bool.false_or]
  by_cases c:n≤q.owner
  ·rw[decide_eq_true c]
   have:=aIf (n:=n) (a:=a) (l:=l)
   omega
  ·have h1:=qF (n:=n) (a:=a) (l:=l)
   rw[decide_eq_false c,if_neg (c:=false=false∧n≤q.owner∧¬a=zeroA) (fun q=>c q.2.1)]
   show 0+_≤_
   omega
structure RbOk(h:KRh):Prop where
 p:∀q∈h.ps,q.a.within=true
 o:∀q∈h.hs,q.a.within=true
 u:h.su.bd 1099511627776
 l:0≤h.last
 pn:h.ps.length≤256
 hn:h.hs.length≤128
theorem RelS.rb{s:KSt}{h:KRh}(r:RelS s h)(g:Good2 s):RbOk h where
 p q hq:=(g.p.pk _ (r.p.p.mem_iff.1 (List.mem_map.2 ⟨q,hq,rfl⟩))).2.1
 o q hq:=(g.h.hk _ (r.o.p.mem_iff.1 (List.mem_map.2 ⟨q,hq,rfl⟩))).2.2.2.2
 u:=by rw[r.u];have:=g.sup;unfold KAm.bd;omega
 l:=by rw[r.l];exact g.l0
 pn:=by have:=r.p.p.length_eq;rw[List.length_map]at this;rw[this];exact g.p.pn
 hn:=by have:=r.o.p.length_eq;rw[List.length_map]at this;rw[this];exact g.h.hn
structure DoMid(h:KRh)(x:KAct)(to:Int)(am:KAm)(out:KRh):Prop where
 e:dT h x=uO h out to am
 w:bCv out.ps
 a:am.within=true
 n:out.ps.length≤600
section
variable {h:KRh}{x:KAct}(b:RbOk h)(hx:x.formed=true)
theorem zW{l:List KPu}{n:Int}{a:KAm}(hl:∀q∈l,q.a.within=true)(ha:a.within=true):∀q∈cJ n a false l,q.a.within=true:=fun q hq=>by
 rcases aBl hq with rfl|hq
 ·exact ha
 ·exact hl q hq
theorem vU{h0 out:KRh}{am:KAm}:uO h0 out 0 am=(out,0):=if_neg (by decide)
include b hx
theorem bHa(k:x.kind=1):DoMid h x x.owner x.a {h with su:=h.su.plus x.a 1}:=by
 refine⟨?_,jQ b.p,cP hx,Nat.le_trans b.pn (by decide)⟩
 unfold dT;rw[k];exact if_pos rfl
theorem bHb(k:x.kind=2)(w:(gL h x).within=true):DoMid h x 0 x.a {h with ps:=cJ x.owner (gL h x) false h.ps,su:=h.su.plus x.a (-1)}:=by
 refine⟨?_,jQ (zW b.p w),cP hx,Nat.le_trans qF (Nat.le_trans (Nat.succ_le_succ b.pn) (by decide))⟩
 rw[vU];unfold dT;rw[k]
 exact(if_neg (by decide)).trans ((if_pos rfl).trans (if_pos w))
theorem bHc(k:x.kind=3)(w:(gL h x).within=true):DoMid h x x.other x.a {h with ps:=cJ x.owner (gL h x) false h.ps}:=by
 refine⟨?_,jQ (zW b.p w),cP hx,Nat.le_trans qF (Nat.le_trans (Nat.succ_le_succ b.pn) (by decide))⟩
 unfold dT;rw[k]
 exact(if_neg (by decide)).trans ((if_neg (by decide)).trans ((if_pos rfl).trans (if_pos w)))
theorem bHd(k:x.kind=4)(w:(gL h x).within=true)(hn:¬128≤h.hs.length):DoMid h x 0 x.a {h with ps:=cJ x.owner (gL h x) false h.ps,hs:=h.hs++[⟨h.last+1,x.owner,x.a⟩],last:=h.last+1}:=by
 refine⟨?_,jQ (zW b.p w),cP hx,Nat.le_trans qF (Nat.le_trans (Nat.succ_le_succ b.pn) (by decide))⟩
 rw[vU];unfold dT;rw[k]
 exact(if_neg (by decide)).trans ((if_neg (by decide)).trans ((if_neg (by decide)).trans ((if_pos rfl).trans ((if_pos w).trans (if_neg hn)))))
theorem bHg(k:x.kind=7)(w:(gL h x).within=true):DoMid h x 0 x.a h:=by
 refine⟨?_,jQ b.p,cP hx,Nat.le_trans b.pn (by decide)⟩
 rw[vU];unfold dT;rw[k]
 exact(if_neg (by decide)).trans ((if_neg (by decide)).trans ((if_neg (by decide)).trans ((if_neg (by decide)).trans ((if_pos rfl).trans (if_pos w)))))
theorem aJi(k:x.kind=2∨x.kind=3∨x.kind=4∨x.kind=7)(w:¬(gL h x).within=true):dT h x=(h,330):=by
 have _:=b;have _:=hx
 unfold dT
 rcases k with k|k|k|k<;>rw[k]
 ·exact(if_neg (by decide)).trans ((if_pos rfl).trans (if_neg w))
 ·exact(if_neg (by decide)).trans ((if_neg (by decide)).trans ((if_pos rfl).trans (if_neg w)))
 ·exact(if_neg (by decide)).trans ((if_neg (by decide)).trans ((if_neg (by decide)).trans ((if_pos rfl).trans (if_neg w))))
 ·exact(if_neg (by decide)).trans ((if_neg (by decide)).trans ((if_neg (by decide)).trans ((if_neg (by decide)).trans ((if_pos rfl).trans (if_neg w)))))
theorem bDn(k:x.kind=4)(w:(gL h x).within=true)(hn:128≤h.hs.length):dT h x=(h,5):=by
 have _:=b;have _:=hx
 unfold dT;rw[k]
 exact(if_neg (by decide)).trans ((if_neg (by decide)).trans ((if_neg (by decide)).trans ((if_pos rfl).trans ((if_pos w).trans (if_pos hn)))))
theorem aPu(k:x.kind=5∨x.kind=6):dT h x=if(lY x.hold h.hs).length=h.hs.length then(h,6)else uO h {h with hs:=lY x.hold h.hs} (if(x.kind.toNat:Int)=6 then x.other else(tC x.hold h.hs (0,x.a)).1) (tC x.hold h.hs (0,x.a)).2:=by
 have _:=b;have _:=hx
 unfold dT
 rcases k with k|k<;>rw[k]
 ·exact(if_neg (by decide)).trans ((if_neg (by decide)).trans ((if_neg (by decide)).trans ((if_neg (by decide)).trans (if_neg (by decide)))))
 ·exact(if_neg (by decide)).trans ((if_neg (by decide)).trans ((if_neg (by decide)).trans ((if_neg (by decide)).trans (if_neg (by decide)))))
theorem aZd(k:x.kind=5∨x.kind=6)(hn:(lY x.hold h.hs).length=h.hs.length):dT h x=(h,6):=(aPu b hx k).trans (if_pos hn)
omit b hx in
theorem aDq{n:Int}:∀{l:List KHo} {d:Int×KAm},(∀q∈l,q.a.within=true)→d.2.within=true→(tC n l d).2.within=true
 |[],_,_,h=>h
 |q::l,d,hl,h=>by
  unfold tC
  refine aDq (fun z hz=>hl z (by simp[hz])) ?_
  split
  ·exact hl q (by simp)
  ·exact h
theorem bHe(k:x.kind=5){to:Int}{am:KAm}{l:List KHo}(hr:(to,am)=tC x.hold h.hs (0,x.a))(hl:l=lY x.hold h.hs)(hn:¬l.length=h.hs.length):DoMid h x to am {h with hs:=l}:=by
 subst hl
 have e1:to=(tC x.hold h.hs (0,x.a)).1:=congrArg (·.1) hr
 have e2:am=(tC x.hold h.hs (0,x.a)).2:=congrArg (·.2) hr
 refine⟨?_,jQ b.p,by rw[e2];exact aDq b.o (cP hx),Nat.le_trans b.pn (by decide)⟩
 rw[aPu b hx (.inl k),if_neg hn,if_neg (by rw[k];decide),e1,e2]
theorem bHf(k:x.kind=6){to:Int}{am:KAm}{l:List KHo}(hr:(to,am)=tC x.hold h.hs (0,x.a))(hl:l=lY x.hold h.hs)(hn:¬l.length=h.hs.length):DoMid h x x.other am {h with hs:=l}:=by
 subst hl
 have e2:am=(tC x.hold h.hs (0,x.a)).2:=congrArg (·.2) hr
 refine⟨?_,jQ b.p,by rw[e2];exact aDq b.o (cP hx),Nat.le_trans b.pn (by decide)⟩
 rw[aPu b hx (.inr k),if_neg hn,if_pos (by rw[k];rfl),e2]
end
section
variable {h out:KRh}{x:KAct}{to:Int}{am:KAm}(m:DoMid h x to am out)
include m
theorem aHx(ht:¬0<to):dT h x=(out,0):=m.e.trans (if_neg ht)
theorem aRl(ht:0<to)(hb:((dR out.ps to).plus am 1).within=true→256<(cJ to ((dR out.ps to).plus am 1) false out.ps).length):dT h x=(h,4):=by
 rw[m.e];unfold uO
 rw[if_pos ht,if_pos]
 cases e:((dR out.ps to).plus am 1).within with
 |false=>rfl
 |true=>show(false||_)=true;rw[Bool.false_or];exact decide_eq_true (hb e)
theorem bBq(ht:0<to)(h1:((dR out.ps to).plus am 1).within=true)(h2:¬256<(cJ to ((dR out.ps to).plus am 1) false out.ps).length):dT h x=({out with ps:=cJ to ((dR out.ps to).plus am 1) false out.ps},0):=by
 rw[m.e];unfold uO
 rw[if_pos ht,if_neg]
 rw[h1];show ¬(false||_)=true;rw[Bool.false_or,decide_eq_false h2];decide
end
theorem yZ{n:Int}{y:KHo}:∀{l:List KHo} {d:Int×KAm},tC n (l++[y]) d=if y.number=n then(y.owner,y.a)else tC n l d
 |[],d=>by show tC n [y] d=_;unfold tC tC;rfl
 |q::l,d=>by show tC n (l++[y]) _=_;rw[yZ];rfl
section
variable {hs:List KHo}{k:Nat}{y:KHo}{n:Int}{d:Int×KAm}
theorem aCy(hy:hs[k]? =some y)(e:y.number=n):lY n (hs.take (k+1))=lY n (hs.take k)∧tC n (hs.take (k+1)) d=(y.owner,y.a):=by
 rw[iP hy]
 refine⟨?_,by rw[yZ,if_pos e]⟩
 unfold lY;rw[List.filter_append,List.filter_cons_of_neg (by simpa using e)];simp
theorem xF(hy:hs[k]? =some y)(e:¬y.number=n):lY n (hs.take (k+1))=lY n (hs.take k)++[y]∧tC n (hs.take (k+1)) d=tC n (hs.take k) d:=by
 rw[iP hy]
 refine⟨?_,by rw[yZ,if_neg e]⟩
 unfold lY;rw[List.filter_append,List.filter_cons_of_pos (by simpa using e)];rfl
end
open Go Go.Sl Go.Proofs Go.Jn
def fP(j i:Nat):Value→Option Addr| .tuple ⟨l⟩=>(match l[j]?.getD .nilFunc with| .agg a=>dG (a.toList[i]?.getD .nilFunc)|_=>none)|_=>none
def fQ(j i:Nat):Value→Nat| .tuple ⟨l⟩=>(match l[j]?.getD .nilFunc with| .agg a=>dH (a.toList[i]?.getD .nilFunc)|_=>0)|_=>0
theorem aTd{s:KSt}{out:KRh}{x:KAct}(g:Good2 s)(r:RelS s out)(hx:x.formed=true)(he:(dT out x).2=0):∃s',RelS s' (dT out x).1∧Good2 s'∧(dT out x).1.last≤out.last+1:=by
 obtain⟨e1,e2⟩:=aSs g r hx
 obtain⟨r2,_⟩:=e2 (e1▸he)
 obtain⟨g2,l2,_⟩:=sV g hx (e1▸he)
 exact⟨_,r2,g2,by rw[r2.l,r.l];exact l2⟩
abbrev fX(au:Int)(l:List KMh):List KMh:=l.filter fun y=>decide (y.author≠au)
section
variable {hd:List KMh}{k:Nat}{y:KMh}{au:Int}
theorem bBl(hy:hd[k]? =some y)(e:y.author≠au):fX au (hd.take (k+1))=fX au (hd.take k)++[y]:=by
 rw[iP hy];unfold fX;rw[List.filter_append,List.filter_cons_of_pos (by simpa using e)];rfl
theorem bDz(hy:hd[k]? =some y)(e:y.author=au):fX au (hd.take (k+1))=fX au (hd.take k):=by
 rw[iP hy];unfold fX;rw[List.filter_append,List.filter_cons_of_neg (by simpa using e)];simp
theorem bBk:(fX au (hd.take k)).length≤hd.length:=Nat.le_trans (List.length_filter_le _ _) (by rw[List.length_take];omega)
end
def lS:List KMh→Int→Option KMh
 |[],_=>none
 |m::l,au=>if m.author=au then some m else lS l au
theorem bBf{hd:List KMh}{k:Nat}{au:Int}(h:hd.length≤k):lS (hd.drop k) au=none:=by rw[List.drop_eq_nil_of_le h];rfl
theorem aJs{hd:List KMh}{k:Nat}{y:KMh}{au:Int}(hy:hd[k]? =some y):lS (hd.drop k) au=if y.author=au then some y else lS (hd.drop (k+1)) au:=by
 obtain⟨hk,rfl⟩:=List.getElem?_eq_some_iff.1 hy
 rw[List.drop_eq_getElem_cons hk];rfl
theorem aJt{zs:List (KMh×KMem)}(hz:∀z∈zs,HdOf z){au:Int}:lS (zs.map (·.1)) au=none→lK (zs.map (·.2)) au=none:=by
 induction zs with
 |nil=>exact fun _=>rfl
 |cons z zs ih=>
  intro h
  have h:(if z.1.author=au then some z.1 else lS (zs.map (·.1)) au)=none:=h
  show(if z.2.d.author=au then some z.2 else lK (zs.map (·.2)) au)=none
  have e:=(hz z (by simp)).au
  rw[e]at h
  split at h
  ·cases h
  ·rename_i hn;rw[if_neg hn];exact ih (fun y hy=>hz y (by simp[hy])) h
theorem aJu{zs:List (KMh×KMem)}(hz:∀z∈zs,HdOf z){au:Int}{m:KMh}:lS (zs.map (·.1)) au=some m→∃mm,(m,mm)∈zs∧lK (zs.map (·.2)) au=some mm:=by
 induction zs with
 |nil=>intro h;cases h
 |cons z zs ih=>
  intro h
  have h:(if z.1.author=au then some z.1 else lS (zs.map (·.1)) au)=some m:=h
  show ∃mm,(m,mm)∈z::zs∧(if z.2.d.author=au then some z.2 else lK (zs.map (·.2)) au)=some mm
  have e:=(hz z (by simp)).au
  rw[e]at h
  split at h
  ·rename_i hn;rw[if_pos hn];injection h with h;subst h;exact⟨z.2,by simp,rfl⟩
  ·rename_i hn;rw[if_neg hn]
   obtain⟨mm,h1,h2⟩:=ih (fun y hy=>hz y (by simp[hy])) h
   exact⟨mm,by simp[h1],h2⟩
theorem aKb{zs:List (KMh×KMem)}(hz:∀z∈zs,HdOf z){au:Int}:fX au (zs.map (·.1))=(zs.filter fun z=>decide (z.1.author≠au)).map (·.1)∧nT au (zs.map (·.2))=(zs.filter fun z=>decide (z.1.author≠au)).map (·.2):=by
 unfold fX nT
 rw[List.filter_map,List.filter_map]
 refine⟨congrArg _ (List.filter_congr fun z _=>rfl),congrArg _ (List.filter_congr fun z hzz=> ?_)⟩
 show decide (z.2.d.author≠au)=decide (z.1.author≠au)
 rw[(hz z hzz).au]
section
variable {al bl:List KAct}{k:Nat}{sm:Bool}
theorem aPq:decide (al.length=bl.length)=decide (al.length=bl.length∧al.take 0=bl.take 0):=by simp
theorem aPp{x y:KAct}(hx:al[k]? =some x)(hy:bl[k]? =some y)(h:true=decide (al.length=bl.length∧al.take k=bl.take k)):decide (x=y)=decide (al.length=bl.length∧al.take (k+1)=bl.take (k+1)):=by
 have h:=of_decide_eq_true h.symm
 rw[List.take_add_one,List.take_add_one,hx,hy,h.2]
 by_cases e:x=y
 ·subst e;simp[h.1]
 ·rw[decide_eq_false e,decide_eq_false]
  intro q
  have:=List.append_cancel_left q.2
  simp at this
  exact e this
theorem aPo(hk:bl.length≤k)(h:sm=decide (al.length=bl.length∧al.take k=bl.take k)):sm=decide (al=bl):=by
 rw[h]
 by_cases e:al=bl
 ·subst e;simp
 ·rw[decide_eq_false e,decide_eq_false]
  intro q
  rw[List.take_of_length_le (by omega),List.take_of_length_le (by omega)]at q
  exact e q.2
theorem aUz(hs:sm=false)(h:sm=decide (al.length=bl.length∧al.take k=bl.take k)):sm=decide (al=bl):=by
 rw[hs]
 rw[hs]at h
 by_cases e:al=bl
 ·subst e;simp at h
 ·rw[decide_eq_false e]
end
theorem aOu{al:List KAct}{k:Nat}{x:KAct}(hx:al[k]? =some x):(!(al.take (k+1)).any fun z=> !z.formed)=((!(al.take k).any fun z=> !z.formed)&&x.formed):=by
 rw[iP hx,List.any_append]
 cases(al.take k).any fun z=> !z.formed<;>cases h:x.formed<;>simp[h]
section
variable {h:KRh}{au nu:Int}{al:List KAct}
theorem aUr(hf:cE au nu al=false):jT h au nu al=(h,dK,2):=if_pos hf
theorem aOw(hf:cE au nu al=true){m:KMem}(hm:lK h.ds au=some m)(h1:m.d.number=nu)(h2:m.d.acts=al):jT h au nu al=(h,m.r,0):=by
 unfold jT;rw[hf,if_neg (by decide),hm];show(if _ then(if _ then _ else _)else _)=_;rw[if_pos h1,if_pos h2]
theorem aLr(hf:cE au nu al=true){m:KMem}(hm:lK h.ds au=some m)(h1:m.d.number=nu)(h2:¬m.d.acts=al):jT h au nu al=(h,dK,331):=by
 unfold jT;rw[hf,if_neg (by decide),hm];show(if _ then(if _ then _ else _)else _)=_;rw[if_pos h1,if_neg h2]
theorem aUt(hf:cE au nu al=true){m:KMem}(hm:lK h.ds au=some m)(h1:¬m.d.number=nu)(h2:nu<m.d.number):jT h au nu al=(h,dK,332):=by
 unfold jT;rw[hf,if_neg (by decide),hm];show(if _ then _ else if _ then _ else _)=_;rw[if_neg h1,if_pos h2]
theorem aUs(hf:cE au nu al=true){m:KMem}(hm:lK h.ds au=some m)(h1:¬m.d.number=nu)(h2:¬nu<m.d.number):jT h au nu al=((eP h au nu al).1,(eP h au nu al).2,0):=by
 unfold jT;rw[hf,if_neg (by decide),hm];show(if _ then _ else if _ then _ else _)=_;rw[if_neg h1,if_neg h2]
theorem aLq(hf:cE au nu al=true)(hm:lK h.ds au=none):jT h au nu al=((eP h au nu al).1,(eP h au nu al).2,0):=by
 unfold jT;rw[hf,if_neg (by decide),hm]
end
def YIn(zs:List (KMh×KMem))(q:Option Addr)(k:Nat)(hl:List Int):Prop:=(hl=[]∧q=none∧k=0)∨∃z∈zs,z.1.q=q∧z.1.k=k∧z.2.r.holds=hl
theorem YIn.sl{zs:List (KMh×KMem)}{q:Option Addr}{k:Nat}{hl:List Int}{a:bV}(h:YIn zs q k hl)(hm:∀z∈zs,MOk a z):Sl bA.R a (.slice q hl.length k) hl:=by
 rcases h with⟨rfl,rfl,rfl⟩|⟨z,hz,rfl,rfl,rfl⟩
 ·exact⟨none,0,rfl,Nat.le_refl _,by decide,fun j x hx=>by simp at hx⟩
 ·have h1:=(hm z hz).holds
  have h2:=(gF h1).1
  rw[h2]at h1;exact h1
def uQ(p1:Option Addr)(c1:Nat)(p2:Option Addr)(c2:Nat)(p3:Option Addr)(c3:Nat)(h:KRh):bU:=fun a=>∃zs,h.ds=zs.map (·.2)∧(∀z∈zs,HdOf z)∧iY [aM jW 128 p1 c1 h.ps,aM fD 130 p2 c2 h.hs,aM wR 122 p3 c3 (zs.map (·.1)),cV zs] a
def aGi(p1:Option Addr)(c1:Nat)(p2:Option Addr)(c2:Nat)(p3:Option Addr)(c3:Nat)(h:KRh)(q:Option Addr)(k:Nat)(hl:List Int):bU:=fun a=>uQ p1 c1 p2 c2 p3 c3 h a∧Sl bA.R a (.slice q hl.length k) hl
theorem St.openRef{β:Base}{p1 p2 p3:Option Addr}{c1 c2 c3:Nat}{h:KRh}{M:List bU}{w:World}(hw:St β (uQ p1 c1 p2 c2 p3 c3 h::M) w):∃zs,h.ds=zs.map (·.2)∧(∀z∈zs,HdOf z)∧St β ([aM jW 128 p1 c1 h.ps,aM fD 130 p2 c2 h.hs,aM wR 122 p3 c3 (zs.map (·.1)),cV zs]++M) w:=by
 obtain⟨ho,ht,hp,a,hd,hs,hs',q,r,h1,h2,h3,⟨zs,e1,e2,hx⟩,h5⟩:=hw
 exact⟨zs,e1,e2,St.unbun ⟨ho,ht,hp,a,hd,hs,hs',q,r,h1,h2,h3,hx,h5⟩⟩
theorem iY.bun{A M:List bU}{r:bU}{a:bV}(hr:∀a,iY A a→r a)(h:iY (A++M) a):iY (r::M) a:=by
 obtain⟨x,y,hd,sx,sy,hA,hM⟩:=iY.append.1 h
 exact⟨x,y,hd,sx,sy,hr x hA,hM⟩
theorem aRk{zs zs':List (KMh×KMem)}(hs:∀z∈zs',z∈zs){a:bV}(h:cV zs a):cV zs' a:=fun z hz=>h z (hs z hz)
theorem bBp{T:Nat}{au nu:Int}{al:List KAct}{R:KRes}{pa q:Option Addr}{ca k:Nat}{zs:List (KMh×KMem)}{a:bV}(h:iY [aM dI T pa ca al,aM bA 3 q k R.holds,cV zs] a):
  cV ((⟨au,nu,pa,al.length,ca,R.done,R.at_,R.e,q,R.holds.length,k⟩,⟨⟨au,nu,al⟩,R⟩)::zs.filter fun z=>decide (z.1.author≠au)) a:=by
 refine aRk (fun z hz=> ?_) (uE (au:=au) (nu:=nu) (at_:=R.at_) (e:=R.e) (dn:=R.done) a h)
 rcases List.mem_cons.1 hz with rfl|hz
 ·simp
 ·exact List.mem_append_left _ (List.mem_filter.1 hz).1
open Go Go.Sl Go.Proofs Go.Jn
def qW(H S:Nat)(X:KHs)(N:Nat)(p:Int)(e z:Nat):bU:=fun h=>∃J mp mh mm s ms zs i k,HOk X s ms zs i k N (e*218000+z)∧k.power=p∧i.epoch=e∧i.size=z∧iY (hL H S J mp mh mm s ms zs i k false false) h
theorem St.openE{β:Base}{H S N e z:Nat}{p:Int}{X:KHs}{M:List bU}{w:World}(h:St β (qW H S X N p e z::M) w):∃J mp mh mm s ms zs i k,HOk X s ms zs i k N (e*218000+z)∧k.power=p∧i.epoch=e∧i.size=z∧St β (hL H S J mp mh mm s ms zs i k false false++M) w:=by
 obtain⟨ho,ht,hp,a,hd,hs,hs',q,r,h1,h2,h3,⟨J,mp,mh,mm,s,ms,zs,i,k,hk,hw,h4,h5,hx⟩,h6⟩:=h
 exact⟨J,mp,mh,mm,s,ms,zs,i,k,hk,hw,h4,h5,St.unbun ⟨ho,ht,hp,a,hd,hs,hs',q,r,h1,h2,h3,hx,h6⟩⟩
theorem St.closeE{β:Base}{H S N J mp mh mm:Nat}{X:KHs}{s:KSt}{ms:List (Int×KMh)}{zs:List (KMh×KMem)}{i:KI}{k:KS}{M:List bU}{w:World}(hk:HOk X s ms zs i k N (i.epoch*218000+i.size)){p:Int}(hp:k.power=p)(h:St β (hL H S J mp mh mm s ms zs i k false false++M) w):St β (qW H S X N p i.epoch i.size::M) w:=
 h.merge fun _ h=>⟨J,mp,mh,mm,s,ms,zs,i,k,hk,hp,rfl,rfl,h⟩
theorem SOk.self{X:KHs}{i:KI}{k:KS}{N W:Nat}{x:Bool}(h:SOk X i k N W x):SOk X i k N (i.epoch*218000+i.size) x:=⟨h.inv,Nat.le_refl _,h.img,h.ok,h.last⟩
theorem HOk.self{X:KHs}{s:KSt}{ms:List (Int×KMh)}{zs:List (KMh×KMem)}{i:KI}{k:KS}{N W:Nat}(h:HOk X s ms zs i k N W):HOk X s ms zs i k N (i.epoch*218000+i.size):=⟨h.eq,h.so.self,h.mm⟩
theorem St.toE{β:Base}{H S N W:Nat}{p:Int}{X:KHs}{M:List bU}{w:World}(h:St β (cO H S X N W p::M) w):∃e z,e*218000+z≤W∧St β (qW H S X N p e z::M) w:=by
 obtain⟨J,mp,mh,mm,s,ms,zs,i,k,h1,h2,h3⟩:=St.openHouse h
 exact⟨i.epoch,i.size,h1.so.ep,St.closeE h1.self h2 h3⟩
theorem St.ofE{β:Base}{H S N e z W:Nat}{p:Int}{X:KHs}{M:List bU}{w:World}(hW:e*218000+z≤W)(h:St β (qW H S X N p e z::M) w):St β (cO H S X N W p::M) w:=by
 obtain⟨J,mp,mh,mm,s,ms,zs,i,k,h1,h2,_,_,h3⟩:=St.openE h
 exact St.closeHouse (h1.mono (Nat.le_refl _) hW) h2 h3
theorem St.toE2{β:Base}{H S N W:Nat}{p:Int}{X:KHs}{M:List bU}{w:World}(h:St β (cO H S X N W p::M) w):∃e z,e*218000+z≤W∧(N≤400→z+494≤262144)∧St β (qW H S X N p e z::M) w:=by
 obtain⟨J,mp,mh,mm,s,ms,zs,i,k,h1,h2,h3⟩:=St.openHouse h
 exact⟨i.epoch,i.size,h1.so.ep,fun hN=>by have:=h1.so.small hN (bs:=List.replicate 470 0) (Nat.le_of_eq List.length_replicate);rw[List.length_replicate]at this;omega,St.closeE h1.self h2 h3⟩
section
variable {P:Program}{ro:Option Nat}{n:Nat}{ds:List Deferred}{β:Base}{Q:Exit→Act→World→Prop}{f:Fm}{L:List bU}
end
theorem aJd{k:KS}{e n:Nat}{bs:Bs}(h:k.power= -1):pR k e n bs∧(pM k e n bs).power= -1:=by
 have h1:mL k e:= .inr (by rw[h];decide)
 have p1:(vK k e).power= -1:=by
  show kN _ k.power _= -1
  unfold kN fU;rw[h];split<;>rfl
 have h2:qK k e n bs:=by unfold qK kL Jn.pw;rw[p1];rfl
 have p2:(nZ k e n bs).power= -1:=by show pl (vK k e).power _= -1;unfold pl;rw[p1];rfl
 have p3:(oA k e n bs).power= -1:=by unfold oA;simp only;split<;>exact p2
 have h3:aFa k e n bs:=by unfold aFa kL Jn.pw;rw[p3];rfl
 refine⟨⟨h1,h2,h3⟩,?_⟩
 unfold pM
 rw[if_pos h1,if_pos h2]
 show pl (oA k e n bs).power _= -1
 unfold pl;rw[p3];rfl
theorem aPm{i:KI}{bs:Bs}(h:bs.length≤43300):(tS i bs).size≤43324:=by show 24+bs.length≤_;omega
theorem HOk.ck{X:KHs}{s:KSt}{ms:List (Int×KMh)}{zs:List (KMh×KMem)}{i:KI}{k:KS}{N W:Nat}(h:HOk X s ms zs i k N W)(hN:N≤1000000)(hW:W≤54000000){bs:Bs}(hb:bs.length≤43300)(hs:StB X bs)(h0:bs≠[])(hc:pR k (i.epoch+1) i.next bs):
 HOk X s ms zs (tS i bs) (pM k (i.epoch+1) i.next bs) (N+1) ((tS i bs).epoch*218000+(tS i bs).size):=⟨h.eq,(h.so.ck hN hW hb hs h0 hc).self,h.mm⟩
theorem SOk.epoch{X:KHs}{i:KI}{k:KS}{N W:Nat}{x:Bool}(h:SOk X i k N W x)(hW:W≤54000000):i.epoch<4611686018427387903:=by
 have:=h.ep
 have h2:i.epoch*218000≤54000000:=Nat.le_trans (Nat.le_add_right _ _) (Nat.le_trans this hW)
 have h3:i.epoch*1≤i.epoch*218000:=Nat.mul_le_mul_left _ (by decide)
 rw[Nat.mul_one]at h3
 exact Nat.lt_of_le_of_lt (Nat.le_trans h3 h2) (by decide)
theorem SOk.fit{X:KHs}{i:KI}{k:KS}{N W:Nat}{x:Bool}(h:SOk X i k N W x)(hN:N≤1000000):k.fits 524288:=h.inv.fits hN
theorem SOk.last16{X:KHs}{i:KI}{k:KS}{N W:Nat}{x:Bool}(h:SOk X i k N W x)(hN:N≤1000000):X.s.last≤16000000:=by have:=h.last;omega
open Go Go.Sl Go.Proofs Go.Jn
def aZk:List Bool→List UInt8→Nat→List UInt8
 |[],xs,_=>xs
 |b::l,xs,n=>aZk l (uL xs n (aHi (if b then 1 else 0) 0 n)) (n+1)
theorem aKm:∀(l:List Bool) {xs:List UInt8} {n:Nat} {m:List Bool},Wr xs n m→Wr (aZk l xs n) (n+l.length) (m++l)
 |[],_,_,_,h=>by rw[List.append_nil];exact h
 |b::l,xs,n,m,h=>by
  have h1:=aKr (v:=if b then 1 else 0) (j:=0) h (by decide)
  have e:(if b then(1:UInt64)else 0).toNat.testBit 0=b:=by cases b<;>rfl
  rw[e]at h1
  have:=aKm l h1
  rw[List.length_cons,show n+(l.length+1)=n+1+l.length by omega,show m++b::l=m++[b]++l by simp]
  exact this
theorem aOi{xs ys:List UInt8}{n:Nat}{l:List Bool}(h:Wr xs n l)(g:Wr ys n l):xs=ys:=by
 have hl:xs.length=ys.length:=h.len.trans g.len.symm
 refine List.ext_getElem hl fun k h1 h2=>UInt8.toNat_inj.1 (Nat.eq_of_testBit_eq fun i=> ?_)
 by_cases hi:i<8
 ·have e:=(h.bit (8*k+(7-i))).trans (g.bit (8*k+(7-i))).symm
  unfold nJ at e
  rw[show(8*k+(7-i))/8=k by omega,show 7-(8*k+(7-i))%8=i by omega,List.getD_eq_getElem?_getD,List.getD_eq_getElem?_getD,List.getElem?_eq_getElem h1,List.getElem?_eq_getElem h2]at e
  exact e
 ·have z:∀x:UInt8,x.toNat.testBit i=false:=fun x=>Nat.testBit_lt_two_pow (Nat.lt_of_lt_of_le x.toNat_lt (Nat.pow_le_pow_right (by decide) (by omega)))
  rw[z,z]
open Go Go.Sl Go.Proofs Go.Jn
section
variable {P:Program}{ro:Option Nat}{n:Nat}{ds:List Deferred}{β:Base}{Q:Exit→Act→World→Prop}{f:Fm}{L:List bU}
end
open Go Go.Sl Go.Proofs Go.Jn
theorem fK(a:KAm)(k:Nat):(lN a k).length=k+k+k+k:=by simp[lN,cT];omega
theorem aOq(x:KAct):(aCj x).length=225:=by simp[aCj,cT,fK]
theorem aAn:∀l:List KAct,(tP l).length=225*l.length
 |[]=>rfl
 |x::l=>by show(aCj x++tP l).length=_;rw[List.length_append,aOq,aAn l,List.length_cons];omega
theorem eU(au nu:Int)(al:List KAct):(kI au nu al).length=57+225*al.length:=by simp[kI,cT,aAn];omega
theorem gV:∀l:List (Int×KAm),(qM l).length=141*l.length
 |[]=>rfl
 |p::l=>by show(aJ (U p.1) 17++(lN p.2 31++qM l)).length=_;simp only[List.length_append,cT,fK,gV l,List.length_cons];omega
theorem gT:∀l:List (Int×KHo),(sI l).length=189*l.length
 |[]=>rfl
 |p::l=>by show(aJ (U p.1) 48++(aJ (U p.2.owner) 17++(lN p.2.a 31++sI l))).length=_;simp only[List.length_append,cT,fK,gT l,List.length_cons];omega
theorem gU:∀l:List Int,(nsL l).length=48*l.length
 |[]=>rfl
 |n::l=>by show(aJ (U n) 48++nsL l).length=_;simp only[List.length_append,cT,gU l,List.length_cons];omega
theorem aRi{m:KMem}(h:MemFit m):(wV m).length≤4459:=by
 have h1:=h.d.few;have h2:=h.few
 simp only[wV,List.length_append,cT,gU,eU];omega
theorem aDg:∀l:List (Int×KMem),(∀p∈l,MemFit p.2)→(sS l).length≤4459*l.length
 |[],_=>Nat.le_refl _
 |p::l,h=>by
  have h1:=aRi (h p (by simp))
  have h2:=aDg l fun q hq=>h q (by simp[hq])
  show(wV p.2++sS l).length≤_
  rw[List.length_append,List.length_cons];omega
theorem aKq:∀(l:List (Int×KAm)) (p:Int×KAm),qM (l++[p])=qM l++(aJ (U p.1) 17++lN p.2 31)
 |[],p=>by show aJ (U p.1) 17++(lN p.2 31++[])=_;rw[List.append_nil];rfl
 |q::l,p=>by show aJ (U q.1) 17++(lN q.2 31++qM (l++[p]))=aJ (U q.1) 17++(lN q.2 31++qM l)++_;rw[aKq l p];simp only[List.append_assoc]
theorem aJv:∀(l:List (Int×KHo)) (p:Int×KHo),sI (l++[p])=sI l++(aJ (U p.1) 48++(aJ (U p.2.owner) 17++lN p.2.a 31))
 |[],p=>by show aJ (U p.1) 48++(aJ (U p.2.owner) 17++(lN p.2.a 31++[]))=_;rw[List.append_nil];rfl
 |q::l,p=>by show aJ (U q.1) 48++(aJ (U q.2.owner) 17++(lN q.2.a 31++sI (l++[p])))=aJ (U q.1) 48++(aJ (U q.2.owner) 17++(lN q.2.a 31++sI l))++_;rw[aJv l p];simp only[List.append_assoc]
theorem aKk:∀(l:List Int) (n:Int),nsL (l++[n])=nsL l++aJ (U n) 48
 |[],n=>by show aJ (U n) 48++[]=_;rw[List.append_nil];rfl
 |m::l,n=>by show aJ (U m) 48++nsL (l++[n])=aJ (U m) 48++nsL l++_;rw[aKk l n,List.append_assoc]
theorem aKh:∀(l:List (Int×KMem)) (p:Int×KMem),sS (l++[p])=sS l++wV p.2
 |[],p=>by show wV p.2++[]=_;rw[List.append_nil];rfl
 |q::l,p=>by show wV q.2++sS (l++[p])=wV q.2++sS l++_;rw[aKh l p,List.append_assoc]
noncomputable def lU (s:KSt):List (Int×KAm):=(sortI (s.ps.map (·.1))).map fun n=>(n,iJ s.ps n)
noncomputable def nE (s:KSt):List (Int×KHo):=(sortI (s.hs.map (·.1))).map fun n=>(n,mB s.hs n)
def aRj(X:KHs)(n:Int):KMem:=(X.done n).getD ⟨⟨0,0,[]⟩,dK⟩
noncomputable def nQ (X:KHs) (ms:List (Int×KMh)):List (Int×KMem):=(sortI (ms.map (·.1))).map fun n=>(n,aRj X n)
theorem aFw{ν:Type}{ks:List (Int×ν)}{f:Int→ν}(h:∀p∈ks,f p.1=p.2):(ks.map (·.1)).map (fun n=>(n,f n))=ks:=by
 rw[List.map_map]
 conv=>rhs;rw[←List.map_id ks]
 refine List.map_congr_left fun p hp=> ?_
 show(p.1,f p.1)=p
 rw[h p hp]
theorem yV{s:KSt}(hn:(s.ps.map (·.1)).Nodup):s.ps.Perm (lU s):=by
 have h1:=((sortI_perm (s.ps.map (·.1))).map fun n=>(n,iJ s.ps n)).symm
 rwa [aFw (f:=iJ s.ps) fun p hp=>by unfold iJ;rw[kD (v:=p.2) hn hp];rfl]at h1
theorem yH{s:KSt}(hn:(s.hs.map (·.1)).Nodup):s.hs.Perm (nE s):=by
 have h1:=((sortI_perm (s.hs.map (·.1))).map fun n=>(n,mB s.hs n)).symm
 rwa [aFw (f:=mB s.hs) fun p hp=>by unfold mB;rw[kD (v:=p.2) hn hp];rfl]at h1
theorem aRn{X:KHs}{ms:List (Int×KMh)}{zs:List (KMh×KMem)}(h:MmOk X ms zs)(hn:(ms.map (·.1)).Nodup):MsOf X (nQ X ms) where
 nd:=by
  unfold nQ
  rw[List.map_map]
  show((sortI (ms.map (·.1))).map id).Nodup
  rw[List.map_id]
  exact(sortI_perm _).nodup_iff.2 hn
 mem:=fun a m=>by
  unfold nQ
  rw[List.mem_map]
  constructor
  ·intro hm
   obtain⟨hd,h1,_,_⟩:=h.found hm
   refine⟨a,(sortI_perm _).mem_iff.2 (List.mem_map.2 ⟨_,kJ h1,rfl⟩),?_⟩
   unfold aRj;rw[hm];rfl
  ·rintro⟨n,hn',e⟩
   injection e with e1 e2
   subst e1
   have hk:=(sortI_perm _).mem_iff.1 hn'
   obtain⟨p,hp,hpn⟩:=List.mem_map.1 hk
   have hl:=kD (K:=dS) hn (k:=p.1) (v:=p.2) hp
   obtain⟨m',h3,h4⟩:=h.some_ p.1 p.2 hl
   rw[←hpn]at e2⊢
   unfold aRj at e2
   rw[h4]at e2⊢
   exact congrArg some e2
theorem bEc{X:KHs}{ms:List (Int×KMh)}{zs:List (KMh×KMem)}(h:MmOk X ms zs)(hn:(ms.map (·.1)).Nodup){k:Nat}{n:Int}(hk:(sortI (ms.map (·.1)))[k]? =some n):∃hd mal mhl,(dS.look ms n).getD wQ=hd∧LkOk X ms zs n hd mal mhl∧hd.n=mal.length∧hd.m=mhl.length∧
  X.done n=some ⟨⟨hd.author,hd.number,mal⟩,⟨hd.done,hd.at_,hd.e,mhl⟩⟩:=by
 obtain⟨hd,mal,mhl,h1,h2,h3,h4⟩:=h.lk n
 have hk:=(sortI_perm _).mem_iff.1 (List.mem_of_getElem? hk)
 obtain⟨p,hp,hpn⟩:=List.mem_map.1 hk
 have hl:=kD (K:=dS) hn (k:=p.1) (v:=p.2) hp
 rw[hpn]at hl
 obtain⟨m,g1,g2,g3,g4,g5⟩:=h2.yes (by rw[hl];rfl)
 refine⟨hd,mal,mhl,h1,h2,h3,h4,?_⟩
 have a:=g3.dn;have b:=g3.at_;have c:=g3.e;have d:=g3.au;have e:=g3.nu
 rw[g1]
 obtain⟨⟨au,nu,al⟩,⟨dn,at_,e_,hl_⟩⟩:=m
 simp only at a b c d e g4 g5
 rw[a,b,c,d,e,g4,g5]
theorem aWo{X:KHs}{ms:List (Int×KMh)}{k:Nat}{n:Int}{m:KMem}(hk:(sortI (ms.map (·.1)))[k]? =some n)(hm:X.done n=some m):sS ((nQ X ms).take (k+1))=sS ((nQ X ms).take k)++wV m:=by
 have h1:(nQ X ms)[k]? =some (n,m):=by
  unfold nQ
  rw[List.getElem?_map,hk]
  show some (n,aRj X n)=_
  unfold aRj;rw[hm];rfl
 rw[←jG h1,aKh]
theorem aWv{s:KSt}{k:Nat}{n:Int}(hk:(sortI (s.ps.map (·.1)))[k]? =some n):qM ((lU s).take (k+1))=qM ((lU s).take k)++(aJ (U n) 17++lN (iJ s.ps n) 31)∧(n,iJ s.ps n)∈lU s:=by
 have h1:(lU s)[k]? =some (n,iJ s.ps n):=by
  unfold lU
  rw[List.getElem?_map,hk];rfl
 exact⟨by rw[←jG h1,aKq],List.mem_of_getElem? h1⟩
theorem aVu{s:KSt}{k:Nat}{n:Int}(hk:(sortI (s.hs.map (·.1)))[k]? =some n):sI ((nE s).take (k+1))=sI ((nE s).take k)++(aJ (U n) 48++(aJ (U (mB s.hs n).owner) 17++lN (mB s.hs n).a 31))∧(n,mB s.hs n)∈nE s:=by
 have h1:(nE s)[k]? =some (n,mB s.hs n):=by
  unfold nE
  rw[List.getElem?_map,hk];rfl
 exact⟨by rw[←jG h1,aJv],List.mem_of_getElem? h1⟩
theorem uJ(s:KSt):(lU s).length=s.ps.length:=by unfold lU;rw[List.length_map,(sortI_perm _).length_eq,List.length_map]
theorem uA(s:KSt):(nE s).length=s.hs.length:=by unfold nE;rw[List.length_map,(sortI_perm _).length_eq,List.length_map]
theorem uF(X:KHs)(ms:List (Int×KMh)):(nQ X ms).length=ms.length:=by unfold nQ;rw[List.length_map,(sortI_perm _).length_eq,List.length_map]
abbrev wrL(wb:Nat)(p:Option Addr)(c:Nat)(xs:List UInt8)(n:Nat):List bU:=[pt wb (.cells #[.slice p xs.length c,Nx n] 139),aM gQ 5 p c xs]
def xA(wb:Nat)(l:List Bool):bU:=fun h=>∃p c xs,Wr xs l.length l∧iY (wrL wb p c xs l.length) h
theorem St.openWr{β:Base}{wb:Nat}{l:List Bool}{M:List bU}{w:World}(h:St β (xA wb l::M) w):∃p c xs,Wr xs l.length l∧St β (wrL wb p c xs l.length++M) w:=by
 obtain⟨ho,ht,hp,a,hd,hs,hs',q,r,h1,h2,h3,⟨p,c,xs,hk,hx⟩,h5⟩:=h
 exact⟨p,c,xs,hk,St.unbun ⟨ho,ht,hp,a,hd,hs,hs',q,r,h1,h2,h3,hx,h5⟩⟩
theorem St.closeWr{β:Base}{wb:Nat}{p:Option Addr}{c n:Nat}{xs:List UInt8}{l:List Bool}{M:List bU}{w:World}(hr:Wr xs n l)(hn:n=l.length)(h:St β (wrL wb p c xs n++M) w):St β (xA wb l::M) w:=by
 subst hn
 exact h.merge fun _ h=>⟨p,c,xs,hr,h⟩
theorem aOh{wb:Nat}(a:bV)(h:iY (wrL wb none 0 [] 0) a):xA wb [] a:=⟨none,0,[],aIz,h⟩
open Go Go.Sl Go.Proofs Go.Jn
noncomputable def aGm (l:List TOp):Nat→KHs
 |0=>gM
 |k+1=>match l[k]? with
  |some o=>eH (aGm l k) (aFo o) ((1+k:Nat):Int) (bDu o)
  |none=>aGm l k
theorem aNo{l:List TOp}{k:Nat}{o:TOp}(h:l[k]? =some o):aGm l (k+1)=eH (aGm l k) (aFo o) ((1+k:Nat):Int) (bDu o):=by
 show(match l[k]? with|some o=>_|none=>_)=_
 rw[h]
theorem aDu(l:List TOp):∀k a,5≤a→(aGm l k).done a=none
 |0,_,_=>rfl
 |k+1,a,ha=>by
  cases e:l[k]? with
  |none=>
   have:aGm l (k+1)=aGm l k:=by show(match l[k]? with|some o=>_|none=>_)=_;rw[e]
   rw[this];exact aDu l k a ha
  |some o=>
   rw[aNo e,vI _ _ _ (by have:=aQg o;omega)]
   exact aDu l k a ha
def N50(Y:KHs)(j:Nat):Prop:=∀m,Y.done 50=some m→m.d.number≤(j:Int)
theorem N50.zero(l:List TOp)(i:Nat):N50 (aGm l i) 0:=fun m h=>by rw[aDu l i 50 (by decide)]at h;cases h
theorem N50.next{Y:KHs}{j:Nat}(al:List KAct):N50 (eH Y 50 ((1+j:Nat):Int) al) (j+1):=fun m h=>by
 rw[nL]at h
 injection h with h;subst h
 show((1+j:Nat):Int)≤((j+1:Nat):Int)
 omega
def mkL(n:Int):List Int:=if 0<n then [n]else []
theorem aHy{x:KAct}(h:x.formed=true){j:Nat}(hj:j≤100):cE 50 ((1+j:Nat):Int) [x]=true:=
 fG.2 ⟨by omega,by omega,by simp,fun y hy=>by rw[List.mem_singleton.1 hy];exact h⟩
theorem aRw{s:KSt}{x:KAct}(h:(cS s x).2.2=0):aE s [x]=((cS s x).1,⟨true,0,0,mkL (cS s x).2.1⟩):=by
 unfold aE jR
 rw[if_pos h]
 unfold mkL jR
 split<;>rfl
structure InnOk(s0 s:KSt)(al:List KAct)(j:Nat)(made:List Int)(Y:KHs):Prop where
 r:jR s0 Y.s made j (al.drop j)=aE s0 al
 n:N50 Y j
theorem aTb{s0:KSt}:∀{xs:List KAct} {s:KSt} {made:List Int} {k:Nat},(jR s0 s made k xs).2.done=true∨((k:Nat):Int)≤(jR s0 s made k xs).2.at_
 |[],_,_,_=> .inl rfl
 |x::xs,s,made,k=>by
  unfold jR
  split
  ·rcases aTb (s0:=s0) (xs:=xs) (s:=(cS s x).1) (made:=if 0<(cS s x).2.1 then made++[(cS s x).2.1]else made) (k:=k+1)with h|h
   ·exact .inl h
   ·exact .inr (by omega)
  ·exact .inr (Int.le_refl _)
section
variable {s0 s:KSt}{al:List KAct}{j:Nat}{made:List Int}{Y:KHs}{x:KAct}(h:InnOk s0 s al j made Y)(hx:al[j]? =some x)
include h
theorem InnOk.over(hj:al.length≤j):aE s0 al=(Y.s,⟨true,0,0,made⟩):=by rw[←h.r,aLa hj]
include hx
theorem InnOk.next(he:(cS Y.s x).2.2=0):InnOk s0 s al (j+1) (made++mkL (cS Y.s x).2.1) (eH Y 50 ((1+j:Nat):Int) [x]):=by
 refine⟨?_,N50.next _⟩
 rw[←h.r,zI hx he]
 have:(eH Y 50 ((1+j:Nat):Int) [x]).s=(cS Y.s x).1:=by show(aE Y.s [x]).1=_;rw[aRw he]
 rw[this]
 unfold mkL
 split<;>simp
theorem InnOk.good(he:(cS Y.s x).2.2=0):(aE s0 al).2.done=true∨((j:Nat):Int)<(aE s0 al).2.at_:=by
 have h2:=(h.next hx he).r
 rw[←h2]
 rcases aTb (s0:=s0) (xs:=al.drop (j+1)) (s:=(eH Y 50 ((1+j:Nat):Int) [x]).s) (made:=made++mkL (cS Y.s x).2.1) (k:=j+1)with q|q
 ·exact .inl q
 ·exact .inr (by omega)
theorem InnOk.bad(he:¬(cS Y.s x).2.2=0):(aE s0 al).2=⟨false,((j:Nat):Int),(cS Y.s x).2.2,[]⟩:=by rw[←h.r,aKz hx he]
theorem InnOk.do_ok(hf:x.formed=true)(hj:j≤100)(he:(cS Y.s x).2.2=0):rS Y 50 ((1+j:Nat):Int) [x]=(eH Y 50 ((1+j:Nat):Int) [x],⟨true,0,0,mkL (cS Y.s x).2.1⟩,0):=by
 have _:=hx
 rw[tV (aHy hf hj) (fun m hm=>by have:=h.n m hm;omega),aRw he]
end
structure WhOk(X X1 Y:KHs)(R:KRes)(made:List Int):Prop where
 done:R.done=true→Y.s=X1.s∧made=R.holds
end Go.Td
namespace Go.Sl
section
variable {H:Type}{enc:TypeId×Value→H}{P:Program}{w:World}{base:Nat}{spare:Nat→Bool}{held:Bool}
def aEj{α:Type}(P:Program)(R:Rp α)(Q:(H:Type)→DataW H→α→Prop)(t:TypeId):Prop:=
 ∀(H:Type) (enc:TypeId×Value→H) (w:World) (base:Nat) (spare:Nat→Bool) (held:Bool) (fuel:Nat) (cs:List Value) (x:DataW H×List MemPlace),
  DataW.trod enc P w base spare held fuel t cs=some x→∃y,R.rep (ph w) cs y∧Q H x.1 y
def bAh{α:Type}(H:Type)(_:DataW H)(_:α):Prop:=True
def QSl{α:Type}(Q:(H:Type)→DataW H→α→Prop)(H:Type)(d:DataW H)(ys:List α):Prop:=
 match d with
 | .slice elems _=>elems.length=ys.length∧∀(i:Nat) di yi,elems[i]? =some di→ys[i]? =some yi→Q H di yi
 | .nil=>ys=[]
 |_=>False
theorem aFd{a:Addr}{k:Nat}{cs:List Value}(h:w.cells? base a k=some cs):Cs (ph w) a cs:=by
 intro j v hj
 obtain⟨_,hl,hc⟩:=World.cells?_some h
 have hlt:=(List.getElem?_eq_some_iff.1 hj).1
 have:=hc j (by omega)
 rw[hj]at this
 exact this
theorem wM{α:Type}{R:Rp α}{Q:(H:Type)→DataW H→α→Prop}{t e:Nat}(ht:P.underlying t=some (.slice e))(hc:P.cellsOf e=R.n)(hr:aEj P R Q e):aEj P R.slice (QSl Q) t:=by
 intro H enc w base spare held fuel cs x h
 rcases Go.Deep.open_slice ht h with⟨rfl,rfl⟩|⟨a,len,cap,m,n,D,Pl,rfl,_,hl,hm,hmm,rfl,hel⟩
 ·exact⟨[],⟨_,rfl,Sl.nil _ _⟩,rfl⟩
 ·have hle:len≤m:=by subst hmm;split<;>omega
  have hy:∀i,i<len→∃y cs',Cs (ph w) (a.add (i*R.n)) cs'∧R.rep (ph w) cs' y∧Q H (D i) y:=by
   intro i hi
   obtain⟨cs',h1,h2⟩:=hel i (by omega)
   obtain⟨y,hy⟩:=hr H enc w base spare held n cs' _ h2
   rw[hc]at h1
   exact⟨y,cs',aFd h1,hy.1,hy.2⟩
  have hlist:∀k,k≤len→∃ys:List α,ys.length=k∧∀i y,ys[i]? =some y→∃cs',Cs (ph w) (a.add (i*R.n)) cs'∧R.rep (ph w) cs' y∧Q H (D i) y:=by
   intro k
   induction k with
   |zero=>exact fun _=>⟨[],rfl,fun i y h=>by simp at h⟩
   |succ k ih=>
    intro hk
    obtain⟨ys,hyl,hys⟩:=ih (by omega)
    obtain⟨y,cs',h1,h2⟩:=hy k (by omega)
    refine⟨ys++[y],by simp[hyl],fun i z hz=> ?_⟩
    by_cases hi:i<ys.length
    ·rw[List.getElem?_append_left hi]at hz
     exact hys i z hz
    ·have hlt:=(List.getElem?_eq_some_iff.1 hz).1
     have:i=ys.length:=by simp at hlt;omega
     subst this
     simp at hz
     subst hz
     rw[hyl];exact⟨cs',h1,h2⟩
  obtain⟨ys,hyl,hys⟩:=hlist len (Nat.le_refl _)
  subst hyl
  refine⟨ys,⟨_,rfl,some a,cap,rfl,hl,by unfold maxLen at hm;omega,fun j y hj=>⟨rfl,let⟨cs',h1,h2,_⟩:=hys j y hj;⟨cs',h1,h2⟩⟩⟩,?_⟩
  refine⟨by simp,fun i di yi hd hy=> ?_⟩
  obtain⟨_,_,_,hq⟩:=hys i yi hy
  have hlt:=(List.getElem?_eq_some_iff.1 hy).1
  simp[hlt]at hd
  subst hd
  exact hq
end
end Go.Sl
namespace Go.Proofs
open Go Go.Sl Go.Td
open Go.ChangeShapes Go.ChangeAt Go.RowKit
theorem aTz(n:Int)(h:(Lit.int .u8 n).wf=true):∃y:UInt8,Value.int .u8 n=Bx y:=by
 have hb:IntKind.u8.min≤n∧n≤IntKind.u8.max:=by simpa only[Lit.wf,Bool.and_eq_true,decide_eq_true_eq]using h
 have h1:(0:Int)≤n:=hb.1
 have h2:n≤255:=hb.2
 refine⟨UInt8.ofNat n.toNat,?_⟩
 have h3:(UInt8.ofNat n.toNat).toNat=n.toNat:=by simp;omega
 show _=Value.int .u8 ((UInt8.ofNat n.toNat).toNat:Int)
 rw[h3,Int.toNat_of_nonneg h1]
theorem lW{n:Int}(h:(Lit.int .i64 n).wf=true):aAf n:=by
 have hb:IntKind.i64.min≤n∧n≤IntKind.i64.max:=by simpa only[Lit.wf,Bool.and_eq_true,decide_eq_true_eq]using h
 exact⟨hb.1,hb.2⟩
theorem c3:Tryz.prog.cellsOf 3=1:=by kernel_rfl
theorem c5:Tryz.prog.cellsOf 5=1:=by kernel_rfl
theorem c30:Tryz.prog.cellsOf 30=1:=by kernel_rfl
theorem c32:Tryz.prog.cellsOf 32=4:=by kernel_rfl
theorem c44:Tryz.prog.cellsOf 44=4:=by kernel_rfl
theorem c47:Tryz.prog.cellsOf 47=8:=by kernel_rfl
def aOm:Rp KAct:=⟨8,fun _ cs x=>ActI x∧cs=vB x,fun _ _ _ ⟨_,e⟩=>by rw[e];rfl,fun _ _ _ _ _ h=>h⟩
theorem aHf{h:bV}{v:Value}{xs:List KAct}(hs:Sl aOm h v xs):Sl dI.R h v xs∧∀x∈xs,ActI x:=by
 obtain⟨a,c,e,h1,h2,h3⟩:=hs
 refine⟨⟨a,c,e,h1,h2,fun j x hx=> ?_⟩,fun x hx=> ?_⟩
 ·obtain⟨g1,cs,g2,_,g3⟩:=h3 j x hx
  exact⟨g1,cs,g2,g3⟩
 ·obtain⟨j,hj,e⟩:=List.getElem_of_mem hx
  obtain⟨_,_,_,g,_⟩:=h3 j x (by rw[List.getElem?_eq_getElem hj,e])
  exact g
theorem lO{a b:Value}(h:[a]=[b]):a=b:=(List.cons.inj h).1
set_option maxRecDepth 100000 in
theorem aNd:aEj Tryz.prog aOm bAh 47:=by
 intro H enc w base spare held fuel cs x h
 obtain⟨xs,n,_,rfl,hl,hlen,hf⟩:=DataW.trod_struct Tryz.underlying47 h
 rw[c47]at hl
 match cs,hl,xs,hlen with
 |[a0,a1,a2,a3,a4,a5,a6,a7],_,[y0,y1,y2,y3,y4],_=>
  have g0:DataW.trod enc Tryz.prog w base spare held n 5 (([a0,a1,a2,a3,a4,a5,a6,a7].drop 0).take (Tryz.prog.cellsOf 5))=some y0:=hf 0 _ rfl
  have g1:DataW.trod enc Tryz.prog w base spare held n 3 (([a0,a1,a2,a3,a4,a5,a6,a7].drop 1).take (Tryz.prog.cellsOf 3))=some y1:=hf 1 _ rfl
  have g2:DataW.trod enc Tryz.prog w base spare held n 3 (([a0,a1,a2,a3,a4,a5,a6,a7].drop 2).take (Tryz.prog.cellsOf 3))=some y2:=hf 2 _ rfl
  have g3:DataW.trod enc Tryz.prog w base spare held n 3 (([a0,a1,a2,a3,a4,a5,a6,a7].drop 3).take (Tryz.prog.cellsOf 3))=some y3:=hf 3 _ rfl
  have g4:DataW.trod enc Tryz.prog w base spare held n 44 (([a0,a1,a2,a3,a4,a5,a6,a7].drop 4).take (Tryz.prog.cellsOf 44))=some y4:=hf 4 _ rfl
  rw[c5]at g0;rw[c3]at g1 g2 g3;rw[c44]at g4
  obtain⟨z0,z1,z2,z3,m,_,q0,q1,q2,q3⟩:=trod_array4 (c0:=a4) (c1:=a5) (c2:=a6) (c3:=a7) Tryz.underlying44 c3 g4
  obtain⟨m0,e0,_,w0⟩:=DataW.trod_int (k:= .u8) Tryz.underlying5 g0
  obtain⟨m1,e1,_,w1⟩:=DataW.trod_int (k:= .i64) Tryz.underlying3 g1
  obtain⟨m2,e2,_,w2⟩:=DataW.trod_int (k:= .i64) Tryz.underlying3 g2
  obtain⟨m3,e3,_,w3⟩:=DataW.trod_int (k:= .i64) Tryz.underlying3 g3
  obtain⟨m4,e4,_,w4⟩:=DataW.trod_int (k:= .i64) Tryz.underlying3 q0
  obtain⟨m5,e5,_,w5⟩:=DataW.trod_int (k:= .i64) Tryz.underlying3 q1
  obtain⟨m6,e6,_,w6⟩:=DataW.trod_int (k:= .i64) Tryz.underlying3 q2
  obtain⟨m7,e7,_,w7⟩:=DataW.trod_int (k:= .i64) Tryz.underlying3 q3
  obtain⟨k0,f0⟩:=aTz m0 w0
  refine⟨⟨k0,m1,m2,m3,⟨m4,m5,m6,m7⟩⟩,⟨⟨lW w1,lW w2,lW w3,lW w4,lW w5,lW w6,lW w7⟩,?_⟩,trivial⟩
  show _=[Bx k0,Ix m1,Ix m2,Ix m3,Ix m4,Ix m5,Ix m6,Ix m7]
  rw[lO (show [a0]=[Value.int .u8 m0]from e0),lO (show [a1]=[Value.int .i64 m1]from e1),lO (show [a2]=[Value.int .i64 m2]from e2),lO (show [a3]=[Value.int .i64 m3]from e3),lO e4,lO e5,lO e6,lO e7,f0]
theorem aIh:aEj Tryz.prog aOm.slice (QSl bAh) 30:=wM Tryz.underlying30 c47 aNd
set_option maxRecDepth 100000 in
theorem aNe:aEj Tryz.prog bAi bAh 32:=by
 intro H enc w base spare held fuel cs x h
 obtain⟨xs,n,_,rfl,hl,hlen,hf⟩:=DataW.trod_struct Tryz.underlying32 h
 rw[c32]at hl
 match cs,hl,xs,hlen with
 |[a0,a1,a2,a3],_,[y0,y1,y2,y3],_=>
  have g0:DataW.trod enc Tryz.prog w base spare held n 5 (([a0,a1,a2,a3].drop 0).take (Tryz.prog.cellsOf 5))=some y0:=hf 0 _ rfl
  have g1:DataW.trod enc Tryz.prog w base spare held n 3 (([a0,a1,a2,a3].drop 1).take (Tryz.prog.cellsOf 3))=some y1:=hf 1 _ rfl
  have g2:DataW.trod enc Tryz.prog w base spare held n 3 (([a0,a1,a2,a3].drop 2).take (Tryz.prog.cellsOf 3))=some y2:=hf 2 _ rfl
  have g3:DataW.trod enc Tryz.prog w base spare held n 30 (([a0,a1,a2,a3].drop 3).take (Tryz.prog.cellsOf 30))=some y3:=hf 3 _ rfl
  rw[c5]at g0;rw[c3]at g1 g2;rw[c30]at g3
  obtain⟨m0,e0,_,w0⟩:=DataW.trod_int (k:= .u8) Tryz.underlying5 g0
  obtain⟨m1,e1,_,w1⟩:=DataW.trod_int (k:= .i64) Tryz.underlying3 g1
  obtain⟨m2,e2,_,w2⟩:=DataW.trod_int (k:= .i64) Tryz.underlying3 g2
  obtain⟨al,⟨v,hv,hs⟩,_⟩:=aIh _ _ _ _ _ _ _ _ _ g3
  obtain⟨hs1,hs2⟩:=aHf hs
  obtain⟨k0,f0⟩:=aTz m0 w0
  refine⟨⟨k0,m1,m2,al⟩,⟨⟨lW w1,lW w2,hs2⟩,v,?_,hs1⟩,trivial⟩
  show _=[Bx k0,Ix m1,Ix m2,v]
  rw[lO (show [a0]=[Value.int .u8 m0]from e0),lO (show [a1]=[Value.int .i64 m1]from e1),lO (show [a2]=[Value.int .i64 m2]from e2),lO (show [a3]=[v]from hv),f0]
theorem aRy{H:Type}{enc:TypeId×Value→H}{w:World}{base:Nat}{spare:Nat→Bool}{held:Bool}{a:Option Addr}{n c:Nat}{d:DataW H}{p:List MemPlace}
 (h:∃fuel,DataW.trod enc Tryz.prog w base spare held fuel 22 (Value.slice a n c).cells.toList=some (d,p)):∃z,Sl bAi (ph w) (.slice a n c) z:=by
 obtain⟨fuel,hf⟩:=h
 obtain⟨ys,⟨v,hv,hs⟩,_⟩:=wM Tryz.underlying22 c32 aNe _ _ _ _ _ _ _ _ _ hf
 have e:Value.slice a n c=v:=(List.cons.inj (show [Value.slice a n c]=[v]from hv)).1
 subst e
 exact⟨ys,hs⟩
end Go.Proofs
