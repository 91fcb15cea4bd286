/-
  Own work; plain Lean (SlTail, SlB, SlEq, SlClear, SlMp, SlMp2, SlMp3, SlMpB, SlJb, SlN, SlSame, SlPlc, SlFn, SlIx, SlApt, TdShelfI, TdDef, TdSortI, SlLook, SlMpL, HvShelf, SlSortK, SlSortF).
-/
import Derived.Test.YtmhlglginimmnaaGreatDoorSlA
import Derived.ChangeKeysEq
import Derived.Laws.StructEq
import Derived.Maps.RangeRun
import Derived.Laws.BytesArg
import Derived.Shelf.Small.Bits
import Derived.Shelf.Small.Wraps
import Derived.Shelf.Strconv.Itoa0
import Derived.Shelf.Sort.Plain
import Derived.Ground.Names2Prog
import Derived.Shelf.Slices.SearchI
import Derived.Shelf.Slices.In.SortNone
import Derived.Test.YtmhlglginimmnaaGreatDoorProg
import Derived.Shelf.SlSortCmp.WholeK
import Derived.Ground.SlsfProg
import Derived.Ground.NamesProg
import Derived.Shelf.SlSortCmp.NoneTotal
import Derived.Lib.QuietBelow
set_option linter.all false
namespace Go.Sl
section
variable {P:Program}{ro:Option Nat}{n:Nat}{ds:List Deferred}{β:Base}{Q:Exit→Act→World→Prop}
end
end Go.Sl
namespace Go.Sl
section
variable {P:Program}{β:Base}{f:Fm}{L:List Res}{d:Option Tmp}{ty:TypeId}{ps:String}{af:Array Edge}{g:Option (Nat×Bool)}{x y:Operand}
theorem e_fd{s k off m o:Nat}{ag:Bool}{a:Addr}(hx:ev f x= .pointer (some (a.add o)))(h:fldB P s k off m ag=true):EV P β L f ⟨d,.fieldAddr s x k,ty,ps,af,g⟩ (.pointer (some (a.add (o+off)))):=ev_eq (by rw[Addr.add_add']) (e_fieldAddr hx h)
theorem ofd{s k off m o:Nat}{ag:Bool}{a:Addr}[h:FldC P s k off m ag](hx:ev f x= .pointer (some (a.add o)):=by first|rfl|assumption):EV P β L f ⟨d,.fieldAddr s x k,ty,ps,af,g⟩ (.pointer (some (a.add (o+off)))):=e_fd hx h.ok
theorem e_xd{t len e n o:Nat}{a:Addr}(k:Nat)(hx:ev f x= .pointer (some (a.add o)))(hy:ev f y= .int .i64 (k:Int))(h:arB P t len e n=true)(hk:k<len):EV P β L f ⟨d,.indexAddr t x y,ty,ps,af,g⟩ (.pointer (some (a.add (o+k*n)))):=ev_eq (by rw[Addr.add_add']) (e_indexArr hx hy h hk)
theorem oxd{t len e n o:Nat}{a:Addr}(k:Nat)[h:ArrC P t len e n](hx:ev f x= .pointer (some (a.add o)):=by first|rfl|assumption)(hy:ev f y= .int .i64 (k:Int):=by first|rfl|assumption)(hk:k<len:=by decide):EV P β L f ⟨d,.indexAddr t x y,ty,ps,af,g⟩ (.pointer (some (a.add (o+k*n)))):=e_xd k hx hy h.ok hk
theorem oia{t e n k len cap:Nat}{a:Option Addr}(ht:slB P t e n=true)(ha:a=some (ba a))(hx:ev f x= .slice a len cap:=by first|rfl|assumption)(hy:ev f y= .int .i64 (k:Int):=by first|rfl|assumption)(hk:k<len:=by omega):EV P β L f ⟨d,.indexAddr t x y,ty,ps,af,g⟩ (.pointer (some ((ba a).add (k*n)))):=e_indexAddr hx hy ht hk ha
theorem mS{t T n b o:Nat}{ag:Bool}{cs:Array Value}(i:Nat)(cs':Array Value)[h:TyC P t ag n]{v:Value}(hx:ev f x= .pointer (some ⟨b,o,none⟩):=by rfl)(hi:L[i]? =some (pt b (.cells cs T)):=by rfl)
 (hy:ev f y=v:=by rfl)(hn:v.cells.size=n:=by rfl)(hfit:Nat.ble (o+n) cs.size=true:=by rfl)(h1:v.cells.toList.all (·.oneCell')=true:=by rfl)(hc:over cs o v.cells.toList=cs':=by rfl):
  MU P β L f ⟨d,.store t x y,ty,ps,af,g⟩ (L.set i (pt b (.cells cs' T))):=m_store i h.ok hx hi hy hn hfit h1 hc
end
abbrev sv(d:Nat)(v:Value)(a n i:List Nat):Sp:=⟨a,n,i,[d],fun f=>f d=v⟩
abbrev tk(r:Res)(b:List Nat):Tok:=⟨none,none,b,[],fun _=>r⟩
section
variable {P:Program}{ro:Option Nat}{n:Nat}{ds:List Deferred}{β:Base}{Q:Exit→Act→World→Prop}
theorem cny{id:Nat}{ops:List Oper}{f:Fm}{L:List Res}(sps:List Sp)(toks:List Tok)(ini:List (Nat×Value))(fin:List Nat)(M:List Res)(hi:IniAt f ini)(ho:Obs P ro n ds β ops sps toks ini ops 0)
 (hQ:∀f',KEv sps f' sps→IAll ini fin f'→Fin n ds β Q .normal f' (rs (lastT toks) f'++M))(hm:P.follows .mixedOrders=true:=by kernel_rfl)
 (h1:chkOps ops sps ini=true:=by kernel_rfl)(h2:toks.all (chkTok ops sps)=true:=by kernel_rfl)(hf:fin.all (finOk ops ini)=true:=by kernel_rfl)(hL:L=rs (firstT toks) f++M:=by rfl):
  RunC P ro n ds β (.region id ops.toArray true) Q f L:=c_any sps toks ini fin M hm h1 h2 hf hL hi ho hQ
end
theorem rbs{P:Program}{ro:Option Nat}{n:Nat}{ds:List Deferred}{β:Base}{Q:Exit→Act→World→Prop}{f:Fm}{L:List Res}{c:Code}(d:Nat){v:Value}(h:f d=v)(k:RunC P ro n ds β c Q (upd f d v) L):RunC P ro n ds β c Q f L:=rebase h k
abbrev Ret(P:Program)(g:FuncId)(a:Array Value)(β:Base)(w:World)(x:Value):Prop:=Calls P g a w fun r w'=>r= .returned x∧St β [] w'
end Go.Sl
namespace Go.Sl
inductive K where
 |int (q:IntKind)|bool|str
 deriving DecidableEq
def kOf:Value→Option K
 | .int q _=>some (.int q)
 | .bool _=>some .bool
 | .string _=>some .str
 |_=>none
def szB(P:Program)(t:TypeId)(n:Nat):Bool:=match P.info? t with|some i=>i.size==n|none=>false
def layF(P:Program)(ly:TypeId→Option (List K)):List Field→Nat→Option (List K)
 |[],_=>some []
 |f::fs,off=>if f.name !="_"&&f.offset==off then
   match ly f.type with
   |some ks=>if szB P f.type ks.length then(layF P ly fs (off+ks.length)).map (ks++ ·)else none
   |none=>none
  else none
def lay(P:Program):Nat→TypeId→Option (List K)
 |0,_=>none
 |d+1,t=>
  match P.underlying t with
  |some .bool=>some [.bool]
  |some (.int q)=>some [.int q]
  |some .string=>some [.str]
  |some (.array n e)=>match lay P d e with
   |some ks=>if szB P e ks.length&& !ks.isEmpty then some (List.replicate n ks).flatten else none
   |none=>none
  |some (.struct fs)=>if P.stoodInHeld t then none else layF P (lay P d) fs.toList 0
  |_=>none
def isAggT(P:Program)(t:TypeId):Bool:=match P.underlying t with|some (.struct _)|some (.array _ _)=>true|_=>false
def valT(P:Program)(t:TypeId)(cs:List Value):Value:=if isAggT P t then .agg cs.toArray else cs.headD undef
section
variable {P:Program}
theorem szB_info{t n:Nat}(h:szB P t n=true):∃i,P.info? t=some i∧i.size=n:=by
 unfold szB at h
 cases hi:P.info? t with
 |none=>rw[hi]at h;cases h
 |some i=>rw[hi]at h;exact⟨i,rfl,by simpa using h⟩
theorem run_isAggT{t:TypeId}{d:TypeDesc}(hu:P.underlying t=some d)(w:World):(isAgg t).run P w= .ok (isAggT P t) w:=by
 unfold isAgg isAggT
 rw[Sem.run_bind,run_underlying hu w,hu]
 cases d<;>rfl
theorem run_part_t{t n:Nat}{d:TypeDesc}(hu:P.underlying t=some d)(hs:szB P t n=true)(h1:isAggT P t=false→n=1)(cs:Array Value)(off:Nat)(hb:off+n≤cs.size)(w:World):
  (part t cs off).run P w= .ok (valT P t ((cs.toList.drop off).take n)) w:=by
 obtain⟨i,hi,hn⟩:=szB_info hs
 unfold part valT
 rw[Sem.run_bind,run_isAggT hu w,Result.andThen_ok]
 cases ha:isAggT P t with
 |true=>
  simp only[if_true,Sem.run_bind,sizeOf,typeInfo,run_program,Result.andThen_ok,hi,Sem.run_pure,hn]
  congr 2
  apply Array.ext'
  simp[List.extract_eq_take_drop]
 |false=>
  have:=h1 ha
  subst this
  have hlt:off<cs.size:=by omega
  simp only[Bool.false_eq_true,if_false]
  rw[Array.getElem?_eq_getElem hlt]
  simp only[Sem.run_pure]
  congr 1
  rw[List.take_one,List.head?_drop]
  simp[hlt]
def EqT(P:Program)(d:Nat)(t:TypeId)(ks:List K):Prop:=
 ∀(w:World) (xs ys:List Value),xs.map kOf=ks.map some→ys.map kOf=ks.map some→∃r:Bool,(Op.equalIn d t (valT P t xs) (valT P t ys)).run P w= .ok r w∧(r=true↔xs=ys)
theorem lay_und{d:Nat}{t:TypeId}{ks:List K}(h:lay P d t=some ks):(∃dd,P.underlying t=some dd)∧(isAggT P t=false→ks.length=1):=by
 cases d with
 |zero=>cases h
 |succ d=>
  unfold lay at h
  cases hu:P.underlying t with
  |none=>rw[hu]at h;cases h
  |some dd=>
   refine⟨⟨dd,rfl⟩,fun ha=> ?_⟩
   rw[hu]at h
   unfold isAggT at ha
   rw[hu]at ha
   cases dd<;>simp at h ha<;>subst h<;>rfl
theorem map_take_drop{xs:List Value}{ks:List K}(h:xs.map kOf=ks.map some)(o n:Nat):((xs.drop o).take n).map kOf=((ks.drop o).take n).map some:=by
 simp only[List.map_take,List.map_drop,h]
theorem eq_fields{d:Nat}(ih:∀t ks,lay P d t=some ks→EqT P d t ks):∀(fs:List Field) (off:Nat) (ks:List K),layF P (lay P d) fs off=some ks→
  ∀(w:World) (X Y:Array Value) (kx:List K),X.toList.map kOf=kx.map some→Y.toList.map kOf=kx.map some→(kx.drop off).take ks.length=ks→off+ks.length≤kx.length→
   ∃r:Bool,(Op.eqFields d X Y fs).run P w= .ok r w∧(r=true↔(X.toList.drop off).take ks.length=(Y.toList.drop off).take ks.length)
 |[],off,ks,h,w,X,Y,kx,hX,hY,hk,hle=>by
  simp[layF]at h;subst h
  exact⟨true,rfl,by simp⟩
 |f::fs,off,ks,h,w,X,Y,kx,hX,hY,hk,hle=>by
  unfold layF at h
  cases hn:(f.name !="_"&&f.offset==off)with
  |false=>rw[hn]at h;simp at h
  |true=>
   rw[hn]at h
   simp only[if_true]at h
   simp only[Bool.and_eq_true,bne_iff_ne,ne_eq,beq_iff_eq]at hn
   obtain⟨hname,rfl⟩:=hn
   cases hl:lay P d f.type with
   |none=>rw[hl]at h;cases h
   |some k1=>
    rw[hl]at h
    simp only[]at h
    cases hz:szB P f.type k1.length with
    |false=>rw[hz]at h;simp at h
    |true=>
     rw[hz]at h
     simp only[if_true]at h
     cases hr:layF P (lay P d) fs (f.offset+k1.length)with
     |none=>rw[hr]at h;cases h
     |some k2=>
      rw[hr]at h
      simp only[Option.map_some,Option.some.injEq]at h
      subst h
      simp only[List.length_append]at hle hk⊢
      have hxl:X.toList.length=kx.length:=by have:=congrArg List.length hX;simpa using this
      have hyl:Y.toList.length=kx.length:=by have:=congrArg List.length hY;simpa using this
      obtain⟨⟨dd,hu⟩,h1⟩:=lay_und hl
      have px:=run_part_t hu hz h1 X f.offset (by rw[←Array.length_toList,hxl];omega) w
      have py:=run_part_t hu hz h1 Y f.offset (by rw[←Array.length_toList,hyl];omega) w
      have hk1:(kx.drop f.offset).take k1.length=k1:=by
       have:=congrArg (List.take k1.length) hk
       rw[List.take_take,Nat.min_eq_left (by omega)]at this
       simpa using this
      have hk2:(kx.drop (f.offset+k1.length)).take k2.length=k2:=by
       have:=congrArg (List.drop k1.length) hk
       rw[List.drop_take,List.drop_drop]at this
       simpa using this
      obtain⟨r1,e1,i1⟩:=ih f.type k1 hl w ((X.toList.drop f.offset).take k1.length) ((Y.toList.drop f.offset).take k1.length) (by rw[map_take_drop hX,hk1]) (by rw[map_take_drop hY,hk1])
      obtain⟨r2,e2,i2⟩:=eq_fields ih fs _ k2 hr w X Y kx hX hY hk2 (by omega)
      have split:∀Z:Array Value,(Z.toList.drop f.offset).take (k1.length+k2.length)=(Z.toList.drop f.offset).take k1.length++(Z.toList.drop (f.offset+k1.length)).take k2.length:=fun Z=>by
       rw[List.take_add,List.drop_drop]
      have lx:((X.toList.drop f.offset).take k1.length).length=((Y.toList.drop f.offset).take k1.length).length:=by simp only[List.length_take,List.length_drop];omega
      simp only[Op.eqFields,hname,ne_eq,not_false_eq_true,if_true,Sem.run_bind,px,py,Result.andThen_ok,e1]
      cases r1 with
      |false=>
       refine⟨false,by simp,?_⟩
       rw[split,split]
       constructor
       ·intro h;cases h
       ·intro h
        have:=(List.append_inj h lx).1
        exact absurd (i1.2 this) (by simp)
      |true=>
       refine⟨r2,by simpa using e2,?_⟩
       rw[split,split,i2]
       constructor
       ·intro h;rw[h,i1.1 rfl]
       ·intro h;exact(List.append_inj h lx).2
theorem eq_items{d:Nat}{e:TypeId}{k1:List K}(h0:¬k1.length=0)(ih:EqT P d e k1)(hl:lay P d e=some k1)(hz:szB P e k1.length=true):∀(n j:Nat) (w:World) (X Y:Array Value) (kx:List K),X.toList.map kOf=kx.map some→Y.toList.map kOf=kx.map some→
  kx.drop (j*k1.length)=(List.replicate n k1).flatten→
   ∃r:Bool,(Op.eqItems d e (P.cellsOf e) X Y (List.range' j n)).run P w= .ok r w∧(r=true↔X.toList.drop (j*k1.length)=Y.toList.drop (j*k1.length))
 |0,j,w,X,Y,kx,hX,hY,hk=>by
  have hx:X.toList.drop (j*k1.length)=[]:=by
   have h2:(X.toList.drop (j*k1.length)).map kOf=[]:=by rw[List.map_drop,hX,←List.map_drop,hk];rfl
   simpa using h2
  have hy:Y.toList.drop (j*k1.length)=[]:=by
   have h2:(Y.toList.drop (j*k1.length)).map kOf=[]:=by rw[List.map_drop,hY,←List.map_drop,hk];rfl
   simpa using h2
  exact⟨true,rfl,by simp[hx,hy]⟩
 |n+1,j,w,X,Y,kx,hX,hY,hk=>by
  have hc:P.cellsOf e=k1.length:=by
   obtain⟨i,hi,hs⟩:=szB_info hz
   simp[Program.cellsOf,hi,hs]
  have hxl:X.toList.length=kx.length:=by have:=congrArg List.length hX;simpa using this
  have hyl:Y.toList.length=kx.length:=by have:=congrArg List.length hY;simpa using this
  rw[List.replicate_succ,List.flatten_cons]at hk
  have hkl:kx.length-j*k1.length=k1.length+(List.replicate n k1).flatten.length:=by
   have:=congrArg List.length hk
   simpa using this
  have hle:k1.length=0∨j*k1.length+k1.length≤kx.length:=by omega
  obtain⟨⟨dd,hu⟩,h1⟩:=lay_und hl
  have hk1:(kx.drop (j*k1.length)).take k1.length=k1:=by rw[hk];simp
  have hk2:kx.drop ((j+1)*k1.length)=(List.replicate n k1).flatten:=by
   rw[Nat.add_mul,Nat.one_mul,←List.drop_drop,hk];simp
  have hle':j*k1.length+k1.length≤kx.length:=by omega
  have px:=run_part_t hu hz h1 X (j*k1.length) (by rw[←Array.length_toList,hxl];omega) w
  have py:=run_part_t hu hz h1 Y (j*k1.length) (by rw[←Array.length_toList,hyl];omega) w
  obtain⟨r1,e1,i1⟩:=ih w ((X.toList.drop (j*k1.length)).take k1.length) ((Y.toList.drop (j*k1.length)).take k1.length) (by rw[map_take_drop hX,hk1]) (by rw[map_take_drop hY,hk1])
  obtain⟨r2,e2,i2⟩:=eq_items h0 ih hl hz n (j+1) w X Y kx hX hY hk2
  have split:∀Z:Array Value,Z.toList.drop (j*k1.length)=(Z.toList.drop (j*k1.length)).take k1.length++Z.toList.drop ((j+1)*k1.length):=fun Z=>by
   rw[Nat.add_mul,Nat.one_mul,←List.drop_drop,List.take_append_drop]
  have lx:((X.toList.drop (j*k1.length)).take k1.length).length=((Y.toList.drop (j*k1.length)).take k1.length).length:=by simp only[List.length_take,List.length_drop];omega
  simp only[List.range'_succ,Op.eqItems,Sem.run_bind,hc,px,py,Result.andThen_ok,e1]
  rw[hc]at e2
  cases r1 with
  |false=>
   refine⟨false,by simp,?_⟩
   rw[split X,split Y]
   constructor
   ·intro h;cases h
   ·intro h
    have:=(List.append_inj h lx).1
    exact absurd (i1.2 this) (by simp)
  |true=>
   refine⟨r2,by simpa using e2,?_⟩
   rw[split X,split Y,i2]
   constructor
   ·intro h;rw[h,i1.1 rfl]
   ·intro h;exact(List.append_inj h lx).2
theorem eq_t:∀(d:Nat) (t:TypeId) (ks:List K),lay P d t=some ks→EqT P d t ks
 |0,t,ks,h=>by cases h
 |d+1,t,ks,h=>by
  have ih:=eq_t d
  intro w xs ys hx hy
  have h':=h
  unfold lay at h
  cases hu:P.underlying t with
  |none=>rw[hu]at h;cases h
  |some dd=>
   rw[hu]at h
   have leaf:ks.length=1→∃x y,xs=[x]∧ys=[y]:=fun h1=>by
    have lx:xs.length=1:=by have:=congrArg List.length hx;simp at this;omega
    have ly:ys.length=1:=by have:=congrArg List.length hy;simp at this;omega
    match xs,ys,lx,ly with
    |[x],[y],_,_=>exact⟨x,y,rfl,rfl⟩
   have hxl:xs.length=ks.length:=by have:=congrArg List.length hx;simpa using this
   have hyl:ys.length=ks.length:=by have:=congrArg List.length hy;simpa using this
   cases dd<;>simp only[]at h<;>try (cases h;done)
   case bool=>
    cases h
    obtain⟨x,y,rfl,rfl⟩:=leaf rfl
    simp at hx hy
    cases x<;>simp[kOf]at hx
    cases y<;>simp[kOf]at hy
    rename_i a b
    exact⟨a==b,by simp[valT,isAggT,hu,Op.equalIn,run_underlying hu],by simp⟩
   case int q=>
    cases h
    obtain⟨x,y,rfl,rfl⟩:=leaf rfl
    simp at hx hy
    cases x<;>simp[kOf]at hx
    cases y<;>simp[kOf]at hy
    subst hx;subst hy
    rename_i a j b
    exact⟨a==b,by simp[valT,isAggT,hu,Op.equalIn,run_underlying hu],by simp⟩
   case string=>
    cases h
    obtain⟨x,y,rfl,rfl⟩:=leaf rfl
    simp at hx hy
    cases x<;>simp[kOf]at hx
    cases y<;>simp[kOf]at hy
    rename_i a b
    exact⟨a==b,by simp[valT,isAggT,hu,Op.equalIn,run_underlying hu],by
     rw[beq_toListBytes,ByteArray.toList_eq,ByteArray.toList_eq]
     obtain⟨⟨a⟩⟩:=a
     obtain⟨⟨b⟩⟩:=b
     simp⟩
   case array n e=>
    cases hl:lay P d e with
    |none=>rw[hl]at h;cases h
    |some k1=>
     rw[hl]at h
     simp only[]at h
     cases hzz:(szB P e k1.length&& !k1.isEmpty)with
     |false=>rw[hzz]at h;simp at h
     |true=>
      rw[hzz]at h
      simp only[if_true,Option.some.injEq]at h
      subst h
      simp only[Bool.and_eq_true,Bool.not_eq_true']at hzz
      obtain⟨hz,hne⟩:=hzz
      obtain⟨i,hi,hs⟩:=szB_info hz
      have e0:valT P t xs= .agg xs.toArray:=by simp[valT,isAggT,hu]
      have e1:valT P t ys= .agg ys.toArray:=by simp[valT,isAggT,hu]
      rw[e0,e1,run_equalIn_array w d xs.toArray ys.toArray hu hi]
      obtain⟨r,hr,hiff⟩:=eq_items (by simpa using hne) (ih e k1 hl) hl hz n 0 w xs.toArray ys.toArray _ hx hy (by simp)
      refine⟨r,by rw[List.range_eq_range'];exact hr,by simpa using hiff⟩
   case struct fs=>
    cases hp:P.stoodInHeld t with
    |true=>rw[hp]at h;simp at h
    |false=>
     rw[hp]at h
     simp only[Bool.false_eq_true,if_false]at h
     have hf:P.fieldsOf t=fs:=by simp[Program.fieldsOf,hu]
     have e0:valT P t xs= .agg xs.toArray:=by simp[valT,isAggT,hu]
     have e1:valT P t ys= .agg ys.toArray:=by simp[valT,isAggT,hu]
     rw[e0,e1,run_equalIn_struct w d t xs.toArray ys.toArray (by rw[hf];exact hu) hp,hf]
     obtain⟨r,hr,hiff⟩:=eq_fields ih fs.toList 0 ks h w xs.toArray ys.toArray ks hx hy (by simp) (by omega)
     refine⟨r,hr,?_⟩
     rw[hiff]
     simp only[List.drop_zero]
     rw[List.take_of_length_le (by omega),List.take_of_length_le (by omega)]
variable {β:Base}{L:List Res}{f:Fm}{d:Option Tmp}{ty:TypeId}{ps:String}{af:Array Edge}{g:Option (Nat×Bool)}
theorem run_eql_t{t:TypeId}{ks:List K}{xs ys:List Value}(hl:lay P 10000 t=some ks)(ha:isAggT P t=true)(hx:xs.map kOf=ks.map some)(hy:ys.map kOf=ks.map some)(w:World):
  ∃r:Bool,(Op.equalIn 10000 t (.agg xs.toArray) (.agg ys.toArray)).run P w= .ok r w∧(r=true↔xs=ys):=by
 have h:=eq_t 10000 t ks hl w xs ys hx hy
 simpa only[valT,ha,if_true]using h
theorem e_neq_t{t t':TypeId}{x y:Operand}{ks:List K}{xs ys:List Value}{p:Prop}[Decidable p](hl:lay P 10000 t=some ks)(ha:isAggT P t=true)(hg:P.eqGuardType P.depth t=false)
 (hx:ev f x= .agg xs.toArray)(hy:ev f y= .agg ys.toArray)(kx:xs.map kOf=ks.map some)(ky:ys.map kOf=ks.map some)(hp:¬(xs=ys)↔p):EV P β L f ⟨d,.binOp .neq t x y t',ty,ps,af,g⟩ (.bool (decide p)):=fun w _=>by
 obtain⟨r,hr,hi⟩:=run_eql_t hl ha kx ky w
 have e:(!r)=decide p:=by
  cases r
  ·have h:p:=hp.1 fun h=>absurd (hi.2 h) (by simp)
   rw[decide_eq_true h];rfl
  ·have h:¬p:=fun h=>(hp.2 h) (hi.1 rfl)
   rw[decide_eq_false h];rfl
 simp only[execOp,hx,hy,Sem.run_bind,run_eqGuard_agg w _ t x y xs.toArray ys.toArray hg,Result.andThen_ok,run_neq_struct,hr,e]
 rfl
end
end Go.Sl
namespace Go.Sl
section
variable {P:Program}{ro:Option Nat}{n:Nat}{ds:List Deferred}{β:Base}{Q:Exit→Act→World→Prop}{f:Fm}{L:List Res}{ops:Array Oper}{rest:List Oper}
variable {d:Option Tmp}{ty:TypeId}{ps:String}{af:Array Edge}{g:Option (Nat×Bool)}
theorem s_mem0{o:Oper}(hd:o.dst=none)
 (hv:∀w,St β L w→∃v w' L',(execOp (ev f) o).run P w= .ok (.value v) w'∧St β L' w'∧RunL P ro n ds β ops Q rest f L'):Step1 P ro n ds β o Q (wpListIn (Fe ro) 3 P ops Q rest) f L:=by
 intro a w ha hw
 obtain⟨v,w',L',hr,hw',k⟩:=hv w hw
 refine⟨fun _ _=>trivial,?_⟩
 rw[ha.eval,semAt_of hr (by simp),hr,Oper.uponIn_value,hd]
 exact k _ w' ha hw'
theorem l_mc{o:Oper}{Post:Value→List Res→Prop}(hg:o.guard=none)(hd:o.dst=none)(h:MV P β L f o Post)(k:∀v L',Post v L'→RunL P ro n ds β ops Q rest f L'):RunL P ro n ds β ops Q (o::rest) f L:=
 l_step hg (s_mem0 hd fun w hw=>let⟨v,w',L',hr,hw',hp⟩:=h w hw;⟨v,w',L',hr,hw',k v L' hp⟩)
theorem zeroCells_one{z:Array Value}(m:Nat)(h:z.toList.all (·.oneCell')=true):∀v∈(Builtin.zeroCells z m).toList,v.oneCell'=true:=by
 intro v hv
 unfold Builtin.zeroCells at hv
 simp only[Array.toList_map,List.mem_map]at hv
 obtain⟨i,hi,rfl⟩:=hv
 have hz:0<z.size:=by
  rcases Nat.eq_zero_or_pos z.size with h0|h0
  ·rw[h0]at hi;simp at hi
  ·exact h0
 have hm:=Nat.mod_lt i hz
 rw[getElem!_pos z (i%z.size) hm]
 exact List.all_eq_true.1 h _ (by rw[←Array.getElem_toList];exact List.getElem_mem _)
theorem m_clearFl{α:Type}{F:Fl α}{x:Operand}{t e c k T:Nat}{p:Option Addr}{xs:List α}{z:Value}(i:Nat)(hsl:slB P t e F.n=true)(hz:(P.info? e).bind (·.zero)=some z)(hzs:z.cells.size=F.n)(hz1:z.cells.toList.all (·.oneCell')=true)
 (hx:ev f x= .slice (adv p c k F.n) (xs.length-k) (c-k))(hi:L[i]? =some (rowF F T p c xs))(hk:k≤xs.length):
  MV P β L f ⟨d,.call ⟨.builtin .clear,#[x],#[t]⟩,ty,ps,af,g⟩ (fun v L'=>v= .tuple #[]∧L'=L.set i (rowF F T p c (xs.take k))):=fun w hw=>by
 obtain⟨hu,inf,hinf,hn2⟩:=slB_split hsl
 have hz':inf.zero=some z:=by rw[hinf]at hz;simpa using hz
 have hzv:∀w,(zeroValue e).run P w= .ok z w:=fun w=>by simp[zeroValue,typeInfo,hinf,hz']
 have hlk:(xs.take k).length=k:=by rw[List.length_take];omega
 have hcells:(xs.take k).flatMap F.enc=(xs.flatMap F.enc).take (k*F.n):=(fl_take xs k).symm
 have hex:∃a,Sub a (ph w)∧rowF F T p c xs a:=by
  obtain⟨_,_,_,hh,hd,hs,hs',hL⟩:=hw
  obtain⟨a,ha,hr⟩:=hL.each _ (List.mem_of_getElem? hi)
  exact⟨a,ha.trans hs',hr⟩
 by_cases he:xs.length-k=0
 ·have hke:k=xs.length:=by omega
  refine⟨.tuple #[],w,_,?_,hw,rfl,?_⟩
  ·simp only[execOp,resolve,invoke,builtin,Sem.run_bind,Sem.run_pure,Result.andThen_ok,List.map_toArray,List.map_cons,List.map_nil,hx,he,Builtin.clear_,List.getElem?_toArray,List.getElem?_cons_zero,run_underlying hu]
   cases adv p c k F.n<;>simp
  ·rw[hke,List.take_length]
   obtain⟨h9,e9⟩:=List.getElem?_eq_some_iff.1 hi
   rw[←e9,List.set_getElem_self]
 ·have hm:0<xs.length:=by omega
  obtain⟨a,ha,hr⟩:=hex
  obtain⟨b,cur,rfl,hb,h2,h3,h4,h5,h6⟩:=row_open hr hm
  have hbw:w.heap[b]? =some (.cells cur T (0,0)):=ha _ _ hb
  have hmc:xs.length*F.n≤c*F.n:=Nat.mul_le_mul_right F.n h2
  have hadd:adv (some (⟨b,0,none⟩:Addr)) c k F.n=some ⟨b,k*F.n,none⟩:=by
   unfold adv;rw[if_neg (by omega)];simp only[Option.map_some];unfold Addr.add;split<;>simp_all
  have hzl:(Builtin.zeroCells z.cells (xs.length-k)).toList.length=(xs.length-k)*F.n:=by simp[size_zeroCells,hzs]
  have hsum:k*F.n+(xs.length-k)*F.n=xs.length*F.n:=by rw[←Nat.add_mul];congr 1;omega
  have hst:=run_storeCells_at P b (k*F.n) T (Builtin.zeroCells z.cells (xs.length-k)).toList 0 cur w hbw (by rw[hzl,h4];omega) (zeroCells_one _ hz1)
  simp only[Nat.add_zero]at hst
  rw[hadd]at hx
  obtain⟨q,hq⟩:∃q,xs.length-k=q+1:=⟨xs.length-k-1,by omega⟩
  refine⟨.tuple #[],w.setRow b (over cur (k*F.n) (Builtin.zeroCells z.cells (xs.length-k)).toList),_,?_,?_,rfl,rfl⟩
  ·simp only[execOp,resolve,invoke,builtin,Sem.run_bind,Sem.run_pure,Result.andThen_ok,List.map_toArray,List.map_cons,List.map_nil,hx,Builtin.clear_,List.getElem?_toArray,List.getElem?_cons_zero,run_underlying hu,hq]
   rw[hq]at hst
   simp only[hzv,Result.andThen_ok,hst,over]
  ·refine St.back i hi ((hw.front i hi).turn rfl rfl rfl fun a' ha' hr'=> ?_)
   obtain⟨b',cur',e1,hb',g2,g3,g4,g5,g6⟩:=row_open hr' hm
   injection e1 with e1
   injection e1 with e1
   subst e1
   have hbw':w.heap[b]? =some (.cells cur' T (0,0)):=ha' _ _ hb'
   rw[hbw]at hbw'
   injection hbw' with e2
   injection e2 with e2
   subst e2
   refine⟨fun k'=>if k'=b then some (.cells (over cur (k*F.n) (Builtin.zeroCells z.cells (xs.length-k)).toList) T (0,0))else none,?_,?_,?_⟩
   ·refine⟨by rw[hlk,hcells,List.length_take,h6];omega,.inr ⟨b,c,over cur (k*F.n) (Builtin.zeroCells z.cells (xs.length-k)).toList,rfl,by simp,by omega,h3,?_,?_⟩⟩
    ·simp only[over,List.size_toArray,List.length_append,List.length_take,List.length_drop,Array.length_toList,hzl];omega
    ·rw[hlk,hcells,←h5,List.take_take,Nat.min_eq_left (by omega)]
     simp only[over]
     rw[List.append_assoc,List.take_append_of_le_length (by simp only[List.length_take,Array.length_toList];omega),List.take_take,Nat.min_self]
   ·intro k' y hy
    by_cases e:k'=b
    ·subst e;simp at hy;subst hy;exact setRow_heap w k' cur _ T _ hbw
    ·simp[e]at hy
   ·intro k' hlt hak
    have hne:k'≠b:=by rintro rfl;rw[hb']at hak;cases hak
    exact⟨by simp[hne],setRow_other w b k' _ hne⟩
end
end Go.Sl
namespace Go.Sl
structure MapK(P:Program)(κ ν:Type) where
 t:Nat
 kt:Nat
 et:Nat
 dec:DecidableEq κ
 enc:κ→Value
 encv:ν→Value
 zv:ν
 ht:P.underlying t=some (.map kt et)
 hz:(P.info? et).bind (·.zero)=some (encv zv)
 chk:∀e a w,(Instr.checkKey e 10000 kt (enc a)).run P w= .ok () w
 find:∀(k:κ) (ks:List κ) (es:List MapEntry) (w:World),es.map (·.key)=ks.map enc→∃r,(Instr.findKey kt (enc k) es).run P w= .ok r w∧
  (match r with|none=>k∉ks|some (j,v)=>ks[j]? =some k∧(es[j]?).map (·.val)=some v)
 bits:∀a,Instr.sameBits 10000 (enc a) (enc a)=true
section
variable {P:Program}{κ ν:Type}
theorem find_plain{kt:Nat}{d:TypeDesc}{enc:κ→Value}[DecidableEq κ](hd:P.underlying kt=some d)(hs:∀a b,Instr.sameNow d (enc a) (enc b)=some (decide (a=b)))
 (k:κ)(ks:List κ)(es:List MapEntry)(w:World)(h:es.map (·.key)=ks.map enc):∃r,(Instr.findKey kt (enc k) es).run P w= .ok r w∧
   (match r with|none=>k∉ks|some (j,v)=>ks[j]? =some k∧(es[j]?).map (·.val)=some v):=by
 have key:∀(ks:List κ) (es:List MapEntry) (i:Nat),es.map (·.key)=ks.map enc→∃r,Instr.findNow d (enc k) es i=some r∧
   (match r with|none=>k∉ks|some (j,v)=>i≤j∧ks[j-i]? =some k∧(es[j-i]?).map (·.val)=some v):=by
  intro ks
  induction ks with
  |nil=>
   intro es i h
   cases es with
   |nil=>exact⟨none,rfl,by simp⟩
   |cons e es=>simp at h
  |cons a ks ih=>
   intro es i h
   cases es with
   |nil=>simp at h
   |cons e es=>
    simp only[List.map_cons,List.cons.injEq]at h
    unfold Instr.findNow
    rw[h.1,hs]
    by_cases ek:k=a
    ·subst ek;exact⟨some (i,e.val),by simp,by simp⟩
    ·obtain⟨r',hr',hx⟩:=ih es (i+1) h.2
     refine⟨r',by simp[ek,hr'],?_⟩
     cases r' with
     |none=>simp only[List.mem_cons,not_or];exact⟨ek,hx⟩
     |some p=>
      obtain⟨g1,g2,g3⟩:=hx
      refine⟨by omega,?_,?_⟩
      ·rw[show p.1-i=(p.1-(i+1))+1 by omega,List.getElem?_cons_succ];exact g2
      ·rw[show p.1-i=(p.1-(i+1))+1 by omega,List.getElem?_cons_succ];exact g3
 obtain⟨r,hr,hx⟩:=key ks es 0 h
 refine⟨r,by simp[Instr.findKey,run_underlying hd,hr],?_⟩
 cases r with
 |none=>exact hx
 |some p=>exact⟨by simpa using hx.2.1,by simpa using hx.2.2⟩
variable (K:MapK P κ ν)
def MapK.look(ks:List (κ×ν))(k:κ):Option ν:=(ks.find? fun p=> @decide (p.1=k) (K.dec _ _)).map (·.2)
def MapK.put(ks:List (κ×ν))(k:κ)(v:ν):List (κ×ν):=if(K.look ks k).isSome then ks.map (fun p=> @ite _ (p.1=k) (K.dec _ _) (k,v) p)else ks++[(k,v)]
def MapK.del(ks:List (κ×ν))(k:κ):List (κ×ν):=ks.filter fun p=> !@decide (p.1=k) (K.dec _ _)
structure MapC(ks:List (κ×ν))(es:Array MapEntry)(clock:Nat):Prop where
 cells:es.toList.map (fun e=>(e.key,e.val))=ks.map fun p=>(K.enc p.1,K.encv p.2)
 keys:(ks.map (·.1)).Nodup
 births:(es.toList.map (·.born)).Nodup
 old:∀e∈es.toList,e.born<clock
def mpR(b:Nat)(ks:List (κ×ν)):Res:=fun h=>∃es clock,h b=some (.map es clock)∧MapC K ks es clock
theorem mpR.mono(b:Nat)(ks:List (κ×ν)):Mono (mpR K b ks):=fun _ _ hs ⟨es,c,h,k⟩=>⟨es,c,hs _ _ h,k⟩
variable {K}
theorem MapC.ks{ks:List (κ×ν)}{es:Array MapEntry}{c:Nat}(h:MapC K ks es c):es.toList.map (·.key)=(ks.map (·.1)).map K.enc:=by
 have:=congrArg (List.map (·.1)) h.cells
 simpa[List.map_map,Function.comp_def]using this
theorem MapC.at{ks:List (κ×ν)}{es:Array MapEntry}{c:Nat}(h:MapC K ks es c)(j:Nat):(es.toList[j]?).map (fun e=>(e.key,e.val))=(ks[j]?).map fun p=>(K.enc p.1,K.encv p.2):=by
 have:=congrArg (fun l=>l[j]?) h.cells
 simpa using this
theorem look_at{ks:List (κ×ν)}(hn:(ks.map (·.1)).Nodup){k:κ}{v:ν}{j:Nat}(h:ks[j]? =some (k,v)):K.look ks k=some v:=by
 unfold MapK.look
 obtain⟨hj,e⟩:=List.getElem?_eq_some_iff.1 h
 have hf:(ks.find? fun p=> @decide (p.1=k) (K.dec _ _))=some (k,v):=by
  rw[List.find?_eq_some_iff_getElem]
  refine⟨by simp,j,hj,e,fun i hi=> ?_⟩
  have:=List.nodup_iff_pairwise_ne.1 hn
  rw[List.pairwise_map,List.pairwise_iff_getElem]at this
  have h2:=this i j (by omega) hj hi
  rw[e]at h2
  simpa using h2
 rw[hf];rfl
theorem look_none{ks:List (κ×ν)}{k:κ}:K.look ks k=none↔k∉ks.map (·.1):=by
 unfold MapK.look
 rw[Option.map_eq_none_iff,List.find?_eq_none]
 simp only[decide_eq_true_eq,List.mem_map,not_exists,not_and]
theorem look_mem{ks:List (κ×ν)}{k:κ}{v:ν}(h:K.look ks k=some v):(k,v)∈ks:=by
 unfold MapK.look at h
 rw[Option.map_eq_some_iff]at h
 obtain⟨p,hp,rfl⟩:=h
 have h1:=List.find?_some hp
 have h2:=List.mem_of_find?_eq_some hp
 simp only[decide_eq_true_eq]at h1
 subst h1;exact h2
end
end Go.Sl
namespace Go.Sl
open Go.ChangeMaps (setBlock)
section
variable {P:Program}{κ ν:Type}{K:MapK P κ ν}{ro:Option Nat}{n:Nat}{ds:List Deferred}{β:Base}{Q:Exit→Act→World→Prop}{f:Fm}{L:List Res}{ops:Array Oper}{rest:List Oper}
variable {d:Option Tmp}{ty:TypeId}{ps:String}{af:Array Edge}{g:Option (Nat×Bool)}
theorem mpR_nil(b:Nat)(a:PHeap)(h:pt b (.map #[] 0) a):mpR K b [] a:=⟨#[],0,h,rfl,List.nodup_nil,List.nodup_nil,fun e he=>by simp at he⟩
theorem m_mkmap{t:Nat}:MV P β L f ⟨d,.makeMap t none,ty,ps,af,g⟩ (fun u L'=>∃b,u= .map (some b)∧L'=mpR K b []::L):=fun w hw=>by
 refine⟨_,_,_,?_,(hw.new (.map #[] 0)).conseq fun a h=>mpR_nil _ a h,_,rfl,rfl⟩
 simp[execOp,Instr.makeMap]
theorem zero_mp (K : MapK P κ ν) (w : World) : (zeroValue K.et).run P w = .ok (K.encv K.zv) w := by
  have hz := K.hz
  cases hi : P.info? K.et with
  | none => rw [hi] at hz; cases hz
  | some i => rw [hi] at hz; have hz' : i.zero = some (K.encv K.zv) := by simpa using hz
              simp [zeroValue, typeInfo, hi, hz']
theorem found_mp{ks:List (κ×ν)}{es:Array MapEntry}{c:Nat}(hc:MapC K ks es c)(k:κ)(w:World):∃r,(Instr.findKey K.kt (K.enc k) es.toList).run P w= .ok r w∧
  (match r with|none=>K.look ks k=none|some (j,v)=>∃u,K.look ks k=some u∧v=K.encv u∧ks[j]? =some (k,u)):=by
 obtain⟨r,hr,hx⟩:=K.find k (ks.map (·.1)) es.toList w hc.ks
 refine⟨r,hr,?_⟩
 cases r with
 |none=>exact look_none.2 hx
 |some p=>
  obtain⟨j,v⟩:=p
  obtain⟨h1,h2⟩:=hx
  have h1:(ks.map (·.1))[j]? =some k:=h1
  have h2:(es.toList[j]?).map (·.val)=some v:=h2
  have ha:=hc.at j
  rw[List.getElem?_map]at h1
  cases hj:ks[j]? with
  |none=>rw[hj]at h1;cases h1
  |some q=>
   obtain⟨k',u⟩:=q
   rw[hj]at h1 ha
   simp only[Option.map_some,Option.some.injEq]at h1
   subst h1
   cases he:es.toList[j]? with
   |none=>rw[he]at h2;cases h2
   |some e=>
    rw[he]at h2 ha
    simp only[Option.map_some,Option.some.injEq,Prod.mk.injEq]at h2 ha
    exact⟨u,look_at hc.keys hj,by rw[←h2,ha.2],hj⟩
theorem e_look2{x y:Operand}{t b:Nat}{ks:List (κ×ν)}{k:κ}(ht:t=K.t)(hx:ev f x= .map (some b))(hy:ev f y=K.enc k)(hm:Knows β L (mpR K b ks)):
  EV P β L f ⟨d,.lookup t x y true,ty,ps,af,g⟩ (.tuple #[K.encv ((K.look ks k).getD K.zv),.bool (K.look ks k).isSome]):=fun w hw=>by
 obtain⟨es,c,hb,hc⟩:=hw.knows hm
 have hb:w.heap[b]? =some (.map es c):=hb
 obtain⟨r,hr,hx'⟩:=found_mp hc k w
 have hg:(getObj b).run P w= .ok (.map es c) w:=run_getM hb
 subst ht
 simp only[execOp,Instr.lookup,Sem.run_bind,run_underlying K.ht,Result.andThen_ok,hx,hy,hg,Sem.run_pure,K.chk,hr]
 cases r with
 |none=>
  have hl:K.look ks k=none:=hx'
  simp[zero_mp,hl]
 |some p=>
  obtain⟨j,v⟩:=p
  obtain⟨u,hl,hv,_⟩:=hx'
  simp[hl,hv]
theorem e_mlen{x:Operand}{t b:Nat}{ks:List (κ×ν)}(ht:t=K.t)(hx:ev f x= .map (some b))(hm:Knows β L (mpR K b ks)):
  EV P β L f ⟨d,.call ⟨.builtin .len,#[x],#[t]⟩,ty,ps,af,g⟩ (Nx ks.length):=fun w hw=>by
 obtain⟨es,c,hb,hc⟩:=hw.knows hm
 have hb:w.heap[b]? =some (.map es c):=hb
 have hg:(getObj b).run P w= .ok (.map es c) w:=run_getM hb
 have hl:es.size=ks.length:=by have:=congrArg List.length hc.cells;simpa using this
 subst ht
 simp[execOp,resolve,invoke,builtin,hx,Builtin.len_,run_underlying K.ht,hg,hl]
 rfl
theorem St.mp_open{w:World}{b:Nat}{ks:List (κ×ν)}(i:Nat)(hw:St β L w)(hi:L[i]? =some (mpR K b ks)):∃es c,w.heap[b]? =some (.map es c)∧MapC K ks es c∧St β (L.set i (Sl.pt b (.map es c))) w:=by
 obtain⟨es,c,hb,hc⟩:=hw.knows (Knows.of_res i hi (mpR.mono K b ks) fun _ h=>h)
 have hb:w.heap[b]? =some (.map es c):=hb
 refine⟨es,c,hb,hc,St.back i hi<| ?_⟩
 have h:=hw.front i hi
 refine h.turn rfl rfl rfl fun a ha hr=> ?_
 obtain⟨es',c',hb',hc'⟩:=hr
 have e:=ha _ _ hb'
 have e':w.heap[b]? =some (.map es' c'):=e
 rw[hb]at e'
 injection e' with e';injection e' with e1 e2;subst e1;subst e2
 exact⟨a,hb',ha,fun _ h1 h2=>⟨h2,rfl⟩⟩
theorem St.mp_put{w:World}{b:Nat}{ks ks':List (κ×ν)}{es es':Array MapEntry}{c c':Nat}(i:Nat)(hi:L[i]? =some (mpR K b ks))(hb:w.heap[b]? =some (.map es c))(hw':St β (L.set i (Sl.pt b (.map es c))) w)(hc':MapC K ks' es' c'):
  St β (L.set i (mpR K b ks')) {w with heap:=w.heap.setIfInBounds b (.map es' c')}:=by
 have hli:i<L.length:=(List.getElem?_eq_some_iff.1 hi).1
 have hb':b<w.heap.size:=(Array.getElem?_eq_some_iff.1 hb).1
 have h:=(hw'.front i (r:=Sl.pt b (.map es c)) (by simp[hli])).put (w':={w with heap:=w.heap.setIfInBounds b (.map es' c')}) (o':= .map es' c') rfl rfl rfl (by simp[hb']) fun k' hk' _=>by
  simp[Ne.symm hk']
 have h2:=h.conseq (r':=mpR K b ks') fun a ha=>⟨es',c',ha,hc'⟩
 have h3:=St.back (L:=L.set i (Sl.pt b (.map es c))) i (r:=Sl.pt b (.map es c)) (by simp[hli]) h2
 simpa using h3
theorem MapC.push{ks:List (κ×ν)}{es:Array MapEntry}{c:Nat}(h:MapC K ks es c){k:κ}{v:ν}(hl:K.look ks k=none):MapC K (K.put ks k v) (es.push {key:=K.enc k,val:=K.encv v,born:=c}) (c+1):=by
 have hp:K.put ks k v=ks++[(k,v)]:=by unfold MapK.put;rw[hl];rfl
 rw[hp]
 refine⟨by simp[h.cells],?_,?_,?_⟩
 ·rw[List.map_append,List.nodup_append]
  refine⟨h.keys,by simp,fun a ha b hb=> ?_⟩
  simp at hb
  rw[hb]
  rintro rfl
  exact look_none.1 hl ha
 ·simp only[Array.toList_push,List.map_append,List.map_cons,List.map_nil]
  rw[List.nodup_append]
  refine⟨h.births,by simp,fun a ha b hb=> ?_⟩
  simp at hb
  rw[hb]
  obtain⟨e,he,rfl⟩:=List.mem_map.1 ha
  have:=h.old e he
  omega
 ·intro e he
  simp only[Array.toList_push,List.mem_append,List.mem_singleton]at he
  rcases he with he|rfl
  ·have:=h.old e he;omega
  ·show c<c+1;omega
theorem keys_ne{ks:List (κ×ν)}(hn:(ks.map (·.1)).Nodup){i j:Nat}{p q:κ×ν}(hi:ks[i]? =some p)(hj:ks[j]? =some q)(h:i≠j):p.1≠q.1:=by
 intro e
 obtain⟨h1,e1⟩:=List.getElem?_eq_some_iff.1 hi
 obtain⟨h2,e2⟩:=List.getElem?_eq_some_iff.1 hj
 have:=List.nodup_iff_pairwise_ne.1 hn
 rw[List.pairwise_map,List.pairwise_iff_getElem]at this
 rcases Nat.lt_or_gt_of_ne h with hlt|hlt
 ·have:=this i j h1 h2 hlt;rw[e1,e2]at this;exact this e
 ·have:=this j i h2 h1 hlt;rw[e1,e2]at this;exact this e.symm
theorem MapC.turn{ks:List (κ×ν)}{es:Array MapEntry}{c j:Nat}(h:MapC K ks es c){k:κ}{u v:ν}(hj:ks[j]? =some (k,u)):MapC K (K.put ks k v) (es.modify j fun e=>{e with key:=K.enc k,val:=K.encv v}) c:=by
 have hp:K.put ks k v=ks.map (fun p=> @ite _ (p.1=k) (K.dec _ _) (k,v) p):=by unfold MapK.put;rw[look_at h.keys hj];rfl
 have hkeys:(K.put ks k v).map (·.1)=ks.map (·.1):=by
  rw[hp,List.map_map]
  refine List.map_congr_left fun p _=> ?_
  simp only[Function.comp]
  split
  ·rename_i e;exact e.symm
  ·rfl
 have hes:(es.modify j fun e=>{e with key:=K.enc k,val:=K.encv v}).toList=es.toList.modify j fun e=>{e with key:=K.enc k,val:=K.encv v}:=by simp
 refine⟨?_,by rw[hkeys];exact h.keys,?_,?_⟩
 ·rw[hes,hp]
  apply List.ext_getElem?
  intro i
  have ha:=h.at i
  simp only[List.getElem?_map,List.getElem?_modify]
  cases hi:ks[i]? with
  |none=>
   rw[hi]at ha
   cases he:es.toList[i]? with
   |none=>simp
   |some e=>rw[he]at ha;cases ha
  |some p=>
   rw[hi]at ha
   cases he:es.toList[i]? with
   |none=>rw[he]at ha;cases ha
   |some e=>
    rw[he]at ha
    simp only[Option.map_some,Option.some.injEq,Prod.mk.injEq]at ha
    by_cases hij:j=i
    ·subst hij
     rw[hj]at hi
     injection hi with hi
     subst hi
     simp
    ·have hne:¬p.1=k:=keys_ne h.keys hi hj (fun q=>hij q.symm)
     simp[hij,hne,ha]
 ·rw[hes]
  have:(es.toList.modify j fun e=>{e with key:=K.enc k,val:=K.encv v}).map (·.born)=es.toList.map (·.born):=by
   apply List.ext_getElem?
   intro i
   simp only[List.getElem?_map,List.getElem?_modify]
   by_cases hij:j=i
   ·subst hij;cases es.toList[j]? <;>simp
   ·simp[hij]
  rw[this];exact h.births
 ·intro e he
  rw[hes]at he
  obtain⟨i,hi⟩:=List.getElem?_of_mem he
  rw[List.getElem?_modify]at hi
  cases he2:es.toList[i]? with
  |none=>rw[he2]at hi;simp at hi
  |some e2=>
   rw[he2]at hi
   have hb:=h.old e2 (List.mem_of_getElem? he2)
   by_cases hij:j=i
   ·subst hij;simp at hi;rw[←hi];exact hb
   ·simp[hij]at hi;rw[←hi];exact hb
theorem m_mput{x y z:Operand}{t b:Nat}{ks:List (κ×ν)}{k:κ}{v:ν}(i:Nat)(ht:t=K.t)(hx:ev f x= .map (some b))(hy:ev f y=K.enc k)(hv:ev f z=K.encv v)(hi:L[i]? =some (mpR K b ks)):
  MU P β L f ⟨d,.mapUpdate t x y z,ty,ps,af,g⟩ (L.set i (mpR K b (K.put ks k v))):=fun w hw=>by
 obtain⟨es,c,hb,hc,hw'⟩:=hw.mp_open i hi
 obtain⟨r,hr,hx'⟩:=found_mp hc k w
 have hg:(getObj b).run P w= .ok (.map es c) w:=run_getM hb
 subst ht
 simp only[execOp,Instr.mapUpdate,Sem.run_bind,run_underlying K.ht,Result.andThen_ok,hx,hy,hv,hg,K.chk,hr]
 cases r with
 |none=>
  have hl:K.look ks k=none:=hx'
  refine⟨_,?_,St.mp_put i hi hb hw' (hc.push (v:=v) hl)⟩
  simp[run_setM _ hb]
 |some p=>
  obtain⟨j,u⟩:=p
  obtain⟨u',hl,hu,hj⟩:=hx'
  have hst:∀w,(Instr.keyThatStays (K.enc k) (K.enc k)).run P w= .ok (K.enc k) w:=fun w=>by
   unfold Instr.keyThatStays
   rw[if_pos (K.bits k)];rfl
  have hej:((es[j]?).map (·.key)).getD (K.enc k)=K.enc k:=by
   have ha:=hc.at j
   rw[hj]at ha
   cases he:es[j]? with
   |none=>rfl
   |some e=>
    have he':es.toList[j]? =some e:=by simpa using he
    rw[he']at ha
    simp only[Option.map_some,Option.some.injEq,Prod.mk.injEq]at ha
    simp[ha.1]
  refine⟨_,?_,St.mp_put i hi hb hw' (hc.turn (v:=v) hj)⟩
  simp only[hej,Sem.run_bind,hst,Result.andThen_ok]
  simp[run_setM _ hb]
theorem erase_filter:∀{ks:List (κ×ν)} {j:Nat} {k:κ} {u:ν},(ks.map (·.1)).Nodup→ks[j]? =some (k,u)→K.del ks k=ks.eraseIdx j
 |[],_,_,_,_,h=>by simp at h
 |p::ks,0,k,u,hn,h=>by
  injection h with h;subst h
  unfold MapK.del
  rw[List.filter_cons]
  simp only[decide_true,Bool.not_true,Bool.false_eq_true,if_false,List.eraseIdx_cons_zero]
  rw[List.filter_eq_self]
  intro q hq
  rw[List.map_cons,List.nodup_cons]at hn
  have:q.1≠k:=fun e=>hn.1 (List.mem_map.2 ⟨q,hq,e⟩)
  simp[this]
 |p::ks,j+1,k,u,hn,h=>by
  have hk:p.1≠k:=keys_ne hn (i:=0) (j:=j+1) rfl h (by omega)
  rw[List.map_cons,List.nodup_cons]at hn
  have ih:=erase_filter hn.2 (by simpa using h)
  unfold MapK.del at ih⊢
  rw[List.filter_cons,List.eraseIdx_cons_succ,←ih]
  simp[hk]
theorem MapC.erase{ks:List (κ×ν)}{es:Array MapEntry}{c j:Nat}(h:MapC K ks es c){k:κ}{u:ν}(hj:ks[j]? =some (k,u)):MapC K (K.del ks k) (es.eraseIdxIfInBounds j) c:=by
 have hl:es.toList.length=ks.length:=by have:=congrArg List.length h.cells;simpa using this
 have hes:(es.eraseIdxIfInBounds j).toList=es.toList.eraseIdx j:=by
  unfold Array.eraseIdxIfInBounds
  split
  ·simp
  ·rw[List.eraseIdx_of_length_le (by simp;omega)]
 have hm:∀{α β:Type} (f:α→β) (l:List α),(l.eraseIdx j).map f=(l.map f).eraseIdx j:=fun f l=>Go.ChangeMaps.map_eraseIdx f l j
 refine⟨?_,?_,?_,?_⟩
 ·rw[erase_filter h.keys hj,hes,hm,hm,h.cells]
 ·rw[erase_filter h.keys hj,hm];exact h.keys.sublist (List.eraseIdx_sublist _ _)
 ·rw[hes,hm];exact h.births.sublist (List.eraseIdx_sublist _ _)
 ·intro e he;rw[hes]at he;exact h.old e (List.mem_of_mem_eraseIdx he)
theorem del_none{ks:List (κ×ν)}{k:κ}(h:K.look ks k=none):K.del ks k=ks:=by
 unfold MapK.del
 rw[List.filter_eq_self]
 intro p hp
 have:p.1≠k:=fun e=>look_none.1 h (List.mem_map.2 ⟨p,hp,e⟩)
 simp[this]
theorem m_mdel{x y:Operand}{t t2 b:Nat}{ks:List (κ×ν)}{k:κ}(i:Nat)(ht:t=K.t)(hx:ev f x= .map (some b))(hy:ev f y=K.enc k)(hi:L[i]? =some (mpR K b ks)):
  MV P β L f ⟨d,.call ⟨.builtin .delete,#[x,y],#[t,t2]⟩,ty,ps,af,g⟩ (fun v L'=>v= .tuple #[]∧L'=L.set i (mpR K b (K.del ks k))):=fun w hw=>by
 obtain⟨es,c,hb,hc,hw'⟩:=hw.mp_open i hi
 obtain⟨r,hr,hx'⟩:=found_mp hc k w
 have hg:(getObj b).run P w= .ok (.map es c) w:=run_getM hb
 subst ht
 simp only[execOp,resolve,invoke,builtin,Sem.run_bind,Sem.run_pure,Result.andThen_ok,List.map_toArray,List.map_cons,List.map_nil,hx,hy,Builtin.delete_,List.getElem?_toArray,List.getElem?_cons_zero,List.getElem?_cons_succ,run_underlying K.ht,hg,K.chk,hr]
 cases r with
 |none=>
  have hl:K.look ks k=none:=hx'
  refine⟨.tuple #[],_,_,?_,St.mp_put i hi hb hw' (ks':=K.del ks k) (by rw[del_none hl];exact hc),rfl,rfl⟩
  simp[run_setM _ hb]
 |some p=>
  obtain⟨j,u⟩:=p
  obtain⟨u',hl,hu,hj⟩:=hx'
  refine⟨.tuple #[],_,_,?_,St.mp_put i hi hb hw' (hc.erase hj),rfl,rfl⟩
  simp[run_setM _ hb]
end
end Go.Sl
namespace Go.Sl
open Go.ChangeMaps (setBlock)
section
variable {P:Program}{κ ν:Type}(K:MapK P κ ν){ro:Option Nat}{n:Nat}{ds:List Deferred}{β:Base}{Q:Exit→Act→World→Prop}{f:Fm}{L:List Res}{ops:Array Oper}{rest:List Oper}
variable {d:Option Tmp}{ty:TypeId}{ps:String}{af:Array Edge}{g:Option (Nat×Bool)}
def rgR(b r:Nat)(ks pre:List (κ×ν)):Res:=fun h=>∃(es:Array MapEntry) (clock:Nat) (seen:Array Nat) (zs dz rz:List (MapEntry×(κ×ν))),
 h b=some (.map es clock)∧h r=some (.mapIter (some b) clock seen clock)∧b≠r∧MapC K ks es clock∧es.toList=zs.map (·.1)∧ks=zs.map (·.2)∧(∀z∈zs,z.1.key=K.enc z.2.1∧z.1.val=K.encv z.2.2)∧
 (dz++rz).Perm zs∧seen.toList=dz.map (·.1.born)∧pre=dz.map (·.2)
variable {K}
theorem rgR.mono(b r:Nat)(ks pre:List (κ×ν)):Mono (rgR K b r ks pre):=fun _ _ hs ⟨es,c,se,zs,dz,rz,h1,h2,h⟩=>⟨es,c,se,zs,dz,rz,hs _ _ h1,hs _ _ h2,h⟩
theorem MapC.zip{ks:List (κ×ν)}{es:Array MapEntry}{c:Nat}(h:MapC K ks es c):∃zs:List (MapEntry×(κ×ν)),es.toList=zs.map (·.1)∧ks=zs.map (·.2)∧∀z∈zs,z.1.key=K.enc z.2.1∧z.1.val=K.encv z.2.2:=by
 have key:∀(es:List MapEntry) (ks:List (κ×ν)),es.map (fun e=>(e.key,e.val))=ks.map (fun p=>(K.enc p.1,K.encv p.2))→∃zs:List (MapEntry×(κ×ν)),es=zs.map (·.1)∧ks=zs.map (·.2)∧∀z∈zs,z.1.key=K.enc z.2.1∧z.1.val=K.encv z.2.2:=by
  intro es
  induction es with
  |nil=>
   intro ks h
   cases ks with
   |nil=>exact⟨[],rfl,rfl,by simp⟩
   |cons a ks=>simp at h
  |cons e es ih=>
   intro ks h
   cases ks with
   |nil=>simp at h
   |cons a ks=>
    simp only[List.map_cons,List.cons.injEq,Prod.mk.injEq]at h
    obtain⟨zs,h1,h2,h3⟩:=ih ks h.2
    refine⟨(e,a)::zs,by simp[h1],by simp[h2],fun z hz=> ?_⟩
    rcases List.mem_cons.1 hz with rfl|hz
    ·exact h.1
    ·exact h3 z hz
 exact key _ _ h.cells
end
end Go.Sl
namespace Go.Sl
open Go.ChangeMaps (setBlock)
section
variable {P:Program}{κ ν:Type}(K:MapK P κ ν){ro:Option Nat}{n:Nat}{ds:List Deferred}{β:Base}{Q:Exit→Act→World→Prop}{f:Fm}{L:List Res}{ops:Array Oper}{rest:List Oper}
variable {d:Option Tmp}{ty:TypeId}{ps:String}{af:Array Edge}{g:Option (Nat×Bool)}
def itR(β:Base)(b r:Nat)(ks pre:List (κ×ν)):Res:=fun h=>∃(es:Array MapEntry) (clock:Nat) (seen:Array Nat) (zs dz rz:List (MapEntry×(κ×ν))),
 β.heap b=some (.map es clock)∧h r=some (.mapIter (some b) clock seen clock)∧b≠r∧MapC K ks es clock∧es.toList=zs.map (·.1)∧ks=zs.map (·.2)∧(∀z∈zs,z.1.key=K.enc z.2.1∧z.1.val=K.encv z.2.2)∧
 (dz++rz).Perm zs∧seen.toList=dz.map (·.1.born)∧pre=dz.map (·.2)
variable {K}
theorem itR.mono(β:Base)(b r:Nat)(ks pre:List (κ×ν)):Mono (itR K β b r ks pre):=fun _ _ hs ⟨es,c,se,zs,dz,rz,h1,h2,h⟩=>⟨es,c,se,zs,dz,rz,h1,hs _ _ h2,h⟩
theorem in_base{b:Nat}{o:Obj}{w:World}(hw:St β L w)(h:β.heap b=some o):w.heap[b]? =some o:=hw.knows (Knows.of_base (F:=fun h=>h b=some o) (fun _ _ s h=>s _ _ h) h)
theorem m_rangeB{x:Operand}{t b:Nat}{ks:List (κ×ν)}(ht:t=K.t)(hx:ev f x= .map (some b))(hm:mpR K b ks β.heap):
  MV P β L f ⟨d,.range t x,ty,ps,af,g⟩ (fun u L'=>∃r,u= .pointer (some ⟨r,0,none⟩)∧L'=itR K β b r ks []::L):=fun w hw=>by
 obtain⟨es,c,hbβ,hc⟩:=hm
 have hb:w.heap[b]? =some (.map es c):=in_base hw hbβ
 have hg:(getObj b).run P w= .ok (.map es c) w:=run_getM hb
 have hlt:b<w.heap.size:=(Array.getElem?_eq_some_iff.1 hb).1
 subst ht
 refine⟨.pointer (some ⟨w.heap.size,0,none⟩),w.alloc (.mapIter (some b) c #[] c),_,?_,?_,w.heap.size,rfl,rfl⟩
 ·simp[execOp,Instr.range,run_underlying K.ht,hx,hg]
 ·have h3:=hw.new (.mapIter (some b) c #[] c)
  refine St.merge (L:=[pt w.heap.size (.mapIter (some b) c #[] c)]) (M:=L) h3 fun a ha=> ?_
  obtain⟨p,q,_,hp,hq,h4,_⟩:=ha
  obtain⟨zs,z1,z2,z3⟩:=hc.zip
  exact⟨es,c,#[],zs,[],zs,hbβ,hp _ _ h4,by omega,hc,z1,z2,z3,List.Perm.refl _,rfl,rfl⟩
theorem it_next{b r:Nat}{ks pre:List (κ×ν)}{w:World}(i:Nat)(hw:St β L w)(hi:L[i]? =some (itR K β b r ks pre))(ty:Nat):
  (pre.Perm ks∧(Instr.next (.pointer (some ⟨r,0,none⟩)) false ty).run P w= .ok (.tuple #[.bool false]) w)∨
  ∃x:κ×ν,∃w',(Instr.next (.pointer (some ⟨r,0,none⟩)) false ty).run P w= .ok (.tuple #[.bool true,K.enc x.1,K.encv x.2]) w'∧(∃rs,(pre++[x]++rs).Perm ks)∧St β (L.set i (itR K β b r ks (pre++[x]))) w':=by
 obtain⟨es,c,seen,zs,dz,rz,hbβ,hr,hbr,hc,z1,z2,z3,hperm,hseen,hpre⟩:=hw.knows (Knows.of_res i hi (itR.mono β b r ks pre) fun _ h=>h)
 have hb:w.heap[b]? =some (.map es c):=in_base hw hbβ
 have hr:w.heap[r]? =some (.mapIter (some b) c seen c):=hr
 have hborn:(zs.map fun z=>z.1.born).Nodup:=by
  have:=hc.births
  rw[z1,List.map_map]at this
  exact this
 have hnd:((dz++rz).map fun z=>z.1.born).Nodup:=(hperm.map _).nodup_iff.2 hborn
 rcases run_next_at (P:=P) w ty r b c c seen es c hr hb hc.old (Nat.le_refl _)with⟨h0,hrun⟩|⟨e,he,w1,hw1,hrun⟩
 ·refine .inl ⟨?_,hrun⟩
  have hrz:rz=[]:=by
   cases rz with
   |nil=>rfl
   |cons z rz=>
    exfalso
    have hz:z∈zs:=hperm.mem_iff.1 (List.mem_append_right _ List.mem_cons_self)
    have hze:z.1∈es.toList:=by rw[z1];exact List.mem_map.2 ⟨z,hz,rfl⟩
    have hns:¬z.1.born∈seen.toList:=by
     rw[hseen]
     intro hm
     rw[List.map_append,List.nodup_append]at hnd
     exact hnd.2.2 _ hm _ (List.mem_map.2 ⟨z,List.mem_cons_self,rfl⟩) rfl
    have:z.1∈(leftOf es seen):=by
     unfold leftOf
     rw[Array.mem_filter]
     exact⟨by simpa using hze,by simpa using hns⟩
    have:=Array.size_pos_of_mem this
    omega
  subst hrz
  rw[List.append_nil]at hperm
  rw[hpre,z2]
  exact hperm.map _
 ·right
  have he2:e∈es.toList∧¬e.born∈seen.toList:=by
   unfold leftOf at he
   simp only[Array.toList_filter,List.mem_filter]at he
   exact⟨he.1,by simpa using he.2⟩
  have hz:∃z∈zs,z.1=e:=by
   rw[z1]at he2
   obtain⟨z,hz,e1⟩:=List.mem_map.1 he2.1
   exact⟨z,hz,e1⟩
  obtain⟨z,hz,rfl⟩:=hz
  have hzr:z∈rz:=by
   rcases List.mem_append.1 (hperm.mem_iff.2 hz)with h|h
   ·exfalso;rw[hseen]at he2;exact he2.2 (List.mem_map.2 ⟨z,h,rfl⟩)
   ·exact h
  obtain⟨A,B,rfl⟩:=List.append_of_mem hzr
  have hperm2:(dz++[z]++(A++B)).Perm zs:=by
   refine List.Perm.trans ?_ hperm
   rw[List.append_assoc]
   refine List.Perm.append_left dz ?_
   exact(List.perm_middle (a:=z) (l₁:=A) (l₂:=B)).symm
  refine⟨z.2,setBlock w1 r (.mapIter (some b) c (seen.push z.1.born) c),?_,⟨(A++B).map (·.2),?_⟩,?_⟩
  ·rw[hrun,(z3 z hz).1,(z3 z hz).2]
  ·rw[hpre,z2]
   have:=hperm2.map (·.2)
   simpa using this
  ·have hw1':St β L w1:=by rcases hw1 with rfl|rfl;exact hw;exact hw.drew
   have hr1:w1.heap[r]? =some (.mapIter (some b) c seen c):=by rcases hw1 with rfl|rfl<;>exact hr
   have hrl:r<w1.heap.size:=(Array.getElem?_eq_some_iff.1 hr1).1
   refine St.back i hi ((hw1'.front i hi).turn rfl rfl rfl fun a ha hra=> ?_)
   obtain⟨es',c',seen',_,_,_,k1,k2,_⟩:=hra
   refine⟨fun k=>if k=r then some (.mapIter (some b) c (seen.push z.1.born) c)else a k,?_,?_,?_⟩
   ·exact⟨es,c,seen.push z.1.born,zs,dz++[z],A++B,hbβ,by simp,hbr,hc,z1,z2,z3,hperm2,by simp[hseen],by simp[hpre]⟩
   ·intro k o hk
    show(setBlock w1 r _).heap[k]? =some o
    unfold setBlock
    by_cases e:k=r
    ·subst e;simp at hk;subst hk;simp[hrl]
    ·simp[e]at hk
     have:=ha _ _ hk
     have h9:w1.heap[k]? =some o:=this
     simp[Ne.symm e,h9]
   ·intro k hk hak
    have hne:k≠r:=by rintro rfl;rw[k2]at hak;cases hak
    refine⟨by simp[hne,hak],?_⟩
    show(setBlock w1 r _).heap[k]? =_
    unfold setBlock
    simp[Ne.symm hne]
theorem m_nextB{x:Operand}{b r:Nat}{ks pre:List (κ×ν)}(i:Nat)(hx:ev f x= .pointer (some ⟨r,0,none⟩))(hi:L[i]? =some (itR K β b r ks pre)):
  MV P β L f ⟨d,.next x false,ty,ps,af,g⟩ (fun v L'=>(v= .tuple #[.bool false]∧pre.Perm ks∧L'=L)∨(∃x:κ×ν,v= .tuple #[.bool true,K.enc x.1,K.encv x.2]∧(∃rs,(pre++[x]++rs).Perm ks)∧L'=L.set i (itR K β b r ks (pre++[x])))):=fun w hw=>by
 rcases it_next i hw hi ty with⟨hp,hrun⟩|⟨x,w',hrun,hp,hw'⟩
 ·exact⟨_,w,L,by simp[execOp,hx,hrun],hw,.inl ⟨rfl,hp,rfl⟩⟩
 ·exact⟨_,w',_,by simp[execOp,hx,hrun],hw',.inr ⟨x,rfl,hp,rfl⟩⟩
theorem e_entryB{x:Operand}{b r:Nat}{ks pre:List (κ×ν)}{y:κ×ν}(i:Nat)(hx:ev f x= .pointer (some ⟨r,0,none⟩))(hi:L[i]? =some (itR K β b r ks (pre++[y]))):
  EV P β L f ⟨d,.entry x,ty,ps,af,g⟩ (.tuple #[K.enc y.1,K.encv y.2]):=fun w hw=>by
 obtain⟨es,c,seen,zs,dz,rz,hbβ,hr,hbr,hc,z1,z2,z3,hperm,hseen,hpre⟩:=hw.knows (Knows.of_res i hi (itR.mono β b r ks (pre++[y])) fun _ h=>h)
 have hb:w.heap[b]? =some (.map es c):=in_base hw hbβ
 have hr:w.heap[r]? =some (.mapIter (some b) c seen c):=hr
 have hne:dz≠[]:=by rintro rfl;simp at hpre
 obtain⟨dz',z,rfl⟩:∃dz' z,dz=dz'++[z]:=⟨dz.dropLast,dz.getLast hne,(List.dropLast_concat_getLast hne).symm⟩
 rw[List.map_append]at hpre hseen
 have hy:y=z.2:=by
  have:=congrArg List.getLast? hpre
  simpa using this
 have hz:z∈zs:=hperm.mem_iff.1 (by simp)
 have hs:seen=(dz'.map (·.1.born)).toArray.push z.1.born:=by
  apply Array.toList_inj.1
  simp[hseen]
 subst hs
 have hze:z.1∈es.toList:=by rw[z1];exact List.mem_map.2 ⟨z,hz,rfl⟩
 have hrun:=run_entry_at (P:=P) w r b c (dz'.map (·.1.born)).toArray es c z.1 hr hb hze hc.births
 rw[hy]
 simp[execOp,hx,hrun,(z3 z hz).1,(z3 z hz).2]
end
end Go.Sl
namespace Go.Sl
open Go.RowKit
section
variable {P:Program}{ro:Option Nat}{n:Nat}{ds:List Deferred}{β:Base}{Q:Exit→Act→World→Prop}{f:Fm}{L:List Res}{ops:Array Oper}{rest:List Oper}
variable {d:Option Tmp}{ty:TypeId}{ps:String}{af:Array Edge}{g:Option (Nat×Bool)}
def sla:Value→Option Addr| .slice a _ _=>a|_=>none
def slc:Value→Nat| .slice _ _ c=>c|_=>0
theorem l_re{L':List Res}(hL:L=L')(k:RunL P ro n ds β ops Q rest f L'):RunL P ro n ds β ops Q rest f L:=by subst hL;exact k
theorem c_re{c:Code}{L':List Res}(hL:L=L')(k:RunC P ro n ds β c Q f L'):RunC P ro n ds β c Q f L:=by subst hL;exact k
theorem l_perm{L':List Res}(hp:L.Perm L')(k:RunL P ro n ds β ops Q rest f L'):RunL P ro n ds β ops Q rest f L:=fun a w ha hw=>k a w ha (hw.perm hp)
theorem map_at{α:Type}{enc:α→Value}{xs:List α}{k:Nat}{x:α}(h:xs[k]? =some x):((xs.map enc).drop (k*1)).take [enc x].length=[enc x]:=by
 have hlt:=(List.getElem?_eq_some_iff.1 h).1
 have hx:=(List.getElem?_eq_some_iff.1 h).2
 rw[Nat.mul_one,List.drop_eq_getElem_cons (by simpa using hlt)]
 simp[hx]
abbrev encR{α:Type}(enc:α→Value):Rp α:=Rp.flat 1 (fun x=>[enc x]) (fun _=>rfl)
theorem k_ptE{α:Type}{enc:α→Value}{b T:Nat}{fr:Nat×Nat}{xs:List α}(i:Nat)(hi:L[i]? =some (pt b (.cells (xs.map enc).toArray T fr))):Knows β L (fun h=>Elems (encR enc) h (some ⟨b,0,none⟩) xs):=
 Knows.of_res i hi (Elems.mono _ _ _) fun a h j x hx=>by
  refine⟨rfl,[enc x],?_,rfl⟩
  have e:(ba (some ⟨b,0,none⟩)).add (j*(encR enc).n)=⟨b,j,none⟩:=by
   show(⟨b,0,none⟩:Addr).add (j*1)=_
   rw[Nat.mul_one]
   unfold Addr.add;split<;>simp_all
  rw[e]
  refine Cs.of_pt h ?_
  have:=map_at (enc:=enc) hx
  rw[Nat.mul_one]at this
  simpa using this
theorem all_one{α:Type}{enc:α→Value}(h1:∀x,(enc x).oneCell'=true)(xs:List α):(xs.map enc).all (·.oneCell')=true:=by
 induction xs with
 |nil=>rfl
 |cons a l ih=>simp only[List.map_cons,List.all_cons,Bool.and_eq_true];exact⟨h1 a,ih⟩
theorem m_appendE{α:Type}{enc:α→Value}{x y:Operand}{t e bytes m k c:Nat}{v:Value}{xs ys:List α}{ao:Option Addr}(i:Nat)(h1:∀x,(enc x).oneCell'=true)(hsl:slB P t e 1=true)(hel:elB P e 1 bytes=true)(hx:ev f x=v)(hi:L[i]? =some (row v e 1 m (xs.map enc)))
 (hm:xs.length=m)(hy:ev f y= .slice ao k c)(hl:ys.length=k)(hk:Knows β L (fun h=>Elems (encR enc) h ao ys))(hby:(m+k)*bytes≤140737488355328)(h63:m+k≤140737488355328):
  MV P β L f ⟨d,.call ⟨.builtin .append,#[x,y],#[t,t]⟩,ty,ps,af,g⟩ (fun v' L'=>∃p c,v'= .slice p (xs++ys).length c∧L'=L.set i (row (.slice p (xs++ys).length c) e 1 (xs++ys).length ((xs++ys).map enc))):=fun w hw=>by
 have hkk:=hw.knows hk
 have hcs:Knows β L (fun h=>Cs h (ba ao) (ys.map enc)):=fun h hb hr=>elems_cells (hk h hb hr)
 obtain⟨v',w',L',g1,g2,p,c',rfl,rfl⟩:=m_append_w (P:=P) (ty:=ty) (ps:=ps) (af:=af) (g:=g) (d:=d) i hsl hel hx hi hy (by simp[hl]) hcs (all_one h1 ys) (fun h=>elems_some hkk (by omega)) (by unfold maxLen;omega) hby w hw
 have e1:(xs++ys).length=m+k:=by simp[hm,hl]
 rw[e1]
 exact⟨_,w',_,g1,g2,p,c',rfl,by rw[List.map_append]⟩
theorem bx_cell(x:UInt8):(Bx x).oneCell'=true:=rfl
def ifcB(P:Program)(t:TypeId):Bool:=match P.underlying t with|some (.interface _)=>false|some _=>true|none=>false
theorem e_iface{t:TypeId}{x:Operand}{v:Value}(ht:ifcB P t=true)(hx:ev f x=v):EV P β L f ⟨d,.makeInterface t x,ty,ps,af,g⟩ (.iface t v):=fun w _=>by
 unfold ifcB at ht
 cases hu:P.underlying t with
 |none=>rw[hu]at ht;cases ht
 |some dd=>
  rw[hu]at ht
  cases dd<;>simp_all [execOp,Instr.makeInterface,run_underlying hu]
theorem e_bytesStr{x:Operand}{t1 t2 e m c:Nat}{a:Option Addr}{bs:Bs}(hx:ev f x= .slice a m c)(hl:bs.length=m)(h1:P.underlying t1=some (.slice e))(he:P.underlying e=some (.int .u8))(h2:P.underlying t2=some .string)
 (hk:Knows β L (fun h=>Elems U8R h a bs)):EV P β L f ⟨d,.convert t1 t2 x,ty,ps,af,g⟩ (.string (str bs)):=fun w hw=>by
 subst hl
 have hkk:=hw.knows hk
 cases a with
 |none=>
  have hz:bs=[]:=by
   cases bs with
   |nil=>rfl
   |cons b l=>have:=elems_some hkk (by simp);cases this
  subst hz
  simp[execOp,hx,convert,run_underlying h1,run_underlying h2,run_underlying he]
  rfl
 |some ad=>
  have hc:Cs (ph w) ad (BX bs):=elems_cs hkk
  have hr:=run_convert_bytes_back (P:=P) w t1 t2 e ad c bs h1 he h2 fun j hj=>hc j _ (by simp[hj])
  simp[execOp,hx,hr]
theorem repL_bx:∀c,repL [Value.int .u8 0] c=BX (List.replicate c 0)
 |0=>rfl
 |c+1=>by unfold repL;rw[repL_bx c];rfl
theorem m_makeB{x y:Operand}{t e c:Nat}(hsl:slB P t e 1=true)(hel:elB P e 1 1=true)(hz:(P.info? e).bind (·.zero)=some (.int .u8 0))(hx:ev f x= .int .i64 (c:Int))(hy:ev f y= .int .i64 (c:Int))(h0:0<c)(hc:c≤140737488355328):
  MV P β L f ⟨d,.makeSlice t x y,ty,ps,af,g⟩ (fun u L'=>∃b,u= .slice (some ⟨b,0,none⟩) (List.replicate c (0:UInt8)).length c∧L'=row (.slice (some ⟨b,0,none⟩) (List.replicate c (0:UInt8)).length c) e 1 (List.replicate c (0:UInt8)).length (BX (List.replicate c 0))::L):=fun w hw=>by
 obtain⟨v,w',L',h1,h2,b,rfl,rfl⟩:=m_makeN (P:=P) (ty:=ty) (ps:=ps) (af:=af) (g:=g) (d:=d) hsl hel hz rfl hx hy (by omega) (by unfold maxLen;omega) (by omega) w hw
 have e1:(List.replicate c (0:UInt8)).length=c:=by simp
 rw[e1]
 have e2:repL (Value.int .u8 0).cells.toList c=BX (List.replicate c 0):=repL_bx c
 rw[e2]at h2
 exact⟨_,w',_,h1,h2,b,rfl,rfl⟩
end
end Go.Sl
namespace Go.Sl
theorem cut0{i:Nat}{s:List Nat}{f:Fm}:cut (i::s) f i=f i:=by simp[cut,mem]
theorem cut1{i a:Nat}{s:List Nat}{f:Fm}:cut (a::i::s) f i=f i:=by simp[cut,mem]
theorem cut2{i a b:Nat}{s:List Nat}{f:Fm}:cut (a::b::i::s) f i=f i:=by simp[cut,mem]
theorem cut3{i a b c:Nat}{s:List Nat}{f:Fm}:cut (a::b::c::i::s) f i=f i:=by simp[cut,mem]
theorem lt0:lastT []=[]:=rfl
theorem lt1{p:Option Nat}{b s:List Nat}{r:Fm→Res}{l:List Tok}:lastT (⟨p,none,b,s,r⟩::l)=⟨p,none,b,s,r⟩::lastT l:=rfl
theorem lt2{p:Option Nat}{c:Nat}{b s:List Nat}{r:Fm→Res}{l:List Tok}:lastT (⟨p,some c,b,s,r⟩::l)=lastT l:=rfl
theorem rs0{f:Fm}:rs [] f=[]:=rfl
theorem rs1{p c:Option Nat}{b s:List Nat}{r:Fm→Res}{l:List Tok}{f:Fm}:rs (⟨p,c,b,s,r⟩::l) f=r (cut s f)::rs l f:=rfl
theorem mm0{i:Nat}:mem i []=false:=rfl
theorem mm1{i:Nat}{l:List Nat}:mem i (i::l)=true:=by simp[mem]
theorem mm2{i a:Nat}{l:List Nat}(h:i≠a):mem i (a::l)=mem i l:=by simp[mem,h]
theorem us0{i:Nat}:usesT [] i=[]:=rfl
theorem us1{i:Nat}{p c:Option Nat}{b s:List Nat}{r:Fm→Res}{l:List Tok}(h:mem i b=true):usesT (⟨p,c,b,s,r⟩::l) i=⟨p,c,b,s,r⟩::usesT l i:=by unfold usesT;rw[List.filter_cons,if_pos h]
theorem us2{i:Nat}{p c:Option Nat}{b s:List Nat}{r:Fm→Res}{l:List Tok}(h:mem i b=false):usesT (⟨p,c,b,s,r⟩::l) i=usesT l i:=by unfold usesT;rw[List.filter_cons,if_neg (by simp[h])]
abbrev u0:Option Nat×List Nat:=(none,[])
abbrev u1(b:List Nat):Option Nat×List Nat:=(none,b)
def tkz:List Res→List (Option Nat×List Nat)→List Tok
 |[],_=>[]
 |r::l,[]=>⟨none,none,[],[],fun _=>r⟩::tkz l []
 |r::l,(c,b)::u=>⟨none,c,b,[],fun _=>r⟩::tkz l u
theorem tz0{u:List (Option Nat×List Nat)}:tkz [] u=[]:=by unfold tkz;rfl
theorem tz1{r:Res}{l:List Res}:tkz (r::l) []=⟨none,none,[],[],fun _=>r⟩::tkz l []:=rfl
theorem tz2{r:Res}{l:List Res}{c:Option Nat}{b:List Nat}{u:List (Option Nat×List Nat)}:tkz (r::l) ((c,b)::u)=⟨none,c,b,[],fun _=>r⟩::tkz l u:=rfl
theorem tz_rs(f:Fm):∀(L:List Res) (u:List (Option Nat×List Nat)),rs (firstT (tkz L u)) f=L
 |[],u=>by rw[tz0];rfl
 |r::l,[]=>congrArg (r:: ·) (tz_rs f l [])
 |r::l,(c,b)::u=>congrArg (r:: ·) (tz_rs f l u)
theorem tz_new{new:List Tok}(h:new.all (fun t=>t.prod.isSome)=true)(L:List Res)(u:List (Option Nat×List Nat))(f:Fm):L=rs (firstT (tkz L u++new)) f++[]:=by
 have h2:firstT new=[]:=by
  unfold firstT
  rw[List.filter_eq_nil_iff]
  intro t ht
  have:=List.all_eq_true.1 h t ht
  cases hp:t.prod with
  |none=>rw[hp]at this;cases this
  |some _=>simp
 rw[List.append_nil]
 unfold firstT at h2⊢
 rw[List.filter_append,h2,List.append_nil]
 exact(tz_rs f L u).symm
section
variable {P:Program}{ro:Option Nat}{n:Nat}{ds:List Deferred}{β:Base}{Q:Exit→Act→World→Prop}{f g:Fm}{L L':List Res}{ops:Array Oper}{rest:List Oper}
theorem fre{e:Exit}(k:Fin n ds β Q e f L')(hL:L=L':=by first|(simp only[lt0,lt1,lt2,rs0,rs1,cut0,cut1,cut2,cut3,List.cons_append,List.nil_append,List.append_nil]<;>rfl)|rfl):Fin n ds β Q e f L:=f_re hL k
theorem lre(k:RunL P ro n ds β ops Q rest f L')(hL:L=L':=by first|(simp only[lt0,lt1,lt2,rs0,rs1,cut0,cut1,cut2,cut3,List.cons_append,List.nil_append,List.append_nil]<;>rfl)|rfl):RunL P ro n ds β ops Q rest f L:=l_re hL k
theorem fpn{e:Exit}(ix:List Nat)(m:Nat)(k:Fin n ds β Q e f L')(hL:ix.filterMap (L[·]?)=L':=by simp only[List.set_cons_zero,List.set_cons_succ,List.filterMap_cons,List.filterMap_nil,List.getElem?_cons_zero,List.getElem?_cons_succ]<;>rfl)(hm:L.length=m:=by rfl)(h:(List.range m).isPerm ix=true:=by kernel_rfl):Fin n ds β Q e f L:=f_perm (perm_ix ix m hm h hL) k
theorem obS(e:g=f)(k:RunL P ro n ds β ops Q rest g L')(hL:L=L':=by first|(simp only[us0,us1,us2,mm0,mm1,mm2,ne_eq,Nat.reduceAdd,Nat.reduceEqDiff,not_false_eq_true,rs0,rs1,cut0,cut1,cut2,cut3,List.cons_append,List.nil_append]<;>rfl)|rfl):RunL P ro n ds β ops Q rest f L:=ob_start hL e k
theorem cnz{id:Nat}{ops:List Oper}{toks:List Tok}(sps:List Sp)(us:List (Option Nat×List Nat))(new:List Tok)(ini:List (Nat×Value))(fin:List Nat)(hi:IniAt f ini)(ho:Obs P ro n ds β ops sps toks ini ops 0)
 (hQ:∀f',KEv sps f' sps→IAll ini fin f'→Fin n ds β Q .normal f' (rs (lastT toks) f'++[]))(hL:L=L':=by first|(simp only[List.set_cons_zero,List.set_cons_succ]<;>rfl)|rfl)
 (hT:tkz L' us++new=toks:=by simp only[tz0,tz1,tz2,List.cons_append,List.nil_append,List.append_nil]<;>rfl)(hm:P.follows .mixedOrders=true:=by kernel_rfl)
 (h1:chkOps ops sps ini=true:=by kernel_rfl)(h2:toks.all (chkTok ops sps)=true:=by kernel_rfl)(hf:fin.all (finOk ops ini)=true:=by kernel_rfl)(hn:new.all (fun t=>t.prod.isSome)=true:=by kernel_rfl):
  RunC P ro n ds β (.region id ops.toArray true) Q f L:=by
 subst hL;subst hT
 exact c_any sps _ ini fin [] hm h1 h2 hf (tz_new hn _ _ _) hi ho hQ
end
end Go.Sl
namespace Go.Sl
def Has(r:Res)(h:PHeap):Prop:=∃a,Sub a h∧r a
theorem Has.mono(r:Res):Mono (Has r):=fun _ _ hs ⟨a,h,k⟩=>⟨a,h.trans hs,k⟩
theorem Has.of{r:Res}{a:PHeap}(h:r a):Has r a:=⟨a,Sub.refl _,h⟩
section
variable {α:Type}{F:Fl α}{T c:Nat}{p:Option Addr}{xs:List α}
theorem Has.sl{h:PHeap}(hh:Has (rowF F T p c xs) h):Sl F.R h (.slice p xs.length c) xs:=let⟨_,hs,hr⟩:=hh;Sl.mono _ _ _ _ _ hs (rowF_sl hr)
variable {P:Program}{β:Base}{f:Fm}{L:List Res}{d:Option Tmp}{ty:TypeId}{ps:String}{af:Array Edge}{g:Option (Nat×Bool)}
theorem k_has{r:Res}(i:Nat)(hi:L[i]? =some r):Knows β L (Has r):=Knows.of_res i hi (Has.mono r) fun _ h=>Has.of h
theorem m_sameFl{x y:Operand}{t k o:Nat}{agg:Bool}{z:α}{v:Value}(ht:tyB P t agg 1=true)(hx:ev f x= .pointer (some (((ba p).add (k*F.n)).add o)))(hy:ev f y=v)(hvc:v.cells.toList=[v])
 (hk:Knows β L (Has (rowF F T p c xs)))(hz:xs[k]? =some z)(hv:(F.enc z)[o]? =some v)(h1:v.oneCell'=true):MU P β L f ⟨d,.store t x y,ty,ps,af,g⟩ L:=fun w hw=>by
 obtain⟨a,ha,hr⟩:=hw.knows hk
 have hkl:=(List.getElem?_eq_some_iff.1 hz).1
 have hol:=(List.getElem?_eq_some_iff.1 hv).1
 rw[F.len]at hol
 obtain⟨b,cur,rfl,hb,h2,h3,h4,h5,h6⟩:=row_open hr (by omega)
 have hbw:w.heap[b]? =some (.cells cur T (0,0)):=ha _ _ hb
 have hs:=(tyF ht).size w
 have hle:(k+1)*F.n≤xs.length*F.n:=Nat.mul_le_mul_right F.n hkl
 rw[Nat.add_mul]at hle
 have hmc:xs.length*F.n≤c*F.n:=Nat.mul_le_mul_right _ h2
 have hst:=run_storeCells_at P b (k*F.n+o) T v.cells.toList 0 cur w hbw (by rw[hvc];simp;omega) (by rw[hvc];intro u hu;rw[List.mem_singleton.1 hu];exact h1)
 simp only[Nat.add_zero]at hst
 have hadd:((ba (some (⟨b,0,none⟩:Addr))).add (k*F.n)).add o=⟨b,k*F.n+o,none⟩:=by rw[Addr.add_add'];unfold ba Addr.add;split<;>simp_all
 rw[hadd]at hx
 have hcv:cur.toList[k*F.n+o]? =some v:=by
  have e1:=fl_at (F:=F) hz
  rw[F.len]at e1
  have e2:((xs.flatMap F.enc).drop (k*F.n))[o]? =some v:=by rw[←hv,←e1,List.getElem?_take_of_lt (by omega)]
  rw[List.getElem?_drop]at e2
  have e3:=(List.getElem?_eq_some_iff.1 e2).1
  rw[←h5,List.getElem?_take_of_lt (by rw[fl_len]at e3;omega)]at e2
  exact e2
 have hcur:cur.toList.take (k*F.n+o)++v.cells.toList++cur.toList.drop (k*F.n+o+v.cells.toList.length)=cur.toList:=by
  obtain⟨hl,he⟩:=List.getElem?_eq_some_iff.1 hcv
  rw[hvc,List.length_singleton,List.append_assoc,←he,List.singleton_append,List.getElem_cons_drop,List.take_append_drop]
 have hcn:v.cells.size=1:=by rw[←Array.length_toList,hvc];rfl
 refine⟨w,?_,hw⟩
 rw[hcur,Array.toArray_toList,setRow_self w b cur T (0,0) hbw]at hst
 simp only[execOp,hx,hy,Instr.storeAt,Instr.sureAddr,Sem.run_bind,Sem.run_pure,Result.andThen_ok,storeVar,hs,hcn,ne_eq,not_true_eq_false,if_false,hst]
end
end Go.Sl
namespace Go.Sl
structure Plc(q:Addr)(R:Int→Option Addr→Nat→Nat→Res):Prop where
 mono:∀id p n c,Mono (R id p n c)
 know:∀id p n c h,R id p n c h→Cs h q [Ix id,.slice p n c]
 st0:∀{P:Program} {β:Base} {L:List Res} {f:Fm} {d:Option Tmp} {ty:TypeId} {ps:String} {af:Array Edge} {g:Option (Nat×Bool)} {t:Nat} {x y:Operand} {id:Int} {p:Option Addr} {n c:Nat} {m:Int} (i:Nat),tyB P t false 1=true→ev f x= .pointer (some (q.add 0))→ev f y=Ix m→L[i]? =some (R id p n c)→
  MU P β L f ⟨d,.store t x y,ty,ps,af,g⟩ (L.set i (R m p n c))
 st1:∀{P:Program} {β:Base} {L:List Res} {f:Fm} {d:Option Tmp} {ty:TypeId} {ps:String} {af:Array Edge} {g:Option (Nat×Bool)} {t:Nat} {x y:Operand} {id:Int} {p p':Option Addr} {n c n' c':Nat} (i:Nat),tyB P t false 1=true→ev f x= .pointer (some (q.add 1))→ev f y= .slice p' n' c'→L[i]? =some (R id p n c)→
  MU P β L f ⟨d,.store t x y,ty,ps,af,g⟩ (L.set i (R id p' n' c'))
theorem addr0(b o k:Nat):(⟨b,o,none⟩:Addr).add k=⟨b,o+k,none⟩:=by unfold Addr.add;split<;>simp_all
theorem plc_pt(b T:Nat):Plc ⟨b,0,none⟩ fun id p n c=>pt b (.cells #[Ix id,.slice p n c] T) where
 mono:=fun _ _ _ _ _ _ s hb=>s _ _ hb
 know:=fun id p n c h hb=>Cs.of_pt (cs:= #[Ix id,.slice p n c]) (T:=T) hb rfl
 st0:=fun{P β L f d ty ps af g t x y id p n c m} i ht hx hy hi=>m_store (cs:= #[Ix id,.slice p n c]) (cs':= #[Ix m,.slice p n c]) (o:=0) i ht (by rw[hx,addr0]) hi hy rfl rfl rfl rfl
 st1:=fun{P β L f d ty ps af g t x y id p p' n c n' c'} i ht hx hy hi=>m_store (cs:= #[Ix id,.slice p n c]) (cs':= #[Ix id,.slice p' n' c']) (o:=1) i ht (by rw[hx,addr0]) hi hy rfl rfl rfl rfl
theorem row_mono(v:Value)(T n m:Nat)(vs:List Value):Mono (row v T n m vs):=fun h h' s hr=>by
 obtain⟨hl,e|⟨g,cap,cur,e,hg,h1,h2,h3,h4⟩⟩:=hr
 ·exact⟨hl,.inl e⟩
 ·exact⟨hl,.inr ⟨g,cap,cur,e,s _ _ hg,h1,h2,h3,h4⟩⟩
theorem plc_fl{α:Type}{F:Fl α}{T C:Nat}{P0:Option Addr}{xs:List α}{k o:Nat}{u:Int→Option Addr→Nat→Nat→α}(hk:k<xs.length)(ho:o+2≤F.n)(hu:∀id p n c,((F.enc (u id p n c)).drop o).take 2=[Ix id,.slice p n c])
 (h0:∀id p n c m,overL (F.enc (u id p n c)) o [Ix m]=F.enc (u m p n c))(h1:∀id p n c p' n' c',overL (F.enc (u id p n c)) (o+1) [.slice p' n' c']=F.enc (u id p' n' c')):Plc ((ba P0).add (k*F.n+o)) fun id p n c=>rowF F T P0 C (xs.set k (u id p n c)) where
 mono:=fun _ _ _ _=>row_mono _ _ _ _ _
 know:=fun id p n c h hr=>by
  have hx:(xs.set k (u id p n c))[k]? =some (u id p n c):=List.getElem?_set_self hk
  obtain⟨a,c',e,-,-,he⟩:=(rowF_sl hr).get
  injection e with e1 e2 e3
  subst e1
  have hc:=Cs.sub (k*F.n) (elems_fl he) (fl_at hx)
  have h2:=Cs.sub o hc (vs:=[Ix id,.slice p n c]) (hu id p n c)
  rwa [Addr.add_add']at h2
 st0:=fun{P β L f d ty ps af g t x y id p n c m} i ht hx hy hi=>by
  have:=m_storeFlPart (β:=β) (F:=F) (k:=k) (o:=o) (z0:=u id p n c) (z:=u m p n c) (v:=Ix m) (d:=d) (ty:=ty) (ps:=ps) (af:=af) (g:=g) i ht (by rw[hx,Addr.add_add',Nat.add_zero]) hy rfl rfl hi (by rw[List.getElem?_set_self hk]) (by omega) (h0 ..)
  rwa [List.set_set]at this
 st1:=fun{P β L f d ty ps af g t x y id p p' n c n' c'} i ht hx hy hi=>by
  have:=m_storeFlPart (β:=β) (F:=F) (k:=k) (o:=o+1) (z0:=u id p n c) (z:=u id p' n' c') (v:= .slice p' n' c') (d:=d) (ty:=ty) (ps:=ps) (af:=af) (g:=g) i ht (by rw[hx,Addr.add_add',Nat.add_assoc]) hy rfl rfl hi (by rw[List.getElem?_set_self hk]) (by omega) (h1 ..)
  rwa [List.set_set]at this
structure Cel(q:Addr)(R:Int→Res):Prop where
 st:∀{P:Program} {β:Base} {L:List Res} {f:Fm} {d:Option Tmp} {ty:TypeId} {ps:String} {af:Array Edge} {g:Option (Nat×Bool)} {t:Nat} {x y:Operand} {v m:Int} (i:Nat),tyB P t false 1=true→ev f x= .pointer (some q)→ev f y=Ix m→L[i]? =some (R v)→MU P β L f ⟨d,.store t x y,ty,ps,af,g⟩ (L.set i (R m))
theorem cel_fl{α:Type}{F:Fl α}{T C:Nat}{P0:Option Addr}{xs:List α}{k o:Nat}{u:Int→α}(hk:k<xs.length)(ho:o+1≤F.n)(h0:∀v m,overL (F.enc (u v)) o [Ix m]=F.enc (u m)):Cel ((ba P0).add (k*F.n+o)) fun v=>rowF F T P0 C (xs.set k (u v)) where
 st:=fun{P β L f d ty ps af g t x y v m} i ht hx hy hi=>by
  have:=m_storeFlPart (β:=β) (F:=F) (k:=k) (o:=o) (z0:=u v) (z:=u m) (v:=Ix m) (d:=d) (ty:=ty) (ps:=ps) (af:=af) (g:=g) i ht hx hy rfl rfl hi (by rw[List.getElem?_set_self hk]) (by omega) (h0 ..)
  rwa [List.set_set]at this
theorem cel_pt{b T o k:Nat}{cs:Int→Array Value}(hs:∀v,o+k+1≤(cs v).size)(hc:∀v m,over (cs v) (o+k) [Ix m]=cs m):Cel ((⟨b,o,none⟩:Addr).add (k*1)) fun v=>pt b (.cells (cs v) T) where
 st:=fun{P β L f d ty ps af g t x y v m} i ht hx hy hi=>m_store (o:=o+k) i ht (by rw[hx,addr0,Nat.mul_one]) hi hy rfl (by rw[Nat.ble_eq];exact hs v) rfl (hc v m)
end Go.Sl
namespace Go.Sl
def FnV(P:Program){α:Type}(β:Base)(fn:Value)(enc:α→List Value)(S:α→Prop)(res:α→Value):Prop:=
 ∃g fst cap,fn= .func (.func g) fst.toArray cap.toArray∧cfB P g=true∧∀β₁,Sub β.heap β₁.heap→∀x,S x→∀w,St β₁ [] w→Calls P g (fst++enc x++cap).toArray w fun r w'=>r= .returned (res x)∧St β₁ [] w'
theorem FnV.mono{P:Program}{α:Type}{β β':Base}{fn:Value}{enc:α→List Value}{S:α→Prop}{res:α→Value}(h:FnV P β fn enc S res)(hs:Sub β.heap β'.heap):FnV P β' fn enc S res:=by
 obtain⟨g,fst,cap,e,hc,hk⟩:=h
 exact⟨g,fst,cap,e,hc,fun β₁ h1=>hk β₁ (hs.trans h1)⟩
theorem fnv_all{P:Program}{α:Type}{β:Base}{fn:Value}{enc:α→List Value}{S:α→Prop}{res:α→Value}(h:FnV P β fn enc (fun _=>True) res):FnV P β fn enc S res:=by
 obtain⟨g,fst,cap,e,hc,hk⟩:=h
 exact⟨g,fst,cap,e,hc,fun β₁ h1 x _=>hk β₁ h1 x trivial⟩
def idxI{α:Type}(p:α→Bool)(xs:List α):Int:=match xs.findIdx? p with|some i=>(i:Int)|none=> -1
theorem idx_found{α:Type}{p:α→Bool}{xs:List α}{k:Nat}{x:α}(hx:xs[k]? =some x)(hp:p x=true)(hno:∀y∈xs.take k,p y=false):idxI p xs=k:=by
 have:xs.findIdx? p=some k:=by
  rw[List.findIdx?_eq_some_iff_getElem]
  obtain⟨h,e⟩:=List.getElem?_eq_some_iff.1 hx
  refine⟨h,by rw[e];exact hp,fun j hj=> ?_⟩
  have hj':j<xs.length:=by omega
  have:=hno xs[j] (by rw[List.mem_take_iff_getElem];exact⟨j,by omega,rfl⟩)
  simpa using this
 unfold idxI;rw[this]
theorem idx_none{α:Type}{p:α→Bool}{xs:List α}{k:Nat}(hk:xs.length≤k)(hno:∀y∈xs.take k,p y=false):idxI p xs= -1:=by
 rw[List.take_of_length_le hk]at hno
 have:xs.findIdx? p=none:=List.findIdx?_eq_none_iff.2 hno
 unfold idxI;rw[this]
theorem idx_next{α:Type}{p:α→Bool}{xs:List α}{k:Nat}{x:α}(hx:xs[k]? =some x)(hp:p x=false)(hno:∀y∈xs.take k,p y=false):∀y∈xs.take (k+1),p y=false:=by
 rw[List.take_add_one,hx]
 intro z hz
 rcases List.mem_append.1 hz with hz|hz
 ·exact hno z hz
 ·simp at hz;rw[hz];exact hp
theorem idx_any{α:Type}(p:α→Bool)(xs:List α):decide ((0:Int)≤idxI p xs)=xs.any p:=by
 unfold idxI
 cases h:xs.findIdx? p with
 |none=>
  have:=List.findIdx?_eq_none_iff.1 h
  have e:xs.any p=false:=List.any_eq_false.2 fun x hx=>by simp[this x hx]
  rw[e];rfl
 |some i=>
  obtain⟨hi,hp,_⟩:=List.findIdx?_eq_some_iff_getElem.1 h
  have e:xs.any p=true:=List.any_eq_true.2 ⟨_,List.getElem_mem hi,hp⟩
  rw[e];exact decide_eq_true (Int.natCast_nonneg i)
def orI(xs:List Int):Int:=(xs.find? (fun x=>decide (x≠0))).getD 0
theorem orI_found{xs:List Int}{k:Nat}{x:Int}(hx:xs[k]? =some x)(hp:x≠0)(hno:∀y∈xs.take k,y=0):orI xs=x:=by
 obtain⟨h,e⟩:=List.getElem?_eq_some_iff.1 hx
 have hs:xs=xs.take k++x::xs.drop (k+1):=by rw[←e,List.getElem_cons_drop,List.take_append_drop]
 unfold orI
 rw[hs,List.find?_append,List.find?_eq_none.2 (fun y hy=>by simp[hno y hy])]
 simp[hp]
theorem orI_none{xs:List Int}{k:Nat}(hk:xs.length≤k)(hno:∀y∈xs.take k,y=0):orI xs=0:=by
 rw[List.take_of_length_le hk]at hno
 unfold orI
 rw[List.find?_eq_none.2 (fun y hy=>by simp[hno y hy])];rfl
theorem orI_next{xs:List Int}{k:Nat}{x:Int}(hx:xs[k]? =some x)(hp:x=0)(hno:∀y∈xs.take k,y=0):∀y∈xs.take (k+1),y=0:=by
 rw[List.take_add_one,hx]
 intro z hz
 rcases List.mem_append.1 hz with hz|hz
 ·exact hno z hz
 ·simp at hz;rw[hz];exact hp
structure DelInv{α:Type}(p:α→Bool)(xs ws:List α)(i j:Nat):Prop where
 len:ws.length=xs.length
 le:i≤j
 lj:j≤xs.length
 kept:ws.take i=(xs.take j).filter fun x=> !p x
 rest:ws.drop j=xs.drop j
theorem DelInv.start{α:Type}{p:α→Bool}{xs:List α}{k:Nat}(h:idxI p xs=k):DelInv p xs xs k (k+1):=by
 unfold idxI at h
 cases hf:xs.findIdx? p with
 |none=>rw[hf]at h;simp at h
 |some i=>
  rw[hf]at h
  have hik:i=k:=by simp at h;omega
  subst hik
  obtain⟨hi,hp,hno⟩:=List.findIdx?_eq_some_iff_getElem.1 hf
  refine⟨rfl,by omega,by omega,?_,rfl⟩
  rw[List.take_add_one,List.getElem?_eq_getElem hi,List.filter_append]
  have h1:(xs.take i).filter (fun x=> !p x)=xs.take i:=by
   rw[List.filter_eq_self]
   intro y hy
   obtain⟨j,hj,rfl⟩:=List.mem_take_iff_getElem.1 hy
   have:=hno j (by omega)
   simpa using this
  rw[h1];simp[hp]
theorem DelInv.get{α:Type}{p:α→Bool}{xs ws:List α}{i j:Nat}(h:DelInv p xs ws i j){x:α}(hx:ws[j]? =some x):xs[j]? =some x:=by
 have h1:(ws.drop j)[0]? =(xs.drop j)[0]? :=by rw[h.rest]
 rw[List.getElem?_drop,List.getElem?_drop,Nat.add_zero]at h1
 rw[←h1];exact hx
theorem DelInv.skip{α:Type}{p:α→Bool}{xs ws:List α}{i j:Nat}{x:α}(h:DelInv p xs ws i j)(hx:ws[j]? =some x)(hp:p x=true):DelInv p xs ws i (j+1):=by
 have hx':=h.get hx
 have hl:=(List.getElem?_eq_some_iff.1 hx').1
 refine⟨h.len,by have:=h.le;omega,by omega,?_,?_⟩
 ·rw[List.take_add_one,hx',List.filter_append,←h.kept];simp[hp]
 ·rw[←List.drop_drop,←List.drop_drop,h.rest]
theorem DelInv.keep{α:Type}{p:α→Bool}{xs ws:List α}{i j:Nat}{x:α}(h:DelInv p xs ws i j)(hx:ws[j]? =some x)(hp:p x=false):DelInv p xs (ws.set i x) (i+1) (j+1):=by
 have hx':=h.get hx
 have hl:=(List.getElem?_eq_some_iff.1 hx').1
 have hle:=h.le
 have hlen:=h.len
 refine⟨by rw[List.length_set];exact h.len,by omega,by omega,?_,?_⟩
 ·rw[List.take_add_one,List.take_add_one,hx',List.filter_append,←h.kept]
  rw[List.take_set_of_le (by omega),List.getElem?_set_self (by omega)]
  simp[hp]
 ·rw[List.drop_set_of_lt (by omega),←List.drop_drop,←List.drop_drop,h.rest]
theorem DelInv.done{α:Type}{p:α→Bool}{xs ws:List α}{i j:Nat}(h:DelInv p xs ws i j)(hj:xs.length≤j):ws.take i=xs.filter fun x=> !p x:=by
 rw[h.kept,List.take_of_length_le hj]
theorem filter_none{α:Type}{p:α→Bool}{xs:List α}(h:idxI p xs= -1):xs.filter (fun x=> !p x)=xs:=by
 unfold idxI at h
 cases hf:xs.findIdx? p with
 |some i=>rw[hf]at h;simp at h
 |none=>
  rw[List.filter_eq_self]
  intro x hx
  have:=List.findIdx?_eq_none_iff.1 hf x hx
  simp[this]
end Go.Sl
namespace Go.Sl
section
variable {P:Program}{ro:Option Nat}{n:Nat}{ds:List Deferred}{β:Base}{Q:Exit→Act→World→Prop}{f:Fm}{L:List Res}{ops:Array Oper}{rest:List Oper}
variable {d:Option Tmp}{ty:TypeId}{ps:String}{af:Array Edge}{g:Option (Nat×Bool)}
theorem e_indexF{α:Type}{F:Fl α}{xs:List α}{x y:Operand}{t len e k:Nat}{ik:IntKind}{z:α}(hx:ev f x= .agg (xs.flatMap F.enc).toArray)(hy:ev f y= .int ik (k:Int))(ht:arB P t len e F.n=true)(hz:xs[k]? =some z)(hk:k<len)(hne:tyB P e true F.n=true):
  EV P β L f ⟨d,.index t x y,ty,ps,af,g⟩ (.agg (F.enc z).toArray):=fun w _=>by
 unfold arB at ht
 simp only[Bool.and_eq_true]at ht
 obtain⟨h1,h2⟩:=ht
 cases hu:P.underlying t with
 |none=>rw[hu]at h1;cases h1
 |some dd=>
  rw[hu]at h1
  cases dd<;>simp only[]at h1<;>try (cases h1)
  rename_i l' e'
  simp only[Bool.and_eq_true,beq_iff_eq]at h1
  obtain⟨rfl,rfl⟩:=h1
  have hs:=(tyF hne).size w
  have ha:=(tyF hne).agg w
  have he:=fl_at (F:=F) hz
  rw[F.len]at he
  simp only[execOp,hx,hy,Instr.index,asIntOf,Sem.run_bind,run_underlying hu,Sem.run_pure,Result.andThen_ok]
  simp[hk,hs,part,ha]
  exact he
theorem flat1:∀(xs:List Int),(xs.flatMap fun z=>[Ix z])=xs.map fun z=>Ix z
 |[]=>rfl
 |a::l=>by rw[List.flatMap_cons,flat1 l];rfl
theorem e_indexF1{xs:List Int}{x y:Operand}{t len e k:Nat}{ik:IntKind}{z:Int}(hx:ev f x= .agg (xs.flatMap fun z=>[Ix z]).toArray)(hy:ev f y= .int ik (k:Int))(ht:arB P t len e 1=true)(hz:xs[k]? =some z)(hk:k<len)(hne:tyB P e false 1=true):
  EV P β L f ⟨d,.index t x y,ty,ps,af,g⟩ (Ix z):=fun w _=>by
 unfold arB at ht
 simp only[Bool.and_eq_true]at ht
 obtain⟨h1,h2⟩:=ht
 cases hu:P.underlying t with
 |none=>rw[hu]at h1;cases h1
 |some dd=>
  rw[hu]at h1
  cases dd<;>simp only[]at h1<;>try (cases h1)
  rename_i l' e'
  simp only[Bool.and_eq_true,beq_iff_eq]at h1
  obtain⟨rfl,rfl⟩:=h1
  have hs:=(tyF hne).size w
  have ha:=(tyF hne).agg w
  have he:(xs.flatMap fun z=>[Ix z])[k]? =some (Ix z):=by
   rw[flat1,List.getElem?_map,hz];rfl
  simp only[execOp,hx,hy,Instr.index,asIntOf,Sem.run_bind,run_underlying hu,Sem.run_pure,Result.andThen_ok]
  rw[flat1]at he
  rw[flat1]
  simp[hk,hs,part,ha]
  simp at he
  simp[he]
theorem e_indexArrI{x y:Operand}{t len e n k:Nat}{a:Addr}{ik:IntKind}(hx:ev f x= .pointer (some a))(hy:ev f y= .int ik (k:Int))(ht:arB P t len e n=true)(hk:k<len):
  EV P β L f ⟨d,.indexAddr t x y,ty,ps,af,g⟩ (.pointer (some (a.add (k*n)))):=fun w _=>by
 unfold arB at ht
 simp only[Bool.and_eq_true]at ht
 obtain⟨h1,h2⟩:=ht
 cases hu:P.underlying t with
 |none=>rw[hu]at h1;cases h1
 |some dd=>
  rw[hu]at h1
  cases dd<;>simp only[]at h1<;>try (cases h1)
  rename_i l' e'
  have he:l'=len∧e'=e:=by simpa using h1
  obtain⟨rfl,rfl⟩:=he
  cases hi:P.info? e' with
  |none=>rw[hi]at h2;cases h2
  |some i=>
   rw[hi]at h2
   have hn:i.size=n:=by simpa using h2
   simp only[execOp,hx,hy,Instr.indexAt,Instr.sureAddr,asIntOf,Sem.run_bind,run_underlying hu,Sem.run_pure,Result.andThen_ok]
   simp[hk,sizeOf,typeInfo,hi,hn]
theorem e_indexArrK{x y:Operand}{t len e n k b o:Nat}{ik:IntKind}(hx:ev f x= .pointer (some ⟨b,o,none⟩))(hy:ev f y= .int ik (k:Int))(ht:arB P t len e n=true)(hk:k<len):
  EV P β L f ⟨d,.indexAddr t x y,ty,ps,af,g⟩ (.pointer (some ⟨b,o+k*n,none⟩)):=by
 have e0:(⟨b,o,none⟩:Addr).add (k*n)=⟨b,o+k*n,none⟩:=by unfold Addr.add;split<;>simp_all
 rw[←e0];exact e_indexArrI hx hy ht hk
theorem cs_fl{α:Type}{F:Fl α}{xs:List α}{k:Nat}{z:α}{h:PHeap}{a:Addr}(hc:Cs h a (xs.flatMap F.enc))(hz:xs[k]? =some z):Cs h (a.add (k*F.n)) (F.enc z):=Cs.sub (k*F.n) hc (fl_at hz)
end
end Go.Sl
namespace Go.Sl
section
variable {P:Program}{ro:Option Nat}{n:Nat}{ds:List Deferred}{β:Base}{Q:Exit→Act→World→Prop}{f:Fm}{L:List Res}{ops:Array Oper}{rest:List Oper}
variable {d:Option Tmp}{ty:TypeId}{ps:String}{af:Array Edge}{g:Option (Nat×Bool)}
end
section
variable {P:Program}{ro:Option Nat}{n:Nat}{ds:List Deferred}{β:Base}{Q:Exit→Act→World→Prop}{f:Fm}{L:List Res}{ops:Array Oper}{rest:List Oper}
variable {d:Option Tmp}{ty:TypeId}{ps:String}{af:Array Edge}{g:Option (Nat×Bool)}
end
structure H3 where
 p:Option Addr
 n:Nat
 c:Nat
structure HV(α:Type) where
 p:Option Addr
 c:Nat
 xs:List α
def HV.h{α:Type}(v:HV α):H3:=⟨v.p,v.xs.length,v.c⟩
structure Z5 where
 h:H3
 q:Option Addr
 e:Nat
section
variable {α:Type}(F:Fl α)(T:Nat)(mk:Nat→Nat→α)
end
section
variable {α:Type}{F:Fl α}{T:Nat}{mk:Nat→Nat→α}
end
section
variable {P:Program}{ro:Option Nat}{n:Nat}{ds:List Deferred}{β:Base}{Q:Exit→Act→World→Prop}{f:Fm}{L:List Res}{ops:Array Oper}{rest:List Oper}
variable {d:Option Tmp}{ty:TypeId}{ps:String}{af:Array Edge}{g:Option (Nat×Bool)}
variable {α:Type}{F:Fl α}{T:Nat}
end
end Go.Sl
namespace Go.Proofs
open Go.Shelf
open Go.RowKit in
open Go.RowKit in
def Tryz.lays189_ren:Go.Shelf.Ren:=⟨fun|189=>88|125=>102|257=>106|128=>118|129=>119|294=>120|295=>121|296=>122|297=>123|298=>124|299=>125|216=>126|300=>127|301=>128|328=>136|329=>132|330=>133|331=>137|332=>138|215=>139|343=>143|n=>n,fun|28=>81|3=>3|46=>144|0=>0|51=>181|53=>143|4=>4|183=>174|182=>173|131=>178|5=>5|9=>9|218=>190|222=>142|228=>201|229=>202|n=>n,fun|n=>n⟩
theorem Tryz.lays189:Go.Proofs.Lays.n189 Tryz.prog Tryz.lays189_ren:={
 mixed:=by kernel_rfl
 f125:=Tryz.func102.trans (congrArg some (by kernel_rfl))
 f128:=Tryz.func118.trans (congrArg some (by kernel_rfl))
 f129:=Tryz.func119.trans (congrArg some (by kernel_rfl))
 f189:=Tryz.func88.trans (congrArg some (by kernel_rfl))
 f215:=Tryz.func139.trans (congrArg some (by kernel_rfl))
 f216:=Tryz.func126.trans (congrArg some (by kernel_rfl))
 f257:=Tryz.func106.trans (congrArg some (by kernel_rfl))
 f294:=Tryz.func120.trans (congrArg some (by kernel_rfl))
 f295:=Tryz.func121.trans (congrArg some (by kernel_rfl))
 f296:=Tryz.func122.trans (congrArg some (by kernel_rfl))
 f297:=Tryz.func123.trans (congrArg some (by kernel_rfl))
 f298:=Tryz.func124.trans (congrArg some (by kernel_rfl))
 f299:=Tryz.func125.trans (congrArg some (by kernel_rfl))
 f300:=Tryz.func127.trans (congrArg some (by kernel_rfl))
 f301:=Tryz.func128.trans (congrArg some (by kernel_rfl))
 f328:=Tryz.func136.trans (congrArg some (by kernel_rfl))
 f329:=Tryz.func132.trans (congrArg some (by kernel_rfl))
 f330:=Tryz.func133.trans (congrArg some (by kernel_rfl))
 f331:=Tryz.func137.trans (congrArg some (by kernel_rfl))
 f332:=Tryz.func138.trans (congrArg some (by kernel_rfl))
 f343:=Tryz.func143.trans (congrArg some (by kernel_rfl))
 t0:=Tryz.underlying0
 a0:=Tryz.isAgg0
 z0:=Tryz.sizeOf0
 v0:=Tryz.zeroValue0
 t3:=Tryz.underlying3
 a3:=Tryz.isAgg3
 z3:=Tryz.sizeOf3
 v3:=Tryz.zeroValue3
 t4:=Tryz.underlying4
 a4:=Tryz.isAgg4
 z4:=Tryz.sizeOf4
 v4:=Tryz.zeroValue4
 t5:=Tryz.underlying5
 a5:=Tryz.isAgg5
 z5:=Tryz.sizeOf5
 v5:=Tryz.zeroValue5
 t9:=Tryz.underlying9
 a9:=Tryz.isAgg9
 z9:=Tryz.sizeOf9
 v9:=Tryz.zeroValue9
 t28:=Tryz.underlying81
 a28:=Tryz.isAgg81
 z28:=Tryz.sizeOf81
 v28:=Tryz.zeroValue81
 t46:=Tryz.underlying144
 a46:=Tryz.isAgg144
 z46:=Tryz.sizeOf144
 v46:=Tryz.zeroValue144
 t51:=Tryz.underlying181
 a51:=Tryz.isAgg181
 z51:=Tryz.sizeOf181
 v51:=Tryz.zeroValue181
 t53:=Tryz.underlying143
 a53:=Tryz.isAgg143
 z53:=Tryz.sizeOf143
 v53:=Tryz.zeroValue143
 t131:=Tryz.underlying178
 a131:=Tryz.isAgg178
 z131:=Tryz.sizeOf178
 v131:=Tryz.zeroValue178
 t182:=Tryz.underlying173
 a182:=Tryz.isAgg173
 z182:=Tryz.sizeOf173
 v182:=Tryz.zeroValue173
 t183:=Tryz.underlying174
 a183:=Tryz.isAgg174
 z183:=Tryz.sizeOf174
 v183:=Tryz.zeroValue174
 t218:=Tryz.underlying190
 a218:=Tryz.isAgg190
 z218:=Tryz.sizeOf190
 v218:=Tryz.zeroValue190
 t222:=Tryz.underlying142
 a222:=Tryz.isAgg142
 z222:=Tryz.sizeOf142
 v222:=Tryz.zeroValue142
 t228:=Tryz.underlying201
 a228:=Tryz.isAgg201
 z228:=Tryz.sizeOf201
 v228:=Tryz.zeroValue201
 t229:=Tryz.underlying202
 a229:=Tryz.isAgg202
 z229:=Tryz.sizeOf202
 v229:=Tryz.zeroValue202}
open Go.Sort Go.RowKit in
theorem Tryz.slices_Sort_int(blk off cap:Nat)(zs:List Int)(w:World)(hH:Holds (Value.int .i64) w blk off zs.toArray)(hblk:blk<w.heap.size)(hsz:zs.length<4611686018427387904):
  Calls Tryz.prog 88 #[.slice (some ⟨blk,off,none⟩) zs.length cap] w fun e w'=>
   e= .returned (.tuple #[])∧∃n os,w'=grow (putRow (Value.int .i64) (Sort.ahead w n) blk off (zs.mergeSort fun x y=>decide (x≤y)).toArray) os:=Any.slices_Sort_int Tryz.lays189 blk off cap zs w hH hblk hsz
open Go.RowKit Go.Lib in
open Go.RowKit Go.Lib in
open Go.RowKit Go.Sort in
theorem Tryz.slices_Sort_int_none(p:Option Addr)(cap:Nat)(w:World):
  Calls Tryz.prog 88 #[.slice p 0 cap] w fun e w'=>e= .returned (.tuple #[])∧w'=w:=Any.slices_Sort_int_none Tryz.lays189 p cap w
end Go.Proofs
namespace Go.Td
open Go.Sl
abbrev IntF:Fl Int:=⟨1,fun x=>[Ix x],fun _=>rfl,fun _=>rfl,by decide⟩
structure KAm where
 a0:Int
 a1:Int
 a2:Int
 a3:Int
deriving DecidableEq
structure KAct where
 kind:UInt8
 owner:Int
 other:Int
 hold:Int
 a:KAm
deriving DecidableEq
structure KHo where
 number:Int
 owner:Int
 a:KAm
deriving DecidableEq
structure KRes where
 done:Bool
 at_:Int
 e:Int
 holds:List Int
deriving DecidableEq
structure KDeal where
 author:Int
 number:Int
 acts:List KAct
deriving DecidableEq
structure KMem where
 d:KDeal
 r:KRes
deriving DecidableEq
structure KMh where
 author:Int
 number:Int
 p:Option Addr
 n:Nat
 c:Nat
 done:Bool
 at_:Int
 e:Int
 q:Option Addr
 m:Nat
 k:Nat
end Go.Td
namespace Go.Sl
open Go.Sort
section
variable {α:Type}[Inhabited α]{β:Base}{L:List Res}{w:World}
theorem row_holds{enc:α→Value}{T g m cap:Nat}{xs:List α}(h:St β (row (.slice (some ⟨g,0,none⟩) m cap) T 1 m (xs.map enc)::L) w):Holds enc w g 0 xs.toArray∧g<w.heap.size∧xs.length=m∧m≤cap∧cap≤maxLen:=by
 obtain⟨_,_,_,a,_,_,hs',hL⟩:=h
 obtain⟨a1,hs1,hl,hr⟩:=hL.each _ (List.mem_cons_self)
 rcases hr with⟨hr,_⟩|⟨g',cap',cur,e,hg,h1,h2,h3,h4⟩
 ·cases hr
 ·injection e with e1 e2 e3
  injection e1 with e1
  injection e1 with e1
  subst e1;subst e3
  have hb:w.heap[g]? =some (.cells cur T (0,0)):=hs' _ _ (hs1 _ _ hg)
  have hlen:xs.length=m:=by simpa using hl
  refine⟨fun j hj=> ?_,(Array.getElem?_eq_some_iff.1 hb).1,hlen,h1,h2⟩
  have hj':j<xs.length:=by simpa using hj
  have hc:cur[j]? =some (enc xs[j]):=by
   have h5:(cur.toList.take (m*1))[j]? =(xs.map enc)[j]? :=by rw[h4]
   rw[List.getElem?_take_of_lt (by omega)]at h5
   simpa[hj']using h5
  constructor
  ·show(match w.heap[g]? with|some (.cells c _ _)=>if(none:Option _).isSome then none else c[0+j]? |_=>none)=_
   rw[hb]
   simp[hc,hj']
  ·show(match w.heap[g]? with|some (.cells _ _ (lo,hi))=>decide (lo≤0+j)&&decide (0+j<hi)|_=>false)=_
   rw[hb]
   simp
theorem St.putRow{enc:α→Value}{T g m cap k:Nat}{xs ys:List α}{os:Array Obj}{q:Nat}(h:St β (row (.slice (some ⟨g,0,none⟩) m cap) T 1 m (xs.map enc)::L) w)(hys:ys.length=m)(hk:k≤m):
  St β (row (.slice (some ⟨g,0,none⟩) k cap) T 1 k ((ys.take k).map enc)::L) (Go.Sort.grow (Go.Sort.putRow enc (Go.Sort.ahead w q) g 0 ys.toArray) os):=by
 have hh:=row_holds h
 refine h.turn rfl rfl rfl fun a ha hr=> ?_
 obtain⟨hl,hr⟩:=hr
 rcases hr with⟨hr,_⟩|⟨g',cap',cur,e,hg,h1,h2,h3,h4⟩
 ·cases hr
 ·injection e with e1 e2 e3
  injection e1 with e1
  injection e1 with e1
  subst e1;subst e3
  have hb:w.heap[g]? =some (.cells cur T (0,0)):=ha _ _ hg
  have hgs:=(Array.getElem?_eq_some_iff.1 hb).1
  have hw':∀k',k'<w.heap.size→(Go.Sort.grow (Go.Sort.putRow enc (Go.Sort.ahead w q) g 0 ys.toArray) os).heap[k']? =if k'=g then some (.cells (putCells enc 0 ys.toArray cur) T (0,0))else w.heap[k']? :=by
   intro k' hk'
   unfold Go.Sort.grow Go.Sort.putRow mapBlock Go.Sort.ahead
   simp only
   rw[Array.getElem?_append_left (by simpa using hk'),Array.getElem?_modify]
   by_cases e:g=k'
   ·subst e;simp[hb,onCells]
   ·simp[e,Ne.symm e]
  refine⟨fun k'=>if k'=g then some (.cells (putCells enc 0 ys.toArray cur) T (0,0))else none,?_,?_,?_⟩
  ·refine⟨by simp;omega,.inr ⟨g,cap,putCells enc 0 ys.toArray cur,rfl,by simp,by omega,h2,by simp[putCells,h3],?_⟩⟩
   apply List.ext_getElem?
   intro j
   by_cases hj:j<k
   ·rw[List.getElem?_take_of_lt (by omega)]
    have hjy:j<ys.length:=by omega
    have hjc:j<cur.size:=by omega
    simp[putCells,hjc,hjy,hj]
   ·rw[List.getElem?_eq_none (by simp;omega),List.getElem?_eq_none (by simp;omega)]
  ·intro k' x hx
   by_cases e:k'=g
   ·subst e;simp at hx;subst hx
    show(Go.Sort.grow _ os).heap[k']? =_
    rw[hw' k' hgs];simp
   ·simp[e]at hx
  ·intro k' hlt hak
   have hne:k'≠g:=by rintro rfl;rw[hg]at hak;cases hak
   exact⟨by simp[hne],by rw[hw' k' hlt];simp[hne]⟩
end
end Go.Sl
namespace Go.Proofs
open Go Go.Sl Go.Sort
theorem sort_ok(β:Base)(w:World)(v:Value)(zs:List Int)(hw:St β [row v 3 1 zs.length (zs.map fun z=>Ix z)] w)(hsz:zs.length<4611686018427387904):
  Calls Tryz.prog 88 #[v] w fun e w'=>e= .returned (.tuple #[])∧St β [row v 3 1 zs.length ((zs.mergeSort fun x y=>decide (x≤y)).map fun z=>Ix z)] w':=by
 obtain⟨hl,hr⟩:∃a,row v 3 1 zs.length (zs.map fun z=>Ix z) a:=by
  obtain⟨_,_,_,a,_,_,_,hL⟩:=hw
  obtain⟨a1,_,h⟩:=hL.each _ (List.mem_cons_self)
  exact⟨a1,h⟩
 rcases hr.2 with⟨rfl,h0⟩|⟨g,cap,cur,rfl,_⟩
 ·have hz:zs=[]:=List.eq_nil_of_length_eq_zero h0
  subst hz
  exact(Tryz.slices_Sort_int_none none 0 w).mono fun e w' ⟨h1,h2⟩=>⟨h1,by subst h2;rw[List.mergeSort_nil];exact hw⟩
 ·have hh:=row_holds (enc:=fun z=>Ix z) hw
  refine(Tryz.slices_Sort_int g 0 cap zs w hh.1 hh.2.1 hsz).mono fun e w' ⟨h1,n,os,h2⟩=>⟨h1,?_⟩
  subst h2
  have h:=hw.putRow (enc:=fun z=>Ix z) (q:=n) (os:=os) (ys:=zs.mergeSort fun x y=>decide (x≤y)) (k:=zs.length) (by simp) (Nat.le_refl _)
  rw[List.take_of_length_le (by simp)]at h
  exact h
end Go.Proofs
namespace Go.Td
def sortI(l:List Int):List Int:=l.mergeSort fun x y=>decide (x≤y)
theorem sortI_perm(l:List Int):(sortI l).Perm l:=List.mergeSort_perm l _
theorem sortI_sorted(l:List Int):(sortI l).Pairwise fun x y=>x≤y:=by
 have:=List.pairwise_mergeSort (le:=fun x y:Int=>decide (x≤y)) (fun a b c h1 h2=>by simp at*;omega) (fun a b=>by simp;omega) l
 exact this.imp fun h=>by simpa using h
theorem sortI_one{l m:List Int}(h:l.Perm m)(hl:l.Pairwise fun x y=>x≤y)(hm:m.Pairwise fun x y=>x≤y):l=m:=
 h.eq_of_pairwise (le:=(· ≤ ·)) (fun _ _ _ _ h1 h2=>Int.le_antisymm h1 h2) hl hm
theorem sortI_eq{l m:List Int}(h:l.Perm m)(hm:m.Pairwise fun x y=>x≤y):sortI l=m:=sortI_one ((sortI_perm l).trans h) (sortI_sorted _) hm
end Go.Td
namespace Go.Proofs
open Go Go.Sl Go.Sort Go.Td
theorem fl_ints(xs:List Int):xs.flatMap IntF.enc=xs.map fun z=>Ix z:=by
 induction xs with
 |nil=>rfl
 |cons x xs ih=>show Ix x::_=Ix x::_;rw[←ih];rfl
theorem sortI_ok(β:Base)(w:World)(p:Option Addr)(c:Nat)(xs:List Int)(hw:St β [rowF IntF 3 p c xs] w)(hn:xs.length≤1048576):Calls Tryz.prog 88 #[.slice p xs.length c] w fun r w'=>r= .returned (.tuple #[])∧St β [rowF IntF 3 p c (Go.Td.sortI xs)] w':=by
 have hw1:St β [row (.slice p xs.length c) 3 1 xs.length (xs.map fun z=>Ix z)] w:=by rw[←fl_ints];exact hw
 refine(sort_ok β w _ xs hw1 (by omega)).mono ?_
 rintro r w' ⟨rfl,hw'⟩
 refine⟨rfl,?_⟩
 have hl:(Go.Td.sortI xs).length=xs.length:=(Go.Td.sortI_perm xs).length_eq
 show St β [row (.slice p (Go.Td.sortI xs).length c) 3 1 (Go.Td.sortI xs).length ((Go.Td.sortI xs).flatMap IntF.enc)] w'
 rw[fl_ints,hl]
 exact hw'
end Go.Proofs
namespace Go.Sl
section
variable {P:Program}{β:Base}{f:Fm}{L:List Res}{d:Option Tmp}{ty:TypeId}{ps:String}{af:Array Edge}{g:Option (Nat×Bool)}{κ ν:Type}{K:MapK P κ ν}
theorem e_look1{x y:Operand}{t b:Nat}{ks:List (κ×ν)}{k:κ}(ht:t=K.t)(hx:ev f x= .map (some b))(hy:ev f y=K.enc k)(hm:Knows β L (mpR K b ks)):
  EV P β L f ⟨d,.lookup t x y false,ty,ps,af,g⟩ (K.encv ((K.look ks k).getD K.zv)):=fun w hw=>by
 obtain⟨es,c,hb,hc⟩:=hw.knows hm
 have hb:w.heap[b]? =some (.map es c):=hb
 obtain⟨r,hr,hx'⟩:=found_mp hc k w
 have hg:(getObj b).run P w= .ok (.map es c) w:=run_getM hb
 subst ht
 simp only[execOp,Instr.lookup,Sem.run_bind,run_underlying K.ht,Result.andThen_ok,hx,hy,hg,Sem.run_pure,K.chk,hr]
 cases r with
 |none=>
  have hl:K.look ks k=none:=hx'
  simp[zero_mp,hl]
 |some p=>
  obtain⟨j,v⟩:=p
  obtain⟨u,hl,hv,_⟩:=hx'
  simp[hl,hv]
end
section
variable {P:Program}{ro:Option Nat}{n:Nat}{ds:List Deferred}{β:Base}{Q:Exit→Act→World→Prop}{f:Fm}{L M:List Res}{r:Res}{ops:Array Oper}{rest:List Oper}
theorem c_merge{c:Code}(hr:∀a,Sat L a→r a)(k:RunC P ro n ds β c Q f (r::M)):RunC P ro n ds β c Q f (L++M):=fun a w ha hw=>k a w ha (hw.merge hr)
theorem f_merge{e:Exit}(hr:∀a,Sat L a→r a)(k:Fin n ds β Q e f (r::M)):Fin n ds β Q e f (L++M):=fun a w ha hw=>k a w ha (hw.merge hr)
theorem l_merge(hr:∀a,Sat L a→r a)(k:RunL P ro n ds β ops Q rest f (r::M)):RunL P ro n ds β ops Q rest f (L++M):=fun a w ha hw=>k a w ha (hw.merge hr)
end
end Go.Sl
namespace Go.Sl
section
variable {P:Program}{κ ν:Type}{K:MapK P κ ν}{ks ls:List (κ×ν)}
theorem look_of_mem{k:κ}{v:ν}(hn:(ks.map (·.1)).Nodup)(h:(k,v)∈ks):K.look ks k=some v:=by
 obtain⟨j,hj,e⟩:=List.getElem_of_mem h
 exact look_at hn (j:=j) (by rw[List.getElem?_eq_getElem hj,e])
theorem put_keys(k:κ)(v:ν)(h:(K.look ks k).isSome=true):(K.put ks k v).map (·.1)=ks.map (·.1):=by
 unfold MapK.put
 rw[if_pos h,List.map_map]
 refine List.map_congr_left fun p _=> ?_
 letI:=K.dec
 show(if p.1=k then(k,v)else p).1=p.1
 split
 ·rename_i e;exact e.symm
 ·rfl
theorem put_new{k:κ}{v:ν}(h:K.look ks k=none):K.put ks k v=ks++[(k,v)]:=by unfold MapK.put;rw[h];rfl
theorem del_nodup(hn:(ks.map (·.1)).Nodup)(k:κ):((K.del ks k).map (·.1)).Nodup:=by
 unfold MapK.del
 exact List.Nodup.sublist (List.Sublist.map _ List.filter_sublist) hn
theorem del_same(k:κ):K.look (K.del ks k) k=none:=by
 rw[look_none]
 intro h
 obtain⟨p,hp,e⟩:=List.mem_map.1 h
 have:=(List.mem_filter.1 hp).2
 simp[e]at this
theorem del_ne{a b:κ}(hb:b≠a)(hn:(ks.map (·.1)).Nodup):K.look (K.del ks a) b=K.look ks b:=by
 cases e:K.look ks b with
 |none=>
  rw[look_none]at e⊢
  intro h
  obtain⟨p,hp,q⟩:=List.mem_map.1 h
  exact e (List.mem_map.2 ⟨p,(List.mem_filter.1 hp).1,q⟩)
 |some v=>
  refine look_of_mem (del_nodup hn _) (List.mem_filter.2 ⟨look_mem e,?_⟩)
  letI:=K.dec
  simp[hb]
end
section
variable {P:Program}{κ ν:Type}{K:MapK P κ ν}{ks:List (κ×ν)}
theorem look_cons(p:κ×ν)(k:κ):K.look (p::ks) k=if(letI:=K.dec;decide (p.1=k))=true then some p.2 else K.look ks k:=by
 letI:=K.dec
 unfold MapK.look
 rw[List.find?_cons]
 by_cases h:p.1=k
 ·simp[h]
 ·simp[h]
theorem map_same(a:κ)(v:ν):∀ks:List (κ×ν),(K.look ks a).isSome=true→K.look (ks.map fun p=> @ite _ (p.1=a) (K.dec _ _) (a,v) p) a=some v
 |[],h=>by simp[MapK.look]at h
 |p::ks,h=>by
  letI:=K.dec
  rw[List.map_cons,look_cons]
  rw[look_cons]at h
  by_cases e:p.1=a
  ·simp[e]
  ·simp[e]at h
   simp only[e,if_false,decide_false,Bool.false_eq_true]
   exact map_same a v ks h
theorem map_ne{a b:κ}(hb:b≠a)(v:ν):∀ks:List (κ×ν),K.look (ks.map fun p=> @ite _ (p.1=a) (K.dec _ _) (a,v) p) b=K.look ks b
 |[]=>rfl
 |p::ks=>by
  letI:=K.dec
  rw[List.map_cons,look_cons,look_cons,map_ne hb v ks]
  by_cases e:p.1=a
  ·have h1:¬a=b:=fun q=>hb q.symm
   have h2:¬p.1=b:=fun q=>h1 (e.symm.trans q)
   simp[e,h1]
  ·simp[e]
theorem look_app{a b:κ}(v:ν):∀ks:List (κ×ν),K.look (ks++[(a,v)]) b=match K.look ks b with|some u=>some u|none=>if(letI:=K.dec;decide (a=b))=true then some v else none
 |[]=>by
  rw[List.nil_append,look_cons];rfl
 |p::ks=>by
  letI:=K.dec
  rw[List.cons_append,look_cons,look_cons,look_app v ks]
  by_cases e:p.1=b
  ·simp[e]
  ·simp[e]
theorem put_same(a:κ)(v:ν):K.look (K.put ks a v) a=some v:=by
 letI:=K.dec
 unfold MapK.put
 split
 ·rename_i h;exact map_same a v ks h
 ·rename_i h
  rw[look_app]
  have:K.look ks a=none:=by cases q:K.look ks a with|none=>rfl|some u=>rw[q]at h;exact absurd rfl h
  rw[this];simp
theorem put_ne{a b:κ}(hb:b≠a)(v:ν):K.look (K.put ks a v) b=K.look ks b:=by
 letI:=K.dec
 unfold MapK.put
 split
 ·exact map_ne hb v ks
 ·rw[look_app]
  have h1:¬a=b:=fun q=>hb q.symm
  cases q:K.look ks b with
  |none=>simp[h1]
  |some u=>rfl
end
end Go.Sl
namespace Go.Proofs
open Go.Shelf
def Tryz.sortMg_ren:Go.Shelf.Ren:=⟨fun|6=>70|15=>102|14=>101|28=>118|29=>119|20=>110|21=>111|22=>112|23=>113|24=>114|25=>115|26=>116|27=>117|46=>131|47=>132|48=>133|49=>134|50=>135|57=>142|n=>n,fun|22=>35|24=>38|25=>131|3=>3|39=>144|0=>0|53=>181|55=>143|4=>4|46=>174|45=>173|50=>178|5=>5|9=>9|66=>190|70=>142|76=>201|77=>202|n=>n,fun|n=>n⟩
theorem Tryz.sortMg:Go.Proofs.SlLaysF0.n6 Tryz.prog Tryz.sortMg_ren:={
 mixed:=by kernel_rfl
 f6:=⟨Tryz.f70.name,by decide,Tryz.func70.trans (congrArg some (by kernel_rfl))⟩
 f14:=⟨Tryz.f101.name,by decide,Tryz.func101.trans (congrArg some (by kernel_rfl))⟩
 f15:=Tryz.func102.trans (congrArg some (by kernel_rfl))
 f20:=⟨Tryz.f110.name,by decide,Tryz.func110.trans (congrArg some (by kernel_rfl))⟩
 f21:=⟨Tryz.f111.name,by decide,Tryz.func111.trans (congrArg some (by kernel_rfl))⟩
 f22:=⟨Tryz.f112.name,by decide,Tryz.func112.trans (congrArg some (by kernel_rfl))⟩
 f23:=⟨Tryz.f113.name,by decide,Tryz.func113.trans (congrArg some (by kernel_rfl))⟩
 f24:=⟨Tryz.f114.name,by decide,Tryz.func114.trans (congrArg some (by kernel_rfl))⟩
 f25:=⟨Tryz.f115.name,by decide,Tryz.func115.trans (congrArg some (by kernel_rfl))⟩
 f26:=⟨Tryz.f116.name,by decide,Tryz.func116.trans (congrArg some (by kernel_rfl))⟩
 f27:=⟨Tryz.f117.name,by decide,Tryz.func117.trans (congrArg some (by kernel_rfl))⟩
 f28:=Tryz.func118.trans (congrArg some (by kernel_rfl))
 f29:=Tryz.func119.trans (congrArg some (by kernel_rfl))
 f46:=⟨Tryz.f131.name,by decide,Tryz.func131.trans (congrArg some (by kernel_rfl))⟩
 f47:=Tryz.func132.trans (congrArg some (by kernel_rfl))
 f48:=Tryz.func133.trans (congrArg some (by kernel_rfl))
 f49:=⟨Tryz.f134.name,by decide,Tryz.func134.trans (congrArg some (by kernel_rfl))⟩
 f50:=⟨Tryz.f135.name,by decide,Tryz.func135.trans (congrArg some (by kernel_rfl))⟩
 f57:=⟨Tryz.f142.name,by decide,Tryz.func142.trans (congrArg some (by kernel_rfl))⟩
 t0:=Tryz.underlying0
 a0:=Tryz.isAgg0
 z0:=Tryz.sizeOf0
 v0:=Tryz.zeroValue0
 t3:=Tryz.underlying3
 a3:=Tryz.isAgg3
 z3:=Tryz.sizeOf3
 v3:=Tryz.zeroValue3
 t4:=Tryz.underlying4
 a4:=Tryz.isAgg4
 z4:=Tryz.sizeOf4
 v4:=Tryz.zeroValue4
 t5:=Tryz.underlying5
 a5:=Tryz.isAgg5
 z5:=Tryz.sizeOf5
 v5:=Tryz.zeroValue5
 t9:=Tryz.underlying9
 a9:=Tryz.isAgg9
 z9:=Tryz.sizeOf9
 v9:=Tryz.zeroValue9
 t22:=Tryz.underlying35
 a22:=Tryz.isAgg35
 z22:=Tryz.sizeOf35
 v22:=Tryz.zeroValue35
 t25:=Tryz.underlying131
 a25:=Tryz.isAgg131
 z25:=Tryz.sizeOf131
 v25:=Tryz.zeroValue131
 t39:=Tryz.underlying144
 a39:=Tryz.isAgg144
 z39:=Tryz.sizeOf144
 v39:=Tryz.zeroValue144
 t45:=Tryz.underlying173
 a45:=Tryz.isAgg173
 z45:=Tryz.sizeOf173
 v45:=Tryz.zeroValue173
 t46:=Tryz.underlying174
 a46:=Tryz.isAgg174
 z46:=Tryz.sizeOf174
 v46:=Tryz.zeroValue174
 t50:=Tryz.underlying178
 a50:=Tryz.isAgg178
 z50:=Tryz.sizeOf178
 v50:=Tryz.zeroValue178
 t53:=Tryz.underlying181
 a53:=Tryz.isAgg181
 z53:=Tryz.sizeOf181
 v53:=Tryz.zeroValue181
 t55:=Tryz.underlying143
 a55:=Tryz.isAgg143
 z55:=Tryz.sizeOf143
 v55:=Tryz.zeroValue143
 t66:=Tryz.underlying190
 a66:=Tryz.isAgg190
 z66:=Tryz.sizeOf190
 v66:=Tryz.zeroValue190
 t70:=Tryz.underlying142
 a70:=Tryz.isAgg142
 z70:=Tryz.sizeOf142
 v70:=Tryz.zeroValue142
 t76:=Tryz.underlying201
 a76:=Tryz.isAgg201
 z76:=Tryz.sizeOf201
 v76:=Tryz.zeroValue201
 t77:=Tryz.underlying202
 a77:=Tryz.isAgg202
 z77:=Tryz.sizeOf202
 v77:=Tryz.zeroValue202}
end Go.Proofs
namespace Go.Sl
open Go.Sort Go.Shelf
section
variable {α:Type}
theorem flat_get{F:Fl α}:∀{xs:List α} {i j:Nat} {x:α},xs[i]? =some x→j<F.n→(xs.flatMap F.enc)[i*F.n+j]? =(F.enc x)[j]?
 |[],i,j,x,h,_=>by simp at h
 |y::xs,0,j,x,h,hj=>by
  injection h with h;subst h
  rw[List.flatMap_cons,Nat.zero_mul,Nat.zero_add,List.getElem?_append_left (by rw[F.len];exact hj)]
 |y::xs,i+1,j,x,h,hj=>by
  have hl:=F.len y
  rw[List.flatMap_cons,List.getElem?_append_right (by rw[hl,Nat.add_mul];omega),hl,show(i+1)*F.n+j-F.n=i*F.n+j by rw[Nat.add_mul];omega]
  exact flat_get (by simpa using h) hj
end
section
variable {α:Type}[Inhabited α]{β:Base}{L:List Res}{w:World}
theorem rowv_holds{T g m n cap:Nat}{vs:List Value}(h:St β (row (.slice (some ⟨g,0,none⟩) m cap) T n m vs::L) w):Holds id w g 0 vs.toArray∧g<w.heap.size∧vs.length=m*n∧m≤cap∧cap≤maxLen:=by
 obtain⟨_,_,_,a,_,_,hs',hL⟩:=h
 obtain⟨a1,hs1,hl,hr⟩:=hL.each _ (List.mem_cons_self)
 rcases hr with⟨hr,_⟩|⟨g',cap',cur,e,hg,h1,h2,h3,h4⟩
 ·cases hr
 ·injection e with e1 e2 e3
  injection e1 with e1
  injection e1 with e1
  subst e1;subst e3
  have hb:w.heap[g]? =some (.cells cur T (0,0)):=hs' _ _ (hs1 _ _ hg)
  refine⟨fun j hj=> ?_,(Array.getElem?_eq_some_iff.1 hb).1,hl,h1,h2⟩
  have hj':j<vs.length:=by simpa using hj
  have hc:cur[j]? =some vs[j]:=by
   have h5:(cur.toList.take (m*n))[j]? =vs[j]? :=by rw[h4]
   rw[List.getElem?_take_of_lt (by omega)]at h5
   simpa[hj']using h5
  constructor
  ·show(match w.heap[g]? with|some (.cells c _ _)=>if(none:Option _).isSome then none else c[0+j]? |_=>none)=_
   rw[hb]
   simp[hc,hj']
  ·show(match w.heap[g]? with|some (.cells _ _ (lo,hi))=>decide (lo≤0+j)&&decide (0+j<hi)|_=>false)=_
   rw[hb]
   simp
theorem St.putRowV{T g m n cap:Nat}{vs us:List Value}{os:Array Obj}{q:Nat}(h:St β (row (.slice (some ⟨g,0,none⟩) m cap) T n m vs::L) w)(hus:us.length=m*n):
  St β (row (.slice (some ⟨g,0,none⟩) m cap) T n m us::L) (Go.Sort.grow (Go.Sort.putRow id (Go.Sort.ahead w q) g 0 us.toArray) os):=by
 refine h.turn rfl rfl rfl fun a ha hr=> ?_
 obtain⟨hl,hr⟩:=hr
 rcases hr with⟨hr,_⟩|⟨g',cap',cur,e,hg,h1,h2,h3,h4⟩
 ·cases hr
 ·injection e with e1 e2 e3
  injection e1 with e1
  injection e1 with e1
  subst e1;subst e3
  have hb:w.heap[g]? =some (.cells cur T (0,0)):=ha _ _ hg
  have hgs:=(Array.getElem?_eq_some_iff.1 hb).1
  have hmn:m*n≤cur.size:=by rw[h3];exact Nat.mul_le_mul_right _ h1
  have hw':∀k',k'<w.heap.size→(Go.Sort.grow (Go.Sort.putRow id (Go.Sort.ahead w q) g 0 us.toArray) os).heap[k']? =if k'=g then some (.cells (putCells id 0 us.toArray cur) T (0,0))else w.heap[k']? :=by
   intro k' hk'
   unfold Go.Sort.grow Go.Sort.putRow mapBlock Go.Sort.ahead
   simp only
   rw[Array.getElem?_append_left (by simpa using hk'),Array.getElem?_modify]
   by_cases e:g=k'
   ·subst e;simp[hb,onCells]
   ·simp[e,Ne.symm e]
  refine⟨fun k'=>if k'=g then some (.cells (putCells id 0 us.toArray cur) T (0,0))else none,?_,?_,?_⟩
  ·refine⟨hus,.inr ⟨g,cap,putCells id 0 us.toArray cur,rfl,by simp,h1,h2,by simp[putCells,h3],?_⟩⟩
   apply List.ext_getElem?
   intro j
   by_cases hj:j<m*n
   ·rw[List.getElem?_take_of_lt (by omega)]
    have hjy:j<us.length:=by omega
    have hjc:j<cur.size:=by omega
    simp[putCells,hjc,hjy]
   ·rw[List.getElem?_eq_none (by simp;omega),List.getElem?_eq_none (by omega)]
  ·intro k' x hx
   by_cases e:k'=g
   ·subst e;simp at hx;subst hx
    show(Go.Sort.grow _ os).heap[k']? =_
    rw[hw' k' hgs];simp
   ·simp[e]at hx
  ·intro k' hlt hak
   have hne:k'≠g:=by rintro rfl;rw[hg]at hak;cases hak
   exact⟨by simp[hne],by rw[hw' k' hlt];simp[hne]⟩
theorem flatK_list(F:Fl α)(xs:List α):(flatK F.enc F.n xs.toArray).toList=xs.flatMap F.enc:=by
 have hpos:=F.pos
 have hlen:(xs.flatMap F.enc).length=xs.length*F.n:=fl_len xs
 apply List.ext_getElem?
 intro t
 by_cases ht:t<xs.length*F.n
 ·have hi:t/F.n<xs.length:=Nat.div_lt_of_lt_mul (by rw[Nat.mul_comm];exact ht)
  have hj:t%F.n<F.n:=Nat.mod_lt _ hpos
  have hx:xs[t/F.n]? =some (xs[t/F.n]'hi):=List.getElem?_eq_getElem hi
  have h1:=flat_get (F:=F) hx hj
  rw[show t/F.n*F.n+t%F.n=t by rw[Nat.mul_comm];exact Nat.div_add_mod t F.n]at h1
  rw[h1]
  have hlx:=F.len (xs[t/F.n]'hi)
  simp[flatK,ht,hi,hlx,hj]
 ·rw[List.getElem?_eq_none (by simp[flatK];omega),List.getElem?_eq_none (by omega)]
end
end Go.Sl
namespace Go.Sl
open Go.Sort Go.Shelf Go.Proofs Go.RowKit
theorem grown_of_below{w w':World}(h:Below w.heap.size w w')(hd:w.drawn≤w'.drawn):∃q os,w'=Go.Sort.grow (w.drewN q) os:=by
 obtain⟨p,hp⟩:=regrown_of_below h
 have hpd:w'.drawn=p.d:=by rw[hp];rfl
 refine⟨p.d-w.drawn,p.os,?_⟩
 have e:redrawn w p.d=w.drewN (p.d-w.drawn):=by
  unfold redrawn World.drewN
  rw[show w.drawn+(p.d-w.drawn)=p.d by omega]
 rw[←e];exact hp
theorem grown_of_st{w w':World}(h:St (World.base w) [] w'):∃q os,w'=Go.Sort.grow (w.drewN q) os:=grown_of_below h.below h.drawn
section
variable {P:Program}{ρ:Ren}{α:Type}[Inhabited α]{β:Base}{w:World}
theorem cmp_lays{g:Nat}{cb:Array Value}{enc:α→List Value}{k:Nat}{cf:α→α→Int}{blk off size:Nat}{w:World}
 (h:∀W x y,Calls P g (#[.agg (enc x).toArray,.agg (enc y).toArray]++cb) W fun e w'=>e= .returned (.int .i64 (cf x y))∧St (World.base W) [] w'):CmpLays P g cb enc k cf blk off size w:=
 fun _ _ _ _ x y=>(h _ x y).mono fun _ _ ⟨he,hs⟩=>⟨he,grown_of_st hs⟩
theorem sortFunc_row(Y:SlLaysF0.n6 P ρ)(F:Fl α)(aE:∀w,(isAgg (ρ.t 24)).run P w= .ok true w)(zE:∀w,(Go.sizeOf (ρ.t 24)).run P w= .ok F.n w)(cf:α→α→Int)(hO:SWO (ltOf cf))(g:Nat)(cb:Array Value)
 (eg:∀args w,(callFunc g args).run P w= .ok (.enter g args) w)
 (hc:∀W x y,Calls P g (#[.agg (F.enc x).toArray,.agg (F.enc y).toArray]++cb) W fun e w'=>e= .returned (.int .i64 (cf x y))∧St (World.base W) [] w')
 {T c:Nat}{p:Option Addr}{xs:List α}(hw:St β [rowF F T p c xs] w)(hsz:xs.length<4611686018427387904):
  Calls P (ρ.f 6) #[.slice p xs.length c,.func (.func g) #[] cb] w fun e w'=>e= .returned (.tuple #[])∧∃ys:List α,ys.Perm xs∧ys.Pairwise (fun x y=>ltOf cf y x=false)∧St β [rowF F T p c ys] w':=by
 obtain⟨_,hr⟩:∃a,rowF F T p c xs a:=by
  obtain⟨_,_,_,a,_,_,_,hL⟩:=hw
  obtain⟨a1,_,h⟩:=hL.each _ (List.mem_cons_self)
  exact⟨a1,h⟩
 rcases hr.2 with⟨e1,h0⟩|⟨b,cap,cur,e,_⟩
 ·have hx:xs=[]:=List.eq_nil_of_length_eq_zero h0
  subst hx
  refine(AnyF.slices_SortFunc_none Y p c (.func (.func g) #[] cb) w).mono fun e w' ⟨h1,h2⟩=>⟨h1,[],.refl _,.nil,?_⟩
  subst h2;exact hw
 ·injection e with e1 e2 e3
  subst e1;subst e3
  have hh:=rowv_holds hw
  have hH:HoldsK F.enc F.n w b 0 xs.toArray:=by
   unfold HoldsK
   rw[show flatK F.enc F.n xs.toArray=(xs.flatMap F.enc).toArray by rw[←flatK_list F xs]]
   exact hh.1
  refine(AnyQ.slices_SortFunc Y F.n aE zE F.enc F.len (fun x v hv=>List.all_eq_true.1 (F.one x) v hv) cf hO g cb b 0 c xs.toArray w eg (cmp_lays hc) hH hh.2.1 (by simpa using hsz)).mono fun e w' ⟨h1,d',n,os,⟨hs,_,hp⟩,hso,h2⟩=>⟨h1,d'.toList,?_,?_,?_⟩
  ·have hs':d'.size=xs.length:=by simpa using hs
   have e1:d'.extract 0 xs.toArray.size=d':=by simp[←hs']
   have e2:xs.toArray.extract 0 xs.toArray.size=xs.toArray:=by simp
   rw[e1,e2]at hp
   simpa using hp
  ·rw[List.pairwise_iff_getElem]
   intro i j hi hj hij
   have hs':d'.size=xs.length:=by simpa using hs
   have:=hso i j (Nat.zero_le _) hij (by simp at hj;simpa[hs']using hj)
   rw[getElem!_pos d' j (by simpa using hj),getElem!_pos d' i (by simpa using hi)]at this
   rw[Array.getElem_toList,Array.getElem_toList];exact this
  ·subst h2
   have hs':d'.toList.length=xs.length:=by simpa using hs
   have h:=hw.putRowV (us:=d'.toList.flatMap F.enc) (q:=n) (os:=os) (by rw[fl_len,hs'])
   unfold sortWorldK putRowK
   rw[show flatK F.enc F.n d'=(d'.toList.flatMap F.enc).toArray by rw[←flatK_list F d'.toList]]
   rw[show rowF F T (some ⟨b,0,none⟩) c d'.toList=row (.slice (some ⟨b,0,none⟩) xs.length c) T F.n xs.length (d'.toList.flatMap F.enc) by show row _ _ _ _ _=_;rw[hs']]
   exact h
end
end Go.Sl
